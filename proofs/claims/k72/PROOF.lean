import PyProof.Rows.All
import Wide.All
import OpenK.AllK
import Wide.FinOn
import HandS.ForMost
import HandS.ForExc
import HandS.Defaults
import HandS.TupAny
import HandS.HeadHook2
import KE.KDictKeyed
import HandS.IsInst
import HandS.TupLe
import HandS.TupMul
import HandS.Conv
import HandS.StrMore
import HandS.Flow
import HandS.ExcCtx
import Lean
import HandS.Head0
import HandS.Head1
import HandS.Head2
import HandS.HeadEnd
import HandS.ExcIs
import HandS.ExcInit
import HandS.HotCalls
import HandS.ExcField
import KE.KExcIs
import HandS.Text
import HandS.RaiseMore
import HandS.Replace
import HandS.Deep
import PyProof.ReprRoads
import PyProof.ReprLen
import PyProof.FitsInt
import HandS.Strs
import HandS.CallSlots
import HandS.Iter
import HandS.SuiteRaise
import HandS.RaiseFrom
import HandS.ExcInitHot
import HandS.TryOnly
import PySem.Challenge.RW_tally_k72_books_written_anew
set_option Elab.async false
set_option linter.all false
set_option maxRecDepth 100000
section
namespace TL
open PySem PySem.Spec PyProof.Rows L2
/-- an exception of an own class: its class, its field at -/
structure Ex where
  cls : Str
  at_ : Option Int
inductive D where
  | non | bl (b : Bool) | int (i : Int) | str (x : Str) | tup (xs : List D) | ref (n : Nat) | err (x : Ex)
  deriving Inhabited
inductive MO where
  | lst (xs : List D)
  | rol (xs : List D)
  | ins (c : Str) (fs : List (Str × D))
  | dct (kvs : List (D × D))
  | dcs (fs : List (Str × D))
  | dcz (kvs : List (D × D))
abbrev Mem := List MO
mutual
/-- a key of a dict: whole numbers, None and tuples of these -/
def nk : D → Option NestedKey
  | .non => some .none
  | .int i => some (.num i)
  | .tup xs => (nkL xs).map .tup
  | _ => none
def nkL : List D → Option (List NestedKey)
  | [] => some []
  | d :: ds => match nk d, nkL ds with
    | some k, some ks => some (k :: ks)
    | _, _ => none
end
/-- the very object of a dict with such keys -/
def DctIs (a : Addr) (xs : List (NestedKey × Addr × V)) (h : Heap) : Prop := (a == sysModules) = false ∧ ∃ (o : Obj) (es : Array DictEntry) (ep : Nat) (vs : List (NestedKey × Addr × Value)), h.get? a = some o ∧ o.ExactDict ∧ o.data = .dict es ep ∧
  Paired (fun p q => p.1 = q.1 ∧ p.2.1 = q.2.1 ∧ RelV p.2.2 q.2.2) xs vs ∧ ∀ w : World, es.toList = vs.map fun x => (⟨NestedKey.hash w x.1, .ref x.2.1, x.2.2⟩ : DictEntry)
abbrev Env := List (Option D)
inductive Out (α : Type) where
  | ok (a : α) (M : Mem)
  | exc (x : Ex) (M : Mem)
  | stuck
def Out.bind {α β : Type} (o : Out α) (f : α → Mem → Out β) : Out β :=
  match o with
  | .ok a M => f a M
  | .exc x M => .exc x M
  | .stuck => .stuck
@[simp] theorem Out.bind_ok {α β : Type} (a : α) (M : Mem) (f : α → Mem → Out β) : (Out.ok a M).bind f = f a M := rfl
@[simp] theorem Out.bind_exc {α β : Type} (x : Ex) (M : Mem) (f : α → Mem → Out β) : (Out.exc x M : Out α).bind f = .exc x M := rfl
@[simp] theorem Out.bind_stuck {α β : Type} (f : α → Mem → Out β) : (Out.stuck : Out α).bind f = .stuck := rfl
inductive SOut where
  | next (env : Env) (M : Mem)
  | ret (d : D) (M : Mem)
  | exc (x : Ex) (env : Env) (M : Mem)
  | stuck
abbrev ME := Env → Mem → Out D
abbrev MT := Env → Mem → Out Bool
abbrev MA := Env → Mem → Out (List D)
abbrev MS := Env → Mem → SOut
section
variable (K : PySem.W.Frag)
/-- the field of an exception: its own dict -/
def ErrD (H : Hp) (at_ : Option Int) (dx : Option Addr) : Prop := (at_ = none ∧ dx = none) ∨ ∃ i d, at_ = some i ∧ dx = some d ∧ H d = some (.xd [(("at" : Str), V.int i)])
/-- what is kept of an exception that was caught: its very object -/
def errO (oe : Obj) : HO := .frz oe (.ext fun _ => True)
/-- an exception that was caught -/
def ErrAt (H : Hp) (a : Addr) (x : Ex) : Prop := ∃ (oe : Obj) (vs : Array Value), H a = some (errO oe) ∧ oe.cls = .ref (He.ga K x.cls) ∧ oe.data = .fields vs ∧ vs[2]? = vs[2]? ∧ ErrD H x.at_ oe.dict
mutual
inductive Rp (ι : List Addr) (H : Hp) : D → V → Prop
  | non : Rp ι H .non .non
  | bl (b : Bool) : Rp ι H (.bl b) (.bl b)
  | int (i : Int) : Rp ι H (.int i) (.int i)
  | str (x : Str) : Rp ι H (.str x) (.str x)
  | tup {a : Addr} {xs : List D} {vs : List V} : SqT K H a vs → RpA ι H xs vs → Rp ι H (.tup xs) (.ref a)
  | ref {n : Nat} {a : Addr} : ι[n]? = some a → Rp ι H (.ref n) (.ref a)
  | err {x : Ex} {a : Addr} : ErrAt K H a x → Rp ι H (.err x) (.ref a)
inductive RpA (ι : List Addr) (H : Hp) : List D → List V → Prop
  | nil : RpA ι H [] []
  | cons {d : D} {v : V} {ds : List D} {vs : List V} : Rp ι H d v → RpA ι H ds vs → RpA ι H (d :: ds) (v :: vs)
end
structure Ext (ι : List Addr) (H : Hp) (ι' : List Addr) (H' : Hp) : Prop where
  pre : ∀ (n : Nat) (a : Addr), ι[n]? = some a → ι'[n]? = some a
  tup : ∀ (a : Addr) (vs : List V), SqT K H a vs → SqT K H' a vs
  err : ∀ (a : Addr) (x : Ex), ErrAt K H a x → ErrAt K H' a x
  frz : ∀ (a : Addr) (o : Obj) (u : HO), H a = some (.frz o u) → H' a = some (.frz o u)
/-- a list that is only read -/
def RoL (H : Hp) (a : Addr) (vs : List V) : Prop := (∃ o, H a = some (.frz o (.lst vs))) ∨
  ∃ (o : Obj) (its : Array Value) (n : Nat), K.lookup a = some o ∧ o.cls = .type "list" ∧ o.dict = none ∧ o.data = .seq its n ∧ its.size ≤ sizeLine ∧ Vals vs its.toList
inductive RpF (ι : List Addr) (H : Hp) : List (Str × D) → List (Str × V) → Prop
  | nil : RpF ι H [] []
  | cons {x : Str} {d : D} {v : V} {ds : List (Str × D)} {vs : List (Str × V)} : Rp K ι H d v → RpF ι H ds vs → RpF ι H ((x, d) :: ds) ((x, v) :: vs)
inductive RpD (ι : List Addr) (H : Hp) : List (D × D) → List (NestedKey × Addr × V) → Prop
  | nil : RpD ι H [] []
  | cons {d e : D} {k : NestedKey} {b : Addr} {v : V} {ds : List (D × D)} {vs : List (NestedKey × Addr × V)} : nk d = some k → k.depth ≤ 8 → Rp K ι H d (.ref b) → Rp K ι H e v → RpD ι H ds vs → RpD ι H ((d, e) :: ds) ((k, b, v) :: vs)
def MOk (ι : List Addr) (H : Hp) (a : Addr) : MO → Prop
  | .lst xs => ∃ vs, H a = some (.lst vs) ∧ RpA K ι H xs vs
  | .rol xs => ∃ vs, RoL K H a vs ∧ RpA K ι H xs vs
  | .ins c fs => ∃ dx vs, H a = some (.ins (He.ga K c) dx vs) ∧ RpF K ι H fs vs
  | .dct kvs => ∃ xs, H a = some (.ext (DctIs a xs)) ∧ RpD K ι H kvs xs ∧ (xs.map (·.1)).Nodup
  | .dcs fs => ∃ vs : List (Str × V), H a = some (.dK (vs.map fun p => (.inr p.1, p.2))) ∧ RpF K ι H fs vs
  | .dcz kvs => ∃ xs o, H a = some (.frz o (.ext (DctIs a xs))) ∧ RpD K ι H kvs xs ∧ (xs.map (·.1)).Nodup
def mutable : MO → Bool
  | .rol _ => false
  | _ => true
/-- what may be written -/
def wr : MO → Bool
  | .rol _ => false
  | .dcz _ => false
  | _ => true
theorem wr_mut {o : MO} (h : wr o = true) : mutable o = true := by cases o <;> first | rfl | exact h
structure SR (ι : List Addr) (H : Hp) (M : Mem) : Prop where
  len : ι.length = M.length
  ok : ∀ (n : Nat) (a : Addr) (o : MO), ι[n]? = some a → M[n]? = some o → MOk K ι H a o
  nd : ∀ (n m : Nat) (a : Addr) (o u : MO), ι[n]? = some a → ι[m]? = some a → M[n]? = some o → M[m]? = some u → mutable o = true → mutable u = true → n = m
def RpO (ι : List Addr) (H : Hp) : Option D → Option V → Prop
  | none, _ => True
  | some d, some v => Rp K ι H d v
  | some _, none => False
inductive EnvR (ι : List Addr) (H : Hp) : Env → L2.St → Prop
  | nil : EnvR ι H [] []
  | cons {d : Option D} {v : Option V} {ds : Env} {vs : L2.St} : RpO K ι H d v → EnvR ι H ds vs → EnvR ι H (d :: ds) (v :: vs)
end
section
variable {K : PySem.W.Frag} {ι ι' ι'' : List Addr} {H H' H'' : Hp}
theorem Ext.refl : Ext K ι H ι H := ⟨fun _ _ h => h, fun _ _ h => h, fun _ _ h => h, fun _ _ _ h => h⟩
theorem Ext.trans (a : Ext K ι H ι' H') (b : Ext K ι' H' ι'' H'') : Ext K ι H ι'' H'' :=
  ⟨fun n c h => b.pre n c (a.pre n c h), fun c vs h => b.tup c vs (a.tup c vs h), fun c x h => b.err c x (a.err c x h), fun c o u h => b.frz c o u (a.frz c o u h)⟩
mutual
theorem Rp.ext (e : Ext K ι H ι' H') : ∀ {d : D} {v : V}, Rp K ι H d v → Rp K ι' H' d v
  | _, _, .non => .non
  | _, _, .bl b => .bl b
  | _, _, .int i => .int i
  | _, _, .str x => .str x
  | _, _, .tup h r => .tup (e.tup _ _ h) (RpA.ext e r)
  | _, _, .ref h => .ref (e.pre _ _ h)
  | _, _, .err h => .err (e.err _ _ h)
theorem RpA.ext (e : Ext K ι H ι' H') : ∀ {d : List D} {v : List V}, RpA K ι H d v → RpA K ι' H' d v
  | _, _, .nil => .nil
  | _, _, .cons h r => .cons (Rp.ext e h) (RpA.ext e r)
end
theorem RpF.ext (e : Ext K ι H ι' H') : ∀ {d : List (Str × D)} {v : List (Str × V)}, RpF K ι H d v → RpF K ι' H' d v
  | _, _, .nil => .nil
  | _, _, .cons h r => .cons (h.ext e) (RpF.ext e r)
theorem RpD.ext (e : Ext K ι H ι' H') : ∀ {d : List (D × D)} {v : List (NestedKey × Addr × V)}, RpD K ι H d v → RpD K ι' H' d v
  | _, _, .nil => .nil
  | _, _, .cons h1 h2 h3 h4 r => .cons h1 h2 (h3.ext e) (h4.ext e) (RpD.ext e r)
theorem RpO.ext (e : Ext K ι H ι' H') {d : Option D} {v : Option V} (h : RpO K ι H d v) : RpO K ι' H' d v := by
  cases d <;> cases v <;> first | trivial | exact h.elim | exact Rp.ext e h
theorem EnvR.ext (e : Ext K ι H ι' H') : ∀ {d : Env} {v : L2.St}, EnvR K ι H d v → EnvR K ι' H' d v
  | _, _, .nil => .nil
  | _, _, .cons h r => .cons (h.ext e) (EnvR.ext e r)
theorem EnvR.get : ∀ {env : Env} {σ : L2.St} {i : Nat} {d : D}, EnvR K ι H env σ → env[i]? = some (some d) → ∃ v, σ[i]? = some (some v) ∧ Rp K ι H d v
  | _, _, _, _, .nil, e => by simp at e
  | _, _, 0, d, .cons (d := x) (v := v) h _, e => by
    simp at e; subst e
    cases v with
    | none => exact h.elim
    | some v => exact ⟨v, rfl, h⟩
  | _, _, i + 1, d, .cons _ t, e => by
    obtain ⟨v, h1, h2⟩ := EnvR.get (i := i) (d := d) t (by simpa using e)
    exact ⟨v, by simpa using h1, h2⟩
theorem EnvR.set {d : D} {v : V} (r : Rp K ι H d v) : ∀ {env : Env} {σ : L2.St} (i : Nat), EnvR K ι H env σ → EnvR K ι H (env.set i (some d)) (σ.set i (some v))
  | _, _, _, .nil => .nil
  | _, _, 0, .cons _ t => .cons (show RpO K ι H (some d) (some v) from r) t
  | _, _, i + 1, .cons q t => .cons q (EnvR.set r i t)
theorem EnvR.unset : ∀ {env : Env} {σ : L2.St} (i : Nat), EnvR K ι H env σ → EnvR K ι H (env.set i none) (σ.set i none)
  | _, _, _, .nil => .nil
  | _, _, 0, .cons _ t => .cons trivial t
  | _, _, i + 1, .cons q t => .cons q (EnvR.unset i t)
theorem EnvR.length : ∀ {env : Env} {σ : L2.St}, EnvR K ι H env σ → env.length = σ.length
  | _, _, .nil => rfl
  | _, _, .cons _ t => congrArg (· + 1) t.length
theorem RpA.length : ∀ {ds : List D} {vs : List V}, RpA K ι H ds vs → ds.length = vs.length
  | _, _, .nil => rfl
  | _, _, .cons _ t => congrArg (· + 1) t.length
theorem RpA.get : ∀ {ds : List D} {vs : List V} {i : Nat} {d : D}, RpA K ι H ds vs → ds[i]? = some d → ∃ v, vs[i]? = some v ∧ Rp K ι H d v
  | _, _, _, _, .nil, e => by simp at e
  | _, _, 0, d, .cons h _, e => by simp at e; subst e; exact ⟨_, rfl, h⟩
  | _, _, i + 1, d, .cons _ t, e => by
    obtain ⟨v, h1, h2⟩ := RpA.get (i := i) (d := d) t (by simpa using e)
    exact ⟨v, by simpa using h1, h2⟩
theorem RpA.append : ∀ {ds es : List D} {vs us : List V}, RpA K ι H ds vs → RpA K ι H es us → RpA K ι H (ds ++ es) (vs ++ us)
  | _, _, _, _, .nil, s => s
  | _, _, _, _, .cons r t, s => .cons r (RpA.append t s)
theorem RpA.take : ∀ {ds : List D} {vs : List V} (n : Nat), RpA K ι H ds vs → RpA K ι H (ds.take n) (vs.take n)
  | _, _, 0, _ => .nil
  | _, _, _ + 1, .nil => .nil
  | _, _, n + 1, .cons r t => .cons r (RpA.take n t)
theorem RpA.drop : ∀ {ds : List D} {vs : List V} (n : Nat), RpA K ι H ds vs → RpA K ι H (ds.drop n) (vs.drop n)
  | _, _, 0, r => r
  | _, _, _ + 1, .nil => .nil
  | _, _, n + 1, .cons _ t => RpA.drop n t
theorem RpA.set {d : D} {v : V} (r : Rp K ι H d v) : ∀ {ds : List D} {vs : List V} (i : Nat), RpA K ι H ds vs → RpA K ι H (ds.set i d) (vs.set i v)
  | _, _, _, .nil => .nil
  | _, _, 0, .cons _ t => .cons r t
  | _, _, i + 1, .cons q t => .cons q (RpA.set r i t)
theorem RpA.dropLast : ∀ {ds : List D} {vs : List V}, RpA K ι H ds vs → RpA K ι H ds.dropLast vs.dropLast
  | _, _, .nil => .nil
  | _, _, .cons _ .nil => .nil
  | _, _, .cons r (.cons q t) => .cons r (RpA.dropLast (.cons q t))
theorem RpA.rep {ds : List D} {vs : List V} (h : RpA K ι H ds vs) : ∀ k : Nat, RpA K ι H (List.replicate k ds).flatten (List.replicate k vs).flatten
  | 0 => .nil
  | k + 1 => by
    rw [List.replicate_succ, List.replicate_succ, List.flatten_cons, List.flatten_cons]
    exact h.append (RpA.rep h k)
theorem upd_tup {a p : Addr} {o : HO} {vs : List V} (hp : H p = none) (h : SqT K H a vs) : SqT K (upd H p o) a vs := by
  rcases h with (h | ⟨u, h⟩) | h
  · exact .inl (.inl (by rw [upd_ne (ne_of_none h hp)]; exact h))
  · exact .inl (.inr ⟨u, by rw [upd_ne (ne_of_none h hp)]; exact h⟩)
  · exact .inr h
def isTupO : Option HO → Prop
  | some (.tup _) => True
  | some (.frz _ _) => True
  | some (.xd _) => True
  | _ => False
theorem upd_tup' {a p : Addr} {o : HO} {vs : List V} (hp : ¬ isTupO (H p)) (h : SqT K H a vs) : SqT K (upd H p o) a vs := by
  rcases h with (h | ⟨u, h⟩) | h
  · exact .inl (.inl (by rw [upd_ne (fun e => by subst e; rw [h] at hp; exact hp trivial)]; exact h))
  · exact .inl (.inr ⟨u, by rw [upd_ne (fun e => by subst e; rw [h] at hp; exact hp trivial)]; exact h⟩)
  · exact .inr h
theorem upd_err {a p : Addr} {o : HO} {x : Ex} (hp : ¬ isTupO (H p)) (h : ErrAt K H a x) : ErrAt K (upd H p o) a x := by
  obtain ⟨oe, vs, h1, h2, h3, h4, h5⟩ := h
  refine ⟨oe, vs, by rw [upd_ne (fun e => by subst e; rw [h1] at hp; exact hp trivial)]; exact h1, h2, h3, h4, ?_⟩
  rcases h5 with h5 | ⟨i, d, e1, e2, e3⟩
  · exact .inl h5
  · exact .inr ⟨i, d, e1, e2, by rw [upd_ne (fun e => by subst e; rw [e3] at hp; exact hp trivial)]; exact e3⟩
theorem upd_frz {p a : Addr} {o : HO} {ob : Obj} {u : HO} (hp : ¬ isTupO (H p)) (h : H a = some (.frz ob u)) : upd H p o a = some (.frz ob u) := by
  rw [upd_ne (fun e => by subst e; rw [h] at hp; exact hp trivial)]; exact h
theorem Ext.upd {p : Addr} {o : HO} (hp : ¬ isTupO (H p)) : Ext K ι H ι (upd H p o) := ⟨fun _ _ h => h, fun _ _ h => upd_tup' hp h, fun _ _ h => upd_err hp h, fun _ _ _ h => upd_frz hp h⟩
theorem Ext.new {p : Addr} {o : HO} (hp : H p = none) : Ext K ι H ι (L2.upd H p o) := Ext.upd (by rw [hp]; exact fun z => z)
theorem Ext.more {p : Addr} {o : HO} (hp : H p = none) : Ext K ι H (ι ++ [p]) (L2.upd H p o) :=
  ⟨fun n a h => by
    obtain ⟨hl, _⟩ := List.getElem?_eq_some_iff.mp h
    rw [List.getElem?_append_left hl]; exact h, fun _ _ h => upd_tup hp h, fun _ _ h => upd_err (by rw [hp]; exact fun z => z) h, fun _ _ _ h => upd_frz (by rw [hp]; exact fun z => z) h⟩
theorem RoL.sq {a : Addr} {vs : List V} (h : RoL K H a vs) : SqL K H a vs := by
  rcases h with ⟨o, h⟩ | h
  · exact .inl (.inr ⟨o, h⟩)
  · exact .inr h
theorem RoL.upd {a p : Addr} {o : HO} {vs : List V} (hp : ¬ isTupO (H p)) (h : RoL K H a vs) : RoL K (L2.upd H p o) a vs := by
  rcases h with ⟨u, h⟩ | h
  · exact .inl ⟨u, by rw [upd_ne (fun e => by subst e; rw [h] at hp; exact hp trivial)]; exact h⟩
  · exact .inr h
/-- an object that is there stays what it is where another place is written -/
theorem MOk.upd {a p : Addr} {o : HO} {u : MO} (e : Ext K ι H ι' (L2.upd H p o)) (hne : mutable u = true → a ≠ p) (hp : ¬ isTupO (H p)) (h : MOk K ι H a u) : MOk K ι' (L2.upd H p o) a u := by
  cases u with
  | lst xs => obtain ⟨vs, h1, h2⟩ := h; exact ⟨vs, by rw [upd_ne (hne rfl)]; exact h1, h2.ext e⟩
  | rol xs => obtain ⟨vs, h1, h2⟩ := h; exact ⟨vs, h1.upd hp, h2.ext e⟩
  | ins c fs => obtain ⟨dx, vs, h1, h2⟩ := h; exact ⟨dx, vs, by rw [upd_ne (hne rfl)]; exact h1, h2.ext e⟩
  | dct kvs => obtain ⟨xs, h1, h2, h3⟩ := h; exact ⟨xs, by rw [upd_ne (hne rfl)]; exact h1, h2.ext e, h3⟩
  | dcs fs => obtain ⟨vs, h1, h2⟩ := h; exact ⟨vs, by rw [upd_ne (hne rfl)]; exact h1, h2.ext e⟩
  | dcz kvs => obtain ⟨xs, o, h1, h2, h3⟩ := h; exact ⟨xs, o, by rw [upd_ne (hne rfl)]; exact h1, h2.ext e, h3⟩
theorem MOk.there {a : Addr} {u : MO} (m : mutable u = true) (h : MOk K ι H a u) : H a ≠ none := by
  cases u with
  | lst xs => obtain ⟨vs, h1, _⟩ := h; rw [h1]; exact fun z => nomatch z
  | rol xs => exact nomatch m
  | ins c fs => obtain ⟨dx, vs, h1, _⟩ := h; rw [h1]; exact fun z => nomatch z
  | dct kvs => obtain ⟨xs, h1, _⟩ := h; rw [h1]; exact fun z => nomatch z
  | dcs fs => obtain ⟨vs, h1, _⟩ := h; rw [h1]; exact fun z => nomatch z
  | dcz kvs => obtain ⟨xs, o, h1, _⟩ := h; rw [h1]; exact fun z => nomatch z
theorem MOk.notTup {a : Addr} {u : MO} (m : wr u = true) (h : MOk K ι H a u) : ¬ isTupO (H a) := by
  cases u with
  | lst xs => obtain ⟨vs, h1, _⟩ := h; rw [h1]; exact fun z => z
  | rol xs => exact nomatch m
  | ins c fs => obtain ⟨dx, vs, h1, _⟩ := h; rw [h1]; exact fun z => z
  | dct kvs => obtain ⟨xs, h1, _⟩ := h; rw [h1]; exact fun z => z
  | dcs fs => obtain ⟨vs, h1, _⟩ := h; rw [h1]; exact fun z => z
  | dcz kvs => exact nomatch m
variable {M : Mem}
theorem SR.at (S : SR K ι H M) {n : Nat} {o : MO} (h : M[n]? = some o) : ∃ a, ι[n]? = some a ∧ MOk K ι H a o := by
  obtain ⟨hl, _⟩ := List.getElem?_eq_some_iff.mp h
  have hl' : n < ι.length := by rw [S.len]; exact hl
  exact ⟨ι[n], List.getElem?_eq_getElem hl', S.ok n _ o (List.getElem?_eq_getElem hl') h⟩
/-- an untracked place gets a thing that is no memory of ours (a tuple, an instance's dict) -/
theorem SR.new (S : SR K ι H M) {p : Addr} {o : HO} (hp : H p = none) : SR K ι (L2.upd H p o) M where
  len := S.len
  ok := fun n a u h1 h2 => by
    have k := S.ok n a u h1 h2
    refine k.upd (Ext.new hp) (fun m e => ?_) (by rw [hp]; exact fun z => z)
    subst e; exact k.there m hp
  nd := S.nd
/-- a new object of ours -/
theorem SR.alloc (S : SR K ι H M) {p : Addr} {o : HO} {u : MO} (hp : H p = none) (hm : MOk K (ι ++ [p]) (L2.upd H p o) p u) : SR K (ι ++ [p]) (L2.upd H p o) (M ++ [u]) := by
  have hl := S.len
  have split : ∀ {n : Nat} {a : Addr} {v : MO}, (ι ++ [p])[n]? = some a → (M ++ [u])[n]? = some v → (ι[n]? = some a ∧ M[n]? = some v) ∨ (n = ι.length ∧ a = p ∧ v = u) := by
    intro n a v h1 h2
    by_cases q : n < ι.length
    · rw [List.getElem?_append_left q] at h1
      rw [List.getElem?_append_left (by omega)] at h2
      exact .inl ⟨h1, h2⟩
    · have e : n = ι.length := by
        have := (List.getElem?_eq_some_iff.mp h1).1
        simp at this; omega
      subst e
      have a1 : p = a := by simpa using h1
      have a2 : u = v := by rw [hl] at h2; simpa using h2
      exact .inr ⟨rfl, a1.symm, a2.symm⟩
  refine ⟨by simp [hl], fun n a v h1 h2 => ?_, fun n m a v w h1 h2 h3 h4 m1 m2 => ?_⟩
  · rcases split h1 h2 with ⟨g1, g2⟩ | ⟨rfl, rfl, rfl⟩
    · have k := S.ok n a v g1 g2
      refine k.upd (Ext.more hp) (fun m e => ?_) (by rw [hp]; exact fun z => z)
      subst e; exact k.there m hp
    · exact hm
  · rcases split h1 h3 with ⟨g1, g2⟩ | ⟨rfl, rfl, rfl⟩ <;> rcases split h2 h4 with ⟨f1, f2⟩ | ⟨rfl, e, rfl⟩
    · exact S.nd n m a v w g1 f1 g2 f2 m1 m2
    · exact absurd hp (by rw [← e]; exact (S.ok n _ v g1 g2).there m1)
    · exact absurd hp ((S.ok m _ w f1 f2).there m2)
    · rfl
/-- an object of ours is written -/
theorem SR.write (S : SR K ι H M) {n : Nat} {a : Addr} {o u : MO} {x : HO} (ha : ι[n]? = some a) (ho : M[n]? = some o) (mo : wr o = true) (mu : mutable u = true)
    (hm : MOk K ι (L2.upd H a x) a u) : SR K ι (L2.upd H a x) (M.set n u) := by
  have k0 := S.ok n a o ha ho
  have nt := k0.notTup mo
  obtain ⟨hl, _⟩ := List.getElem?_eq_some_iff.mp ho
  have split : ∀ {m : Nat} {v : MO}, (M.set n u)[m]? = some v → (m = n ∧ v = u) ∨ (m ≠ n ∧ M[m]? = some v) := by
    intro m v h
    by_cases e : m = n
    · subst e
      rw [List.getElem?_set_self hl] at h
      exact .inl ⟨rfl, (Option.some.inj h).symm⟩
    · rw [List.getElem?_set_ne (fun z => e z.symm)] at h
      exact .inr ⟨e, h⟩
  refine ⟨by rw [List.length_set]; exact S.len, fun m b v h1 h2 => ?_, fun m m' b v w h1 h2 h3 h4 m1 m2 => ?_⟩
  · rcases split h2 with ⟨rfl, rfl⟩ | ⟨e, g⟩
    · rw [ha] at h1; cases h1; exact hm
    · refine (S.ok m b v h1 g).upd (Ext.upd nt) (fun mv z => ?_) nt
      subst z; exact e (S.nd m n b v o h1 ha g ho mv (wr_mut mo))
  · rcases split h3 with ⟨rfl, rfl⟩ | ⟨e, g⟩ <;> rcases split h4 with ⟨rfl, rfl⟩ | ⟨e', g'⟩
    · rfl
    · exact (S.nd m' m b w o h2 h1 g' ho m2 (wr_mut mo)).symm
    · exact S.nd m m' b v o h1 h2 g ho m1 (wr_mut mo)
    · exact S.nd m m' b v w h1 h2 g g' m1 m2
end
/-- an exception: its class, its dict -/
def ExR (K : PySem.W.Frag) (ι : List Addr) (x : Ex) (cls : Value) (dx : Option Addr) (H : Hp) : Prop :=
  cls = .ref (He.ga K x.cls) ∧ ErrD H x.at_ dx
/-- what is wanted of an outcome, from ι and H on -/
def OutP {α : Type} (K : PySem.W.Frag) (W : Value → Option Addr → Hp → Prop) (ι : List Addr) (H : Hp) (o : Out α) (R : α → Mem → List Addr → Hp → Prop) : Prop :=
  match o with
  | .ok a M => ∀ ι' H', Ext K ι H ι' H' → SR K ι' H' M → R a M ι' H'
  | .exc x M => ∀ ι' H' cls dx, Ext K ι H ι' H' → SR K ι' H' M → ExR K ι' x cls dx H' → W cls dx H'
  | .stuck => False
def SOutP (K : PySem.W.Frag) (W : WX) (ι : List Addr) (H : Hp) (o : SOut) (En : Ends) : Prop :=
  match o with
  | .next env M => ∀ ι' σ' H', Ext K ι H ι' H' → SR K ι' H' M → EnvR K ι' H' env σ' → En.nx σ' H'
  | .ret d M => ∀ ι' v H', Ext K ι H ι' H' → SR K ι' H' M → Rp K ι' H' d v → En.rt v H'
  | .exc x env M => ∀ ι' σ' H' cls dx, Ext K ι H ι' H' → SR K ι' H' M → EnvR K ι' H' env σ' → ExR K ι' x cls dx H' → W cls dx σ' H'
  | .stuck => False
abbrev W1 (W : WX) (σ : L2.St) : Value → Option Addr → Hp → Prop := fun c d H => W c d σ H
/-- what is wanted of a value -/
abbrev VR (K : PySem.W.Frag) (Q : VK) : D → Mem → List Addr → Hp → Prop := fun d _ ι H => ∀ v, Rp K ι H d v → Q v H
abbrev AR (K : PySem.W.Frag) (Q : List V → Hp → Prop) : List D → Mem → List Addr → Hp → Prop := fun d _ ι H => ∀ v, RpA K ι H d v → Q v H
abbrev TR (Q : Bool → Hp → Prop) : Bool → Mem → List Addr → Hp → Prop := fun b _ _ H => Q b H
def LE (K : PySem.W.Frag) (W : WX) (m : ME) : TE := fun σ H Q => ∃ ι env M, SR K ι H M ∧ EnvR K ι H env σ ∧ OutP K (W1 W σ) ι H (m env M) (VR K Q)
def LT (K : PySem.W.Frag) (W : WX) (m : MT) : TT := fun σ H Q => ∃ ι env M, SR K ι H M ∧ EnvR K ι H env σ ∧ OutP K (W1 W σ) ι H (m env M) (TR Q)
def LA (K : PySem.W.Frag) (W : WX) (m : MA) : TA := fun σ H Q => ∃ ι env M, SR K ι H M ∧ EnvR K ι H env σ ∧ OutP K (W1 W σ) ι H (m env M) (AR K Q)
def LS (K : PySem.W.Frag) (W : WX) (m : MS) : TS := fun En σ H => ∃ ι env M, SR K ι H M ∧ EnvR K ι H env σ ∧ SOutP K W ι H (m env M) En
section
variable {K : PySem.W.Frag} {W : Value → Option Addr → Hp → Prop} {ι ι' : List Addr} {H H' : Hp} {α β : Type}
theorem OutP.imp {o : Out α} {R R' : α → Mem → List Addr → Hp → Prop} (h : OutP K W ι H o R) (k : ∀ a M ι' H', Ext K ι H ι' H' → SR K ι' H' M → R a M ι' H' → R' a M ι' H') : OutP K W ι H o R' := by
  cases o with
  | ok a M => exact fun ι' H' e s => k a M ι' H' e s (h ι' H' e s)
  | exc x M => exact h
  | stuck => exact h
theorem OutP.ext {o : Out α} {R : α → Mem → List Addr → Hp → Prop} (e : Ext K ι H ι' H') (h : OutP K W ι H o R) : OutP K W ι' H' o R := by
  cases o with
  | ok a M => exact fun ι2 H2 e2 s => h ι2 H2 (e.trans e2) s
  | exc x M => exact fun ι2 H2 c d e2 s x => h ι2 H2 c d (e.trans e2) s x
  | stuck => exact h
theorem OutP.bind {o : Out α} {f : α → Mem → Out β} {R : β → Mem → List Addr → Hp → Prop} (h : OutP K W ι H (o.bind f) R) : OutP K W ι H o (fun a M ι1 H1 => OutP K W ι1 H1 (f a M) R) := by
  cases o with
  | ok a M => exact fun ι' H' e s => OutP.ext e h
  | exc x M => exact h
  | stuck => exact h
end
theorem SOutP.ext {K : PySem.W.Frag} {W : WX} {ι ι' : List Addr} {H H' : Hp} {o : SOut} {En : Ends} (e : Ext K ι H ι' H') (h : SOutP K W ι H o En) : SOutP K W ι' H' o En := by
  cases o with
  | next env M => exact fun ι2 σ2 H2 e2 s r => h ι2 σ2 H2 (e.trans e2) s r
  | ret d M => exact fun ι2 v H2 e2 s r => h ι2 v H2 (e.trans e2) s r
  | exc x env M => exact fun ι2 σ2 H2 c d e2 s r x => h ι2 σ2 H2 c d (e.trans e2) s r x
  | stuck => exact h
section
variable {X : Cx}
theorem _root_.L2.PE.imp {e : Expr} {t t' : TE} (h : PE X e t) (k : ∀ σ H Q, t' σ H Q → t σ H Q) : PE X e t' := ⟨fun pins s σ H Q I q => h.run pins s σ H Q I (k σ H Q q)⟩
theorem _root_.L2.PT.imp {e : Expr} {t t' : TT} (h : PT X e t) (k : ∀ σ H Q, t' σ H Q → t σ H Q) : PT X e t' := ⟨fun pins s σ H Q I q => h.run pins s σ H Q I (k σ H Q q)⟩
theorem _root_.L2.PW.imp {e : Expr} {t t' : TT} (h : PW X e t) (k : ∀ σ H Q, t' σ H Q → t σ H Q) : PW X e t' := ⟨fun w pins s σ H Q I q => h.run w pins s σ H Q I (k σ H Q q)⟩
theorem _root_.L2.PA.imp {e : List Expr} {t t' : TA} (h : PA X e t) (k : ∀ σ H Q, t' σ H Q → t σ H Q) : PA X e t' := ⟨fun p pins s σ H Q I q => h.run p pins s σ H Q I (k σ H Q q)⟩
theorem _root_.L2.PS.imp {e : Stmt} {t t' : TS} (h : PS X e t) (k : ∀ En σ H, t' En σ H → t En σ H) : PS X e t' := ⟨fun pins s σ H En I q => h.run pins s σ H En I (k En σ H q)⟩
theorem _root_.L2.PSs.imp {e : List Stmt} {t t' : TS} (h : PSs X e t) (k : ∀ En σ H, t' En σ H → t En σ H) : PSs X e t' := ⟨fun pins s σ H En I q => h.run pins s σ H En I (k En σ H q)⟩
end
end TL
end
section
namespace TL
open PySem PySem.Spec PyProof.Rows L2
/-- the context of a body -/
structure Ctx (X : Cx) (W : WX) (k : Nat) : Prop where
  calm : X.calm = true
  nd : X.N.Nodup
  room : Room k X.A
  tk : L2N.Takes X W
  pass : PassesOwn (model X.prog X.w) X.A X.env X.xe
def liftO {α : Type} (o : Option (α × Mem)) : Out α := match o with
  | some (a, M) => .ok a M
  | none => .stuck
@[simp] theorem liftO_some {α : Type} (a : α) (M : Mem) : liftO (some (a, M)) = .ok a M := rfl
@[simp] theorem liftO_none {α : Type} : liftO (none : Option (α × Mem)) = .stuck := rfl
def OpO {α : Type} (K : PySem.W.Frag) (ι : List Addr) (H : Hp) (o : Option (α × Mem)) (R : α → Mem → List Addr → Hp → Prop) : Prop := match o with
  | some (a, M) => ∀ ι' H', Ext K ι H ι' H' → SR K ι' H' M → R a M ι' H'
  | none => False
theorem OpO.of {α : Type} {K : PySem.W.Frag} {W : Value → Option Addr → Hp → Prop} {ι : List Addr} {H : Hp} {o : Option (α × Mem)} {R : α → Mem → List Addr → Hp → Prop} (h : OutP K W ι H (liftO o) R) : OpO K ι H o R := by
  cases o with
  | none => exact h
  | some p => exact h
abbrev Op2 := D → D → Mem → Option (D × Mem)
abbrev Op1 := D → Mem → Option (D × Mem)
abbrev OpN := List D → Mem → Option (D × Mem)
def rD2 (K : PySem.W.Frag) (f : Op2) : R2 := fun x y H Q => ∃ ι M a b, SR K ι H M ∧ Rp K ι H a x ∧ Rp K ι H b y ∧ OpO K ι H (f a b M) (VR K Q)
def rD1 (K : PySem.W.Frag) (f : Op1) : V → Hp → VK → Prop := fun x H Q => ∃ ι M a, SR K ι H M ∧ Rp K ι H a x ∧ OpO K ι H (f a M) (VR K Q)
def rDN (K : PySem.W.Frag) (f : OpN) : List V → Hp → VK → Prop := fun xs H Q => ∃ ι M ds, SR K ι H M ∧ RpA K ι H ds xs ∧ OpO K ι H (f ds M) (VR K Q)
def rDM (K : PySem.W.Frag) (f : D → OpN) : V → List V → Hp → VK → Prop := fun x xs H Q => ∃ ι M d ds, SR K ι H M ∧ Rp K ι H d x ∧ RpA K ι H ds xs ∧ OpO K ι H (f d ds M) (VR K Q)
def rDSl (K : PySem.W.Frag) (f : D → Option Int → Option Int → Mem → Option (D × Mem)) : V → Option Int → Option Int → Hp → VK → Prop := fun x lo hi H Q => ∃ ι M d, SR K ι H M ∧ Rp K ι H d x ∧ OpO K ι H (f d lo hi M) (VR K Q)
section
variable {X : Cx}
theorem OpR.imp {f : Value → Value → Sem Value} {r r' : R2} (h : OpR X f r) (k : ∀ x y H Q, r' x y H Q → r x y H Q) : OpR X f r' :=
  fun pins s σ H x y v u Q I rx ry q => h pins s σ H x y v u Q I rx ry (k x y H Q q)
theorem CallR.imp {f : Value} {r r' : List V → Hp → VK → Prop} (h : CallR X f r) (k : ∀ xs H Q, r' xs H Q → r xs H Q) : CallR X f r' :=
  fun pins s σ H xs us Q I rx q => h pins s σ H xs us Q I rx (k xs H Q q)
theorem IxR.imp {r r' : R2} (h : IxR X r) (k : ∀ x y H Q, r' x y H Q → r x y H Q) : IxR X r' :=
  fun a b pins s σ H x y v u Q I rx ry q e => h a b pins s σ H x y v u Q I rx ry (k x y H Q q) e
theorem MtR.imp {id : String} {r r' : V → List V → Hp → VK → Prop} (h : MtR X id r) (k : ∀ x xs H Q, r' x xs H Q → r x xs H Q) : MtR X id r' :=
  fun pins s σ H x xs v us Q I rx rxs q => h pins s σ H x xs v us Q I rx rxs (k x xs H Q q)
theorem UnR.imp {f : Value → Sem Value} {r r' : V → Hp → VK → Prop} (h : UnR X f r) (k : ∀ x H Q, r' x H Q → r x H Q) : UnR X f r' :=
  fun pins s σ H x v Q I rx q => h pins s σ H x v Q I rx (k x H Q q)
theorem SlR.imp {r r' : V → Option Int → Option Int → Hp → VK → Prop} (h : SlR X r) (k : ∀ x l u H Q, r' x l u H Q → r x l u H Q) : SlR X r' :=
  fun pins s σ H x v vl vu lo hi sl Q I rx hs pl pu q => h pins s σ H x v vl vu lo hi sl Q I rx hs pl pu (k x lo hi H Q q)
end
section
variable {K : PySem.W.Frag} {ι ι' : List Addr} {H H' : Hp} {M : Mem}
/-- a value is told, the memory as it is -/
theorem OpO.val {d : D} {Q : VK} {v : V} (S : SR K ι H M) (h : OpO K ι H (some (d, M)) (VR K Q)) (r : Rp K ι H d v) : Q v H := h ι H Ext.refl S v r
theorem Rp.bl_inv {b : Bool} {v : V} (r : Rp K ι H (.bl b) v) : v = .bl b := by cases r; rfl
theorem Rp.int_inv {i : Int} {v : V} (r : Rp K ι H (.int i) v) : v = .int i := by cases r; rfl
theorem Rp.str_inv {i : Str} {v : V} (r : Rp K ι H (.str i) v) : v = .str i := by cases r; rfl
theorem Rp.non_inv {v : V} (r : Rp K ι H .non v) : v = .non := by cases r; rfl
theorem Rp.tup_inv {xs : List D} {v : V} (r : Rp K ι H (.tup xs) v) : ∃ a vs, v = .ref a ∧ SqT K H a vs ∧ RpA K ι H xs vs := by cases r with | tup h k => exact ⟨_, _, rfl, h, k⟩
theorem Rp.ref_inv {n : Nat} {v : V} (r : Rp K ι H (.ref n) v) : ∃ a, v = .ref a ∧ ι[n]? = some a := by cases r with | ref h => exact ⟨_, rfl, h⟩
/-- a new tuple -/
theorem OpO.newTup {xs : List D} {vs : List V} {Q : VK} (S : SR K ι H M) (h : OpO K ι H (some (.tup xs, M)) (VR K Q)) (r : RpA K ι H xs vs) : ∀ p, H p = none → Q (.ref p) (upd H p (.tup vs)) := fun p hp =>
  h ι _ (Ext.new hp) (S.new hp) _ (.tup (.inl (.inl upd_same)) (r.ext (Ext.new hp)))
/-- a new list -/
theorem OpO.newLst {xs : List D} {vs : List V} {Q : VK} (S : SR K ι H M) (h : OpO K ι H (some (.ref M.length, M ++ [.lst xs])) (VR K Q)) (r : RpA K ι H xs vs) : ∀ p, H p = none → Q (.ref p) (upd H p (.lst vs)) := fun p hp =>
  h (ι ++ [p]) _ (Ext.more hp) (S.alloc hp ⟨vs, upd_same, r.ext (Ext.more hp)⟩) _ (.ref (by rw [← S.len]; simp))
/-- a list is written, a value told -/
theorem OpO.setLst {n : Nat} {a : Addr} {xs ys : List D} {vs : List V} {d : D} {v : V} {Q : VK} (S : SR K ι H M) (h : OpO K ι H (some (d, M.set n (.lst ys))) (VR K Q)) (ha : ι[n]? = some a) (hm : M[n]? = some (.lst xs)) (r : RpA K ι H ys vs) (rd : Rp K ι H d v) :
    Q v (upd H a (.lst vs)) := by
  have k0 := S.ok n a _ ha hm
  have nt := k0.notTup (u := .lst xs) rfl
  exact h ι _ (Ext.upd nt) (S.write ha hm rfl rfl ⟨vs, upd_same, r.ext (Ext.upd nt)⟩) v (rd.ext (Ext.upd nt))
/-- a list that is there -/
def seqAt (M : Mem) (n : Nat) : Option (List D) := match M[n]? with
  | some (.lst xs) => some xs
  | some (.rol xs) => some xs
  | _ => none
theorem SR.seq (S : SR K ι H M) {n : Nat} {a : Addr} {xs : List D} (ha : ι[n]? = some a) (h : seqAt M n = some xs) : ∃ vs, SqL K H a vs ∧ RpA K ι H xs vs := by
  unfold seqAt at h
  cases q : M[n]? with
  | none => rw [q] at h; cases h
  | some o =>
    rw [q] at h
    cases o with
    | lst ys => cases h; obtain ⟨vs, h1, h2⟩ := S.ok n a _ ha q; exact ⟨vs, SqL.of h1, h2⟩
    | rol ys => cases h; obtain ⟨vs, h1, h2⟩ := S.ok n a _ ha q; exact ⟨vs, h1.sq, h2⟩
    | ins c fs => cases h
    | dct kvs => cases h
    | dcs fs => cases h
    | dcz kvs => cases h
theorem SR.lst (S : SR K ι H M) {n : Nat} {a : Addr} {xs : List D} (ha : ι[n]? = some a) (h : M[n]? = some (.lst xs)) : ∃ vs, H a = some (.lst vs) ∧ RpA K ι H xs vs := S.ok n a _ ha h
end
def mAdd : Op2 := fun a b M => match a, b with
  | .int i, .int j => some (.int (i + j), M)
  | .str x, .str y => if x.length + y.length ≤ sizeLine then some (.str (x ++ y), M) else none
  | .tup xs, .tup ys => if xs.length + ys.length ≤ sizeLine then some (.tup (xs ++ ys), M) else none
  | .ref n, .ref m => match M[n]?, M[m]? with
    | some (.lst xs), some (.lst ys) => if xs.length + ys.length ≤ sizeLine then some (.ref M.length, M ++ [.lst (xs ++ ys)]) else none
    | _, _ => none
  | _, _ => none
theorem o_add {X : Cx} : OpR X (binaryOp .Add) (rD2 X.K mAdd) := by
  refine OpR.imp ((op_add.or op_add_str).or (op_catA.or op_cat)) fun x y H Q h => ?_
  obtain ⟨ι, M, a, b, S, ra, rb, h⟩ := h
  unfold mAdd at h
  split at h
  · cases ra.int_inv; cases rb.int_inv
    exact .inl (.inl ⟨_, _, rfl, rfl, h.val S (.int _)⟩)
  · cases ra.str_inv; cases rb.str_inv
    split at h
    · exact .inl (.inr ⟨_, _, rfl, rfl, by assumption, h.val S (.str _)⟩)
    · exact h.elim
  · obtain ⟨p, vs, rfl, t1, r1⟩ := ra.tup_inv
    obtain ⟨q, us, rfl, t2, r2⟩ := rb.tup_inv
    have l1 := r1.length
    have l2 := r2.length
    split at h
    · refine .inr (.inl ⟨_, _, vs, us, rfl, rfl, t1, t2, by omega, fun e => ?_, fun e1 e2 => ?_, fun e1 e2 => ?_⟩)
      · subst e
        cases r1
        exact h.val S (.tup t2 r2)
      · subst e2
        cases r2
        refine h.val S (.tup t1 ?_)
        rw [List.append_nil]; exact r1
      · exact h.newTup S (r1.append r2)
    · exact h.elim
  · obtain ⟨p, rfl, hp⟩ := ra.ref_inv
    obtain ⟨q, rfl, hq⟩ := rb.ref_inv
    split at h
    · rename_i m1 m2
      obtain ⟨vs, h1, r1⟩ := S.lst hp m1
      obtain ⟨us, h2, r2⟩ := S.lst hq m2
      have l1 := r1.length
      have l2 := r2.length
      split at h
      · exact .inr (.inr ⟨_, _, _, _, rfl, rfl, h1, h2, by omega, h.newLst S (r1.append r2)⟩)
      · exact h.elim
    · exact h.elim
  · exact h.elim
def mSub : Op2 := fun a b M => match a, b with
  | .int i, .int j => some (.int (i - j), M)
  | _, _ => none
theorem o_sub {X : Cx} : OpR X (binaryOp .Sub) (rD2 X.K mSub) := by
  refine OpR.imp op_sub fun x y H Q h => ?_
  obtain ⟨ι, M, a, b, S, ra, rb, h⟩ := h
  unfold mSub at h
  split at h
  · cases ra.int_inv; cases rb.int_inv
    exact ⟨_, _, rfl, rfl, h.val S (.int _)⟩
  · exact h.elim
def mMod : Op2 := fun a b M => match a, b with
  | .int i, .int j => if 0 < j then some (.int (i % j), M) else none
  | _, _ => none
theorem o_mod {X : Cx} : OpR X (binaryOp .Mod) (rD2 X.K mMod) := by
  refine OpR.imp op_mod fun x y H Q h => ?_
  obtain ⟨ι, M, a, b, S, ra, rb, h⟩ := h
  unfold mMod at h
  split at h
  · cases ra.int_inv; cases rb.int_inv
    split at h
    · exact ⟨_, _, rfl, rfl, by assumption, h.val S (.int _)⟩
    · exact h.elim
  · exact h.elim
def mFdiv : Op2 := fun a b M => match a, b with
  | .int i, .int j => if 0 < j ∧ j < 1073741824 then some (.int (i / j), M) else none
  | _, _ => none
theorem o_fdiv {X : Cx} : OpR X (binaryOp .FloorDiv) (rD2 X.K mFdiv) := by
  refine OpR.imp op_fdiv fun x y H Q h => ?_
  obtain ⟨ι, M, a, b, S, ra, rb, h⟩ := h
  unfold mFdiv at h
  split at h
  · cases ra.int_inv; cases rb.int_inv
    split at h
    · exact ⟨_, _, rfl, rfl, by assumption, h.val S (.int _)⟩
    · exact h.elim
  · exact h.elim
def mPow : Op2 := fun a b M => match a, b with
  | .int i, .int j => if 0 ≤ j ∧ j ≤ 1000000 ∧ i.natAbs < 2 ^ 64 then some (.int (i ^ j.toNat), M) else none
  | _, _ => none
theorem o_pow {X : Cx} : OpR X (binaryOp .Pow) (rD2 X.K mPow) := by
  refine OpR.imp op_pow fun x y H Q h => ?_
  obtain ⟨ι, M, a, b, S, ra, rb, h⟩ := h
  unfold mPow at h
  split at h
  · cases ra.int_inv; cases rb.int_inv
    split at h
    · exact ⟨_, _, rfl, rfl, by assumption, h.val S (.int _)⟩
    · exact h.elim
  · exact h.elim
end TL
end
section
namespace TL
open PySem PySem.Spec PyProof.Rows L2
theorem tuple_mul1 (l : Addr) (items : Array Value) (n : Nat) (dd : Option Addr) (sl : Array (Option Value)) (u : Tok) :
    Meets (Builtin.«tuple.__mul__» ⟨[.ref l, .int 1 u], []⟩) (fun _ R s => s.heap.get? l = some { cls := .type "tuple", dict := dd, data := .seq items n, slots := sl } ∧
      R (.ok (.ret (Value.ref l))) s) :=
  .of_wp fun prog w A R s h => by
    obtain ⟨hp, g, d, tk, os⟩ := s
    obtain ⟨hl, h⟩ := h
    have f1 := AutoSeq1.idx_int
    have c1 : (items.isEmpty || (1 : Int) == 1) = true := by simp
    wp_walk using wpAny_loadPart' hl
    exact ⟨_, rfl, h⟩
def rRep1 (K : PySem.W.Frag) : R2 := fun x y H Q => ∃ l xs, x = .ref l ∧ y = .int 1 ∧ SqT K H l xs ∧ Q (.ref l) H
theorem op_rep1 {X : Cx} : OpR X (binaryOp .Mult) (rRep1 X.K) := by
  intro pins s σ H x y v u Q I rx ry h
  obtain ⟨l, xs, rfl, rfl, hT, q⟩ := h
  cases rx
  obtain ⟨t, rfl⟩ := ry
  obtain ⟨its, r, ⟨⟨cls, dd, data, sl⟩, ho, hc, n, hd⟩, hs⟩ := I.tuple hT
  simp only at hc hd
  subst hc hd
  refine wpAny_binaryOp_repeat_ref (T := "tuple") (U := "int") (by decide) ⟨_, ho, rfl⟩ (fun s' => typeIs_int s' 1 t) noFill_tuple_mul F.fills_int_mul F.slot_int_rmul repeat_tuple F.slot_int_index.lookup
    (call_meets F.slot_int_rmul (typeIs_int s 1 t) F.entry_int_rmul (F.args_int_rmul_2 _ _) (int_rmul_tuple 1 t l its.toArray n dd sl)
      ⟨ho, rfl, ⟨_, ho, rfl⟩, call_meets F.slot_tuple_mul ⟨_, ho, rfl⟩ F.entry_tuple_mul (F.args_tuple_mul_2 _ _) (tuple_mul1 l its.toArray n dd sl t) ⟨ho, ?_⟩⟩)
  exact ⟨.ref l, _, I.tok s.toks, rfl, q⟩
noncomputable def mMul : Op2 := fun a b M => match a, b with
  | .int i, .int j => @ite _ ((-(2 ^ 64) < i ∧ i < 2 ^ 64) ∨ (-(2 ^ 64) < j ∧ j < 2 ^ 64)) (Classical.propDecidable _) (some (.int (i * j), M)) none
  | .tup xs, .int k => if k = 1 then some (.tup xs, M) else
      if xs ≠ [] ∧ 2 ≤ k ∧ k ≤ 1000 ∧ xs.length ≤ 1000 then some (.tup (List.replicate k.toNat xs).flatten, M) else none
  | .ref n, .int k => match M[n]? with
    | some (.lst xs) => @ite _ (-(2 ^ 63) ≤ k ∧ k < 2 ^ 63 ∧ xs.length * k.toNat ≤ sizeLine) (Classical.propDecidable _) (some (.ref M.length, M ++ [.lst (List.replicate k.toNat xs).flatten])) none
    | _ => none
  | _, _ => none
theorem o_mul {X : Cx} : OpR X (binaryOp .Mult) (rD2 X.K mMul) := by
  refine OpR.imp ((op_mul.or op_rep1).or (op_repT.or op_rep)) fun x y H Q h => ?_
  obtain ⟨ι, M, a, b, S, ra, rb, h⟩ := h
  unfold mMul at h
  split at h
  · cases ra.int_inv; cases rb.int_inv
    split at h
    · exact .inl (.inl ⟨_, _, rfl, rfl, by assumption, h.val S (.int _)⟩)
    · exact h.elim
  · cases rb.int_inv
    obtain ⟨p, vs, rfl, t1, r1⟩ := ra.tup_inv
    have l1 := r1.length
    split at h
    · rename_i e; subst e
      exact .inl (.inr ⟨_, _, rfl, rfl, t1, h.val S (.tup t1 r1)⟩)
    · split at h
      · rename_i c
        refine .inr (.inl ⟨_, _, vs, rfl, rfl, t1, fun e => c.1 ?_, c.2.1, c.2.2.1, by omega, h.newTup S (r1.rep _)⟩)
        subst e; cases r1; rfl
      · exact h.elim
  · cases rb.int_inv
    obtain ⟨p, rfl, hp⟩ := ra.ref_inv
    split at h
    · rename_i m1
      obtain ⟨vs, h1, r1⟩ := S.lst hp m1
      have l1 := r1.length
      split at h
      · rename_i c
        exact .inr (.inr ⟨_, _, vs, rfl, rfl, h1, c.1, c.2.1, by rw [← l1]; exact c.2.2, h.newLst S (r1.rep _)⟩)
      · exact h.elim
    · exact h.elim
  · exact h.elim
def mNeg : Op1 := fun a M => match a with
  | .int i => some (.int (-i), M)
  | _ => none
theorem o_neg {X : Cx} : UnR X (unaryOp .USub) (rD1 X.K mNeg) := by
  refine UnR.imp un_neg fun x H Q h => ?_
  obtain ⟨ι, M, a, S, ra, h⟩ := h
  unfold mNeg at h
  split at h
  · cases ra.int_inv
    exact ⟨_, rfl, h.val S (.int _)⟩
  · exact h.elim
def mCmp (p : Int → Int → Bool) : Op2 := fun a b M => match a, b with
  | .int i, .int j => some (.bl (p i j), M)
  | _, _ => none
theorem o_cmp {X : Cx} {f : Value → Value → Sem Value} {p : Int → Int → Bool} (h : OpR X f (rI0 fun i j => .bl (p i j))) : OpR X f (rD2 X.K (mCmp p)) := by
  refine OpR.imp h fun x y H Q h => ?_
  obtain ⟨ι, M, a, b, S, ra, rb, h⟩ := h
  unfold mCmp at h
  split at h
  · cases ra.int_inv; cases rb.int_inv
    exact ⟨_, _, rfl, rfl, h.val S (.bl _)⟩
  · exact h.elim
abbrev mLt : Op2 := mCmp fun i j => decide (i < j)
abbrev mLe : Op2 := mCmp fun i j => decide (i ≤ j)
abbrev mGt : Op2 := mCmp fun i j => decide (j < i)
abbrev mGe : Op2 := mCmp fun i j => decide (j ≤ i)
theorem o_lt {X : Cx} : OpR X (compareOp .Lt) (rD2 X.K mLt) := o_cmp op_lt
theorem o_le {X : Cx} : OpR X (compareOp .LtE) (rD2 X.K mLe) := o_cmp op_le
theorem o_gt {X : Cx} : OpR X (compareOp .Gt) (rD2 X.K mGt) := o_cmp op_gt
theorem o_ge {X : Cx} : OpR X (compareOp .GtE) (rD2 X.K mGe) := o_cmp op_ge
def optAll {α β : Type} (f : α → Option β) : List α → Option (List β)
  | [] => some []
  | x :: xs => match f x, optAll f xs with
    | some y, some ys => some (y :: ys)
    | _, _ => none
def toP : Nat → Mem → D → Option PyData
  | 0, _, _ => none
  | _ + 1, _, .non => some .none
  | _ + 1, _, .bl b => some (.bool b)
  | _ + 1, _, .int i => some (.int i)
  | _ + 1, _, .str x => some (.str x)
  | n + 1, M, .tup xs => (optAll (toP n M) xs).map .tuple
  | n + 1, M, .ref r => match seqAt M r with
    | some xs => (optAll (toP n M) xs).map .list
    | none => none
  | _ + 1, _, .err _ => none
section
variable {K : PySem.W.Frag} {ι : List Addr} {H : Hp} {M : Mem}
theorem dpAll_of {f : D → Option PyData} (ih : ∀ d v p, Rp K ι H d v → f d = some p → Dp K H v p) : ∀ {ds : List D} {vs : List V} {ps : List PyData}, RpA K ι H ds vs → optAll f ds = some ps → DpAll K H vs ps
  | _, _, _, .nil, e => by cases e; exact .nil
  | d :: ds, v :: vs, ps, .cons r t, e => by
    unfold optAll at e
    split at e
    · rename_i h1 h2
      cases e
      exact .cons (ih _ _ _ r h1) (dpAll_of ih t h2)
    · cases e
theorem dp_of (S : SR K ι H M) : ∀ (n : Nat) (d : D) (v : V) (p : PyData), Rp K ι H d v → toP n M d = some p → Dp K H v p
  | 0, _, _, _, _, e => by cases e
  | n + 1, d, v, p, r, e => by
    cases d with
    | non => cases r.non_inv; cases e; exact .non
    | bl b => cases r.bl_inv; cases e; exact .bl b
    | int i => cases r.int_inv; cases e; exact .int i
    | str x => cases r.str_inv; cases e; exact .str x
    | err x => cases e
    | tup xs =>
      obtain ⟨a, vs, rfl, h1, h2⟩ := r.tup_inv
      have e' : (optAll (toP n M) xs).map PyData.tuple = some p := e
      cases q : optAll (toP n M) xs with
      | none => rw [q] at e'; cases e'
      | some ps => rw [q] at e'; cases e'; exact .tup h1 (dpAll_of (fun d v p => dp_of S n d v p) h2 q)
    | ref m =>
      obtain ⟨a, rfl, ha⟩ := r.ref_inv
      have e' : (match seqAt M m with | some xs => (optAll (toP n M) xs).map PyData.list | none => none) = some p := e
      cases q0 : seqAt M m with
      | none => rw [q0] at e'; cases e'
      | some xs =>
        rw [q0] at e'
        obtain ⟨vs, h1, h2⟩ := S.seq ha q0
        cases q : optAll (toP n M) xs with
        | none => simp only [q] at e'; cases e'
        | some ps => simp only [q] at e'; cases e'; exact .lst h1 (dpAll_of (fun d v p => dp_of S n d v p) h2 q)
end
/-- two texts, whatever their signs -/
def strEq (a b : D) : Option Bool := match a, b with
  | .str x, .str y => some (decide (x = y))
  | _, _ => none
theorem strEq_ok {a b : D} {k : Bool} (h : strEq a b = some k) : ∃ x y, a = .str x ∧ b = .str y ∧ k = decide (x = y) := by
  unfold strEq at h
  split at h
  · exact ⟨_, _, rfl, rfl, (Option.some.inj h).symm⟩
  · cases h
theorem scal_str {x y : Str} : scal (V.str x) (V.str y) = true := rfl
theorem str_dec {x y : Str} : decide (V.str x = V.str y) = decide (x = y) := by
  by_cases h : x = y
  · subst h; simp
  · have : V.str x ≠ V.str y := fun e => h (V.str.inj e)
    simp [h]
/-- a == b -/
def eqD (M : Mem) (a b : D) : Option Bool := match toP 64 M a, toP 64 M b with
  | some p, some q => if SeqAt.shaped p = true ∧ SeqAt.shaped q = true then some (PyData.eqv p q) else strEq a b
  | _, _ => none
def mEq : Op2 := fun a b M => (eqD M a b).map fun k => (.bl k, M)
def mNe : Op2 := fun a b M => (eqD M a b).map fun k => (.bl (!k), M)
theorem o_eq {X : Cx} (hu : X.A.units + 64 < cLine) : OpR X (compareOp .Eq) (rD2 X.K mEq) := by
  refine OpR.imp ((op_eqD hu).or op_eq) fun x y H Q h => ?_
  obtain ⟨ι, M, a, b, S, ra, rb, h⟩ := h
  unfold mEq eqD at h
  split at h
  · rename_i p q h1 h2
    split at h
    · rename_i c
      exact .inl ⟨p, q, dp_of S _ _ _ _ ra h1, dp_of S _ _ _ _ rb h2, c.1, c.2, h.val S (.bl _)⟩
    · cases e : strEq a b with
      | none => rw [e] at h; exact h.elim
      | some k =>
        rw [e] at h
        obtain ⟨x, y, rfl, rfl, rfl⟩ := strEq_ok e
        cases ra.str_inv; cases rb.str_inv
        refine .inr ⟨scal_str, ?_⟩
        rw [str_dec]
        exact OpO.val S h (.bl _)
  · exact h.elim
theorem o_ne {X : Cx} (hu : X.A.units + 64 < cLine) : OpR X (compareOp .NotEq) (rD2 X.K mNe) := by
  refine OpR.imp ((op_neD hu).or op_ne) fun x y H Q h => ?_
  obtain ⟨ι, M, a, b, S, ra, rb, h⟩ := h
  unfold mNe eqD at h
  split at h
  · rename_i p q h1 h2
    split at h
    · rename_i c
      exact .inl ⟨p, q, dp_of S _ _ _ _ ra h1, dp_of S _ _ _ _ rb h2, c.1, c.2, h.val S (.bl _)⟩
    · cases e : strEq a b with
      | none => rw [e] at h; exact h.elim
      | some k =>
        rw [e] at h
        obtain ⟨x, y, rfl, rfl, rfl⟩ := strEq_ok e
        cases ra.str_inv; cases rb.str_inv
        refine .inr ⟨scal_str, ?_⟩
        rw [str_dec]
        exact OpO.val S h (.bl _)
  · exact h.elim
def isNon : D → Bool
  | .non => true
  | _ => false
def mIs : Op2 := fun a b M => match b with
  | .non => some (.bl (isNon a), M)
  | .bl c => match a with
    | .bl b => some (.bl (b == c), M)
    | _ => none
  | _ => none
def mIsNot : Op2 := fun a b M => match b with
  | .non => some (.bl (!isNon a), M)
  | .bl c => match a with
    | .bl b => some (.bl (!(b == c)), M)
    | _ => none
  | _ => none
theorem isNon_v {K : PySem.W.Frag} {ι : List Addr} {H : Hp} {d : D} {v : V} (r : Rp K ι H d v) : decide (v = .non) = isNon d := by
  cases r <;> simp [isNon]
theorem o_is {X : Cx} : OpR X (compareOp .Is) (rD2 X.K mIs) := by
  refine OpR.imp (op_isN.or op_is_bl) fun x y H Q h => ?_
  obtain ⟨ι, M, a, b, S, ra, rb, h⟩ := h
  unfold mIs at h
  split at h
  · cases rb.non_inv
    exact .inl ⟨rfl, by rw [isNon_v ra]; exact h.val S (.bl _)⟩
  · cases rb.bl_inv
    split at h
    · cases ra.bl_inv
      refine .inr ⟨_, _, rfl, rfl, ?_⟩
      rw [show ∀ a b : Bool, decide (a = b) = (a == b) from by decide]
      exact h.val S (.bl _)
    · exact h.elim
  · exact h.elim
theorem o_isNot {X : Cx} : OpR X (compareOp .IsNot) (rD2 X.K mIsNot) := by
  refine OpR.imp (op_notN.or op_isnot_bl) fun x y H Q h => ?_
  obtain ⟨ι, M, a, b, S, ra, rb, h⟩ := h
  unfold mIsNot at h
  split at h
  · cases rb.non_inv
    exact .inl ⟨rfl, by rw [isNon_v ra]; exact h.val S (.bl _)⟩
  · cases rb.bl_inv
    split at h
    · cases ra.bl_inv
      refine .inr ⟨_, _, rfl, rfl, ?_⟩
      rw [show ∀ a b : Bool, decide (a = b) = (a == b) from by decide]
      exact h.val S (.bl _)
    · exact h.elim
  · exact h.elim
def flatD : D → Bool
  | .non => true
  | .bl _ => true
  | .int _ => true
  | .str _ => true
  | _ => false
def eqF : D → D → Bool
  | .non, .non => true
  | .bl a, .bl b => a == b
  | .bl a, .int b => (if a then 1 else 0) == b
  | .int a, .bl b => a == (if b then 1 else 0)
  | .int a, .int b => a == b
  | .str a, .str b => a == b
  | _, _ => false
def inF (x : D) (xs : List D) : Bool := xs.any fun y => eqF y x
section
variable {K : PySem.W.Frag} {ι : List Addr} {H : Hp} {M : Mem}
theorem flat_v {d : D} {v : V} (r : Rp K ι H d v) : flatV v = flatD d := by cases r <;> rfl
theorem flat_all : ∀ {ds : List D} {vs : List V}, RpA K ι H ds vs → vs.all flatV = ds.all flatD
  | _, _, .nil => rfl
  | _, _, .cons r t => by rw [List.all_cons, List.all_cons, flat_v r, flat_all t]
theorem eqF_v {d e : D} {v u : V} (r : Rp K ι H d v) (q : Rp K ι H e u) : eqV v u = eqF d e := by cases r <;> cases q <;> rfl
theorem inF_v {d : D} {v : V} (r : Rp K ι H d v) : ∀ {ds : List D} {vs : List V}, RpA K ι H ds vs → inV v vs = inF d ds
  | _, _, .nil => rfl
  | _, _, .cons q t => by
    show (eqV _ _ || _) = (eqF _ _ || _)
    rw [eqF_v q r]
    congr 1
    exact inF_v r t
end
def inD (M : Mem) (a b : D) : Option Bool := match a, b with
  | .str x, .str z => if h : x.cps.size = 1 then some (decide (x.cps[0] ∈ z.cps.toList)) else none
  | d, .tup xs => if flatD d = true ∧ xs.all flatD = true then some (inF d xs) else none
  | d, .ref n => match seqAt M n with
    | some xs => if flatD d = true ∧ xs.all flatD = true then some (inF d xs) else none
    | none => none
  | _, _ => none
def mIn : Op2 := fun a b M => (inD M a b).map fun k => (.bl k, M)
def mNotIn : Op2 := fun a b M => (inD M a b).map fun k => (.bl (!k), M)
theorem str1 {x : Str} (h : x.cps.size = 1) : x = ⟨#[x.cps[0]]⟩ := by
  obtain ⟨⟨l⟩⟩ := x
  match l, h with
  | [c], _ => rfl
theorem o_in {X : Cx} : OpR X (compareOp .In) (rD2 X.K mIn) := by
  refine OpR.imp (op_in_sign.or op_in_seq) fun x y H Q h => ?_
  obtain ⟨ι, M, a, b, S, ra, rb, h⟩ := h
  unfold mIn inD at h
  split at h
  · cases ra.str_inv; cases rb.str_inv
    split at h
    · rename_i c
      exact .inl ⟨_, _, congrArg V.str (str1 c), rfl, h.val S (.bl _)⟩
    · exact h.elim
  · obtain ⟨p, vs, rfl, t1, r1⟩ := rb.tup_inv
    split at h
    · rename_i c
      refine .inr ⟨_, vs, rfl, .inr t1, by rw [flat_v ra]; exact c.1, by rw [flat_all r1]; exact c.2, ?_⟩
      rw [inF_v ra r1]
      exact h.val S (.bl _)
    · exact h.elim
  · obtain ⟨p, rfl, hp⟩ := rb.ref_inv
    split at h
    · rename_i m
      obtain ⟨vs, h1, r1⟩ := S.seq hp m
      split at h
      · rename_i c
        refine .inr ⟨_, vs, rfl, .inl h1, by rw [flat_v ra]; exact c.1, by rw [flat_all r1]; exact c.2, ?_⟩
        rw [inF_v ra r1]
        exact h.val S (.bl _)
      · exact h.elim
    · exact h.elim
  · exact h.elim
theorem o_notIn {X : Cx} : OpR X (compareOp .NotIn) (rD2 X.K mNotIn) := by
  refine OpR.imp (op_notIn_sign.or op_notIn_seq) fun x y H Q h => ?_
  obtain ⟨ι, M, a, b, S, ra, rb, h⟩ := h
  unfold mNotIn inD at h
  split at h
  · cases ra.str_inv; cases rb.str_inv
    split at h
    · rename_i c
      exact .inl ⟨_, _, congrArg V.str (str1 c), rfl, h.val S (.bl _)⟩
    · exact h.elim
  · obtain ⟨p, vs, rfl, t1, r1⟩ := rb.tup_inv
    split at h
    · rename_i c
      refine .inr ⟨_, vs, rfl, .inr t1, by rw [flat_v ra]; exact c.1, by rw [flat_all r1]; exact c.2, ?_⟩
      rw [inF_v ra r1]
      exact h.val S (.bl _)
    · exact h.elim
  · obtain ⟨p, rfl, hp⟩ := rb.ref_inv
    split at h
    · rename_i m
      obtain ⟨vs, h1, r1⟩ := S.seq hp m
      split at h
      · rename_i c
        refine .inr ⟨_, vs, rfl, .inl h1, by rw [flat_v ra]; exact c.1, by rw [flat_all r1]; exact c.2, ?_⟩
        rw [inF_v ra r1]
        exact h.val S (.bl _)
      · exact h.elim
    · exact h.elim
  · exact h.elim
def mIdx : Op2 := fun a b M => match a, b with
  | .tup xs, .int i => (atI xs i).map fun d => (d, M)
  | .ref n, .int i => match seqAt M n with
    | some xs => (atI xs i).map fun d => (d, M)
    | none => none
  | .str z, .int i => if z.length ≤ sizeLine then (atI z.cps.toList i).map fun c => (.str ⟨#[c]⟩, M) else none
  | _, _ => none
section
variable {K : PySem.W.Frag} {ι : List Addr} {H : Hp} {M : Mem}
theorem atI_v {ds : List D} {vs : List V} {i : Int} {d : D} (r : RpA K ι H ds vs) (h : atI ds i = some d) : ∃ v, atI vs i = some v ∧ Rp K ι H d v := by
  unfold atI at h ⊢
  rw [← r.length]
  cases q : ixN ds.length i with
  | none => rw [q] at h; cases h
  | some j =>
    rw [q] at h
    exact r.get (i := j) h
end
theorem ix_D {X : Cx} : IxR X (rD2 X.K mIdx) := by
  refine IxR.imp ix_seq fun x y H Q h => ?_
  obtain ⟨ι, M, a, b, S, ra, rb, h⟩ := h
  unfold mIdx at h
  split at h
  · cases rb.int_inv
    obtain ⟨p, vs, rfl, t1, r1⟩ := ra.tup_inv
    rename_i xs i
    cases q : atI xs i with
    | none => rw [q] at h; exact h.elim
    | some d =>
      rw [q] at h
      obtain ⟨v, e, rv⟩ := atI_v r1 q
      exact .inr (.inl ⟨_, _, _, v, rfl, rfl, t1, e, h.val S rv⟩)
  · cases rb.int_inv
    obtain ⟨p, rfl, hp⟩ := ra.ref_inv
    split at h
    · rename_i xs m
      obtain ⟨vs, h1, r1⟩ := S.seq hp m
      rename_i i _
      cases q : atI xs i with
      | none => rw [q] at h; exact h.elim
      | some d =>
        rw [q] at h
        obtain ⟨v, e, rv⟩ := atI_v r1 q
        exact .inl ⟨_, _, _, v, rfl, rfl, h1, e, h.val S rv⟩
    · exact h.elim
  · cases ra.str_inv; cases rb.int_inv
    split at h
    · rename_i z i c
      cases q : atI z.cps.toList i with
      | none => rw [q] at h; exact h.elim
      | some d =>
        rw [q] at h
        exact .inr (.inr ⟨_, _, _, rfl, rfl, c, q, h.val S (.str _)⟩)
    · exact h.elim
  · exact h.elim
/-- the items from lo to hi -/
def cutL {α : Type} (xs : List α) (lo hi : Option Int) : List α := (xs.drop (HT.sIx xs.length 0 lo)).take (HT.sIx xs.length xs.length hi - HT.sIx xs.length 0 lo)
def mSl : D → Option Int → Option Int → Mem → Option (D × Mem) := fun d lo hi M => match d with
  | .tup xs => some (.tup (cutL xs lo hi), M)
  | .ref n => match seqAt M n with
    | some xs => some (.ref M.length, M ++ [.lst (cutL xs lo hi)])
    | none => none
  | .str z => if z.length ≤ sizeLine then some (.str (cutS z lo hi), M) else none
  | _ => none
section
variable {K : PySem.W.Frag} {ι : List Addr} {H : Hp} {M : Mem}
theorem cut_v {ds : List D} {vs : List V} {lo hi : Option Int} (r : RpA K ι H ds vs) : RpA K ι H (cutL ds lo hi) (cutV vs lo hi) := by
  unfold cutL cutV
  rw [← r.length]
  exact (r.drop _).take _
theorem cut_whole {α : Type} {xs : List α} {lo hi : Option Int} (h : HT.sIx xs.length 0 lo = 0 ∧ HT.sIx xs.length xs.length hi = xs.length) : cutL xs lo hi = xs := by
  unfold cutL
  rw [h.1, h.2]
  simp
end
theorem sl_D {X : Cx} : SlR X (rDSl X.K mSl) := by
  refine SlR.imp ((sl_tupA.or sl_list).or sl_str) fun x lo hi H Q h => ?_
  obtain ⟨ι, M, a, S, ra, h⟩ := h
  unfold mSl at h
  split at h
  · obtain ⟨p, vs, rfl, t1, r1⟩ := ra.tup_inv
    refine .inl (.inl ⟨_, vs, rfl, t1, fun e => ?_, fun _ => h.newTup S (cut_v r1)⟩)
    refine h.val S (.tup t1 ?_)
    rw [← r1.length] at e
    rw [cut_whole e]
    exact r1
  · obtain ⟨p, rfl, hp⟩ := ra.ref_inv
    split at h
    · rename_i m
      obtain ⟨vs, h1, r1⟩ := S.seq hp m
      exact .inl (.inr ⟨_, vs, rfl, h1, h.newLst S (cut_v r1)⟩)
    · exact h.elim
  · cases ra.str_inv
    split at h
    · exact .inr ⟨_, rfl, by assumption, h.val S (.str _)⟩
    · exact h.elim
  · exact h.elim
end TL
end
section
namespace TL
open PySem PySem.Spec PyProof.Rows L2
def eVar (i : Nat) : ME := fun env M => match env[i]? with
  | some (some d) => .ok d M
  | _ => .stuck
def eC (d : D) : ME := fun _ M => .ok d M
def eBin (f : Op2) (a b : ME) : ME := fun env M => (a env M).bind fun x M1 => (b env M1).bind fun y M2 => liftO (f x y M2)
def eUn (f : Op1) (a : ME) : ME := fun env M => (a env M).bind fun x M1 => liftO (f x M1)
def kBl {β : Type} (d : D) (f : Bool → Out β) : Out β := match d with
  | .bl k => f k
  | _ => .stuck
@[simp] theorem kBl_bl {β : Type} (k : Bool) (f : Bool → Out β) : kBl (.bl k) f = f k := rfl
def eChain (f g : Op2) (a b c : ME) : ME := fun env M => (a env M).bind fun x M1 => (b env M1).bind fun y M2 => (liftO (f x y M2)).bind fun z M3 => kBl z fun k =>
  if k = true then (c env M3).bind fun w M4 => liftO (g y w M4) else .ok (.bl false) M3
def eAnd (a b : ME) : ME := fun env M => (a env M).bind fun x M1 => kBl x fun k => if k = true then b env M1 else .ok (.bl false) M1
def eOr (a b : ME) : ME := fun env M => (a env M).bind fun x M1 => kBl x fun k => if k = true then .ok (.bl true) M1 else b env M1
def eNot (a : ME) : ME := fun env M => (a env M).bind fun x M1 => kBl x fun k => .ok (.bl (!k)) M1
def eIf (t : MT) (a b : ME) : ME := fun env M => (t env M).bind fun k M1 => if k = true then a env M1 else b env M1
def truD (M : Mem) (d : D) : Option Bool := match d with
  | .non => some false
  | .bl b => some b
  | .int i => some (i != 0)
  | .str x => if x.length ≤ sizeLine then some ((x.length : Int) != 0) else none
  | .tup xs => some (!xs.isEmpty)
  | .ref n => (seqAt M n).map fun xs => !xs.isEmpty
  | .err _ => none
def tB (e : ME) : MT := fun env M => (e env M).bind fun d M1 => kBl d fun k => .ok k M1
def tTru (e : ME) : MT := fun env M => (e env M).bind fun d M1 => match truD M1 d with
  | some k => .ok k M1
  | none => .stuck
def tAnd (a b : MT) : MT := fun env M => (a env M).bind fun k M1 => if k = true then b env M1 else .ok false M1
def tOr (a b : MT) : MT := fun env M => (a env M).bind fun k M1 => if k = true then .ok true M1 else b env M1
def tNot (a : MT) : MT := fun env M => (a env M).bind fun k M1 => .ok (!k) M1
def aNil : MA := fun _ M => .ok [] M
def aCons (a : ME) (r : MA) : MA := fun env M => (a env M).bind fun x M1 => (r env M1).bind fun xs M2 => .ok (x :: xs) M2
def eTup (a : MA) : ME := fun env M => (a env M).bind fun xs M1 => if xs.length ≤ 1000 then .ok (.tup xs) M1 else .stuck
def eLst (a : MA) : ME := fun env M => (a env M).bind fun xs M1 => if xs.length ≤ 1000 then .ok (.ref M1.length) (M1 ++ [.lst xs]) else .stuck
def eCall (m : List D → Mem → Out D) (a : MA) : ME := fun env M => (a env M).bind m
def eCallO (f : OpN) (a : MA) : ME := fun env M => (a env M).bind fun xs M1 => liftO (f xs M1)
def kInt {β : Type} (d : D) (f : Int → Out β) : Out β := match d with
  | .int k => f k
  | _ => .stuck
@[simp] theorem kInt_int {β : Type} (k : Int) (f : Int → Out β) : kInt (.int k) f = f k := rfl
/-- a slice's part -/
abbrev MO' := Env → Mem → Out (Option Int)
def oNone : MO' := fun _ M => .ok none M
def oSome (a : ME) : MO' := fun env M => (a env M).bind fun x M1 => kInt x fun i => .ok (some i) M1
def eSl (a : ME) (lo hi : MO') : ME := fun env M => (a env M).bind fun x M1 => (lo env M1).bind fun l M2 => (hi env M2).bind fun h M3 => liftO (mSl x l h M3)
section
variable {K : PySem.W.Frag} {W : Value → Option Addr → Hp → Prop} {ι : List Addr} {H : Hp} {M : Mem}
theorem OutP.val {α : Type} {a : α} {R : α → Mem → List Addr → Hp → Prop} (S : SR K ι H M) (h : OutP K W ι H (.ok a M) R) : R a M ι H := h ι H Ext.refl S
theorem kBl_inv {β : Type} {d : D} {f : Bool → Out β} {R : β → Mem → List Addr → Hp → Prop} (h : OutP K W ι H (kBl d f) R) : ∃ k, d = .bl k ∧ OutP K W ι H (f k) R := by
  cases d with
  | bl k => exact ⟨k, rfl, h⟩
  | _ => exact h.elim
theorem kInt_inv {β : Type} {d : D} {f : Int → Out β} {R : β → Mem → List Addr → Hp → Prop} (h : OutP K W ι H (kInt d f) R) : ∃ k, d = .int k ∧ OutP K W ι H (f k) R := by
  cases d with
  | int k => exact ⟨k, rfl, h⟩
  | _ => exact h.elim
end
section
variable {X : Cx} {W : WX} {k : Nat}
variable {a b c e : Expr} {es : List Expr} {ma mb mc me : ME} {mas : MA} {pos : Pos} {mt mu : MT}
theorem d_var {i : Nat} {x : Str} (hN : X.N[i]? = some x := by rfl) (hv : Vis X.env.scope x := by first | exact Or.inl rfl | exact Or.inr (Or.inl rfl) | exact Or.inr (Or.inr rfl)) (hd : (x == ("__debug__" : Str)) = false := by decide)
    (hcd : (x == ("__classdict__" : Str)) = false := by decide) : PE X (.Name x pos) (LE X.K W (eVar i)) := (pe_var hN hv hd hcd).imp fun σ H Q ⟨ι, env, M, S, R, h⟩ => by
  unfold eVar at h
  split at h
  · rename_i d e
    obtain ⟨v, h1, h2⟩ := R.get e
    exact ⟨v, h1, h.val S v h2⟩
  · exact h.elim
theorem d_int {i : Int} {j : Nat} : PE X (.Constant (.int i) j pos) (LE X.K W (eC (.int i))) := pe_int.imp fun σ H Q ⟨ι, env, M, S, R, h⟩ => h.val S _ (.int i)
theorem d_str {x : Str} {j : Nat} : PE X (.Constant (.str x) j pos) (LE X.K W (eC (.str x))) := pe_str.imp fun σ H Q ⟨ι, env, M, S, R, h⟩ => h.val S _ (.str x)
theorem d_bl {x : Bool} {j : Nat} : PE X (.Constant (.bool x) j pos) (LE X.K W (eC (.bl x))) := pe_bl.imp fun σ H Q ⟨ι, env, M, S, R, h⟩ => h.val S _ (.bl x)
theorem d_non {j : Nat} : PE X (.Constant .none j pos) (LE X.K W (eC .non)) := pe_non.imp fun σ H Q ⟨ι, env, M, S, R, h⟩ => h.val S _ .non
/-- a module's constant -/
structure Glob (K : PySem.W.Frag) (mg : Str → Option Value) (x : Str) (d : D) : Prop where
  ex : ∃ (v : V) (u : Value), mg x = some u ∧ RelV v u ∧ ∀ ι H, Rp K ι H d v
theorem d_glob {x : Str} {d : D} (G : Glob X.K X.mg x d) (hg : Gl X x := by rfl) (hd : (x == ("__debug__" : Str)) = false := by decide) : PE X (.Name x pos) (LE X.K W (eC d)) := by
  obtain ⟨v, u, hm, r, q⟩ := G.ex
  exact (pe_glob hg hm r hd).imp fun σ H Q ⟨ι, env, M, S, R, h⟩ => h.val S v (q ι H)
/-- two in a row -/
theorem le_bin {r : R2} {f : Op2} (hr : ∀ x y H Q, rD2 X.K f x y H Q → r x y H Q) {σ : L2.St} {H : Hp} {Q : VK} (h : LE X.K W (eBin f ma mb) σ H Q) : tOp r (LE X.K W ma) (LE X.K W mb) σ H Q := by
  obtain ⟨ι, env, M, S, R, h⟩ := h
  exact ⟨ι, env, M, S, R, (OutP.bind h).imp fun x M1 ι1 H1 e1 S1 h1 v rv => ⟨ι1, env, M1, S1, R.ext e1, (OutP.bind h1).imp fun y M2 ι2 H2 e2 S2 h2 u ru =>
    hr _ _ _ _ ⟨ι2, M2, x, y, S2, rv.ext e2, ru, OpO.of h2⟩⟩⟩
theorem d_bin {op : Operator} {f : Op2} (ho : OpR X (binaryOp op) (rD2 X.K f)) (ha : PE X a (LE X.K W ma)) (hb : PE X b (LE X.K W mb)) : PE X (.BinOp a op b pos) (LE X.K W (eBin f ma mb)) :=
  (pe_op ho ha hb).imp fun σ H Q h => le_bin (fun _ _ _ _ z => z) h
theorem d_cmp {op : CmpOp} {f : Op2} (ho : OpR X (compareOp op) (rD2 X.K f)) (ha : PE X a (LE X.K W ma)) (hb : PE X b (LE X.K W mb)) (hm : behindInMarks op b = false) : PE X (.Compare a [op] [b] pos) (LE X.K W (eBin f ma mb)) :=
  (pe_cmpR ho ha hb hm).imp fun σ H Q h => le_bin (fun _ _ _ _ z => z) h
theorem d_idx (ha : PE X a (LE X.K W ma)) (hb : PE X b (LE X.K W mb)) (hs : PlainIx b := by exact fun _ _ => rfl) : PE X (.Subscript a b pos) (LE X.K W (eBin mIdx ma mb)) :=
  (pe_ix ix_D ha hb hs).imp fun σ H Q h => le_bin (fun _ _ _ _ z => z) h
theorem d_un {op : UnaryOp} {f : Op1} (ho : UnR X (unaryOp op) (rD1 X.K f)) (ha : PE X a (LE X.K W ma)) : PE X (.UnaryOp op a pos) (LE X.K W (eUn f ma)) :=
  (pe_un ho ha).imp fun σ H Q ⟨ι, env, M, S, R, h⟩ => ⟨ι, env, M, S, R, (OutP.bind h).imp fun x M1 ι1 H1 e1 S1 h1 v rv => ⟨ι1, M1, x, S1, rv, OpO.of h1⟩⟩
/-- a written negative number -/
theorem le_chain {f g : Op2} {σ : L2.St} {H : Hp} {Q : VK} (h : LE X.K W (eChain f g ma mb mc) σ H Q) : tChain (rD2 X.K f) (rD2 X.K g) (LE X.K W ma) (LE X.K W mb) (LE X.K W mc) σ H Q := by
  obtain ⟨ι, env, M, S, R, h⟩ := h
  refine ⟨ι, env, M, S, R, (OutP.bind h).imp fun x M1 ι1 H1 e1 S1 h1 v rv => ⟨ι1, env, M1, S1, R.ext e1, (OutP.bind h1).imp fun y M2 ι2 H2 e2 S2 h2 u ru => ?_⟩⟩
  refine ⟨ι2, M2, x, y, S2, rv.ext e2, ru, OpO.of ((OutP.bind h2).imp fun z M3 ι3 H3 e3 S3 h3 w rw => ?_)⟩
  obtain ⟨kk, rfl, h4⟩ := kBl_inv h3
  cases rw.bl_inv
  refine ⟨kk, rfl, ?_⟩
  cases kk with
  | false =>
    refine iteF ?_
    exact h4.val S3 _ (.bl _)
  | true =>
    refine iteT ?_
    exact ⟨ι3, env, M3, S3, R.ext ((e1.trans e2).trans e3), (OutP.bind h4).imp fun q M4 ι4 H4 e4 S4 h5 p rp => ⟨ι4, M4, y, q, S4, ru.ext (e3.trans e4), rp, OpO.of h5⟩⟩
theorem d_chain {op op' : CmpOp} {f g : Op2} (ho : OpR X (compareOp op) (rD2 X.K f)) (ho' : OpR X (compareOp op') (rD2 X.K g)) (ha : PE X a (LE X.K W ma)) (hb : PE X b (LE X.K W mb)) (hc : PE X c (LE X.K W mc))
    (hm : lastMarks [op, op'] [b, c] = false := by with_unfolding_all rfl) : PE X (.Compare a [op, op'] [b, c] pos) (LE X.K W (eChain f g ma mb mc)) :=
  (pe_chain ho ho' ha hb hc hm).imp fun σ H Q h => le_chain h
theorem d_one {op : BoolOp} (ha : PE X a (LE X.K W ma)) : PE X (.BoolOp op [a] pos) (LE X.K W ma) := pe_one ha
theorem d_and {rest : List Expr} (ha : PE X a (LE X.K W ma)) (hb : PE X (.BoolOp .And (b :: rest) pos) (LE X.K W mb)) : PE X (.BoolOp .And (a :: b :: rest) pos) (LE X.K W (eAnd ma mb)) :=
  (pe_and ha hb).imp fun σ H Q ⟨ι, env, M, S, R, h⟩ => ⟨ι, env, M, S, R, (OutP.bind h).imp fun x M1 ι1 H1 e1 S1 h1 v rv => by
    obtain ⟨kk, rfl, h4⟩ := kBl_inv h1
    cases rv.bl_inv
    refine ⟨kk, rfl, ?_⟩
    cases kk with
    | false => exact iteF (h4.val S1 _ (.bl _))
    | true => exact iteT ⟨ι1, env, M1, S1, R.ext e1, h4⟩⟩
theorem d_or {rest : List Expr} (ha : PE X a (LE X.K W ma)) (hb : PE X (.BoolOp .Or (b :: rest) pos) (LE X.K W mb)) : PE X (.BoolOp .Or (a :: b :: rest) pos) (LE X.K W (eOr ma mb)) :=
  (pe_or ha hb).imp fun σ H Q ⟨ι, env, M, S, R, h⟩ => ⟨ι, env, M, S, R, (OutP.bind h).imp fun x M1 ι1 H1 e1 S1 h1 v rv => by
    obtain ⟨kk, rfl, h4⟩ := kBl_inv h1
    cases rv.bl_inv
    refine ⟨kk, rfl, ?_⟩
    cases kk with
    | false => exact iteF ⟨ι1, env, M1, S1, R.ext e1, h4⟩
    | true => exact iteT (h4.val S1 _ (.bl _))⟩
theorem d_not (ha : PE X a (LE X.K W ma)) : PE X (.UnaryOp .Not a pos) (LE X.K W (eNot ma)) :=
  (pe_not ha).imp fun σ H Q ⟨ι, env, M, S, R, h⟩ => ⟨ι, env, M, S, R, (OutP.bind h).imp fun x M1 ι1 H1 e1 S1 h1 v rv => by
    obtain ⟨kk, rfl, h4⟩ := kBl_inv h1
    cases rv.bl_inv
    exact ⟨kk, rfl, h4.val S1 _ (.bl _)⟩⟩
theorem lt_tB {t : TE} {σ : L2.St} {H : Hp} {Q : Bool → Hp → Prop} (hk : ∀ Q, LE X.K W me σ H Q → t σ H Q) (h : LT X.K W (tB me) σ H Q) : tTest t σ H Q := by
  obtain ⟨ι, env, M, S, R, h⟩ := h
  refine hk _ ⟨ι, env, M, S, R, (OutP.bind h).imp fun x M1 ι1 H1 e1 S1 h1 v rv => ?_⟩
  obtain ⟨kk, rfl, h4⟩ := kBl_inv h1
  cases rv.bl_inv
  exact ⟨kk, rfl, h4.val S1⟩
theorem dt_cmp {op : CmpOp} {f : Op2} (ho : OpR X (compareOp op) (rD2 X.K f)) (ha : PE X a (LE X.K W ma)) (hb : PE X b (LE X.K W mb)) (hm : behindInMarks op b = false) : PT X (.Compare a [op] [b] pos) (LT X.K W (tB (eBin f ma mb))) :=
  (pt_cmpR ho ha hb hm).imp fun σ H Q h => lt_tB (fun Q h => le_bin (fun _ _ _ _ z => z) h) h
theorem dt_and1 (ha : PT X a (LT X.K W mt)) : PW X (.BoolOp .And [a] pos) (LT X.K W mt) := pw_and1 ha
theorem dt_or1 (ha : PT X a (LT X.K W mt)) : PW X (.BoolOp .Or [a] pos) (LT X.K W mt) := pw_or1 ha
theorem dt_and {rest : List Expr} (ha : PT X a (LT X.K W mt)) (hb : PW X (.BoolOp .And (b :: rest) pos) (LT X.K W mu)) : PW X (.BoolOp .And (a :: b :: rest) pos) (LT X.K W (tAnd mt mu)) :=
  (pw_and ha hb).imp fun σ H Q ⟨ι, env, M, S, R, h⟩ => ⟨ι, env, M, S, R, (OutP.bind h).imp fun kk M1 ι1 H1 e1 S1 h1 => by
    show if kk = true then _ else _
    cases kk with
    | false => exact iteF (h1.val S1)
    | true => exact iteT ⟨ι1, env, M1, S1, R.ext e1, h1⟩⟩
theorem dt_or {rest : List Expr} (ha : PT X a (LT X.K W mt)) (hb : PW X (.BoolOp .Or (b :: rest) pos) (LT X.K W mu)) : PW X (.BoolOp .Or (a :: b :: rest) pos) (LT X.K W (tOr mt mu)) :=
  (pw_or ha hb).imp fun σ H Q ⟨ι, env, M, S, R, h⟩ => ⟨ι, env, M, S, R, (OutP.bind h).imp fun kk M1 ι1 H1 e1 S1 h1 => by
    show if kk = true then _ else _
    cases kk with
    | false => exact iteF ⟨ι1, env, M1, S1, R.ext e1, h1⟩
    | true => exact iteT (h1.val S1)⟩
theorem dt_not (ha : PT X a (LT X.K W mt)) : PT X (.UnaryOp .Not a pos) (LT X.K W (tNot mt)) :=
  (pt_not ha).imp fun σ H Q ⟨ι, env, M, S, R, h⟩ => ⟨ι, env, M, S, R, (OutP.bind h).imp fun kk M1 ι1 H1 e1 S1 h1 => OutP.val (W := W1 W σ) (R := TR Q) (a := !kk) S1 h1⟩
theorem dt_tru (ha : PE X a (LE X.K W ma)) (he : ∀ whole, isTrue a X.env whole = (do let v ← whole; standAt a.pos; holding [v] (truthy v)) := by exact fun _ => rfl) : PT X a (LT X.K W (tTru ma)) :=
  (pt_truth ha he).imp fun σ H Q ⟨ι, env, M, S, R, h⟩ => ⟨ι, env, M, S, R, (OutP.bind h).imp fun d M1 ι1 H1 e1 S1 h1 v rv => by
    revert h1
    cases q : truD M1 d with
    | none => exact fun h1 => h1.elim
    | some kk =>
      intro h1
      refine ⟨kk, ?_, h1.val S1⟩
      cases d with
      | non => cases rv.non_inv; cases q; rfl
      | bl b => cases rv.bl_inv; cases q; rfl
      | int i => cases rv.int_inv; cases q; rfl
      | err x => cases q
      | str x =>
        cases rv.str_inv
        have q' : (if x.length ≤ sizeLine then some ((x.length : Int) != 0) else none) = some kk := q
        by_cases c : x.length ≤ sizeLine
        · rw [if_pos c] at q'; cases q'; exact ⟨c, rfl⟩
        · rw [if_neg c] at q'; cases q'
      | tup xs =>
        obtain ⟨p, vs, rfl, t1, r1⟩ := rv.tup_inv
        cases q
        refine .inr (.inl ⟨vs, t1, ?_⟩)
        cases r1 <;> rfl
      | ref n =>
        obtain ⟨p, rfl, hp⟩ := rv.ref_inv
        have q' : (seqAt M1 n).map (fun xs => !xs.isEmpty) = some kk := q
        cases q2 : seqAt M1 n with
        | none => rw [q2] at q'; cases q'
        | some xs =>
          rw [q2] at q'
          cases q'
          obtain ⟨vs, h1, r1⟩ := S1.seq hp q2
          refine .inl ⟨vs, h1, ?_⟩
          cases r1 <;> rfl⟩
theorem da_nil : PA X [] (LA X.K W aNil) := pa_nil.imp fun σ H Q ⟨ι, env, M, S, R, h⟩ => h.val S _ .nil
theorem da_cons (ha : PE X e (LE X.K W me)) (hr : PA X es (LA X.K W mas)) (hs : starEach (e :: es) X.env = (false, eval e X.env) :: starEach es X.env := by rfl) : PA X (e :: es) (LA X.K W (aCons me mas)) :=
  (pa_cons ha hr hs).imp fun σ H Q ⟨ι, env, M, S, R, h⟩ => ⟨ι, env, M, S, R, (OutP.bind h).imp fun x M1 ι1 H1 e1 S1 h1 v rv => ⟨ι1, env, M1, S1, R.ext e1, (OutP.bind h1).imp fun xs M2 ι2 H2 e2 S2 h2 vs rvs => h2.val S2 _ (.cons (rv.ext e2) rvs)⟩⟩
theorem d_tup {x1 : Nat} (h : PA X es (LA X.K W mas)) : PE X (.Tuple es x1 pos) (LE X.K W (eTup mas)) :=
  (pe_tup h).imp fun σ H Q ⟨ι, env, M, S, R, h⟩ => ⟨ι, env, M, S, R, (OutP.bind h).imp fun xs M1 ι1 H1 e1 S1 h1 vs rvs => by
    have hl := rvs.length
    revert h1
    split
    · intro h1
      exact ⟨by rw [← hl, sizeLine_eq]; omega, OpO.newTup S1 (h1 : OutP X.K (W1 W σ) ι1 H1 (.ok _ _) _) rvs⟩
    · exact fun h1 => h1.elim⟩
theorem d_lst (h : PA X es (LA X.K W mas)) : PE X (.List es pos) (LE X.K W (eLst mas)) :=
  (pe_lst h).imp fun σ H Q ⟨ι, env, M, S, R, h⟩ => ⟨ι, env, M, S, R, (OutP.bind h).imp fun xs M1 ι1 H1 e1 S1 h1 vs rvs => by
    have hl := rvs.length
    revert h1
    split
    · intro h1
      exact ⟨by rw [← hl, sizeLine_eq]; omega, OpO.newLst S1 (h1 : OutP X.K (W1 W σ) ι1 H1 (.ok _ _) _) rvs⟩
    · exact fun h1 => h1.elim⟩
def LO (K : PySem.W.Frag) (W : WX) (m : MO') : TO := fun σ H Q => ∃ ι env M, SR K ι H M ∧ EnvR K ι H env σ ∧ OutP K (W1 W σ) ι H (m env M) (fun o _ _ H' => Q o H')
theorem _root_.L2.PO.imp {e : Option Expr} {t t' : TO} (h : PO X e t) (k : ∀ σ H Q, t' σ H Q → t σ H Q) : PO X e t' := ⟨fun pins s σ H Q I q => h.run pins s σ H Q I (k σ H Q q)⟩
theorem do_none : PO X none (LO X.K W oNone) := po_none.imp fun σ H Q ⟨ι, env, M, S, R, h⟩ => h.val S
theorem do_some (ha : PE X a (LE X.K W ma)) : PO X (some a) (LO X.K W (oSome ma)) :=
  (po_some ha).imp fun σ H Q ⟨ι, env, M, S, R, h⟩ => ⟨ι, env, M, S, R, (OutP.bind h).imp fun x M1 ι1 H1 e1 S1 h1 v rv => by
    obtain ⟨i, rfl, h2⟩ := kInt_inv h1
    cases rv.int_inv
    exact ⟨i, rfl, h2.val S1⟩⟩
theorem d_sl {lo hi : Option Expr} {ml mh : MO'} {p2 : Pos} (ha : PE X a (LE X.K W ma)) (hl : PO X lo (LO X.K W ml)) (hh : PO X hi (LO X.K W mh)) : PE X (.Subscript a (.Slice lo hi none p2) pos) (LE X.K W (eSl ma ml mh)) :=
  (pe_slice sl_D ha hl hh).imp fun σ H Q ⟨ι, env, M, S, R, h⟩ => ⟨ι, env, M, S, R, (OutP.bind h).imp fun x M1 ι1 H1 e1 S1 h1 v rv =>
    ⟨ι1, env, M1, S1, R.ext e1, (OutP.bind h1).imp fun l M2 ι2 H2 e2 S2 h2 => ⟨ι2, env, M2, S2, R.ext (e1.trans e2), (OutP.bind h2).imp fun h M3 ι3 H3 e3 S3 h3 => ⟨ι3, M3, x, S3, rv.ext (e2.trans e3), OpO.of h3⟩⟩⟩⟩
end
end TL
end
section
namespace TL
open PySem PySem.Spec PyProof.Rows L2
def nLen : OpN := fun ds M => match ds with
  | [.str x] => if x.length ≤ sizeLine then some (.int (x.length : Nat), M) else none
  | [.tup xs] => some (.int (xs.length : Nat), M)
  | [.ref n] => (seqAt M n).map fun xs => (.int (xs.length : Nat), M)
  | _ => none
def nMax2 : OpN := fun ds M => match ds with
  | [.int i, .int j] => some (.int (if j > i then j else i), M)
  | _ => none
def nMin2 : OpN := fun ds M => match ds with
  | [.int i, .int j] => some (.int (if j < i then j else i), M)
  | _ => none
def nList : OpN := fun ds M => match ds with
  | [.tup xs] => some (.ref M.length, M ++ [.lst xs])
  | [.ref n] => (seqAt M n).map fun xs => (.ref M.length, M ++ [.lst xs])
  | _ => none
def nTuple : OpN := fun ds M => match ds with
  | [.tup xs] => some (.tup xs, M)
  | [.ref n] => (seqAt M n).map fun xs => (.tup xs, M)
  | _ => none
section
variable {K : PySem.W.Frag} {ι : List Addr} {H : Hp} {M : Mem}
theorem RpA.one_inv {d : D} {vs : List V} (r : RpA K ι H [d] vs) : ∃ v, vs = [v] ∧ Rp K ι H d v := by
  cases r with | cons h t => cases t; exact ⟨_, rfl, h⟩
theorem RpA.two_inv {d e : D} {vs : List V} (r : RpA K ι H [d, e] vs) : ∃ v u, vs = [v, u] ∧ Rp K ι H d v ∧ Rp K ι H e u := by
  cases r with | cons h t => cases t with | cons h' t => cases t; exact ⟨_, _, rfl, h, h'⟩
end
section
variable {X : Cx}
theorem c_len : CallR X (.builtin "len") (rDN X.K nLen) := by
  refine CallR.imp call_len fun xs H Q h => ?_
  obtain ⟨ι, M, ds, S, r, h⟩ := h
  unfold nLen at h
  split at h
  · obtain ⟨v, rfl, r1⟩ := r.one_inv
    cases r1.str_inv
    split at h
    · exact ⟨_, _, rfl, ⟨by assumption, rfl⟩, h.val S (.int _)⟩
    · exact h.elim
  · obtain ⟨v, rfl, r1⟩ := r.one_inv
    obtain ⟨p, vs, rfl, t1, r2⟩ := r1.tup_inv
    exact ⟨_, _, rfl, .inr ⟨vs, t1, rfl⟩, by rw [← r2.length]; exact h.val S (.int _)⟩
  · rename_i n
    obtain ⟨v, rfl, r1⟩ := r.one_inv
    obtain ⟨p, rfl, hp⟩ := r1.ref_inv
    cases q : seqAt M n with
    | none => rw [q] at h; exact h.elim
    | some xs =>
      rw [q] at h
      obtain ⟨vs, h1, r2⟩ := S.seq hp q
      exact ⟨_, _, rfl, .inl ⟨vs, h1, rfl⟩, by rw [← r2.length]; exact h.val S (.int _)⟩
  · exact h.elim
theorem c_max2 (hc : X.calm = true) : CallR X (.builtin "max") (rDN X.K nMax2) := by
  refine CallR.imp (call_max2 hc) fun xs H Q h => ?_
  obtain ⟨ι, M, ds, S, r, h⟩ := h
  unfold nMax2 at h
  split at h
  · obtain ⟨v, u, rfl, r1, r2⟩ := r.two_inv
    cases r1.int_inv; cases r2.int_inv
    exact ⟨_, _, rfl, h.val S (.int _)⟩
  · exact h.elim
theorem c_min2 (hc : X.calm = true) : CallR X (.builtin "min") (rDN X.K nMin2) := by
  refine CallR.imp (call_min2 hc) fun xs H Q h => ?_
  obtain ⟨ι, M, ds, S, r, h⟩ := h
  unfold nMin2 at h
  split at h
  · obtain ⟨v, u, rfl, r1, r2⟩ := r.two_inv
    cases r1.int_inv; cases r2.int_inv
    exact ⟨_, _, rfl, h.val S (.int _)⟩
  · exact h.elim
theorem c_list : CallR X (.type "list") (rDN X.K nList) := by
  refine CallR.imp call_list_of fun xs H Q h => ?_
  obtain ⟨ι, M, ds, S, r, h⟩ := h
  unfold nList at h
  split at h
  · obtain ⟨v, rfl, r1⟩ := r.one_inv
    obtain ⟨p, vs, rfl, t1, r2⟩ := r1.tup_inv
    exact ⟨_, vs, rfl, .inr t1, h.newLst S r2⟩
  · rename_i n
    obtain ⟨v, rfl, r1⟩ := r.one_inv
    obtain ⟨p, rfl, hp⟩ := r1.ref_inv
    cases q : seqAt M n with
    | none => rw [q] at h; exact h.elim
    | some xs =>
      rw [q] at h
      obtain ⟨vs, h1, r2⟩ := S.seq hp q
      exact ⟨_, vs, rfl, .inl h1, h.newLst S r2⟩
  · exact h.elim
theorem c_tuple : CallR X (.type "tuple") (rDN X.K nTuple) := by
  refine CallR.imp call_tuple_of fun xs H Q h => ?_
  obtain ⟨ι, M, ds, S, r, h⟩ := h
  unfold nTuple at h
  split at h
  · obtain ⟨v, rfl, r1⟩ := r.one_inv
    obtain ⟨p, vs, rfl, t1, r2⟩ := r1.tup_inv
    exact ⟨_, vs, rfl, .inr ⟨t1, h.val S (.tup t1 r2)⟩⟩
  · rename_i n
    obtain ⟨v, rfl, r1⟩ := r.one_inv
    obtain ⟨p, rfl, hp⟩ := r1.ref_inv
    cases q : seqAt M n with
    | none => rw [q] at h; exact h.elim
    | some xs =>
      rw [q] at h
      obtain ⟨vs, h1, r2⟩ := S.seq hp q
      exact ⟨_, vs, rfl, .inl ⟨h1, h.newTup S r2⟩⟩
  · exact h.elim
end
def tyName (M : Mem) : D → Option String
  | .err _ => none
  | .non => some "NoneType"
  | .bl _ => some "bool"
  | .int _ => some "int"
  | .str _ => some "str"
  | .tup _ => some "tuple"
  | .ref n => (seqAt M n).map fun _ => "list"
def mIsi (T : String) : Op1 := fun d M => match tyName M d with
  | some t => (kitB t T).map fun b => (.bl b, M)
  | none => none
def eIsi (T : String) (a : ME) : ME := eUn (mIsi T) a
section
variable {X : Cx} {W : WX} {e : Expr} {me : ME}
theorem tyX_of {ι : List Addr} {H : Hp} {M : Mem} {d : D} {v : V} {t : String} (S : SR X.K ι H M) (r : Rp X.K ι H d v) (h : tyName M d = some t) : TyX X.K H v (.type t) := by
  cases d with
  | non => cases r.non_inv; cases h; exact .base .non
  | bl b => cases r.bl_inv; cases h; exact .base (.bl _)
  | int i => cases r.int_inv; cases h; exact .base (.int _)
  | str x => cases r.str_inv; cases h; exact .base (.str _)
  | err x => cases h
  | tup xs =>
    obtain ⟨p, vs, rfl, t1, r1⟩ := r.tup_inv
    cases h
    rcases t1 with (h | ⟨o, h⟩) | ⟨o, its, n, h1, h2, _⟩
    · exact .base (.tup h)
    · exact .fTuple h
    · exact .kTuple h1 h2
  | ref n =>
    obtain ⟨p, rfl, hp⟩ := r.ref_inv
    have h' : (seqAt M n).map (fun _ => "list") = some t := h
    cases q : seqAt M n with
    | none => rw [q] at h'; cases h'
    | some xs =>
      rw [q] at h'
      cases h'
      obtain ⟨vs, h1, r2⟩ := S.seq hp q
      rcases h1 with (h | ⟨o, h⟩) | ⟨o, its, n, h1, h2, _⟩
      · exact .base (.lst h)
      · exact .base (.frz h)
      · exact .kList h1 h2
theorem d_isi {T : Str} {U : String} {p p2 pos : Pos} (hg : Gl X "isinstance") (hm : X.mg "isinstance" = none) (hg2 : Gl X T) (hm2 : X.mg T = none) (hv : bootBuiltins T = some (.type U)) (he : PE X e (LE X.K W me))
    (hn : T ≠ "__name__" := by decide) (hd : (T == ("__debug__" : Str)) = false := by decide) (h1 : starEach [e, .Name T p2] X.env = (false, eval e X.env) :: starEach [.Name T p2] X.env := by rfl) (h2 : starEach [.Name T p2] X.env = (false, eval (.Name T p2) X.env) :: starEach [] X.env := by rfl)
    (h3 : (backTo pos (starEach [.Name T p2] X.env)).any (·.1) = false := by rfl) :
    PE X (.Call (.Name "isinstance" p) [e, .Name T p2] [] pos) (LE X.K W (eIsi U me)) :=
  (pe_callB call_isi hg hm boot_isinstance (pa_cons he (pa_cons (pe_bltn hg2 hm2 hv (v := .ty U) rfl hn hd) pa_nil h2) h1) (by decide) (by decide) h1 h3).imp fun σ H Q ⟨ι, env, M, S, R, h⟩ =>
    ⟨ι, env, M, S, R, (OutP.bind h).imp fun d M1 ι1 H1 e1 S1 h1 v rv => by
      revert h1
      unfold mIsi
      cases q : tyName M1 d with
      | none => exact fun h1 => h1.elim
      | some t =>
        intro h1
        cases q2 : kitB t U with
        | none => simp only [q2] at h1; exact h1.elim
        | some b =>
          simp only [q2] at h1
          exact ⟨v, .ty U, .type t, .type U, b, rfl, .ty U, tyX_of S1 rv q, kit_ty q2, OutP.val S1 h1 _ (.bl _)⟩⟩
end
section
variable {X : Cx} {W : WX} {e : Expr} {es : List Expr} {mas : MA} {x : Str} {p pos : Pos}
theorem d_callB {id : String} {f : OpN} (hc : CallR X (.builtin id) (rDN X.K f)) (hg : Gl X x) (hm : X.mg x = none) (hv : bootBuiltins x = some (.builtin id)) (ha : PA X (e :: es) (LA X.K W mas)) (hn : x ≠ "__name__" := by decide)
    (hd : (x == ("__debug__" : Str)) = false := by decide) (hst : starEach (e :: es) X.env = (false, eval e X.env) :: starEach es X.env := by rfl) (hpl : (backTo pos (starEach es X.env)).any (·.1) = false := by rfl) :
    PE X (.Call (.Name x p) (e :: es) [] pos) (LE X.K W (eCallO f mas)) :=
  (pe_callB hc hg hm hv ha hn hd hst hpl).imp fun σ H Q ⟨ι, env, M, S, R, h⟩ => ⟨ι, env, M, S, R, (OutP.bind h).imp fun ds M1 ι1 H1 e1 S1 h1 vs rv => ⟨ι1, M1, ds, S1, rv, OpO.of h1⟩⟩
theorem d_callTy {T : String} {f : OpN} (hc : CallR X (.type T) (rDN X.K f)) (hg : Gl X x) (hm : X.mg x = none) (hv : bootBuiltins x = some (.type T)) (ha : PA X (e :: es) (LA X.K W mas)) (hn : x ≠ "__name__" := by decide)
    (hd : (x == ("__debug__" : Str)) = false := by decide) (hst : starEach (e :: es) X.env = (false, eval e X.env) :: starEach es X.env := by rfl) (hpl : (backTo pos (starEach es X.env)).any (·.1) = false := by rfl) :
    PE X (.Call (.Name x p) (e :: es) [] pos) (LE X.K W (eCallO f mas)) :=
  (pe_callTy hc hg hm hv ha hn hd hst hpl).imp fun σ H Q ⟨ι, env, M, S, R, h⟩ => ⟨ι, env, M, S, R, (OutP.bind h).imp fun ds M1 ι1 H1 e1 S1 h1 vs rv => ⟨ι1, M1, ds, S1, rv, OpO.of h1⟩⟩
end
abbrev Fn := List D → Mem → Out D
/-- what a def of ours promises -/
def spD (K : PySem.W.Frag) (n : Nat) (m : Fn) : Sp := fun vs H Q E => vs.length = n ∧ ∃ ι ds M, SR K ι H M ∧ RpA K ι H ds vs ∧ OutP K E ι H (m ds M) (VR K Q)
structure Callee (P : Program) (w : World) (K : PySem.W.Frag) (mg : Str → Option Value) (base : Heap) (x : Str) (n k : Nat) (m : Fn) : Prop where
  ex : ∃ (f : Addr) (fd : FuncData) (ps : List Str), FnOk P w K mg base (L2N.CX P w) k f fd ps (spD K n m) ∧ mg x = some (.ref f) ∧ PySem.W.keepIn K (.ref f) = true ∧ Binds K fd ps [] ∧ ps.length = n
  len : ∀ ds M, ds.length ≠ n → m ds M = .stuck
theorem Callee.mono {P : Program} {w : World} {K : PySem.W.Frag} {mg : Str → Option Value} {base : Heap} {x : Str} {n j k : Nat} {m : Fn} (C : Callee P w K mg base x n j m) (h : j ≤ k) : Callee P w K mg base x n k m := by
  obtain ⟨f, fd, ps, F, a, b, c, d⟩ := C.ex
  exact ⟨⟨f, fd, ps, F.mono h, a, b, c, d⟩, C.len⟩
section
variable {X : Cx} {W : WX} {e : Expr} {es : List Expr} {mas : MA} {x : Str} {p pos : Pos}
theorem d_call {k k' n : Nat} {m : Fn} (C : Ctx X W k') (F : Callee X.prog X.w X.K X.mg X.base x n k m) (hk : k ≤ k') (ha : PA X (e :: es) (LA X.K W mas)) (hg : Gl X x := by rfl)
    (hdb : (x == ("__debug__" : Str)) = false := by decide) (hst : starEach (e :: es) X.env = (false, eval e X.env) :: starEach es X.env := by rfl) (hpl : (backTo pos (starEach es X.env)).any (·.1) = false := by rfl) :
    PE X (.Call (.Name x p) (e :: es) [] pos) (LE X.K W (eCall m mas)) := by
  have hlen := F.len
  obtain ⟨f, fd, ps, F, hm, kp, hb, _⟩ := F.ex
  refine (pe_callS F (C.room.mono hk) hg hm kp hb (fun σ => L2N.passAt C.tk σ) ha hdb hst hpl).imp fun σ H Q ⟨ι, env, M, S, R, h⟩ => ⟨ι, env, M, S, R, ?_⟩
  refine (OutP.bind h).imp fun ds M1 ι1 H1 e1 S1 h1 vs rv => ⟨?_, ι1, ds, M1, S1, rv, h1⟩
  rw [← rv.length]
  by_cases q : ds.length = n
  · exact q
  · rw [hlen ds M1 q] at h1
    exact h1.elim
end
def thenS {α : Type} (env : Env) (o : Out α) (f : α → Mem → SOut) : SOut := match o with
  | .ok a M => f a M
  | .exc x M => .exc x env M
  | .stuck => .stuck
@[simp] theorem thenS_ok {α : Type} (env : Env) (a : α) (M : Mem) (f : α → Mem → SOut) : thenS env (.ok a M) f = f a M := rfl
@[simp] theorem thenS_exc {α : Type} (env : Env) (x : Ex) (M : Mem) (f : α → Mem → SOut) : thenS env (.exc x M) f = .exc x env M := rfl
@[simp] theorem thenS_stuck {α : Type} (env : Env) (f : α → Mem → SOut) : thenS env .stuck f = .stuck := rfl
def nextS (o : SOut) (f : Env → Mem → SOut) : SOut := match o with
  | .next env M => f env M
  | o => o
@[simp] theorem nextS_next (env : Env) (M : Mem) (f : Env → Mem → SOut) : nextS (.next env M) f = f env M := rfl
@[simp] theorem nextS_ret (d : D) (M : Mem) (f : Env → Mem → SOut) : nextS (.ret d M) f = .ret d M := rfl
@[simp] theorem nextS_exc (x : Ex) (env : Env) (M : Mem) (f : Env → Mem → SOut) : nextS (.exc x env M) f = .exc x env M := rfl
@[simp] theorem nextS_stuck (f : Env → Mem → SOut) : nextS .stuck f = .stuck := rfl
def sNil : MS := fun env M => .next env M
def sSeq (a b : MS) : MS := fun env M => nextS (a env M) b
def sExpr (e : ME) : MS := fun env M => thenS env (e env M) fun _ M1 => .next env M1
def sRet (e : ME) : MS := fun env M => thenS env (e env M) fun d M1 => .ret d M1
def sRetN : MS := fun _ M => .ret .non M
def sIf (t : MT) (a b : MS) : MS := fun env M => thenS env (t env M) fun k M1 => if k = true then a env M1 else b env M1
/-- a target of names -/
abbrev MG := D → Env → Option Env
def gOne (i : Nat) : MG := fun d env => some (env.set i (some d))
def setAll : Env → List Nat → List D → Env
  | env, i :: is, d :: ds => setAll (env.set i (some d)) is ds
  | env, _, _ => env
def gTupD (is : List Nat) : MG := fun d env => match d with
  | .tup ds => if ds.length = is.length then some (setAll env is ds) else none
  | _ => none
def sAsg (g : MG) (e : ME) : MS := fun env M => thenS env (e env M) fun d M1 => match g d env with
  | some env' => .next env' M1
  | none => .stuck
/-- o[i] = v -/
def setD (o i v : D) (M : Mem) : Option Mem := match o, i with
  | .ref n, .int k => match M[n]? with
    | some (.lst xs) => (ixN xs.length k).map fun j => M.set n (.lst (xs.set j v))
    | _ => none
  | _, _ => none
def sSub (o i e : ME) : MS := fun env M => thenS env (e env M) fun v M1 => thenS env (o env M1) fun x M2 => thenS env (i env M2) fun y M3 => match setD x y v M3 with
  | some M4 => .next env M4
  | none => .stuck
/-- what a loop walks -/
structure Src where
  items : List D
  good : Mem → Prop
abbrev MI := Env → Mem → Out Src
open Classical in
noncomputable def forL (good : Mem → Prop) (g : MG) (b : MS) : List D → MS
  | [] => fun env M => if good M then .next env M else .stuck
  | d :: ds => fun env M => if good M then match g d env with
      | some env1 => nextS (b env1 M) (forL good g b ds)
      | none => .stuck
    else .stuck
noncomputable def sFor (i : MI) (g : MG) (b : MS) : MS := fun env M => thenS env (i env M) fun s M1 => forL s.good g b s.items env M1
section
variable {K : PySem.W.Frag} {W : WX} {ι : List Addr} {H : Hp} {M : Mem} {σ : L2.St} {env : Env} {En : Ends}
theorem thenS_out {α : Type} {o : Out α} {f : α → Mem → SOut} (R : EnvR K ι H env σ) (h : SOutP K W ι H (thenS env o f) En) : OutP K (W1 W σ) ι H o (fun a M ι1 H1 => SOutP K W ι1 H1 (f a M) En) := by
  cases o with
  | ok a M => exact fun ι1 H1 e1 S1 => SOutP.ext e1 h
  | exc x M => exact fun ι1 H1 cls dx e1 S1 ex => h ι1 σ H1 cls dx e1 S1 (R.ext e1) ex
  | stuck => exact h
theorem nextS_out {o : SOut} {f : Env → Mem → SOut} (h : SOutP K W ι H (nextS o f) En) : SOutP K W ι H o { En with nx := LS K W f En } := by
  cases o with
  | next env M => exact fun ι1 σ1 H1 e1 S1 R1 => ⟨ι1, env, M, S1, R1, SOutP.ext e1 h⟩
  | ret d M => exact h
  | exc x env M => exact h
  | stuck => exact h
theorem SOutP.next_val (S : SR K ι H M) (R : EnvR K ι H env σ) (h : SOutP K W ι H (.next env M) En) : En.nx σ H := h ι σ H Ext.refl S R
theorem SOutP.ret_val {d : D} {v : V} (S : SR K ι H M) (r : Rp K ι H d v) (h : SOutP K W ι H (.ret d M) En) : En.rt v H := h ι v H Ext.refl S r
theorem SOutP.imp {o : SOut} {En' : Ends} (h : SOutP K W ι H o En) (hn : ∀ σ H, En.nx σ H → En'.nx σ H) (hr : ∀ v H, En.rt v H → En'.rt v H) : SOutP K W ι H o En' := by
  cases o with
  | next env M => exact fun ι1 σ1 H1 e1 S1 R1 => hn _ _ (h ι1 σ1 H1 e1 S1 R1)
  | ret d M => exact fun ι1 v H1 e1 S1 R1 => hr _ _ (h ι1 v H1 e1 S1 R1)
  | exc x env M => exact h
  | stuck => exact h
end
/-- targets -/
def LG (K : PySem.W.Frag) (f : MG) : TG := fun v σ H Q => ∃ ι env d env', Rp K ι H d v ∧ EnvR K ι H env σ ∧ f d env = some env' ∧ ∀ σ', EnvR K ι H env' σ' → Q σ' H
theorem _root_.L2.PG.imp {X : Cx} {e : Expr} {t t' : TG} (h : PG X e t) (k : ∀ v σ H Q, t' v σ H Q → t v σ H Q) : PG X e t' := ⟨fun pins s σ H v u Q I r q => h.run pins s σ H v u Q I r (k v σ H Q q)⟩
def gsN : List Nat → TGs
  | [] => gNil
  | i :: is => gCons (gName i) (gsN is)
theorem gsN_ok {K : PySem.W.Frag} {ι : List Addr} {H : Hp} {Q : L2.St → Hp → Prop} : ∀ {is : List Nat} {ds : List D} {vs : List V} {env : Env} {σ : L2.St}, RpA K ι H ds vs → EnvR K ι H env σ → ds.length = is.length →
    (∀ σ', EnvR K ι H (setAll env is ds) σ' → Q σ' H) → gsN is vs σ H Q
  | [], [], _, env, σ, .nil, R, _, h => ⟨rfl, h σ R⟩
  | i :: is, d :: ds, _, env, σ, .cons r t, R, hl, h => ⟨_, _, rfl, gsN_ok (is := is) t (R.set r i) (by simpa using hl) h⟩
section
variable {X : Cx} {W : WX} {k : Nat} {st : Stmt} {rest sts body : List Stmt} {m mb : MS} {e c o i : Expr} {me mo mi : ME} {mt : MT} {pos pos' : Pos} {tgt : Expr} {g : MG}
theorem dg_name {i : Nat} {x : Str} (nd : X.N.Nodup) (hi : X.N[i]? = some x := by rfl) (hx : Loc X.env.scope x := by first | exact .inl rfl | exact .inr rfl) (hf : X.fn x = true ∨ X.env.scope.names.lookup x = some .local := by first | exact .inl rfl | exact .inr rfl) :
    PG X (.Name x pos) (LG X.K (gOne i)) := (pg_name nd hi hx hf).imp fun v σ H Q ⟨ι, env, d, env', r, R, h, q⟩ => by
  cases h
  exact q _ (R.set r i)
theorem dg_tup {is : List Nat} {n : Nat} {g : TGs} (h : PG X tgt (gTup X.K n g)) (hn : n = is.length := by rfl) (hg : g = gsN is := by rfl) : PG X tgt (LG X.K (gTupD is)) := h.imp fun v σ H Q ⟨ι, env, d, env', r, R, h, q⟩ => by
  unfold gTupD at h
  split at h
  · obtain ⟨p, vs, rfl, t1, r1⟩ := r.tup_inv
    split at h
    · rename_i hl
      cases h
      subst hn hg
      exact ⟨p, vs, rfl, t1, by rw [← r1.length]; exact hl, gsN_ok r1 R hl q⟩
    · cases h
  · cases h
theorem ds_nil : PSs X [] (LS X.K W sNil) := pss_nil.imp fun En σ H ⟨ι, env, M, S, R, h⟩ => h.next_val S R
theorem ds_cons (h1 : PS X st (LS X.K W m)) (h2 : PSs X rest (LS X.K W mb)) : PSs X (st :: rest) (LS X.K W (sSeq m mb)) :=
  (pss_cons h1 h2).imp fun En σ H ⟨ι, env, M, S, R, h⟩ => ⟨ι, env, M, S, R, nextS_out h⟩
theorem ds_one (h1 : PS X st (LS X.K W m)) : PSs X [st] (LS X.K W m) := pss_one h1
theorem ds_expr (he : PE X e (LE X.K W me)) (hs : swapsWith e none pos.line X.env = pure false := by rfl) : PS X (.Expr e pos) (LS X.K W (sExpr me)) :=
  (ps_expr he hs).imp fun En σ H ⟨ι, env, M, S, R, h⟩ => ⟨ι, env, M, S, R, (thenS_out R h).imp fun d M1 ι1 H1 e1 S1 h1 v rv => h1.next_val S1 (R.ext e1)⟩
theorem ds_ret (he : PE X e (LE X.K W me)) : PS X (.Return (some e) pos) (LS X.K W (sRet me)) :=
  (ps_ret he).imp fun En σ H ⟨ι, env, M, S, R, h⟩ => ⟨ι, env, M, S, R, (thenS_out R h).imp fun d M1 ι1 H1 e1 S1 h1 v rv => h1.ret_val S1 rv⟩
theorem ds_if {a b : List Stmt} {ma mb : MS} (hc : PT X c (LT X.K W mt)) (ha : PSs X a (LS X.K W ma)) (hb : PSs X b (LS X.K W mb)) : PS X (.If c a b pos) (LS X.K W (sIf mt ma mb)) :=
  (ps_if hc ha hb).imp fun En σ H ⟨ι, env, M, S, R, h⟩ => ⟨ι, env, M, S, R, (thenS_out R h).imp fun kk M1 ι1 H1 e1 S1 h1 => by
    show if kk = true then _ else _
    cases kk with
    | false => exact iteF ⟨ι1, env, M1, S1, R.ext e1, h1⟩
    | true => exact iteT ⟨ι1, env, M1, S1, R.ext e1, h1⟩⟩
theorem le_asg {tg : TG} {te : TE} {En : Ends} {σ : L2.St} {H : Hp} (he : ∀ Q, LE X.K W me σ H Q → te σ H Q) (hg : ∀ v σ H Q, LG X.K g v σ H Q → tg v σ H Q) (h : LS X.K W (sAsg g me) En σ H) : tAsg te tg En σ H := by
  obtain ⟨ι, env, M, S, R, h⟩ := h
  refine he _ ⟨ι, env, M, S, R, (thenS_out R h).imp fun d M1 ι1 H1 e1 S1 h1 v rv => ?_⟩
  revert h1
  cases q : g d env with
  | none => exact fun h1 => h1.elim
  | some env' => exact fun h1 => hg _ _ _ _ ⟨ι1, env, d, env', rv, R.ext e1, q, fun σ' R' => SOutP.next_val S1 R' h1⟩
theorem ds_asg (he : PE X e (LE X.K W me)) (hg : PG X tgt (LG X.K g)) (hs : swapsWithSole [tgt] e pos.line X.env = pure false := by rfl) (h2 : swappedStores [tgt] e X.env = pure none := by rfl) (h1 : (assignEach [tgt] X.env).map (·.2) = [assign tgt X.env] := by rfl) :
    PS X (.Assign [tgt] e pos) (LS X.K W (sAsg g me)) :=
  (ps_asg he hg hs h2 h1).imp fun En σ H h => le_asg (fun _ h => h) (fun _ _ _ _ h => h) h
theorem ds_set {i : Nat} {x : Str} (nd : X.N.Nodup) (he : PE X e (LE X.K W me)) (hi : X.N[i]? = some x := by rfl) (hx : Loc X.env.scope x := by first | exact .inl rfl | exact .inr rfl) (hs : swapsWith e (some (.Name x pos')) pos.line X.env = pure false := by rfl)
    (hf : X.fn x = true ∨ X.env.scope.names.lookup x = some .local := by first | exact .inl rfl | exact .inr rfl) : PS X (.Assign [.Name x pos'] e pos) (LS X.K W (sAsg (gOne i) me)) :=
  (ps_set nd hi hx he hs hf).imp fun En σ H h => le_asg (fun _ h => h) (fun v σ H Q ⟨ι, env, d, env', r, R, h, q⟩ => by cases h; exact q _ (R.set r i)) h
/-- o[i] = e -/
theorem set_D : PSet X (fun o i v H Q => ∃ ι M a b c, SR X.K ι H M ∧ Rp X.K ι H a o ∧ Rp X.K ι H b i ∧ Rp X.K ι H c v ∧ ∃ M', setD a b c M = some M' ∧ ∀ H', Ext X.K ι H ι H' → SR X.K ι H' M' → Q H') := by
  intro pins s σ H o i v ov iv u Q I ro ri rv h
  refine set_list pins s σ H o i v ov iv u Q I ro ri rv ?_
  obtain ⟨ι, M, a, b, c, S, ra, rb, rc, M', h, q⟩ := h
  unfold setD at h
  split at h
  · cases rb.int_inv
    obtain ⟨p, rfl, hp⟩ := ra.ref_inv
    split at h
    · rename_i kk _ xs m1
      obtain ⟨vs, h1, r1⟩ := S.lst hp m1
      cases q2 : ixN xs.length kk with
      | none => rw [q2] at h; cases h
      | some j =>
        rw [q2] at h
        cases h
        have nt : ¬ isTupO (H p) := by rw [h1]; exact fun z => z
        exact ⟨p, vs, kk, j, rfl, rfl, h1, by rw [← r1.length]; exact q2, q _ (Ext.upd nt) (S.write hp m1 rfl rfl ⟨_, upd_same, (r1.set rc j).ext (Ext.upd nt)⟩)⟩
    · cases h
  · cases h
theorem ds_sub (ho : PE X o (LE X.K W mo)) (hi : PE X i (LE X.K W mi)) (he : PE X e (LE X.K W me)) (hs : swapsWithSole [.Subscript o i pos'] e pos.line X.env = pure false := by rfl) (h2 : swappedStores [.Subscript o i pos'] e X.env = pure none := by rfl)
    (h1 : (assignEach [.Subscript o i pos'] X.env).map (·.2) = [assign (.Subscript o i pos') X.env] := by rfl)
    (ha : ∀ v, assign (.Subscript o i pos') X.env v = (do
      let ov ← holding [v] (eval o X.env)
      let iv ← holding [v, ov] (eval i X.env)
      standAt pos'
      holding [v, ov, iv] (setItem ov iv v)
      release [v, ov, iv] []) := by intro _; rfl) : PS X (.Assign [.Subscript o i pos'] e pos) (LS X.K W (sSub mo mi me)) :=
  (ps_asg he (pg_sub ho hi set_D ha) hs h2 h1).imp fun En σ H ⟨ι, env, M, S, R, h⟩ => ⟨ι, env, M, S, R, (thenS_out R h).imp fun v M1 ι1 H1 e1 S1 h1 vv rv =>
    ⟨ι1, env, M1, S1, R.ext e1, (thenS_out (R.ext e1) h1).imp fun x M2 ι2 H2 e2 S2 h2 xv rx => ⟨ι2, env, M2, S2, R.ext (e1.trans e2), (thenS_out (R.ext (e1.trans e2)) h2).imp fun y M3 ι3 H3 e3 S3 h3 yv ry => by
      revert h3
      cases q : setD x y v M3 with
      | none => exact fun h3 => h3.elim
      | some M4 => exact fun h3 => ⟨ι3, M3, x, y, v, S3, rx.ext e3, ry, rv.ext (e2.trans e3), M4, q, fun H' e4 S4 => h3 ι3 σ H' e4 S4 (R.ext (((e1.trans e2).trans e3).trans e4))⟩⟩⟩⟩
/-- what an iterator does -/
def SrcJ (K : PySem.W.Frag) (ι : List Addr) (H : Hp) (s : Src) (J : It) : Prop :=
  ∀ ι1 H1 M1, Ext K ι H ι1 H1 → SR K ι1 H1 M1 → s.good M1 → ∀ i : Nat, (∀ d, s.items[i]? = some d → J.go i H1 ∧ ∀ x H', J.yld i H1 x H' → Ext K ι1 H1 ι1 H' ∧ SR K ι1 H' M1 ∧ Rp K ι1 H' d x) ∧ (s.items.length ≤ i → J.stop i H1)
def LI (K : PySem.W.Frag) (W : WX) (m : MI) : TI := fun σ H R => ∃ ι env M, SR K ι H M ∧ EnvR K ι H env σ ∧ OutP K (W1 W σ) ι H (m env M) (fun s _ ι' H' => ∀ J, SrcJ K ι' H' s J → R J H')
theorem _root_.L2.PI.imp {X : Cx} {tg e : Expr} {t t' : TI} (h : PI X tg e t) (k : ∀ σ H Q, t' σ H Q → t σ H Q) : PI X tg e t' := ⟨fun pins s σ H Q I q => h.run pins s σ H Q I (k σ H Q q)⟩
theorem drop_at {α : Type} {l : List α} {i : Nat} {d : α} {ds : List α} (h : l.drop i = d :: ds) : l[i]? = some d ∧ l.drop (i + 1) = ds := by
  have h1 : (l.drop i)[0]? = some d := by rw [h]; rfl
  rw [List.getElem?_drop] at h1
  refine ⟨by simpa using h1, ?_⟩
  have h2 := congrArg (List.drop 1) h
  rw [List.drop_drop] at h2
  simpa using h2
theorem ds_for {iter : Expr} {msrc : MI} (C : Ctx X W k) (hi : PI X tgt iter (LI X.K W msrc)) (hg : PG X tgt (LG X.K g)) (hb : PSs X body (LS X.K W mb)) (hs : ∀ x, foldedSetIterable iter X.env x = pure x := by intro _; rfl) :
    PS X (.For tgt iter body [] pos) (LS X.K W (sFor msrc g mb)) :=
  (ps_for C.pass C.calm hi hg hb hs).imp fun En σ H ⟨ι, env, M, S, R, h⟩ => ⟨ι, env, M, S, R, (thenS_out R h).imp fun s M1 ι1 H1 e1 S1 h1 J hJ => by
    refine ⟨fun i m σ2 H2 => ∃ ι2 env2 M2, Ext X.K ι1 H1 ι2 H2 ∧ SR X.K ι2 H2 M2 ∧ EnvR X.K ι2 H2 env2 σ2 ∧ SOutP X.K W ι2 H2 (forL s.good g mb (s.items.drop i) env2 M2) En ∧ m = s.items.length - i,
      ⟨_, ι1, env, M1, Ext.refl, S1, R.ext e1, h1, rfl⟩, ?_⟩
    rintro i m σ2 H2 ⟨ι2, env2, M2, e2, S2, R2, h2, rfl⟩
    cases q : s.items.drop i with
    | nil =>
      rw [q] at h2
      unfold forL at h2
      split at h2
      · rename_i gd
        refine .inl ⟨((hJ ι2 H2 M2 e2 S2 gd i).2 ?_), SOutP.next_val S2 R2 h2⟩
        have := congrArg List.length q
        simp at this
        omega
      · exact h2.elim
    | cons d ds =>
      rw [q] at h2
      unfold forL at h2
      obtain ⟨hd, hds⟩ := drop_at q
      split at h2
      · rename_i gd
        obtain ⟨go, yld⟩ := (hJ ι2 H2 M2 e2 S2 gd i).1 d hd
        split at h2
        · rename_i env3 ge
          refine .inr ⟨go, fun σ' H' => ∃ ι2 env2 M2, Ext X.K ι1 H1 ι2 H' ∧ SR X.K ι2 H' M2 ∧ EnvR X.K ι2 H' env2 σ' ∧ SOutP X.K W ι2 H' (forL s.good g mb (s.items.drop (i + 1)) env2 M2) En, ?_, ?_⟩
          · rintro σ' H' ⟨ι3, env3, M3, e3, S3, R3, h3⟩
            refine ⟨s.items.length - (i + 1), ?_, ι3, env3, M3, e3, S3, R3, h3, rfl⟩
            have := (List.getElem?_eq_some_iff.mp hd).1
            omega
          · intro x H' y
            obtain ⟨e3, S3, r3⟩ := yld x H' y
            refine ⟨ι2, env2, d, env3, r3, R2.ext e3, ge, fun σ3 R3 => ⟨ι2, env3, M2, S3, R3, ?_⟩⟩
            have h3 := SOutP.ext e3 h2
            have e4 := e2.trans e3
            revert h3
            cases mb env3 M2 with
            | next env4 M4 => exact fun h3 ι4 σ4 H4 e5 S4 R4 => ⟨ι4, env4, M4, e4.trans e5, S4, R4, by rw [hds]; exact SOutP.ext e5 h3⟩
            | ret d M4 => exact fun h3 => h3
            | exc x env4 M4 => exact fun h3 => h3
            | stuck => exact fun h3 => h3
        · exact h2.elim
      · exact h2.elim⟩
end
end TL
end
section
namespace TL
open PySem PySem.Spec PyProof.Rows L2
def strItems (z : Str) : List D := z.cps.toList.map fun c => .str ⟨#[c]⟩
def srcOf (M : Mem) : D → Option Src
  | .tup xs => some ⟨xs, fun _ => True⟩
  | .str z => some ⟨strItems z, fun _ => True⟩
  | .ref n => (seqAt M n).map fun xs => ⟨xs, fun M' => seqAt M' n = some xs⟩
  | _ => none
def iAny (e : ME) : MI := fun env M => (e env M).bind fun d M1 => match srcOf M1 d with
  | some s => .ok s M1
  | none => .stuck
def rngItems (lo : Int) (n : Nat) : List D := (List.range n).map fun i => .int (lo + (i : Nat))
/-- bounds of a range; nothing reckons it -/
def RngOk (j : Int) : Prop := -(2 ^ 62) ≤ j ∧ j < 2 ^ 62
open Classical in
noncomputable def iRange1 (e : ME) : MI := fun env M => (e env M).bind fun d M1 => kInt d fun j => if RngOk j then .ok ⟨rngItems 0 j.toNat, fun _ => True⟩ M1 else .stuck
open Classical in
noncomputable def iRange2 (a b : ME) : MI := fun env M => (a env M).bind fun d M1 => (b env M1).bind fun d2 M2 => kInt d fun i => kInt d2 fun j =>
  if RngOk i ∧ RngOk j then .ok ⟨rngItems i (j - i).toNat, fun _ => True⟩ M2 else .stuck
section
variable {X : Cx} {W : WX} {tg e : Expr} {me : ME}
theorem pi_any {tl : TE} (hl : PE X e tl) : PI X tg e (fun σ H R => tl σ H fun x H1 => (∃ a, x = .ref a ∧ (∃ xs, SqT X.K H1 a xs) ∧ R (Itt X.K a) H1) ∨ (∃ a, x = .ref a ∧ (∃ xs, SqL X.K H1 a xs) ∧ R (Itl X.K a) H1) ∨ (∃ z, x = .str z ∧ R (Its z) H1)) := by
  refine ⟨fun pins s σ H R I h => ?_⟩
  refine thn (hl.run pins s σ H _ I h) fun v s1 ⟨x, H1, I1, r1, q1⟩ => ?_
  rcases q1 with ⟨a, rfl, ⟨xs, hq⟩, q⟩ | ⟨a, rfl, ⟨xs, hq⟩, q⟩ | ⟨z, rfl, q⟩
  · cases r1
    obtain ⟨its, rv, p, hz⟩ := I1.tuple hq
    refine wpAny_pyIter_tuple (show s1.heap.IsTuple a its.toArray from p) ?_
    refine ⟨s1.heap.objs.size, [s1.heap.objs.size], _, _, H1, rfl, I1.kept (t' := s1.toks) fun b o e => Heap.get?_push_of_some _ e, turn_tuple a _, ⟨_, Heap.get?_push_size _ rfl, rfl, rfl⟩, fun b hb => ?_, q⟩
    have e : b = s1.heap.objs.size := by simpa using hb
    subst e
    exact I1.fpOk (Nat.le_refl _) (I1.hok.fresh (Nat.le_refl _))
  · cases r1
    obtain ⟨its, rv, p, hz⟩ := I1.list hq
    refine wpAny_pyIter_list p.isList ?_
    refine ⟨s1.heap.objs.size, [s1.heap.objs.size], _, _, H1, rfl, I1.kept (t' := s1.toks) fun b o e => Heap.get?_push_of_some _ e, turn_list a _, ⟨_, Heap.get?_push_size _ rfl, rfl, rfl⟩, fun b hb => ?_, q⟩
    have e : b = s1.heap.objs.size := by simpa using hb
    subst e
    exact I1.fpOk (Nat.le_refl _) (I1.hok.fresh (Nat.le_refl _))
  · obtain ⟨t, rfl⟩ := r1
    cases ha : z.cps.all (· < 128)
    · exact wpAny_pyIter_wide ha (pi_one (tk := s1.toks) I1 _ (turn_str _ z t "str_iterator" (.inr rfl)) ⟨_, Heap.get?_push_size _ rfl, rfl, rfl⟩ q)
    · exact wpAny_pyIter_ascii ha (pi_one (tk := s1.toks) I1 _ (turn_str _ z t "str_ascii_iterator" (.inl rfl)) ⟨_, Heap.get?_push_size _ rfl, rfl, rfl⟩ q)
theorem srcJ_of {ι : List Addr} {H : Hp} {M : Mem} {d : D} {s : Src} {v : V} (S : SR X.K ι H M) (r : Rp X.K ι H d v) (h : srcOf M d = some s) {R : It → Hp → Prop} (q : ∀ J, SrcJ X.K ι H s J → R J H) :
    (∃ a, v = .ref a ∧ (∃ xs, SqT X.K H a xs) ∧ R (Itt X.K a) H) ∨ (∃ a, v = .ref a ∧ (∃ xs, SqL X.K H a xs) ∧ R (Itl X.K a) H) ∨ (∃ z, v = .str z ∧ R (Its z) H) := by
  cases d with
  | tup xs =>
    cases h
    obtain ⟨p, vs, rfl, t1, r1⟩ := r.tup_inv
    refine .inl ⟨p, rfl, ⟨vs, t1⟩, q _ fun ι1 H1 M1 e1 S1 _ i => ⟨fun d hd => ?_, fun hl => ⟨vs, e1.tup _ _ t1, by rw [← r1.length]; exact hl⟩⟩⟩
    obtain ⟨u, h1, h2⟩ := (r1.ext e1).get hd
    refine ⟨⟨vs, u, e1.tup _ _ t1, h1⟩, fun x H' y => ?_⟩
    obtain ⟨rfl, y2⟩ := y
    have e := y2 vs (e1.tup _ _ t1)
    rw [h1] at e; cases e
    exact ⟨Ext.refl, S1, h2⟩
  | str z =>
    cases h
    cases r.str_inv
    refine .inr (.inr ⟨z, rfl, q _ fun ι1 H1 M1 e1 S1 _ i => ⟨fun d hd => ?_, fun hl => ?_⟩⟩)
    · have hd' : (z.cps.toList.map fun c => D.str ⟨#[c]⟩)[i]? = some d := hd
      rw [List.getElem?_map] at hd'
      cases q2 : z.cps.toList[i]? with
      | none => rw [q2] at hd'; cases hd'
      | some c =>
        rw [q2] at hd'
        cases hd'
        have hi := (List.getElem?_eq_some_iff.mp q2).1
        have q3 : z.cps[i]? = some c := by rw [← Array.getElem?_toList]; exact q2
        refine ⟨by show i < z.cps.size; simpa using hi, fun x H' y => ?_⟩
        obtain ⟨rfl, c', hc, rfl⟩ := y
        rw [q3] at hc; cases hc
        exact ⟨Ext.refl, S1, .str _⟩
    · have hl' : (z.cps.toList.map fun c => D.str ⟨#[c]⟩).length ≤ i := hl
      show z.cps.size ≤ i
      simpa using hl'
  | ref n =>
    obtain ⟨p, rfl, hp⟩ := r.ref_inv
    have h' : (seqAt M n).map (fun xs => (⟨xs, fun M' => seqAt M' n = some xs⟩ : Src)) = some s := h
    cases q2 : seqAt M n with
    | none => rw [q2] at h'; cases h'
    | some xs =>
      rw [q2] at h'
      cases h'
      obtain ⟨vs, h1, r1⟩ := S.seq hp q2
      refine .inr (.inl ⟨p, rfl, ⟨vs, h1⟩, q _ fun ι1 H1 M1 e1 S1 gd i => ?_⟩)
      obtain ⟨us, g1, g2⟩ := S1.seq (e1.pre _ _ hp) gd
      refine ⟨fun d hd => ?_, fun hl => ⟨us, g1, by rw [← g2.length]; exact hl⟩⟩
      obtain ⟨u, h3, h4⟩ := g2.get hd
      refine ⟨⟨us, u, g1, h3⟩, fun x H' y => ?_⟩
      obtain ⟨rfl, y2⟩ := y
      have e := y2 us g1
      rw [h3] at e; cases e
      exact ⟨Ext.refl, S1, h4⟩
  | _ => cases h
theorem di_any (he : PE X e (LE X.K W me)) : PI X tg e (LI X.K W (iAny me)) :=
  (pi_any he).imp fun σ H R0 ⟨ι, env, M, S, R, h⟩ => ⟨ι, env, M, S, R, (OutP.bind h).imp fun d M1 ι1 H1 e1 S1 h1 v rv => by
    revert h1
    cases q : srcOf M1 d with
    | none => exact fun h1 => h1.elim
    | some s => exact fun h1 => srcJ_of S1 rv q (OutP.val S1 h1)⟩
theorem srcJ_rng {K : PySem.W.Frag} {ι : List Addr} {H : Hp} (lo : Int) (n : Nat) : SrcJ K ι H ⟨rngItems lo n, fun _ => True⟩ (Itr lo n) := fun ι1 H1 M1 e1 S1 _ i => by
  refine ⟨fun d hd => ?_, fun hl => ?_⟩
  · have hd' : ((List.range n).map fun i => D.int (lo + (i : Nat)))[i]? = some d := hd
    rw [List.getElem?_map] at hd'
    cases q : (List.range n)[i]? with
    | none => rw [q] at hd'; cases hd'
    | some j =>
      rw [q] at hd'
      cases hd'
      obtain ⟨h1, h2⟩ := List.getElem?_eq_some_iff.mp q
      have h2' : i = j := by simpa using h2
      subst h2'
      refine ⟨by show i < n; simpa using h1, fun x H' y => ?_⟩
      obtain ⟨rfl, rfl⟩ := y
      exact ⟨Ext.refl, S1, .int _⟩
  · have hl' : ((List.range n).map fun i => D.int (lo + (i : Nat))).length ≤ i := hl
    show n ≤ i
    simpa using hl'
theorem di_range1 {a : Expr} {ma : ME} {p pos : Pos} (hm : X.mg "range" = none) (ha : PE X a (LE X.K W ma)) (hg : Gl X "range" := by rfl) (hs : starEach [a] X.env = [(false, eval a X.env)] := by rfl) (hs' : starEach [a] X.env = (false, eval a X.env) :: starEach [] X.env := by rfl) :
    PI X tg (.Call (.Name "range" p) [a] [] pos) (LI X.K W (iRange1 ma)) :=
  (pi_range1 hg hm (pa_cons ha pa_nil hs') hs).imp fun σ H R0 ⟨ι, env, M, S, R, h⟩ => ⟨ι, env, M, S, R, (OutP.bind h).imp fun d M1 ι1 H1 e1 S1 h1 v rv => by
    obtain ⟨j, rfl, h2⟩ := kInt_inv h1
    cases rv.int_inv
    split at h2
    · rename_i c
      exact ⟨j, rfl, c.1, c.2, OutP.val S1 h2 _ (srcJ_rng 0 _)⟩
    · exact h2.elim⟩
end
def Out.nox {α : Type} (o : Out α) : Out α := match o with
  | .exc _ _ => .stuck
  | o => o
@[simp] theorem Out.nox_ok {α : Type} (a : α) (M : Mem) : (Out.ok a M).nox = .ok a M := rfl
@[simp] theorem Out.nox_stuck {α : Type} : (Out.stuck : Out α).nox = .stuck := rfl
@[simp] theorem Out.bind_assoc {α β γ : Type} (o : Out α) (f : α → Mem → Out β) (g : β → Mem → Out γ) : (o.bind f).bind g = o.bind fun a M => (f a M).bind g := by cases o <;> rfl
theorem OutP.nox {K : PySem.W.Frag} {W W' : Value → Option Addr → Hp → Prop} {ι : List Addr} {H : Hp} {α β : Type} {o : Out α} {f : α → Mem → Out β} {R : β → Mem → List Addr → Hp → Prop} (h : OutP K W ι H (o.nox.bind f) R) :
    OutP K W' ι H o (fun a M ι1 H1 => OutP K W ι1 H1 (f a M) R) := by
  cases o with
  | ok a M => exact fun ι' H' e s => OutP.ext e h
  | exc x M => exact h.elim
  | stuck => exact h
open Classical in
noncomputable def compL (good : Mem → Prop) (i : Nat) (t : MT) (e : ME) (n : Nat) (env : Env) : List D → Mem → Out Unit
  | [], M => if good M then .ok () M else .stuck
  | d :: ds, M => if good M then (t (env.set i (some d)) M).nox.bind fun k M1 => if k = true then (e (env.set i (some d)) M1).nox.bind fun y M2 => match M2[n]? with
        | some (.lst acc) => if acc.length < sizeLine then compL good i t e n env ds (M2.set n (.lst (acc ++ [y]))) else .stuck
        | _ => .stuck
      else compL good i t e n env ds M1
    else .stuck
noncomputable def eComp (i : Nat) (s : MI) (t : MT) (e : ME) : ME := fun env M => (s env M).bind fun s M1 => (compL s.good i t e M1.length env s.items (M1 ++ [.lst []])).bind fun _ M2 => .ok (.ref M1.length) M2
def tYesD : MT := fun _ M => .ok true M
abbrev W0 : WX := fun _ _ _ _ => False
theorem takesN0 {X : Cx} : L2N.Takes X W0 := fun _ _ x => by
  obtain ⟨_, _, _, _, _, _, _, _, _, _, _, _, _, _, _, _, z⟩ := x
  exact z.elim
theorem Ctx.blk {X : Cx} {W : WX} {k : Nat} (C : Ctx X W k) {s : Shared} {H : Hp} {scope : Scope} {cenv : PySem.Env} {fp : List Addr} : Ctx (X.blk s H scope cenv fp) W0 k := ⟨C.calm, C.nd, C.room, takesN0, PassesOwn.never⟩
section
variable {X : Cx} {W : WX} {k : Nat}
theorem dts_nil : PTs X [] (LT X.K W tYesD) := ⟨fun pins s σ H Q I ⟨ι, env, M, S, R, h⟩ => (pts_nil (X := X)).run pins s σ H Q I (OutP.val (W := W1 W σ) (R := TR Q) S h)⟩
theorem dts_one {c : Expr} {mt : MT} (h : PT X c (LT X.K W mt)) : PTs X [c] (LT X.K W mt) := pts_one h
theorem le_comp {i : Nat} {ms : MI} {mt : MT} {me : ME} {σ : L2.St} {H : Hp} {Q : VK} (h : LE X.K W (eComp i ms mt me) σ H Q) :
    tLc (LI X.K W ms) (gName i) (LT X.K W0 mt) (LE X.K W0 me) [i] σ H Q := by
  obtain ⟨ι, env, M, S, R, h⟩ := h
  refine ⟨ι, env, M, S, R, (OutP.bind h).imp fun s M1 ι1 H1 e1 S1 h1 J hJ => fun D hD => ?_⟩
  have S2 := S1.alloc (u := .lst []) hD ⟨[], upd_same, .nil⟩
  have e2 : Ext X.K ι1 H1 (ι1 ++ [D]) (upd H1 D (.lst [])) := Ext.more hD
  have hlen := S1.len
  have hat : (ι1 ++ [D])[M1.length]? = some D := by rw [← hlen]; simp
  have h2 := OutP.ext e2 h1
  generalize hn : M1.length = n at h2 hat
  refine ⟨fun j m H3 => ∃ ι3 M3, Ext X.K (ι1 ++ [D]) (upd H1 D (.lst [])) ι3 H3 ∧ SR X.K ι3 H3 M3 ∧ m = s.items.length - j ∧
    OutP X.K (W1 W σ) ι3 H3 ((compL s.good i mt me n env (s.items.drop j) M3).bind fun _ M4 => .ok (.ref n) M4) (VR X.K Q), ⟨_, _, _, Ext.refl, S2, rfl, by rw [List.drop_zero]; exact h2⟩, ?_⟩
  rintro j m H3 ⟨ι3, M3, e3, S3, rfl, h3⟩
  cases q : s.items.drop j with
  | nil =>
    rw [q] at h3
    unfold compL at h3
    split at h3
    · rename_i gd
      refine .inl ⟨(hJ ι3 H3 M3 (e2.trans e3) S3 gd j).2 ?_, OutP.val (W := W1 W σ) (R := VR X.K Q) (a := .ref n) S3 (show OutP X.K (W1 W σ) ι3 H3 (Out.ok (.ref n) M3) (VR X.K Q) from h3) _ (.ref (e3.pre _ _ hat))⟩
      have := congrArg List.length q
      simp at this
      omega
    · exact h3.elim
  | cons d ds =>
    rw [q] at h3
    unfold compL at h3
    obtain ⟨hd, hds⟩ := drop_at q
    split at h3
    · rename_i gd
      obtain ⟨go, yld⟩ := (hJ ι3 H3 M3 (e2.trans e3) S3 gd j).1 d hd
      refine .inr ⟨go, fun H' => ∃ ι3 M3, Ext X.K (ι1 ++ [D]) (upd H1 D (.lst [])) ι3 H' ∧ SR X.K ι3 H' M3 ∧
        OutP X.K (W1 W σ) ι3 H' ((compL s.good i mt me n env (s.items.drop (j + 1)) M3).bind fun _ M4 => .ok (.ref n) M4) (VR X.K Q), ?_, ?_⟩
      · rintro H' ⟨ι4, M4, e4, S4, h4⟩
        refine ⟨s.items.length - (j + 1), ?_, ι4, M4, e4, S4, rfl, h4⟩
        have := (List.getElem?_eq_some_iff.mp hd).1
        omega
      · intro x H' y
        obtain ⟨e4, S4, r4⟩ := yld x H' y
        have R4 : EnvR X.K ι3 H' (env.set i (some d)) ((wipe σ [i]).set i (some x)) := by
          have r0 := (((R.ext e1).ext (e2.trans e3)).ext e4)
          have r1 := (r0.unset i).set r4 i
          rw [List.set_set] at r1
          exact r1
        have h5 := OutP.ext e4 h3
        refine ⟨by show ((σ.set i none).set i (some x)).set i none = σ.set i none; rw [List.set_set, List.set_set], ι3, env.set i (some d), M3, S4, R4, ?_⟩
        have h6 := h5
        rw [Out.bind_assoc] at h6
        refine (OutP.nox (W' := W1 W0 _) h6).imp fun kk M5 ι5 H5 e5 S5 h7 => ?_
        show if kk = true then _ else _
        cases kk with
        | false =>
          refine iteF ⟨ι5, M5, (e3.trans e4).trans e5, S5, ?_⟩
          rw [hds]
          exact h7
        | true =>
          refine iteT ⟨ι5, _, M5, S5, R4.ext e5, ?_⟩
          have h8 : OutP X.K (W1 W σ) ι5 H5 (((me (env.set i (some d)) M5).nox.bind fun y M2 => match M2[n]? with
            | some (.lst acc) => if acc.length < sizeLine then compL s.good i mt me n env ds (M2.set n (.lst (acc ++ [y]))) else .stuck
            | _ => .stuck).bind fun _ M4 => .ok (.ref n) M4) (VR X.K Q) := h7
          rw [Out.bind_assoc] at h8
          refine (OutP.nox (W' := W1 W0 _) h8).imp fun y M6 ι6 H6 e6 S6 h9 v rv => ?_
          have hD6 : ι6[n]? = some D := e6.pre _ _ (e5.pre _ _ (e3.pre _ _ hat))
          revert h9
          split
          · rename_i acc ma
            split
            · rename_i hsz
              intro h9
              obtain ⟨vs, g1, g2⟩ := S6.lst hD6 ma
              refine ⟨vs, g1, by rw [← g2.length]; exact hsz, ι6, M6.set n (.lst (acc ++ [y])), ?_, ?_, ?_⟩
              · exact (((e3.trans e4).trans e5).trans e6).trans (Ext.upd (by rw [g1]; exact fun z => z))
              · exact S6.write hD6 ma rfl rfl ⟨_, upd_same, (g2.append (.cons rv .nil)).ext (Ext.upd (by rw [g1]; exact fun z => z))⟩
              · rw [hds]
                exact OutP.ext (Ext.upd (by rw [g1]; exact fun z => z)) h9
            · exact fun h9 => h9.elim
          · exact fun h9 => h9.elim
    · exact h3.elim
theorem d_comp {elt iter : Expr} {ifs : List Expr} {scope : Scope} {i : Nat} {x : Str} {px pos : Pos} {ms : MI} {mt : MT} {me : ME} (C : Ctx X W k) (hi : PI X (.Name x px) iter (LI X.K W ms)) (ok : BlkOk X.N X.env.scope scope [(x, i)])
    (hg : ∀ (s : Shared) (H : Hp) (C : Addr) (cl : List (Str × Addr)) (fp : List Addr), PG (X.blk s H scope (compEnvC scope cl C X.env) fp) (.Name x px) (gName i))
    (ht : ∀ (s : Shared) (H : Hp) (C : Addr) (cl : List (Str × Addr)) (fp : List Addr), Ctx (X.blk s H scope (compEnvC scope cl C X.env) fp) W0 k → PTs (X.blk s H scope (compEnvC scope cl C X.env) fp) ifs (LT X.K W0 mt))
    (he : ∀ (s : Shared) (H : Hp) (C : Addr) (cl : List (Str × Addr)) (fp : List Addr), Ctx (X.blk s H scope (compEnvC scope cl C X.env) fp) W0 k → PE (X.blk s H scope (compEnvC scope cl C X.env) fp) elt (LE X.K W0 me))
    (hs : ∀ x, foldedSetIterable iter X.env x = pure x := by intro _; rfl) : PE X (.ListComp elt [⟨.Name x px, iter, ifs, 0⟩] scope pos) (LE X.K W (eComp i ms mt me)) :=
  (pe_lc (own := [(x, i)]) C.calm C.nd hi ok hg (fun s H c cl fp => ht s H c cl fp C.blk) (fun s H c cl fp => he s H c cl fp C.blk) hs).imp fun σ H Q h => le_comp h
end
end TL
end
section
namespace TL
open PySem PySem.Spec PyProof.Rows L2
def tyD (T : String) (M : Mem) : D → Bool
  | .str _ => decide (T = "str")
  | .ref n => decide (T = "list") && (seqAt M n).isSome
  | _ => false
def eMeth (T : String) (f : D → OpN) (o : ME) (a : MA) : ME := fun env M => (o env M).bind fun x M1 => if tyD T M1 x = true then (a env M1).bind fun xs M2 => liftO (f x xs M2) else .stuck
def mAppend : D → OpN := fun d ds M => match d, ds with
  | .ref n, [y] => match M[n]? with
    | some (.lst xs) => if xs.length < sizeLine then some (.non, M.set n (.lst (xs ++ [y]))) else none
    | _ => none
  | _, _ => none
def mPop : D → OpN := fun d ds M => match d, ds with
  | .ref n, [] => match M[n]? with
    | some (.lst xs) => (xs[xs.length - 1]?).map fun y => (y, M.set n (.lst xs.dropLast))
    | _ => none
  | _, _ => none
section
variable {K : PySem.W.Frag} {ι : List Addr} {H : Hp} {M : Mem}
theorem RpA.nil_inv {vs : List V} (r : RpA K ι H [] vs) : vs = [] := by cases r; rfl
theorem tyD_ok {T : String} {d : D} {v : V} (S : SR K ι H M) (r : Rp K ι H d v) (h : tyD T M d = true) : tyV K T v H := by
  cases d with
  | str x => cases r.str_inv; exact of_decide_eq_true (p := T = "str") h
  | ref n =>
    obtain ⟨p, rfl, hp⟩ := r.ref_inv
    obtain ⟨h1, h2⟩ := Bool.and_eq_true_iff.mp h
    cases q : seqAt M n with
    | none => rw [q] at h2; cases h2
    | some xs =>
      obtain ⟨vs, h3, _⟩ := S.seq hp q
      exact .inl ⟨of_decide_eq_true h1, vs, h3⟩
  | _ => cases h
end
section
variable {X : Cx} {W : WX} {k : Nat}
theorem m_append : MtR X "list.append" (rDM X.K mAppend) := by
  refine MtR.imp mt_append fun x xs H Q h => ?_
  obtain ⟨ι, M, d, ds, S, r, rs, h⟩ := h
  unfold mAppend at h
  split at h
  · obtain ⟨p, rfl, hp⟩ := r.ref_inv
    obtain ⟨v, rfl, rv⟩ := rs.one_inv
    split at h
    · rename_i ys m1
      obtain ⟨vs, h1, r1⟩ := S.lst hp m1
      split at h
      · exact ⟨_, vs, _, rfl, rfl, h1, by rw [← r1.length]; assumption, h.setLst S hp m1 (r1.append (.cons rv .nil)) .non⟩
      · exact h.elim
    · exact h.elim
  · exact h.elim
theorem m_pop : MtR X "list.pop" (rDM X.K mPop) := by
  refine MtR.imp mt_pop fun x xs H Q h => ?_
  obtain ⟨ι, M, d, ds, S, r, rs, h⟩ := h
  unfold mPop at h
  split at h
  · obtain ⟨p, rfl, hp⟩ := r.ref_inv
    cases rs.nil_inv
    split at h
    · rename_i ys m1
      obtain ⟨vs, h1, r1⟩ := S.lst hp m1
      cases q : ys[ys.length - 1]? with
      | none => rw [q] at h; exact h.elim
      | some y =>
        rw [q] at h
        obtain ⟨v, g1, g2⟩ := r1.get q
        exact ⟨_, vs, v, rfl, rfl, h1, by rw [← r1.length]; exact g1, OpO.setLst S h hp m1 r1.dropLast g2⟩
    · exact h.elim
  · exact h.elim
variable {o e : Expr} {es : List Expr} {mo : ME} {mas : MA} {name : Str} {apos cpos : Pos} {T id : String} {f : D → OpN}
theorem d_meth0 (pa : PlainAttrs T) (slot : Slot T name id) (hty : typeOf (.builtin id) = pure (.type "method_descriptor")) (hm : MtR X id (rDM X.K f)) (ho : PE X o (LE X.K W mo))
    (hbase : attributeBase o name X.env (eval o X.env) = eval o X.env := by rfl) (hline : (apos.endLine == cpos.line) = true := by rfl) : PE X (.Call (.Attribute o name apos) [] [] cpos) (LE X.K W (eMeth T f mo aNil)) :=
  (pe_bm0 pa slot hty hm ho hbase hline).imp fun σ H Q ⟨ι, env, M, S, R, h⟩ => ⟨ι, env, M, S, R, (OutP.bind h).imp fun x M1 ι1 H1 e1 S1 h1 v rv => by
    split at h1
    · rename_i ht
      exact ⟨tyD_ok S1 rv ht, ι1, M1, x, [], S1, rv, .nil, OpO.of (W := W1 W σ) h1⟩
    · exact h1.elim⟩
theorem d_meth (pa : PlainAttrs T) (slot : Slot T name id) (hty : typeOf (.builtin id) = pure (.type "method_descriptor")) (hm : MtR X id (rDM X.K f)) (ho : PE X o (LE X.K W mo)) (ha : PA X (e :: es) (LA X.K W mas))
    (hbase : attributeBase o name X.env (eval o X.env) = eval o X.env := by rfl)
    (hfew : ((backTo cpos (starEach (e :: es) X.env)).all (fun x => !x.1) && (backToKw cpos (keywordEach [] X.env)).all (fun x => x.1.isSome)
      && decide ((e :: es).length + ([] : List Keyword).length + (if ([] : List Keyword).isEmpty then 0 else 1) < 30)) = true := by rfl)
    (hline : (apos.endLine == cpos.line) = true := by rfl) (hs : starEach (e :: es) X.env = (false, eval e X.env) :: starEach es X.env := by rfl) (hplain : (backTo cpos (starEach es X.env)).any (·.1) = false := by rfl) :
    PE X (.Call (.Attribute o name apos) (e :: es) [] cpos) (LE X.K W (eMeth T f mo mas)) :=
  (pe_bm pa slot hty hm ho ha hbase hfew hline hs hplain).imp fun σ H Q ⟨ι, env, M, S, R, h⟩ => ⟨ι, env, M, S, R, (OutP.bind h).imp fun x M1 ι1 H1 e1 S1 h1 v rv => by
    split at h1
    · rename_i ht
      exact ⟨tyD_ok S1 rv ht, ι1, env, M1, S1, R.ext e1, (OutP.bind h1).imp fun xs M2 ι2 H2 e2 S2 h2 us ru => ⟨ι2, M2, x, xs, S2, rv.ext e2, ru, OpO.of h2⟩⟩
    · exact h1.elim⟩
end
def blsOf : List D → Option (List Bool)
  | [] => some []
  | .bl b :: ds => (blsOf ds).map (b :: ·)
  | _ => none
def intsOf : List D → Option (List Int)
  | [] => some []
  | .int b :: ds => (intsOf ds).map (b :: ·)
  | _ => none
def maxI : List Int → Int
  | [] => 0
  | [a] => a
  | a :: b :: r => max a (maxI (b :: r))
theorem maxI_mem : ∀ {ns : List Int}, ns ≠ [] → maxI ns ∈ ns ∧ ∀ a ∈ ns, a ≤ maxI ns
  | [], h => absurd rfl h
  | [a], _ => by simp [maxI]
  | a :: b :: r, _ => by
    obtain ⟨h1, h2⟩ := maxI_mem (ns := b :: r) (by simp)
    refine ⟨?_, fun c hc => ?_⟩
    · show max a (maxI (b :: r)) ∈ _
      rcases Int.le_total a (maxI (b :: r)) with q | q
      · rw [Int.max_eq_right q]; exact List.mem_cons_of_mem _ h1
      · rw [Int.max_eq_left q]; exact List.mem_cons_self
    · show c ≤ max a (maxI (b :: r))
      rcases List.mem_cons.mp hc with rfl | hc
      · exact Int.le_max_left _ _
      · exact Int.le_trans (h2 c hc) (Int.le_max_right _ _)
def nAll : OpN := fun ds M => match ds with
  | [.ref n] => match seqAt M n with
    | some xs => (blsOf xs).map fun bs => (.bl (bs.all id), M)
    | none => none
  | _ => none
def nMax : OpN := fun ds M => match ds with
  | [.ref n] => match seqAt M n with
    | some xs => match intsOf xs with
      | some ns => if ns = [] then none else some (.int (maxI ns), M)
      | none => none
    | none => none
  | _ => none
section
variable {K : PySem.W.Frag} {ι : List Addr} {H : Hp} {M : Mem}
theorem bls_v : ∀ {ds : List D} {vs : List V} {bs : List Bool}, RpA K ι H ds vs → blsOf ds = some bs → vs = bs.map V.bl
  | [], _, _, .nil, e => by cases e; rfl
  | d :: ds, _, bs, .cons r t, e => by
    cases d with
    | bl b =>
      have e' : (blsOf ds).map (b :: ·) = some bs := e
      cases q : blsOf ds with
      | none => rw [q] at e'; cases e'
      | some cs =>
        rw [q] at e'
        cases e'
        cases r.bl_inv
        rw [bls_v t q]
        rfl
    | _ => cases e
theorem ints_v : ∀ {ds : List D} {vs : List V} {bs : List Int}, RpA K ι H ds vs → intsOf ds = some bs → vs = bs.map V.int
  | [], _, _, .nil, e => by cases e; rfl
  | d :: ds, _, bs, .cons r t, e => by
    cases d with
    | int b =>
      have e' : (intsOf ds).map (b :: ·) = some bs := e
      cases q : intsOf ds with
      | none => rw [q] at e'; cases e'
      | some cs =>
        rw [q] at e'
        cases e'
        cases r.int_inv
        rw [ints_v t q]
        rfl
    | _ => cases e
end
section
variable {X : Cx}
theorem c_all (hc : X.calm = true) : CallR X (.builtin "all") (rDN X.K nAll) := by
  refine CallR.imp (cr_all hc) fun xs H Q h => ?_
  obtain ⟨ι, M, ds, S, r, h⟩ := h
  unfold nAll at h
  split at h
  · obtain ⟨v, rfl, rv⟩ := r.one_inv
    obtain ⟨p, rfl, hp⟩ := rv.ref_inv
    split at h
    · rename_i ys m
      obtain ⟨vs, h1, r1⟩ := S.seq hp m
      cases q : blsOf ys with
      | none => rw [q] at h; exact h.elim
      | some bs =>
        rw [q] at h
        cases bls_v r1 q
        exact ⟨p, bs, rfl, h1, OpO.val S h (.bl _)⟩
    · exact h.elim
  · exact h.elim
theorem c_max (hc : X.calm = true) : CallR X (.builtin "max") (rDN X.K nMax) := by
  refine CallR.imp (cr_max hc) fun xs H Q h => ?_
  obtain ⟨ι, M, ds, S, r, h⟩ := h
  unfold nMax at h
  split at h
  · obtain ⟨v, rfl, rv⟩ := r.one_inv
    obtain ⟨p, rfl, hp⟩ := rv.ref_inv
    split at h
    · rename_i ys m
      obtain ⟨vs, h1, r1⟩ := S.seq hp m
      split at h
      · rename_i ns q
        cases ints_v r1 q
        split at h
        · exact h.elim
        · rename_i hne
          refine ⟨p, ns, rfl, h1, List.length_pos_iff.mpr hne, fun m hm hle => ?_⟩
          obtain ⟨k1, k2⟩ := maxI_mem hne
          have : m = maxI ns := Int.le_antisymm (k2 m hm) (hle _ k1)
          subst this
          exact OpO.val S h (.int _)
      · exact h.elim
    · exact h.elim
  · exact h.elim
end
def startE (n : Nat) (ds : List D) : Env := ds.map some ++ List.replicate (n - ds.length) none
def endS : SOut → Out D
  | .next _ M => .ok .non M
  | .ret d M => .ok d M
  | .exc x _ M => .exc x M
  | .stuck => .stuck
@[simp] theorem endS_next (env : Env) (M : Mem) : endS (.next env M) = .ok .non M := rfl
@[simp] theorem endS_ret (d : D) (M : Mem) : endS (.ret d M) = .ok d M := rfl
@[simp] theorem endS_exc (x : Ex) (env : Env) (M : Mem) : endS (.exc x env M) = .exc x M := rfl
@[simp] theorem endS_stuck : endS .stuck = .stuck := rfl
/-- a def of np parameters and n names -/
def fnD (np n : Nat) (b : MS) : Fn := fun ds M => if ds.length = np then endS (b (startE n ds) M) else .stuck
def noFn : Fn := fun _ _ => .stuck
theorem envR_start {K : PySem.W.Frag} {ι : List Addr} {H : Hp} : ∀ {ds : List D} {vs : List V}, RpA K ι H ds vs → ∀ r : Nat, EnvR K ι H (ds.map some ++ List.replicate r none) (vs.map some ++ List.replicate r none)
  | _, _, .nil, r => by
    induction r with
    | zero => exact .nil
    | succ r ih => exact .cons trivial ih
  | _, _, .cons h t, r => .cons h (envR_start t r)
section
variable {P : Program} {w : World} {K : PySem.W.Frag} {mg : Str → Option Value} {base : Heap}
/-- a def by its body -/
theorem okF {x qual : Str} {params : Arguments} {body : List Stmt} {scope : Scope} {f : Addr} {fd : FuncData} {N ps : List Str} {k : Nat} {mb : MS} (F : FunD K x qual params body scope [] [] f fd) (S : FnScope N ps scope)
    (hbody : ∀ (cdv : Value) (A : Around) (outer : List PySem.Env) (s : Shared) (H : Hp) (E : XK), let X := cxOf (L2N.CX P w) P w K mg base N qual scope f cdv A outer s H E
      Ctx X (fun cls d _ H => E cls d H) k → PSs X body (LS K (fun cls d _ H => E cls d H) mb)) :
    FnOk P w K mg base (L2N.CX P w) (k + 1) f fd ps (spD K ps.length (fnD ps.length N.length mb)) := by
  refine F.ok S (fun vs H Q E h => h.1) ?_
  rintro cdv A outer s H vs Q E hr ⟨hl, ι, ds, M, SS, rs, h⟩
  have C : Ctx (cxOf (L2N.CX P w) P w K mg base N qual scope f cdv A outer s H E) (fun cls d _ H => E cls d H) k := ⟨rfl, S.nd, hr, L2N.takes_of rfl rfl rfl rfl, passes_of rfl⟩
  refine ⟨_, hbody cdv A outer s H E C, ι, startE N.length ds, M, SS, ?_, ?_⟩
  · unfold startE L2.start
    rw [rs.length]
    exact envR_start rs _
  · unfold fnD at h
    rw [if_pos (by rw [rs.length]; exact hl)] at h
    revert h
    cases mb (startE N.length ds) M with
    | next env M1 => exact fun h ι1 σ1 H1 e1 S1 _ => h ι1 H1 e1 S1 _ .non
    | ret d M1 => exact fun h ι1 v H1 e1 S1 r => h ι1 H1 e1 S1 v r
    | exc y env M1 => exact fun h ι1 σ1 H1 cls dx e1 S1 _ ex => h ι1 H1 cls dx e1 S1 ex
    | stuck => exact fun h => h
theorem okD {x qual : Str} {params : Arguments} {body : List Stmt} {scope : Scope} {f : Addr} {N ps : List Str} {k : Nat} {mb : MS} (F : ∃ fd, FunD K x qual params body scope [] [] f fd) (S : FnScope N ps scope) (hm : mg x = some (.ref f))
    (hbind : ∀ (kV doc pm : Value) (an : Option Addr) (cdv ct : Value) (us : List Value), us.length = ps.length → bindArgs (PySem.W.fnOf x qual params body scope .none kV doc pm an cdv ct) ⟨us, []⟩ = pure (ps.zip us))
    (hbody : ∀ (cdv : Value) (A : Around) (outer : List PySem.Env) (s : Shared) (H : Hp) (E : XK), let X := cxOf (L2N.CX P w) P w K mg base N qual scope f cdv A outer s H E
      Ctx X (fun cls d _ H => E cls d H) k → PSs X body (LS K (fun cls d _ H => E cls d H) mb)) :
    Callee P w K mg base x ps.length (k + 1) (fnD ps.length N.length mb) := by
  obtain ⟨fd, F⟩ := F
  exact ⟨⟨f, fd, ps, okF F S hbody, hm, F.kp, F.bindsN hbind, rfl⟩, fun ds M h => if_neg h⟩
/-- nothing is promised -/
theorem noD {x qual : Str} {params : Arguments} {body : List Stmt} {scope : Scope} {f : Addr} {ps : List Str} {k : Nat} (F : ∃ fd, FunD K x qual params body scope [] [] f fd) (hm : mg x = some (.ref f))
    (hbind : ∀ (kV doc pm : Value) (an : Option Addr) (cdv ct : Value) (us : List Value), us.length = ps.length → bindArgs (PySem.W.fnOf x qual params body scope .none kV doc pm an cdv ct) ⟨us, []⟩ = pure (ps.zip us)) :
    Callee P w K mg base x ps.length k noFn := by
  obtain ⟨fd, F⟩ := F
  exact ⟨⟨f, fd, ps, ⟨fun vs H Q E h => h.1, fun A outer s H args us vs Q E _ _ _ _ h => by obtain ⟨_, ι, ds, M, _, _, z⟩ := h; exact z.elim⟩, hm, F.kp, F.bindsN hbind, rfl⟩, fun _ _ _ => rfl⟩
end
end TL
end
section
set_option maxHeartbeats 2000000
namespace TL
open PySem PySem.Spec PyProof.Rows L2
abbrev AlB : Type := Bool × List He.FnW
def obsB (ok : PySem.W.Frag → Bool) (fn : List He.DefD) (K : PySem.W.Frag) : AlB := (ok K && fn.all (fun d => d.ok K), fn.map fun d => He.fnW K d.at_)
def valB (fn : List He.DefD) : AlB := (true, fn.map He.DefD.val)
def SaysB (ok : PySem.W.Frag → Bool) (fn : List He.DefD) (K : PySem.W.Frag) : Prop := obsB ok fn K = valB fn
section
variable {ok : PySem.W.Frag → Bool} {fn : List He.DefD} {K : PySem.W.Frag}
theorem SaysB.fact (c : SaysB ok fn K) : ok K = true := (He.ba (show (ok K && fn.all fun d => d.ok K) = true from congrArg (fun z : AlB => z.1) c)).1
theorem SaysB.def_ (c : SaysB ok fn K) (i : Nat) {d : He.DefD} (h : fn[i]? = some d := by rfl) : ∃ fd, FunD K d.name d.qual d.params d.body d.scope (d.dvs K) (d.kws K) (He.fAd K d.at_) fd := by
  have c2 := (He.ba (show (ok K && fn.all fun d => d.ok K) = true from congrArg (fun z : AlB => z.1) c)).2
  have e : fn.map (fun d => He.fnW K d.at_) = fn.map He.DefD.val := congrArg (fun z : AlB => z.2) c
  have e2 : (fn.map fun d => He.fnW K d.at_)[i]? = (fn.map He.DefD.val)[i]? := by rw [e]
  rw [List.getElem?_map, List.getElem?_map, h] at e2
  exact He.DefD.funD (Option.some.inj e2) (List.all_eq_true.mp c2 d (List.mem_of_getElem? h))
/-- all of some -/
theorem all_at {α : Type} {p : α → Bool} {l : List α} (h : l.all p = true) (i : Nat) {a : α} (e : l[i]? = some a := by rfl) : p a = true := List.all_eq_true.mp h a (List.mem_of_getElem? e)
/-- the module's name x is a tuple of these -/
theorem glob_tup {h : Heap} {mg : Str → Option Value} (X : K.In h) (G : h.Ns mainGlobals mg) {x : Str} {vs : List He.Dv} {ds : List D} (c1 : (He.Fa.glo x).ok K = true) (c2 : He.tupB K x vs = true) (r : ∀ ι H, RpA K ι H ds (vs.map (He.Dv.v K))) : Glob K mg x (.tup ds) :=
  ⟨.ref (He.ga K x), _, He.glo_ok X G c1, rfl, fun ι H => .tup (He.tupB_ok c2 H) (r ι H)⟩
theorem glob_int {h : Heap} {mg : Str → Option Value} (X : K.In h) (G : h.Ns mainGlobals mg) {x : Str} {i : Int} (c : (He.Fa.int x i).ok K = true) : Glob K mg x (.int i) := by
  obtain ⟨t, e⟩ := He.int_ok X G c
  exact ⟨.int i, _, e, ⟨t, rfl⟩, fun ι H => .int i⟩
theorem glob_str {h : Heap} {mg : Str → Option Value} (X : K.In h) (G : h.Ns mainGlobals mg) {x z : Str} (c : (He.Fa.str x z).ok K = true) : Glob K mg x (.str z) := by
  obtain ⟨t, e⟩ := He.str_ok X G c
  exact ⟨.str z, _, e, ⟨t, rfl⟩, fun ι H => .str z⟩
end
theorem cx_false {P : Program} {w : World} {H : Hp} {s : Shared} {e : Value} {s' : Shared} (h : L2N.CX P w [] H s (fun _ _ _ => False) e s') : False := by
  obtain ⟨_, _, _, _, _, _, _, _, _, _, _, _, z⟩ := h
  exact z
theorem ints_rp {K : PySem.W.Frag} {ι : List Addr} {H : Hp} : ∀ ns : List Int, RpA K ι H (ns.map D.int) (ns.map V.int)
  | [] => .nil
  | i :: ns => .cons (.int i) (ints_rp ns)
theorem law_sp {K : PySem.W.Frag} {m : Fn} {H : Hp} {a : Addr} {ns : List Int} (hO : Only H) (hS : SqL K H a (ns.map V.int)) (h : ∃ M', m [.ref 0] [.rol (ns.map D.int)] = .ok (.bl true) M') :
    spD K 1 m [.ref a] H (fun v _ => v = .bl true) fun _ _ _ => False := by
  obtain ⟨M', h⟩ := h
  refine ⟨rfl, [a], [.ref 0], [.rol (ns.map D.int)], ⟨rfl, fun n b o h1 h2 => ?_, fun n m b o u h1 h2 h3 h4 m1 m2 => ?_⟩, .cons (.ref rfl) .nil, ?_⟩
  · match n, h1, h2 with
    | 0, h1, h2 =>
      cases h1; cases h2
      refine ⟨_, ?_, ints_rp ns⟩
      rcases hS with (h | ⟨o, h⟩) | h
      · rcases hO a with q | ⟨o, xs, q⟩ <;> rw [q] at h <;> cases h
      · exact .inl ⟨o, h⟩
      · exact .inr h
    | n + 1, h1, h2 => cases h1
  · match n, h3 with
    | 0, h3 => cases h3; cases m1
    | n + 1, h3 => cases h3
  · rw [h]
    exact fun ι' H' e s v r => r.bl_inv
end TL
end
section
namespace TL
open PySem PySem.Spec PyProof.Rows L2
theorem Ctx.hu {X : Cx} {W : WX} {k : Nat} (C : Ctx X W k) : X.A.units + 64 < cLine := C.room.units
def nInt : OpN := fun ds M => match ds with
  | [.int i] => some (.int i, M)
  | [.bl b] => some (.int (if b then 1 else 0), M)
  | _ => none
theorem c_int {X : Cx} : CallR X (.type "int") (rDN X.K nInt) := by
  refine CallR.imp call_int1 fun xs H Q h => ?_
  obtain ⟨ι, M, ds, S, r, h⟩ := h
  unfold nInt at h
  split at h
  · obtain ⟨v, rfl, rv⟩ := r.one_inv
    cases rv.int_inv
    exact .inl ⟨_, rfl, h.val S (.int _)⟩
  · obtain ⟨v, rfl, rv⟩ := r.one_inv
    cases rv.bl_inv
    exact .inr ⟨_, rfl, OpO.val S h (.int _)⟩
  · exact h.elim
end TL
end
section
namespace TL
open PySem PySem.Spec PyProof.Rows L2
section
variable {env : Env} {M : Mem}
@[simp] theorem eVar_ap {i : Nat} : eVar i env M = match env[i]? with | some (some d) => .ok d M | _ => .stuck := rfl
@[simp] theorem eC_ap {d : D} : eC d env M = .ok d M := rfl
@[simp] theorem eBin_ap {f : Op2} {a b : ME} : eBin f a b env M = (a env M).bind fun x M1 => (b env M1).bind fun y M2 => liftO (f x y M2) := rfl
@[simp] theorem eUn_ap {f : Op1} {a : ME} : eUn f a env M = (a env M).bind fun x M1 => liftO (f x M1) := rfl
@[simp] theorem eChain_ap {f g : Op2} {a b c : ME} : eChain f g a b c env M = (a env M).bind fun x M1 => (b env M1).bind fun y M2 => (liftO (f x y M2)).bind fun z M3 => kBl z fun k =>
  if k = true then (c env M3).bind fun w M4 => liftO (g y w M4) else .ok (.bl false) M3 := rfl
@[simp] theorem eAnd_ap {a b : ME} : eAnd a b env M = (a env M).bind fun x M1 => kBl x fun k => if k = true then b env M1 else .ok (.bl false) M1 := rfl
@[simp] theorem eOr_ap {a b : ME} : eOr a b env M = (a env M).bind fun x M1 => kBl x fun k => if k = true then .ok (.bl true) M1 else b env M1 := rfl
@[simp] theorem eNot_ap {a : ME} : eNot a env M = (a env M).bind fun x M1 => kBl x fun k => .ok (.bl (!k)) M1 := rfl
@[simp] theorem eIf_ap {t : MT} {a b : ME} : eIf t a b env M = (t env M).bind fun k M1 => if k = true then a env M1 else b env M1 := rfl
@[simp] theorem tB_ap {e : ME} : tB e env M = (e env M).bind fun d M1 => kBl d fun k => .ok k M1 := rfl
@[simp] theorem tTru_ap {e : ME} : tTru e env M = (e env M).bind fun d M1 => match truD M1 d with | some k => .ok k M1 | none => .stuck := rfl
@[simp] theorem tAnd_ap {a b : MT} : tAnd a b env M = (a env M).bind fun k M1 => if k = true then b env M1 else .ok false M1 := rfl
@[simp] theorem tOr_ap {a b : MT} : tOr a b env M = (a env M).bind fun k M1 => if k = true then .ok true M1 else b env M1 := rfl
@[simp] theorem tNot_ap {a : MT} : tNot a env M = (a env M).bind fun k M1 => .ok (!k) M1 := rfl
@[simp] theorem aNil_ap : aNil env M = .ok [] M := rfl
@[simp] theorem aCons_ap {a : ME} {r : MA} : aCons a r env M = (a env M).bind fun x M1 => (r env M1).bind fun xs M2 => .ok (x :: xs) M2 := rfl
@[simp] theorem eTup_ap {a : MA} : eTup a env M = (a env M).bind fun xs M1 => if xs.length ≤ 1000 then .ok (.tup xs) M1 else .stuck := rfl
@[simp] theorem eLst_ap {a : MA} : eLst a env M = (a env M).bind fun xs M1 => if xs.length ≤ 1000 then .ok (.ref M1.length) (M1 ++ [.lst xs]) else .stuck := rfl
@[simp] theorem eCall_ap {m : Fn} {a : MA} : eCall m a env M = (a env M).bind m := rfl
@[simp] theorem eCallO_ap {f : OpN} {a : MA} : eCallO f a env M = (a env M).bind fun xs M1 => liftO (f xs M1) := rfl
@[simp] theorem oNone_ap : oNone env M = .ok none M := rfl
@[simp] theorem oSome_ap {a : ME} : oSome a env M = (a env M).bind fun x M1 => kInt x fun i => .ok (some i) M1 := rfl
@[simp] theorem eSl_ap {a : ME} {lo hi : MO'} : eSl a lo hi env M = (a env M).bind fun x M1 => (lo env M1).bind fun l M2 => (hi env M2).bind fun h M3 => liftO (mSl x l h M3) := rfl
@[simp] theorem eIsi_ap {T : String} {a : ME} : eIsi T a env M = (a env M).bind fun x M1 => liftO (mIsi T x M1) := rfl
@[simp] theorem eMeth_ap {T : String} {f : D → OpN} {o : ME} {a : MA} : eMeth T f o a env M = (o env M).bind fun x M1 => if tyD T M1 x = true then (a env M1).bind fun xs M2 => liftO (f x xs M2) else .stuck := rfl
@[simp] theorem sNil_ap : sNil env M = .next env M := rfl
@[simp] theorem sSeq_ap {a b : MS} : sSeq a b env M = nextS (a env M) b := rfl
@[simp] theorem sExpr_ap {e : ME} : sExpr e env M = thenS env (e env M) fun _ M1 => .next env M1 := rfl
@[simp] theorem sRet_ap {e : ME} : sRet e env M = thenS env (e env M) fun d M1 => .ret d M1 := rfl
@[simp] theorem sRetN_ap : sRetN env M = .ret .non M := rfl
@[simp] theorem sIf_ap {t : MT} {a b : MS} : sIf t a b env M = thenS env (t env M) fun k M1 => if k = true then a env M1 else b env M1 := rfl
@[simp] theorem sAsg_ap {g : MG} {e : ME} : sAsg g e env M = thenS env (e env M) fun d M1 => match g d env with | some env' => .next env' M1 | none => .stuck := rfl
@[simp] theorem sSub_ap {o i e : ME} : sSub o i e env M = thenS env (e env M) fun v M1 => thenS env (o env M1) fun x M2 => thenS env (i env M2) fun y M3 => match setD x y v M3 with | some M4 => .next env M4 | none => .stuck := rfl
@[simp] theorem sFor_ap {i : MI} {g : MG} {b : MS} : sFor i g b env M = thenS env (i env M) fun s M1 => forL s.good g b s.items env M1 := rfl
@[simp] theorem gOne_ap {i : Nat} {d : D} : gOne i d env = some (env.set i (some d)) := rfl
@[simp] theorem tYesD_ap : tYesD env M = .ok true M := rfl
open Classical in
@[simp] theorem iRange1_ap {e : ME} : iRange1 e env M = (e env M).bind fun d M1 => kInt d fun j => if RngOk j then .ok ⟨rngItems 0 j.toNat, fun _ => True⟩ M1 else .stuck := rfl
open Classical in
@[simp] theorem iRange2_ap {a b : ME} : iRange2 a b env M = (a env M).bind fun d M1 => (b env M1).bind fun d2 M2 => kInt d fun i => kInt d2 fun j => if RngOk i ∧ RngOk j then .ok ⟨rngItems i (j - i).toNat, fun _ => True⟩ M2 else .stuck := rfl
@[simp] theorem rngOk_of {j : Int} (h0 : 0 ≤ j) (h1 : j ≤ 1000000) : RngOk j := ⟨Int.le_trans (by decide) h0, Int.lt_of_le_of_lt h1 (by decide)⟩
@[simp] theorem rngOk_nat {n : Nat} (h1 : n ≤ 1000000) : RngOk (n : Int) := rngOk_of (by omega) (by omega)
@[simp] theorem iAny_ap {e : ME} : iAny e env M = (e env M).bind fun d M1 => match srcOf M1 d with | some s => .ok s M1 | none => .stuck := rfl
@[simp] theorem eComp_ap {i : Nat} {s : MI} {t : MT} {e : ME} : eComp i s t e env M = (s env M).bind fun s M1 => (compL s.good i t e M1.length env s.items (M1 ++ [.lst []])).bind fun _ M2 => .ok (.ref M1.length) M2 := rfl
@[simp] theorem gTupD_ap {is : List Nat} {ds : List D} : gTupD is (.tup ds) env = if ds.length = is.length then some (setAll env is ds) else none := rfl
@[simp] theorem setAll_cons {i : Nat} {is : List Nat} {d : D} {ds : List D} : setAll env (i :: is) (d :: ds) = setAll (env.set i (some d)) is ds := rfl
@[simp] theorem setAll_nil {ds : List D} : setAll env [] ds = env := by cases ds <;> rfl
variable {i j : Int} {b c : Bool} {x y : Str} {xs ys : List D} {n m : Nat} {d e : D}
@[simp] theorem mAdd_int : mAdd (.int i) (.int j) M = some (.int (i + j), M) := rfl
@[simp] theorem mAdd_tup : mAdd (.tup xs) (.tup ys) M = if xs.length + ys.length ≤ sizeLine then some (.tup (xs ++ ys), M) else none := rfl
@[simp] theorem mAdd_str : mAdd (.str x) (.str y) M = if x.length + y.length ≤ sizeLine then some (.str (x ++ y), M) else none := rfl
@[simp] theorem mAdd_ref : mAdd (.ref n) (.ref m) M = match M[n]?, M[m]? with
    | some (.lst xs), some (.lst ys) => if xs.length + ys.length ≤ sizeLine then some (.ref M.length, M ++ [.lst (xs ++ ys)]) else none
    | _, _ => none := rfl
@[simp] theorem mSub_int : mSub (.int i) (.int j) M = some (.int (i - j), M) := rfl
@[simp] theorem mMod_int : mMod (.int i) (.int j) M = if 0 < j then some (.int (i % j), M) else none := rfl
@[simp] theorem mFdiv_int : mFdiv (.int i) (.int j) M = if 0 < j ∧ j < 1073741824 then some (.int (i / j), M) else none := rfl
@[simp] theorem mPow_int : mPow (.int i) (.int j) M = if 0 ≤ j ∧ j ≤ 1000000 ∧ i.natAbs < 2 ^ 64 then some (.int (i ^ j.toNat), M) else none := rfl
@[simp] theorem mMul_int : mMul (.int i) (.int j) M = @ite _ ((-(2 ^ 64) < i ∧ i < 2 ^ 64) ∨ (-(2 ^ 64) < j ∧ j < 2 ^ 64)) (Classical.propDecidable _) (some (.int (i * j), M)) none := rfl
@[simp] theorem mNeg_int : mNeg (.int i) M = some (.int (-i), M) := rfl
@[simp] theorem mLt_int : mCmp (fun i j => decide (i < j)) (.int i) (.int j) M = some (.bl (decide (i < j)), M) := rfl
@[simp] theorem mLe_int : mCmp (fun i j => decide (i ≤ j)) (.int i) (.int j) M = some (.bl (decide (i ≤ j)), M) := rfl
@[simp] theorem mGt_int : mCmp (fun i j => decide (j < i)) (.int i) (.int j) M = some (.bl (decide (j < i)), M) := rfl
@[simp] theorem mGe_int : mCmp (fun i j => decide (j ≤ i)) (.int i) (.int j) M = some (.bl (decide (j ≤ i)), M) := rfl
theorem mEq_eq : mEq d e M = (eqD M d e).map fun k => (.bl k, M) := rfl
theorem mNe_eq : mNe d e M = (eqD M d e).map fun k => (.bl (!k), M) := rfl
@[simp] theorem eqD_int : eqD M (.int i) (.int j) = some (decide (i = j)) := by
  have : (i == j) = decide (i = j) := rfl
  rw [← this]; rfl
@[simp] theorem mEq_int : mEq (.int i) (.int j) M = some (.bl (decide (i = j)), M) := by rw [mEq_eq, eqD_int]; rfl
@[simp] theorem mNe_int : mNe (.int i) (.int j) M = some (.bl (!decide (i = j)), M) := by rw [mNe_eq, eqD_int]; rfl
@[simp] theorem mIs_non : mIs d .non M = some (.bl (isNon d), M) := rfl
@[simp] theorem mIsNot_non : mIsNot d .non M = some (.bl (!isNon d), M) := rfl
@[simp] theorem mIs_bl : mIs (.bl b) (.bl c) M = some (.bl (b == c), M) := rfl
@[simp] theorem mIsNot_bl : mIsNot (.bl b) (.bl c) M = some (.bl (!(b == c)), M) := rfl
@[simp] theorem isNon_non : isNon .non = true := rfl
@[simp] theorem isNon_int : isNon (.int i) = false := rfl
@[simp] theorem isNon_bl : isNon (.bl b) = false := rfl
@[simp] theorem isNon_str : isNon (.str x) = false := rfl
@[simp] theorem isNon_tup : isNon (.tup xs) = false := rfl
@[simp] theorem isNon_ref : isNon (.ref n) = false := rfl
@[simp] theorem mIdx_tup : mIdx (.tup xs) (.int i) M = (atI xs i).map fun d => (d, M) := rfl
@[simp] theorem mIdx_ref : mIdx (.ref n) (.int i) M = match seqAt M n with | some xs => (atI xs i).map fun d => (d, M) | none => none := rfl
@[simp] theorem mSl_tup {lo hi : Option Int} : mSl (.tup xs) lo hi M = some (.tup (cutL xs lo hi), M) := rfl
@[simp] theorem mSl_ref {lo hi : Option Int} : mSl (.ref n) lo hi M = match seqAt M n with | some xs => some (.ref M.length, M ++ [.lst (cutL xs lo hi)]) | none => none := rfl
@[simp] theorem nLen_tup : nLen [.tup xs] M = some (.int (xs.length : Nat), M) := rfl
@[simp] theorem nLen_ref : nLen [.ref n] M = (seqAt M n).map fun xs => (.int (xs.length : Nat), M) := rfl
@[simp] theorem nLen_str : nLen [.str x] M = if x.length ≤ sizeLine then some (.int (x.length : Nat), M) else none := rfl
@[simp] theorem nMax2_int : nMax2 [.int i, .int j] M = some (.int (if j > i then j else i), M) := rfl
@[simp] theorem nMin2_int : nMin2 [.int i, .int j] M = some (.int (if j < i then j else i), M) := rfl
@[simp] theorem nInt_int : nInt [.int i] M = some (.int i, M) := rfl
@[simp] theorem nInt_bl : nInt [.bl b] M = some (.int (if b then 1 else 0), M) := rfl
@[simp] theorem mIsi_int {T : String} : mIsi T (.int i) M = (kitB "int" T).map fun b => (.bl b, M) := rfl
@[simp] theorem mIsi_bl {T : String} : mIsi T (.bl b) M = (kitB "bool" T).map fun b => (.bl b, M) := rfl
@[simp] theorem mIsi_str {T : String} : mIsi T (.str x) M = (kitB "str" T).map fun b => (.bl b, M) := rfl
@[simp] theorem mIsi_non {T : String} : mIsi T .non M = (kitB "NoneType" T).map fun b => (.bl b, M) := rfl
@[simp] theorem mIsi_tup {T : String} : mIsi T (.tup xs) M = (kitB "tuple" T).map fun b => (.bl b, M) := rfl
theorem mIsi_ref {T : String} (h : seqAt M n = some xs) : mIsi T (.ref n) M = (kitB "list" T).map fun b => (.bl b, M) := by
  have e : tyName M (.ref n) = some "list" := by show (seqAt M n).map (fun _ => "list") = _; rw [h]; rfl
  unfold mIsi; rw [e]
@[simp] theorem kit_ii : kitB "int" "int" = some true := by decide +kernel
@[simp] theorem kit_ib : kitB "int" "bool" = some false := by decide +kernel
@[simp] theorem kit_it : kitB "int" "tuple" = some false := by decide +kernel
@[simp] theorem kit_is : kitB "int" "str" = some false := by decide +kernel
@[simp] theorem kit_il : kitB "int" "list" = some false := by decide +kernel
@[simp] theorem kit_bi : kitB "bool" "int" = some true := by decide +kernel
@[simp] theorem kit_bb : kitB "bool" "bool" = some true := by decide +kernel
@[simp] theorem kit_bt : kitB "bool" "tuple" = some false := by decide +kernel
@[simp] theorem kit_bs : kitB "bool" "str" = some false := by decide +kernel
@[simp] theorem kit_bl : kitB "bool" "list" = some false := by decide +kernel
@[simp] theorem kit_si : kitB "str" "int" = some false := by decide +kernel
@[simp] theorem kit_sb : kitB "str" "bool" = some false := by decide +kernel
@[simp] theorem kit_st : kitB "str" "tuple" = some false := by decide +kernel
@[simp] theorem kit_ss : kitB "str" "str" = some true := by decide +kernel
@[simp] theorem kit_sl : kitB "str" "list" = some false := by decide +kernel
@[simp] theorem kit_ni : kitB "NoneType" "int" = some false := by decide +kernel
@[simp] theorem kit_nb : kitB "NoneType" "bool" = some false := by decide +kernel
@[simp] theorem kit_nt : kitB "NoneType" "tuple" = some false := by decide +kernel
@[simp] theorem kit_ns : kitB "NoneType" "str" = some false := by decide +kernel
@[simp] theorem kit_nl : kitB "NoneType" "list" = some false := by decide +kernel
@[simp] theorem kit_ti : kitB "tuple" "int" = some false := by decide +kernel
@[simp] theorem kit_tb : kitB "tuple" "bool" = some false := by decide +kernel
@[simp] theorem kit_tt : kitB "tuple" "tuple" = some true := by decide +kernel
@[simp] theorem kit_ts : kitB "tuple" "str" = some false := by decide +kernel
@[simp] theorem kit_tl : kitB "tuple" "list" = some false := by decide +kernel
@[simp] theorem kit_li : kitB "list" "int" = some false := by decide +kernel
@[simp] theorem kit_lb : kitB "list" "bool" = some false := by decide +kernel
@[simp] theorem kit_lt : kitB "list" "tuple" = some false := by decide +kernel
@[simp] theorem kit_ls : kitB "list" "str" = some false := by decide +kernel
@[simp] theorem kit_ll : kitB "list" "list" = some true := by decide +kernel
end
/-- it ends with a value, and this is so of it -/
def Ret {α : Type} (o : Out α) (P : α → Mem → Prop) : Prop := ∃ a M, o = .ok a M ∧ P a M
theorem Ret.ok {α : Type} {a : α} {M : Mem} {P : α → Mem → Prop} (h : P a M) : Ret (.ok a M) P := ⟨_, _, rfl, h⟩
theorem Ret.imp {α : Type} {o : Out α} {P Q : α → Mem → Prop} (h : Ret o P) (k : ∀ a M, P a M → Q a M) : Ret o Q := by
  obtain ⟨a, M, e, p⟩ := h
  exact ⟨a, M, e, k a M p⟩
theorem Ret.bind {α β : Type} {o : Out α} {f : α → Mem → Out β} {P : α → Mem → Prop} {Q : β → Mem → Prop} (h : Ret o P) (k : ∀ a M, P a M → Ret (f a M) Q) : Ret (o.bind f) Q := by
  obtain ⟨a, M, rfl, p⟩ := h
  exact k a M p
theorem atI_ok {α : Type} {xs : List α} {i : Int} (h0 : 0 ≤ i) (h1 : i < xs.length) : ∃ a, xs[i.toNat]? = some a ∧ atI xs i = some a := by
  have hl : i.toNat < xs.length := by omega
  refine ⟨xs[i.toNat], List.getElem?_eq_getElem hl, ?_⟩
  unfold atI ixN
  rw [if_pos h0, if_pos h1]
  exact List.getElem?_eq_getElem hl
theorem seqAt_lst {M : Mem} {n : Nat} {xs : List D} (h : M[n]? = some (.lst xs)) : seqAt M n = some xs := by unfold seqAt; rw [h]
@[simp] theorem atI_0 {α : Type} {a : α} {xs : List α} : atI (a :: xs) 0 = some a := by simp [atI, ixN]
theorem atI_lit {α : Type} {xs : List α} (k : Nat) {a : α} (h : xs[k]? = some a) : atI xs (k : Int) = some a := atI_nat h
@[simp] theorem atI_1 {α : Type} {a b : α} {xs : List α} : atI (a :: b :: xs) 1 = some b := atI_lit (xs := a :: b :: xs) 1 rfl
@[simp] theorem atI_2 {α : Type} {a b c : α} {xs : List α} : atI (a :: b :: c :: xs) 2 = some c := atI_lit (xs := a :: b :: c :: xs) 2 rfl
@[simp] theorem atI_3 {α : Type} {a b c d : α} {xs : List α} : atI (a :: b :: c :: d :: xs) 3 = some d := atI_lit (xs := a :: b :: c :: d :: xs) 3 rfl
@[simp] theorem atI_4 {α : Type} {a b c d e : α} {xs : List α} : atI (a :: b :: c :: d :: e :: xs) 4 = some e := atI_lit (xs := a :: b :: c :: d :: e :: xs) 4 rfl
@[simp] theorem atI_5 {α : Type} {a b c d e f : α} {xs : List α} : atI (a :: b :: c :: d :: e :: f :: xs) 5 = some f := atI_lit (xs := a :: b :: c :: d :: e :: f :: xs) 5 rfl
@[simp] theorem atI_6 {α : Type} {a b c d e f g : α} {xs : List α} : atI (a :: b :: c :: d :: e :: f :: g :: xs) 6 = some g := atI_lit (xs := a :: b :: c :: d :: e :: f :: g :: xs) 6 rfl
end TL
end
section
namespace TL
open PySem PySem.Spec PyProof.Rows L2
mutual
/-- no list in it, its texts are texts, at most n deep -/
def pureD : D → Nat → Bool
  | .non, _ => true
  | .bl _, _ => true
  | .int _, _ => true
  | .str x, _ => PyData.strOk x
  | .tup _, 0 => false
  | .tup xs, n + 1 => pureL xs n
  | .ref _, _ => false
  | .err _, _ => false
def pureL : List D → Nat → Bool
  | [], _ => true
  | x :: xs, n => pureD x n && pureL xs n
end
mutual
def pyD : D → PyData
  | .non => .none
  | .bl b => .bool b
  | .int i => .int i
  | .str x => .str x
  | .tup xs => .tuple (pyL xs)
  | .ref _ => .none
  | .err _ => .none
def pyL : List D → List PyData
  | [] => []
  | x :: xs => pyD x :: pyL xs
end
mutual
theorem toP_pure {M : Mem} : ∀ (d : D) (n : Nat), pureD d n = true → toP (n + 1) M d = some (pyD d)
  | .non, _, _ => rfl
  | .bl _, _, _ => rfl
  | .int _, _, _ => rfl
  | .str _, _, _ => rfl
  | .tup xs, 0, h => by simp [pureD] at h
  | .tup xs, n + 1, h => by
    have h' : pureL xs n = true := by simpa [pureD] using h
    show (optAll (toP (n + 1) M) xs).map PyData.tuple = _
    rw [toP_pureL xs n h']
    simp [pyD]
  | .ref _, _, h => by simp [pureD] at h
  | .err _, _, h => by simp [pureD] at h
theorem toP_pureL {M : Mem} : ∀ (ds : List D) (n : Nat), pureL ds n = true → optAll (toP (n + 1) M) ds = some (pyL ds)
  | [], _, _ => rfl
  | x :: xs, n, h => by
    have h' : pureD x n = true ∧ pureL xs n = true := by simpa [pureL] using h
    unfold optAll
    rw [toP_pure x n h'.1, toP_pureL xs n h'.2]
    simp [pyL]
end
mutual
theorem lay_pure : ∀ (d : D) (n : Nat), pureD d n = true → (pyD d).canLay0 = true ∧ (pyD d).depth ≤ n
  | .non, _, _ => by simp [pyD, PyData.canLay0, PyData.depth]
  | .bl _, _, _ => by simp [pyD, PyData.canLay0, PyData.depth]
  | .int _, _, _ => by simp [pyD, PyData.canLay0, PyData.depth]
  | .str x, _, h => by
    have h' : PyData.strOk x = true := by simpa [pureD] using h
    simp [pyD, PyData.canLay0, PyData.depth, h']
  | .tup xs, 0, h => by simp [pureD] at h
  | .tup xs, n + 1, h => by
    have h' : pureL xs n = true := by simpa [pureD] using h
    obtain ⟨h1, h2⟩ := lay_pureL xs n h'
    simp [pyD, PyData.canLay0, PyData.depth, h1, h2]
  | .ref _, _, h => by simp [pureD] at h
  | .err _, _, h => by simp [pureD] at h
theorem lay_pureL : ∀ (ds : List D) (n : Nat), pureL ds n = true → PyData.canLayAll0 (pyL ds) = true ∧ PyData.depthAll (pyL ds) ≤ n
  | [], _, _ => by simp [pyL, PyData.canLayAll0, PyData.depthAll]
  | x :: xs, n, h => by
    have h' : pureD x n = true ∧ pureL xs n = true := by simpa [pureL] using h
    obtain ⟨h1, h2⟩ := lay_pure x n h'.1
    obtain ⟨h3, h4⟩ := lay_pureL xs n h'.2
    simp [pyL, PyData.canLayAll0, PyData.depthAll, h1, h3]
    omega
end
theorem toP_mono {M : Mem} {f g : Nat} (h : f ≤ g) : ∀ {d : D} {p : PyData}, toP f M d = some p → toP g M d = some p := by
  induction f generalizing g with
  | zero => intro d p e; cases e
  | succ f ih =>
    intro d p e
    obtain ⟨g, rfl⟩ : ∃ k, g = k + 1 := ⟨g - 1, by omega⟩
    have ihL : ∀ {ds : List D} {ps : List PyData}, optAll (toP f M) ds = some ps → optAll (toP g M) ds = some ps := by
      intro ds
      induction ds with
      | nil => intro ps e; exact e
      | cons x xs ih2 =>
        intro ps e
        unfold optAll at e ⊢
        split at e
        · rename_i y ys h1 h2
          cases e
          rw [ih (by omega) h1, ih2 h2]
        · cases e
    cases d with
    | tup xs =>
      have e' : (optAll (toP f M) xs).map PyData.tuple = some p := e
      cases q : optAll (toP f M) xs with
      | none => rw [q] at e'; cases e'
      | some ps =>
        rw [q] at e'
        show (optAll (toP g M) xs).map PyData.tuple = some p
        rw [ihL q]; exact e'
    | ref n =>
      have e' : (match seqAt M n with | some xs => (optAll (toP f M) xs).map PyData.list | none => none) = some p := e
      show (match seqAt M n with | some xs => (optAll (toP g M) xs).map PyData.list | none => none) = some p
      cases q0 : seqAt M n with
      | none => rw [q0] at e'; cases e'
      | some xs =>
        simp only [q0] at e' ⊢
        cases q : optAll (toP f M) xs with
        | none => rw [q] at e'; cases e'
        | some ps => rw [q] at e'; rw [ihL q]; exact e'
    | _ => exact e
theorem shaped_pure {d : D} {n : Nat} (h : pureD d n = true) (hn : n ≤ 63) : SeqAt.shaped (pyD d) = true := by
  obtain ⟨h1, h2⟩ := lay_pure d n h
  unfold SeqAt.shaped
  rw [h1, Bool.true_and]
  exact decide_eq_true (by omega)
/-- == of data without memory -/
theorem eqD_pure {M : Mem} {a b : D} {n m : Nat} (ha : pureD a n = true) (hb : pureD b m = true) (hn : n ≤ 63) (hm : m ≤ 63) : eqD M a b = some (PyData.eqv (pyD a) (pyD b)) := by
  unfold eqD
  rw [toP_mono (by omega) (toP_pure (M := M) a n ha), toP_mono (by omega) (toP_pure (M := M) b m hb)]
  simp only [shaped_pure ha hn, shaped_pure hb hm, and_self, if_true]
theorem pure_mono : ∀ {d : D} {n m : Nat}, pureD d n = true → n ≤ m → pureD d m = true := by
  have h : ∀ d : D, ∀ n m, n ≤ m → pureD d n = true → pureD d m = true := by
    intro d
    refine D.rec (motive_1 := fun d => ∀ n m, n ≤ m → pureD d n = true → pureD d m = true) (motive_2 := fun ds => ∀ n m, n ≤ m → pureL ds n = true → pureL ds m = true) ?_ ?_ ?_ ?_ ?_ ?_ ?_ ?_ ?_ d
    · intros; simp [pureD]
    · intros; simp [pureD]
    · intros; simp [pureD]
    · intro x n m _ h; simpa [pureD] using h
    · intro xs ih n m hm h
      cases n with
      | zero => simp [pureD] at h
      | succ n =>
        cases m with
        | zero => omega
        | succ m =>
          have h' : pureL xs n = true := by simpa [pureD] using h
          have := ih n m (by omega) h'
          simpa [pureD] using this
    · intro n k m _ h; simp [pureD] at h
    · intro x k m _ h; simp [pureD] at h
    · intros; simp [pureL]
    · intro x xs ih1 ih2 n m hm h
      have h' : pureD x n = true ∧ pureL xs n = true := by simpa [pureL] using h
      simp [pureL, ih1 n m hm h'.1, ih2 n m hm h'.2]
  intro d n m h1 h2
  exact h d n m h2 h1
end TL
end
section
namespace TL
open PySem PySem.Spec PyProof.Rows L2
section
variable {α β : Type} {env : Env} {M : Mem} {o : Out α}
@[simp] theorem endS_thenS (f : α → Mem → SOut) : endS (thenS env o f) = o.bind fun a M => endS (f a M) := by cases o <;> rfl
@[simp] theorem nextS_thenS (f : α → Mem → SOut) (g : Env → Mem → SOut) : nextS (thenS env o f) g = thenS env o fun a M => nextS (f a M) g := by cases o <;> rfl
@[simp] theorem thenS_bind (f : α → Mem → Out β) (g : β → Mem → SOut) : thenS env (o.bind f) g = thenS env o fun a M => thenS env (f a M) g := by cases o <;> rfl
@[simp] theorem nextS_nextS (s : SOut) (f g : Env → Mem → SOut) : nextS (nextS s f) g = nextS s fun e M => nextS (f e M) g := by cases s <;> rfl
end
/-- all that stood stands -/
def Keep (M M' : Mem) : Prop := M.length ≤ M'.length ∧ ∀ n, n < M.length → M'[n]? = M[n]?
theorem Keep.refl (M : Mem) : Keep M M := ⟨Nat.le_refl _, fun _ _ => rfl⟩
theorem Keep.trans {M M1 M2 : Mem} (a : Keep M M1) (b : Keep M1 M2) : Keep M M2 := ⟨Nat.le_trans a.1 b.1, fun n h => (b.2 n (Nat.lt_of_lt_of_le h a.1)).trans (a.2 n h)⟩
theorem Keep.more (M G : Mem) : Keep M (M ++ G) := ⟨by simp, fun n h => List.getElem?_append_left h⟩
theorem Keep.at {M M' : Mem} (k : Keep M M') {n : Nat} {o : MO} (h : M[n]? = some o) : M'[n]? = some o := (k.2 n (List.getElem?_eq_some_iff.mp h).1).trans h
/-- the last one of a memory changes, all ahead stands -/
theorem Keep.setNew {M M' : Mem} {n : Nat} {o : MO} (k : Keep M M') (h : M.length ≤ n) : Keep M (M'.set n o) :=
  ⟨by rw [List.length_set]; exact k.1, fun m hm => by rw [List.getElem?_set_ne (by omega)]; exact k.2 m hm⟩
theorem at_len (M : Mem) (o : MO) : (M ++ [o])[M.length]? = some o := by simp
theorem lt_of_at {M : Mem} {n : Nat} {o : MO} (h : M[n]? = some o) : n < M.length := (List.getElem?_eq_some_iff.mp h).1
/-- what is walked over a tuple -/
@[simp] theorem srcOf_tup {M : Mem} {xs : List D} : srcOf M (.tup xs) = some ⟨xs, fun _ => True⟩ := rfl
@[simp] theorem srcOf_str {M : Mem} {x : Str} : srcOf M (.str x) = some ⟨strItems x, fun _ => True⟩ := rfl
theorem srcOf_ref {M : Mem} {n : Nat} {xs : List D} (h : seqAt M n = some xs) : srcOf M (.ref n) = some ⟨xs, fun M' => seqAt M' n = some xs⟩ := by
  show (seqAt M n).map _ = _
  rw [h]; rfl
theorem Keep.seq {M M' : Mem} (k : Keep M M') {n : Nat} {xs : List D} (h : seqAt M n = some xs) : seqAt M' n = some xs := by
  unfold seqAt at h ⊢
  cases q : M[n]? with
  | none => rw [q] at h; cases h
  | some o => rw [k.at q]; rw [q] at h; exact h
theorem forL_nil {good : Mem → Prop} {g : MG} {b : MS} {env : Env} {M : Mem} (h : good M) : forL good g b [] env M = .next env M := by unfold forL; rw [if_pos h]
theorem forL_cons {good : Mem → Prop} {g : MG} {b : MS} {d : D} {ds : List D} {env env1 : Env} {M : Mem} (h : good M) (hg : g d env = some env1) : forL good g b (d :: ds) env M = nextS (b env1 M) (forL good g b ds) := by
  conv => lhs; unfold forL
  rw [if_pos h, hg]
theorem compL_nil {good : Mem → Prop} {i n : Nat} {t : MT} {e : ME} {env : Env} {M : Mem} (h : good M) : compL good i t e n env [] M = .ok () M := by unfold compL; rw [if_pos h]
theorem compL_cons {good : Mem → Prop} {i n : Nat} {t : MT} {e : ME} {env : Env} {d : D} {ds : List D} {M : Mem} (h : good M) : compL good i t e n env (d :: ds) M = (t (env.set i (some d)) M).nox.bind fun k M1 => if k = true then (e (env.set i (some d)) M1).nox.bind fun y M2 => match M2[n]? with
        | some (.lst acc) => if acc.length < sizeLine then compL good i t e n env ds (M2.set n (.lst (acc ++ [y]))) else .stuck
        | _ => .stuck
      else compL good i t e n env ds M1 := by
  conv => lhs; unfold compL
  (rw [if_pos h]) <;> rfl
/-- a comprehension whose test and element leave the memory as it is: the items that are kept, each turned -/
theorem compL_pure {good : Mem → Prop} {i : Nat} {t : MT} {e : ME} {env : Env} {M : Mem} (p : D → Bool) (f : D → D) (hg : ∀ ys : List D, good (M ++ [.lst ys])) : ∀ (ds : List D) (acc : List D), acc.length + ds.length ≤ 1000000 →
    (∀ d ∈ ds, ∀ ys : List D, t (env.set i (some d)) (M ++ [.lst ys]) = .ok (p d) (M ++ [.lst ys]) ∧ (p d = true → e (env.set i (some d)) (M ++ [.lst ys]) = .ok (f d) (M ++ [.lst ys]))) →
    compL good i t e M.length env ds (M ++ [.lst acc]) = .ok () (M ++ [.lst (acc ++ (ds.filter p).map f)])
  | [], acc, _, _ => by rw [compL_nil (hg acc)]; simp
  | d :: ds, acc, hl, h => by
    obtain ⟨h1, h2⟩ := h d List.mem_cons_self acc
    rw [compL_cons (hg acc), h1]
    cases q : p d with
    | false =>
      simp only [Out.nox_ok, Out.bind_ok, Bool.false_eq_true, if_false]
      rw [compL_pure p f hg ds acc (by simp at hl; omega) fun d' hd => h d' (List.mem_cons_of_mem _ hd)]
      rw [List.filter_cons_of_neg (by rw [q]; simp)]
    | true =>
      simp only [Out.nox_ok, Out.bind_ok, if_true]
      rw [h2 q]
      simp only [Out.nox_ok, Out.bind_ok, at_len]
      rw [if_pos (by rw [sizeLine_eq]; simp at hl; omega)]
      have e1 : (M ++ [MO.lst acc]).set M.length (.lst (acc ++ [f d])) = M ++ [.lst (acc ++ [f d])] := by simp
      rw [e1, compL_pure p f hg ds (acc ++ [f d]) (by simp at hl ⊢; omega) fun d' hd => h d' (List.mem_cons_of_mem _ hd)]
      rw [List.filter_cons_of_pos q]
      simp
theorem eComp_pure {i : Nat} {s : MI} {t : MT} {e : ME} {env : Env} {M M1 : Mem} {src : Src} (p : D → Bool) (f : D → D) (hs : s env M = .ok src M1) (hg : ∀ ys : List D, src.good (M1 ++ [.lst ys])) (hl : src.items.length ≤ 1000000)
    (h : ∀ d ∈ src.items, ∀ ys : List D, t (env.set i (some d)) (M1 ++ [.lst ys]) = .ok (p d) (M1 ++ [.lst ys]) ∧ (p d = true → e (env.set i (some d)) (M1 ++ [.lst ys]) = .ok (f d) (M1 ++ [.lst ys]))) :
    eComp i s t e env M = .ok (.ref M1.length) (M1 ++ [.lst ((src.items.filter p).map f)]) := by
  show (s env M).bind _ = _
  rw [hs, Out.bind_ok, compL_pure p f hg src.items [] (by simpa using hl) h]
  simp
end TL
end
section
namespace TL
open PySem PySem.Spec PyProof.Rows L2
theorem toP_ref {M : Mem} {n k : Nat} {xs : List D} (h : seqAt M n = some xs) (hp : pureL xs k = true) : toP (k + 2) M (.ref n) = some (.list (pyL xs)) := by
  show (match seqAt M n with | some xs => (optAll (toP (k + 1) M) xs).map PyData.list | none => none) = _
  rw [h]
  simp only [toP_pureL xs k hp]
  rfl
theorem shaped_list {xs : List D} {k : Nat} (hp : pureL xs k = true) (hk : k ≤ 62) : SeqAt.shaped (.list (pyL xs)) = true := by
  obtain ⟨h1, h2⟩ := lay_pureL xs k hp
  unfold SeqAt.shaped
  have e : (PyData.list (pyL xs)).canLay0 = true := by simpa [PyData.canLay0] using h1
  rw [e, Bool.true_and]
  refine decide_eq_true ?_
  show PyData.depthAll (pyL xs) + 1 ≤ 64
  omega
theorem eqD_ref {M : Mem} {n m k j : Nat} {xs ys : List D} (h1 : seqAt M n = some xs) (h2 : seqAt M m = some ys) (p1 : pureL xs k = true) (p2 : pureL ys j = true) (hk : k ≤ 62) (hj : j ≤ 62) : eqD M (.ref n) (.ref m) = some (PyData.eqvAll (pyL xs) (pyL ys)) := by
  unfold eqD
  rw [toP_mono (by omega) (toP_ref h1 p1), toP_mono (by omega) (toP_ref h2 p2)]
  simp only [shaped_list p1 hk, shaped_list p2 hj, and_self, if_true, PyData.eqv]
theorem eqvAll_nil {xs : List D} : PyData.eqvAll (pyL xs) (pyL []) = xs.isEmpty := by cases xs <;> simp [pyL, PyData.eqvAll]
/-- xs == [], xs != [] -/
theorem mNe_nil {M : Mem} {n m k : Nat} {xs : List D} (h1 : seqAt M n = some xs) (h2 : seqAt M m = some []) (p1 : pureL xs k = true) (hk : k ≤ 62) : mNe (.ref n) (.ref m) M = some (.bl (!xs.isEmpty), M) := by
  rw [mNe_eq, eqD_ref h1 h2 p1 (show pureL [] 0 = true by simp [pureL]) hk (by omega), eqvAll_nil]; rfl
theorem mEq_nil {M : Mem} {n m k : Nat} {xs : List D} (h1 : seqAt M n = some xs) (h2 : seqAt M m = some []) (p1 : pureL xs k = true) (hk : k ≤ 62) : mEq (.ref n) (.ref m) M = some (.bl xs.isEmpty, M) := by
  rw [mEq_eq, eqD_ref h1 h2 p1 (show pureL [] 0 = true by simp [pureL]) hk (by omega), eqvAll_nil]; rfl
theorem pureL_all {xs : List D} {k : Nat} (h : ∀ x ∈ xs, pureD x k = true) : pureL xs k = true := by
  induction xs with
  | nil => simp [pureL]
  | cons x xs ih => simp [pureL, h x List.mem_cons_self, ih fun y hy => h y (List.mem_cons_of_mem _ hy)]
theorem mAppend_ok {M : Mem} {n : Nat} {xs : List D} {y : D} (h1 : M[n]? = some (.lst xs)) (hl : xs.length ≤ 1000000) : mAppend (.ref n) [y] M = some (.non, M.set n (.lst (xs ++ [y]))) := by
  show (match M[n]? with | some (.lst xs) => if xs.length < sizeLine then some (D.non, M.set n (.lst (xs ++ [y]))) else none | _ => none) = _
  rw [h1]
  exact if_pos (by rw [sizeLine_eq]; omega)
theorem mAdd_lists {M : Mem} {n m : Nat} {xs ys : List D} (h1 : M[n]? = some (.lst xs)) (h2 : M[m]? = some (.lst ys)) (hl : xs.length + ys.length ≤ 1000000) : mAdd (.ref n) (.ref m) M = some (.ref M.length, M ++ [.lst (xs ++ ys)]) := by
  rw [mAdd_ref, h1, h2]
  exact if_pos (by rw [sizeLine_eq]; omega)
@[simp] theorem truD_bl {M : Mem} {b : Bool} : truD M (.bl b) = some b := rfl
@[simp] theorem truD_int {M : Mem} {i : Int} : truD M (.int i) = some (i != 0) := rfl
@[simp] theorem truD_non {M : Mem} : truD M .non = some false := rfl
@[simp] theorem mEq_non_int {M : Mem} {i : Int} : mEq .non (.int i) M = some (.bl false, M) := by
  rw [mEq_eq, eqD_pure (n := 0) (m := 0) (by simp [pureD]) (by simp [pureD]) (by decide) (by decide)]; simp [pyD, PyData.eqv]
@[simp] theorem mEq_int_non {M : Mem} {i : Int} : mEq (.int i) .non M = some (.bl false, M) := by
  rw [mEq_eq, eqD_pure (n := 0) (m := 0) (by simp [pureD]) (by simp [pureD]) (by decide) (by decide)]; simp [pyD, PyData.eqv]
@[simp] theorem mEq_bl {M : Mem} {b c : Bool} : mEq (.bl b) (.bl c) M = some (.bl (b == c), M) := by
  rw [mEq_eq, eqD_pure (n := 0) (m := 0) (by simp [pureD]) (by simp [pureD]) (by decide) (by decide)]; simp [pyD, PyData.eqv]
/-- texts are held against one another -/
theorem eqD_str {M : Mem} {x y : Str} : eqD M (.str x) (.str y) = some (decide (x = y)) := by
  unfold eqD
  show (if SeqAt.shaped (.str x) = true ∧ SeqAt.shaped (.str y) = true then some (PyData.eqv (.str x) (.str y)) else strEq (.str x) (.str y)) = _
  split
  · simp only [PyData.eqv]
    rfl
  · rfl
theorem mEq_text {M : Mem} {x y : Str} : mEq (.str x) (.str y) M = some (.bl (decide (x = y)), M) := by rw [mEq_eq, eqD_str]; rfl
theorem mNe_text {M : Mem} {x y : Str} : mNe (.str x) (.str y) M = some (.bl (!decide (x = y)), M) := by rw [mNe_eq, eqD_str]; rfl
end TL
end
section
namespace TL
open PySem PySem.Spec PyProof.Rows L2
theorem compL_keep {good : Mem → Prop} {i n : Nat} {t : MT} {e : ME} {env : Env} (p : D → Bool) (f : D → D) (M0 : Mem) (hg : ∀ M', Keep M0 M' → good M') (hn : M0.length ≤ n) : ∀ (ds acc : List D) (M : Mem), Keep M0 M → M[n]? = some (.lst acc) → acc.length + ds.length ≤ 1000000 →
    (∀ d ∈ ds, ∀ M', Keep M0 M' → ∃ M1, t (env.set i (some d)) M' = .ok (p d) M1 ∧ Keep M' M1 ∧ (p d = true → ∃ M2, e (env.set i (some d)) M1 = .ok (f d) M2 ∧ Keep M1 M2)) →
    ∃ M2, compL good i t e n env ds M = .ok () M2 ∧ Keep M0 M2 ∧ M2[n]? = some (.lst (acc ++ (ds.filter p).map f))
  | [], acc, M, k, ha, _, _ => ⟨M, compL_nil (hg M k), k, by simpa using ha⟩
  | d :: ds, acc, M, k, ha, hl, h => by
    obtain ⟨M1, e1, k1, h2⟩ := h d List.mem_cons_self M k
    rw [compL_cons (hg M k), e1]
    have k01 := k.trans k1
    cases q : p d with
    | false =>
      simp only [Out.nox_ok, Out.bind_ok, Bool.false_eq_true, if_false]
      obtain ⟨M2, e2, k2, a2⟩ := compL_keep p f M0 hg hn ds acc M1 k01 (k1.at ha) (by simp at hl; omega) fun d' hd => h d' (List.mem_cons_of_mem _ hd)
      exact ⟨M2, e2, k2, by rw [List.filter_cons_of_neg (by rw [q]; simp)]; exact a2⟩
    | true =>
      obtain ⟨M2, e2, k2⟩ := h2 q
      simp only [Out.nox_ok, Out.bind_ok, if_true, e2]
      have a2 := k2.at (k1.at ha)
      simp only [a2]
      rw [if_pos (by rw [sizeLine_eq]; simp at hl; omega)]
      obtain ⟨M3, e3, k3, a3⟩ := compL_keep p f M0 hg hn ds (acc ++ [f d]) (M2.set n (.lst (acc ++ [f d]))) ((k01.trans k2).setNew hn) (List.getElem?_set_self (lt_of_at a2)) (by simp at hl ⊢; omega) fun d' hd => h d' (List.mem_cons_of_mem _ hd)
      refine ⟨M3, e3, k3, ?_⟩
      rw [List.filter_cons_of_pos q]
      simpa using a3
theorem mem_rng {lo : Int} {n : Nat} {d : D} (h : d ∈ rngItems lo n) : ∃ k : Nat, k < n ∧ d = .int (lo + k) := by
  obtain ⟨k, hk, rfl⟩ := List.mem_map.mp h
  exact ⟨k, List.mem_range.mp hk, rfl⟩
theorem rng_length {lo : Int} {n : Nat} : (rngItems lo n).length = n := by simp [rngItems]
end TL
end
section
namespace TL
open PySem PySem.Spec PyProof.Rows L2
/-- a statement that is never reached -/
def sStk : MS := fun _ _ => .stuck
end TL
namespace TL
open PySem PySem.Spec PyProof.Rows L2
open Classical in
noncomputable def eTupRg1 (e : ME) : ME := fun env M => (e env M).bind fun d M1 => kInt d fun j => if RgOk 0 j then .ok (.tup (rngItems 0 j.toNat)) M1 else .stuck
open Classical in
noncomputable def eLstRg1 (e : ME) : ME := fun env M => (e env M).bind fun d M1 => kInt d fun j => if RgOk 0 j then .ok (.ref M1.length) (M1 ++ [.lst (rngItems 0 j.toNat)]) else .stuck
open Classical in
noncomputable def eTupRg2 (a b : ME) : ME := fun env M => (a env M).bind fun d M1 => (b env M1).bind fun d2 M2 => kInt d fun i => kInt d2 fun j => if RgOk i j then .ok (.tup (rngItems i (j - i).toNat)) M2 else .stuck
open Classical in
noncomputable def eLstRg2 (a b : ME) : ME := fun env M => (a env M).bind fun d M1 => (b env M1).bind fun d2 M2 => kInt d fun i => kInt d2 fun j => if RgOk i j then .ok (.ref M2.length) (M2 ++ [.lst (rngItems i (j - i).toNat)]) else .stuck
theorem rpa_rg {K : PySem.W.Frag} {ι : List Addr} {H : Hp} (a b : Int) : RpA K ι H (rngItems a (b - a).toNat) (rgV a b) := by
  unfold rngItems rgV
  generalize List.range (b - a).toNat = l
  induction l with
  | nil => exact .nil
  | cons i l ih => exact .cons (.int _) ih
section
variable {X : Cx} {W : WX} {a b : Expr} {ma mb : ME} {p p2 pos pos2 : Pos}
theorem d_lstRg1 (hc : X.calm = true) (hm : X.mg "range" = none) (hmt : X.mg "list" = none) (ha : PE X a (LE X.K W ma)) (hg : Gl X "range" := by rfl) (hgt : Gl X "list" := by rfl) (na : starEach [a] X.env = (false, eval a X.env) :: starEach [] X.env := by rfl)
    (nr : starEach [.Call (.Name "range" p) [a] [] pos] X.env = (false, eval (.Call (.Name "range" p) [a] [] pos) X.env) :: starEach [] X.env := by rfl) :
    PE X (.Call (.Name "list" p2) [.Call (.Name "range" p) [a] [] pos] [] pos2) (LE X.K W (eLstRg1 ma)) :=
  (pe_listRg hc hgt hmt (prg_1 hg hm ha na) nr).imp fun σ H Q ⟨ι, env, M, S, R, h⟩ => ⟨ι, env, M, S, R, (OutP.bind h).imp fun d M1 ι1 H1 e1 S1 h1 v rv => by
    obtain ⟨j, rfl, h2⟩ := kInt_inv h1
    cases rv.int_inv
    split at h2
    · rename_i c
      refine ⟨j, rfl, c, ?_⟩
      have e : j.toNat = (j - 0).toNat := by rw [Int.sub_zero]
      rw [e] at h2
      exact OpO.newLst S1 h2 (rpa_rg 0 j)
    · exact h2.elim⟩
end
end TL
end
section
set_option maxHeartbeats 4000000
namespace TL
open PySem PySem.Spec PyProof.Rows L2
def sRaise (c : Str) : MS := fun env M => .exc ⟨c, none⟩ env M
/-- an own class without own __init__ -/
structure ExF (K : PySem.W.Frag) (mg : Str → Option Value) (c : Str) : Prop where
  g : mg c = some (.ref (He.ga K c))
  ex : PySem.W.excIn K (He.ga K c) He.veBase "ValueError.__new__" = true
  k : PySem.W.keepIn K (.ref (He.ga K c)) = true
  s : PySem.W.subIn K (.ref (He.ga K c)) (.type "BaseException") = some true
  t : PySem.W.typeIn K (.ref (He.ga K c)) = some (.type "type")
section
variable {X : Cx} {W : WX} {k : Nat} {c m : Str} {j : Nat} {p p2 pos pos2 : Pos}
theorem ds_raise (C : Ctx X W k) (F : ExF X.K X.mg c) (hg : Gl X c := by rfl) (hdb : (c == ("__debug__" : Str)) = false := by decide) :
    PS X (.Raise (some (.Call (.Name c p) [.Constant (.str m) j p2] [] pos)) none pos2) (LS X.K W (sRaise c)) :=
  (L2N.ps_raise C.calm C.tk (L2N.pmk_own PySem.F.excBase_ValueError F.ex F.g F.k (raises_own F.s F.t) hg hdb)).imp fun En σ H ⟨ι, env, M, S, R, h⟩ => h ι σ H _ _ Ext.refl S R ⟨rfl, .inl ⟨rfl, rfl⟩⟩
end
/-- where a suite stands: the exception at a is being handled, and is tracked as itself -/
abbrev Cx.suiteT (X : Cx) (a : Addr) (pn : List (Addr × Obj)) : Cx := { X with A := X.A.mark (some (.ref a)), calm := false, pn := pn, xe := fun _ _ => False }
theorem errO_ok {P : Program} {w : World} {H : Hp} {h : Heap} {a : Addr} {oe : Obj} (e : h.get? a = some oe) : ObjOk P w H h a (errO oe) := ⟨e, trivial, ⟨_, e⟩, fun _ _ _ _ => trivial⟩
section
variable {X : Cx} {pins : List (Addr × Obj)} {σ : L2.St} {H : Hp} {s : Shared}
/-- an untracked object, younger than the def's call, is tracked from now on as itself -/
theorem Inv.adopt (I : Inv X pins σ H s) {a : Addr} {oe : Obj} {vs : Array Value} (young : ∀ o, X.s_0.heap.get? a ≠ some o) (apart : ∀ p ∈ X.pn ++ pins, p.1 ≠ a) (ha : s.heap.get? a = some oe) (hd : oe.data = .fields vs) (na : H a = none) (frame : a ≠ X.env.locals) :
    Inv X pins σ (upd H a (errO oe)) s := by
  have other : ∀ {b : Addr} {o : HO}, H b = some o → upd H a (errO oe) b = some o := fun {b o} e => by rw [upd_ne (ne_of_none e na)]; exact e
  have off : ∀ {b : Addr}, b ≠ a → H b = none → upd H a (errO oe) b = none := fun hb e => by rw [upd_ne hb]; exact e
  exact
    { ok := I.ok, os := I.os, bare := I.bare, loc := I.loc, cell := I.cell, len := I.len
      base :=
        { keep := I.base.keep, slot := I.base.slot, there := I.base.there
          free := fun b o e n hx => off (fun z => young o (z ▸ e)) (I.base.free b o e n hx)
          tups := fun b xs e => other (I.base.tups b xs e)
          frzs := fun b o u e => other (I.base.frzs b o u e)
          tbls := fun b ps e => (I.base.tbls b ps e).imp fun _ z => other z }
      free := off (Ne.symm frame) I.free
      freeC := fun x c e => off (fun z => by
        obtain ⟨v, o, e1, e2⟩ := I.cell x c e
        rw [z, ha] at e1
        cases e1
        rw [hd] at e2
        cases e2) (I.freeC x c e)
      pin := fun p hp => ⟨(I.pin p hp).1, off (apart p hp) (I.pin p hp).2.1, (I.pin p hp).2.2⟩
      hok := fun b o e => by
        by_cases hb : b = a
        · subst hb
          rw [upd_same] at e
          cases e
          exact errO_ok ha
        · rw [upd_ne hb] at e
          exact (I.hok b o e).stay (fun _ _ _ q => q) (fun c hc => other hc) fun c xs hc => other hc }
/-- into the suite -/
theorem Inv.goSuite (I : Inv X pins σ H s) (a : Addr) : Inv (Cx.suiteT X a (X.pn ++ pins)) [] σ H s :=
  { ok := I.ok.suite a _, os := I.os, bare := I.bare, base := I.base, loc := I.loc, cell := I.cell, free := I.free, freeC := I.freeC, hok := I.hok, len := I.len
    pin := fun p hp => I.pin p (List.append_nil (X.pn ++ pins) ▸ hp) }
/-- out of the suite -/
theorem Inv.goOut {a : Addr} {pn' : List (Addr × Obj)} (ok : X.Ok) (I : Inv (Cx.suiteT X a (X.pn ++ pins)) pn' σ H s) : Inv X pins σ H s :=
  { ok := ok, os := I.os, bare := I.bare, base := I.base, loc := I.loc, cell := I.cell, free := I.free, freeC := I.freeC, hok := I.hok, len := I.len
    pin := fun p hp => I.pin p (List.mem_append.mpr (.inl hp)) }
end
/-- an exception has come down at a in the frame of X: what is so of the state, the record of its way in whatever form -/
structure Down (X : Cx) (pins : List (Addr × Obj)) (σ : L2.St) (H : Hp) (a : Addr) (cls : Value) (d : Option Addr) (B : Heap) (s : Shared) (h : Heap) : Prop where
  fl : HandSPX.FlyingZ B (X.env :: X.outer) a (L2N.Zn cls d) h
  inv : ∀ g, HandSPX.FlyingZ B (X.env :: X.outer) a (L2N.Zn cls d) g → h.UpToSlots g → Inv X pins σ H { s with heap := g }
  up : ∀ g, HandSPX.HeldZ B (X.env :: X.outer) a (L2N.Zn cls d) X.env.locals g → h.UpToSlots g → ∀ W : WX, W cls d σ H → L2N.XE X W (.ref a) { s with heap := g }
  free : H a = none
  young : ∀ o, X.s_0.heap.get? a ≠ some o
  apart : ∀ p ∈ X.pn ++ pins, p.1 ≠ a
  frame : a ≠ X.env.locals
section
variable {X : Cx} {pins : List (Addr × Obj)} {σ : L2.St} {H : Hp} {a : Addr} {cls : Value} {d : Option Addr} {B : Heap} {s : Shared} {h g : Heap}
theorem Down.move (D : Down X pins σ H a cls d B s h) (fl : HandSPX.FlyingZ B (X.env :: X.outer) a (L2N.Zn cls d) g) (u : h.UpToSlots g) : Down X pins σ H a cls d B s g :=
  { D with fl := fl, inv := fun g' f' u' => D.inv g' f' (u.trans u'), up := fun g' f' u' => D.up g' f' (u.trans u') }
theorem Down.here (D : Down X pins σ H a cls d B s h) : Inv X pins σ H { s with heap := h } := D.inv h D.fl (Heap.UpToSlots.refl h)
/-- the suite begins: the exception is tracked -/
theorem Down.suite (D : Down X pins σ H a cls d B s h) : ∃ oe : Obj, L2N.Zn cls d oe ∧ (∃ vs, oe.data = .fields vs) ∧ Inv (Cx.suiteT X a (X.pn ++ pins)) [] σ (upd H a (errO oe)) { s with heap := h } := by
  obtain ⟨oe, vs, at_, z, dt⟩ := D.fl.there
  exact ⟨oe, z, ⟨vs, dt⟩, Inv.goSuite (Inv.adopt D.here D.young D.apart at_ dt D.free D.frame) a⟩
/-- the clause's class is read -/
theorem Down.reads {x : Str} {c : Value} {np : Pos} (D : Down X pins σ H a cls d B s h) (hc : Names X x c) {Q : Value → Shared → Prop} {E : Value → Shared → Prop} (q : Q c { s with heap := h }) :
    wpAny (model X.prog X.w) (X.A.mark (some (.ref a))) (eval (.Name x np) X.env) Q E { s with heap := h } := by
  have I : Inv (Cx.suiteT X a (X.pn ++ pins)) [] σ H { s with heap := h } := Inv.goSuite D.here a
  obtain ⟨g, nd, m | ⟨m, v, nn⟩⟩ := hc
  · exact ld_glob I g m q nd
  · exact ld_blt I g m v q nn nd
/-- the clause's class is held against it -/
theorem Down.fits {c : Value} {b : Bool} (D : Down X pins σ H a cls d B s h) (e : PySem.W.exmOne X.K cls c = some b) : PySem.W.Looks (model X.prog X.w) h (excMatches (.ref a) c) b := by
  obtain ⟨oe, vs, at_, z, dt⟩ := D.fl.there
  refine PySem.W.exm_one D.here.kIn ?_ e
  intro A Q E s1 k q
  exact wpAny_typeOf_ref (k _ _ at_) (z.1 ▸ q)
/-- no clause takes it: it goes on -/
theorem Down.on {W : WX} {Q : Flow → Shared → Prop} (D : Down X pins σ H a cls d B s h) (hf : X.env.frame = some X.env.locals) (tk : L2N.Takes X W) (w : W cls d σ H) :
    wpAny (model X.prog X.w) X.A (handleBy (.ref a) X.env []) Q X.xe { s with heap := h } := by
  obtain ⟨_, _, _, oe, vs, T, _, _, at_, _, dt, v1, _⟩ := D.fl
  have last : wpAny (model X.prog X.w) X.A (setFlight (.ref a) X.env.frame) (fun _ t => wpAny (model X.prog X.w) X.A (throw (.ref a) : Sem Flow) Q X.xe t) X.xe { s with heap := h } := by
    rw [hf]
    exact HandSPX.setFlight_upZ D.fl fun g hg ug => wpAny_throw (tk _ _ (D.up g hg ug W w))
  apply wpAny_handleBy_nil
  show wpAny _ _ (PySem.passOn _ _ _) _ _ _
  unfold PySem.passOn
  apply wpAny_bind
  refine wpAny_field at_ dt v1 ?_
  rw [if_neg (by simp)]
  first
    | exact wpAny_bind last
    | exact wpAny_bind (wpAny_pure (wpAny_bind last))
end
/-- what was raised in the body of a try, where it is caught -/
theorem caught {X : Cx} {pins : List (Addr × Obj)} {W : WX} {u : Value} {s : Shared} {xe : Value → Shared → Prop} {Q : Unit → Shared → Prop} {E : Value → Shared → Prop} (ok : X.Ok) (hex : X.ex = []) (hs : X.stack = X.env :: X.outer) (hf : X.env.frame = some X.env.locals)
    (x : L2N.XE (X.tr (X.pn ++ pins) xe) W u s) (go : ∀ (a : Addr) (cls : Value) (d : Option Addr) (B : Heap) (σ : L2.St) (H : Hp) (h : Heap), u = .ref a → W cls d σ H → Down X pins σ H a cls d B s h → Q () { s with heap := h }) :
    wpAny (model X.prog X.w) X.A (noteFrame u X.env) (fun _ t => wpAny (model X.prog X.w) X.A (setFlight u none) Q E t) E s := by
  obtain ⟨a, B, s1, pn1, σ1, H1, cls, d, rfl, I1, ground, up1, sky, free, os1, bare1, w1⟩ := x
  have I : Inv X pins σ1 H1 s1 := I1.ofTry ok
  have fr : X.A.frames = some (X.env :: X.outer) := hs ▸ ok.frames
  have sk : Sky B (X.env :: X.outer) a (L2N.Zn cls d) X.env.locals s.heap := hs ▸ sky
  refine L2N.Sky.land L2N.Zn.steady fr hf sk fun h fl up2 => go a cls d B σ1 H1 h rfl w1 ?_
  have inv : ∀ g, HandSPX.FlyingZ B (X.env :: X.outer) a (L2N.Zn cls d) g → h.UpToSlots g → Inv X pins σ1 H1 { s with heap := g } := fun g fg ug => I.landed ground fg.1 ((up1.trans up2).trans ug) os1 bare1
  obtain ⟨oe, vs, at_, _, dt⟩ := fl.there
  have noFrame : a ∉ frs (X.env :: X.outer) := by
    intro m
    obtain ⟨_, o, e, nf⟩ := fl.2.2.1.mem m
    rw [at_] at e
    cases e
    exact nf _ dt
  have nL : a ≠ X.env.locals := fun z => noFrame (List.mem_filterMap.mpr ⟨X.env, List.mem_cons_self, z ▸ hf⟩)
  have old : ∀ b o, s1.heap.get? b = some o → b ∉ frs (X.env :: X.outer) → b ≠ a := by
    intro b o e nb z
    have e2 := ground b o e (hs ▸ nb)
    rw [z, fl.2.1] at e2
    cases e2
  refine { fl := fl, inv := inv, free := free, frame := nL, up := fun g fg ug V v => ?_, young := fun o e => ?_, apart := fun p hp => ?_ }
  · exact ⟨a, B, s1, pins, σ1, H1, cls, d, rfl, I, ground, (up1.trans up2).trans ug, .inr (.inr (hs ▸ fg)), free, os1, bare1, v⟩
  · obtain ⟨o1, e1⟩ := I.base.there a o e (hex ▸ List.not_mem_nil)
    exact old a o1 e1 noFrame rfl
  · obtain ⟨e1, _, n1, n2, _⟩ := I.pin p hp
    refine old p.1 p.2 e1 fun m => ?_
    exact (List.mem_cons.mp (I.stkSub p.1 (hs ▸ m))).elim n1 n2
/-- a clause: its class, its slot, its suite -/
structure Hd where
  c : Value
  slot : Option Nat
  ts : TS
def setO (σ : L2.St) (i : Option Nat) (v : Option V) : L2.St := match i with
  | some i => σ.set i v
  | none => σ
/-- behind a suite its name goes -/
def goneD (D : Ends) (i : Option Nat) : Ends := { nx := fun σ H => D.nx (setO σ i none) H, rt := D.rt, bk := fun σ H => D.bk (setO σ i none) H, ct := fun σ H => D.ct (setO σ i none) H }
def wHds (K : PySem.W.Frag) (Wout : WX) (D : Ends) : List Hd → WX
  | [] => Wout
  | hd :: r => fun cls d σ H => ∃ b, PySem.W.exmOne K cls hd.c = some b ∧
    (b = true → ∀ (a : Addr) (oe : Obj), H a = none → Zc cls d oe → (∃ vs, oe.data = .fields vs) → hd.ts (goneD D hd.slot) (setO σ hd.slot (some (.ref a))) (upd H a (errO oe))) ∧
    (b = false → wHds K Wout D r cls d σ H)
inductive HdsT (X : Cx) : List ExceptHandler → List Hd → Prop
  | nil : HdsT X [] []
  | one {x : Str} {c : Value} {ts : TS} {b0 : Stmt} {su : List Stmt} {np pos' : Pos} {hds : List ExceptHandler} {l : List Hd} (hc : Names X x c)
      (hsu : ∀ (a : Addr) (pn : List (Addr × Obj)), PSs (Cx.suiteT X a pn) (b0 :: su) ts) (r : HdsT X hds l) :
      HdsT X (.ExceptHandler (some (.Name x np)) none (b0 :: su) pos' :: hds) (⟨c, none, ts⟩ :: l)
  | as {x n : Str} {i : Nat} {c : Value} {ts : TS} {b0 : Stmt} {su : List Stmt} {np pos' : Pos} {hds : List ExceptHandler} {l : List Hd} (hc : Names X x c) (hi : X.N[i]? = some n) (hln : X.env.kindOf n = some .local)
      (hsu : ∀ (a : Addr) (pn : List (Addr × Obj)), PSs (Cx.suiteT X a pn) (b0 :: su) ts) (r : HdsT X hds l) :
      HdsT X (.ExceptHandler (some (.Name x np)) (some n) (b0 :: su) pos' :: hds) (⟨c, some i, ts⟩ :: l)
section
variable {X : Cx} {pins : List (Addr × Obj)} {D : Ends}
/-- how a suite's end is the try's end, where nothing is to be undone -/
theorem end_plain {a : Addr} {f : Flow} {s : Shared} (ok : X.Ok) (e : SP (Cx.suiteT X a (X.pn ++ pins)) [] (goneD D none) f s) : SP X pins D f s := by
  cases f with
  | ret u => exact e.imp fun _ e => e.imp fun _ e => e.imp fun _ e => ⟨Inv.goOut ok e.1, e.2⟩
  | next => exact e.imp fun _ e => e.imp fun _ e => ⟨Inv.goOut ok e.1, e.2⟩
  | brk => exact e.imp fun _ e => e.imp fun _ e => ⟨Inv.goOut ok e.1, e.2⟩
  | cont => exact e.imp fun _ e => e.imp fun _ e => ⟨Inv.goOut ok e.1, e.2⟩
/-- .. where the name goes -/
theorem end_named {a : Addr} {i : Nat} {n : Str} {pos : Pos} {f : Flow} {s : Shared} {E : Value → Shared → Prop} (ok : X.Ok) (hN : X.N.Nodup) (hi : X.N[i]? = some n) (hln : X.env.kindOf n = some .local)
    (e : SP (Cx.suiteT X a (X.pn ++ pins)) [] (goneD D (some i)) f s) : wpAny (model X.prog X.w) X.A (do bindName X.env n .none; unbindBehindTheSuite X.env n pos) (fun _ t => SP X pins D f t) E s := by
  cases f with
  | ret u =>
    obtain ⟨v, σ, H, I, r, q⟩ := e
    exact gone_ok (Inv.goOut ok I) hN hi hln fun t J => ⟨v, _, H, J, r, q⟩
  | next =>
    obtain ⟨σ, H, I, q⟩ := e
    exact gone_ok (Inv.goOut ok I) hN hi hln fun t J => ⟨_, H, J, q⟩
  | brk =>
    obtain ⟨σ, H, I, q⟩ := e
    exact gone_ok (Inv.goOut ok I) hN hi hln fun t J => ⟨_, H, J, q⟩
  | cont =>
    obtain ⟨σ, H, I, q⟩ := e
    exact gone_ok (Inv.goOut ok I) hN hi hln fun t J => ⟨_, H, J, q⟩
end
/-- own exception classes: all stand right under ScoreError -/
def subX (c C : Str) : Bool := c == C || (C == "ScoreError" || C == "ValueError")
def setE (env : TL.Env) (i : Option Nat) (d : Option D) : TL.Env := match i with
  | some i => env.set i d
  | none => env
def undoS (i : Option Nat) : SOut → SOut
  | .next env M => .next (setE env i none) M
  | .ret d M => .ret d M
  | _ => .stuck
structure HdM where
  C : Str
  slot : Option Nat
  m : MS
def hdsRun (x : Ex) : List HdM → MS
  | [] => fun env M => .exc x env M
  | h :: r => fun env M => if subX x.cls h.C = true then undoS h.slot (h.m (setE env h.slot (some (.err x))) M) else hdsRun x r env M
def sTry (cl : List Str) (b : MS) (hs : List HdM) : MS := fun env M => match b env M with
  | .exc x env1 M1 => if x.cls ∈ cl then hdsRun x hs env1 M1 else .stuck
  | o => o
/-- what is known of the classes -/
def ExSub (K : PySem.W.Frag) (cl hl : List Str) : Prop := ∀ c ∈ cl, ∀ C ∈ hl, PySem.W.exmOne K (.ref (He.ga K c)) (.ref (He.ga K C)) = some (subX c C)
/-- the context of a suite, or of a def called from one -/
structure CtxH (X : Cx) (W : WX) (k : Nat) : Prop where
  nd : X.N.Nodup
  room : L2H.RoomH k X.A
  tk : L2N.Takes X W
theorem CtxH.hu {X : Cx} {W : WX} {k : Nat} (C : CtxH X W k) : X.A.units + 64 < cLine := by have := C.room.un; omega
inductive HdsM (X : Cx) (cl : List Str) : List ExceptHandler → List HdM → Prop
  | nil : HdsM X cl [] []
  | one {x : Str} {m : MS} {b₀ : Stmt} {suite : List Stmt} {np pos' : Pos} {hds : List ExceptHandler} {l : List HdM} (hg : Gl X x) (hdb : (x == ("__debug__" : Str)) = false) (hm : X.mg x = some (.ref (He.ga X.K x))) (hsub : ∀ c ∈ cl, PySem.W.exmOne X.K (.ref (He.ga X.K c)) (.ref (He.ga X.K x)) = some (subX c x))
      (hsu : ∀ (a : Addr) (pn : List (Addr × Obj)), PSs (Cx.suiteT X a pn) (b₀ :: suite) (LS X.K W0 m)) (r : HdsM X cl hds l) :
      HdsM X cl (.ExceptHandler (some (.Name x np)) none (b₀ :: suite) pos' :: hds) (⟨x, none, m⟩ :: l)
  | as {x n : Str} {i : Nat} {m : MS} {b₀ : Stmt} {suite : List Stmt} {np pos' : Pos} {hds : List ExceptHandler} {l : List HdM} (hg : Gl X x) (hdb : (x == ("__debug__" : Str)) = false) (hm : X.mg x = some (.ref (He.ga X.K x))) (hsub : ∀ c ∈ cl, PySem.W.exmOne X.K (.ref (He.ga X.K c)) (.ref (He.ga X.K x)) = some (subX c x))
      (hi : X.N[i]? = some n) (hln : X.env.kindOf n = some .local)
      (hsu : ∀ (a : Addr) (pn : List (Addr × Obj)), PSs (Cx.suiteT X a pn) (b₀ :: suite) (LS X.K W0 m)) (r : HdsM X cl hds l) :
      HdsM X cl (.ExceptHandler (some (.Name x np)) (some n) (b₀ :: suite) pos' :: hds) (⟨x, some i, m⟩ :: l)
def HdM.hd (K : PySem.W.Frag) (h : HdM) : Hd := ⟨.ref (He.ga K h.C), h.slot, LS K W0 h.m⟩
theorem HdsM.hds {X : Cx} {cl : List Str} : ∀ {hs : List ExceptHandler} {l : List HdM}, HdsM X cl hs l → HdsT X hs (l.map (HdM.hd X.K))
  | _, _, .nil => .nil
  | _, _, .one hg hdb hm _ hsu r => .one ⟨hg, hdb, .inl hm⟩ hsu r.hds
  | _, _, .as hg hdb hm _ hi hln hsu r => .as ⟨hg, hdb, .inl hm⟩ hi hln hsu r.hds
theorem HdsM.sub {X : Cx} {cl : List Str} : ∀ {hs : List ExceptHandler} {l : List HdM}, HdsM X cl hs l → ∀ h ∈ l, ∀ c ∈ cl, PySem.W.exmOne X.K (.ref (He.ga X.K c)) (.ref (He.ga X.K h.C)) = some (subX c h.C)
  | _, _, .nil, h, hh => nomatch hh
  | _, _, .one hg hdb hm hs hsu r, h, hh => by
    rcases List.mem_cons.mp hh with rfl | hh
    · exact hs
    · exact r.sub h hh
  | _, _, .as hg hdb hm hs hi hln hsu r, h, hh => by
    rcases List.mem_cons.mp hh with rfl | hh
    · exact hs
    · exact r.sub h hh
section
variable {K : PySem.W.Frag} {W : WX} {En : Ends}
theorem EnvR.setO {ι : List Addr} {H : Hp} {d : D} {v : V} (r : Rp K ι H d v) {env : TL.Env} {σ : L2.St} (R : EnvR K ι H env σ) (i : Option Nat) : EnvR K ι H (setE env i (some d)) (TL.setO σ i (some v)) := by
  cases i with
  | none => exact R
  | some i => exact R.set r i
theorem EnvR.unsetO {ι : List Addr} {H : Hp} {env : TL.Env} {σ : L2.St} (R : EnvR K ι H env σ) (i : Option Nat) : EnvR K ι H (setE env i none) (TL.setO σ i none) := by
  cases i with
  | none => exact R
  | some i => exact R.unset i
end
section
variable {X : Cx} {W : WX} {k : Nat} {body : List Stmt} {h₀ : ExceptHandler} {hds : List ExceptHandler} {l : List HdM} {cl : List Str} {mb : MS} {pos : Pos}
theorem Ctx.tr {X : Cx} {W : WX} {k : Nat} (C : Ctx X W k) {W' : WX} {pn : List (Addr × Obj)} {xe : Value → Shared → Prop} (tk : L2N.Takes (X.tr pn xe) W') (ps : PassesOwn (model X.prog X.w) X.A X.env xe) : Ctx (X.tr pn xe) W' k :=
  ⟨C.calm, C.nd, C.room, tk, ps⟩
theorem ctxH_suite (C : Ctx X W k) {a : Addr} {pn : List (Addr × Obj)} : CtxH (Cx.suiteT X a pn) W0 k := ⟨C.nd, ⟨C.room.dp, C.room.un⟩, takesN0⟩
end
/-- what a def promises there: nothing that it does asks what is handled -/
structure FnT (P : Program) (w : World) (K : PySem.W.Frag) (mg : Str → Option Value) (base : Heap) (CX : CXT) (k : Nat) (f : Addr) (fd : FuncData) (ps : List Str) (sp : Sp) : Prop where
  len : ∀ vs H Q E, sp vs H Q E → vs.length = ps.length
  run : ∀ (A : Around) (outer : List PySem.Env) (s : Shared) (H : Hp) (args : Args) (us : List Value) (vs : List V) (Q : VK) (E : XK), L2H.RoomH k A → Env0 P w K mg base A outer s H → BindsTo s fd args (ps.zip us) → Vals vs us → sp vs H Q E →
    codeAny (model P w) A (.call (.ref f) args) (CR CX outer P w H s Q E) s
/-- its body's context -/
def cxT (CX : CXT) (P : Program) (w : World) (K : PySem.W.Frag) (mg : Str → Option Value) (base : Heap) (N : List Str) (qual : Str) (scope : Scope) (f : Addr) (cd : Value) (A : Around) (outer : List PySem.Env) (s : Shared) (H : Hp) (E : XK) : Cx :=
  { cxOf CX P w K mg base N qual scope f cd A outer s H E with calm := false }
/-- an exception that is handled around changes nothing of where things stand -/
theorem env0_mark {P : Program} {w : World} {K : PySem.W.Frag} {mg : Str → Option Value} {base : Heap} {A : Around} {outer : List PySem.Env} {s : Shared} {H : Hp} (e : Env0 P w K mg base A outer s H) : Env0 P w K mg base { A with handled := none } outer s H :=
  { e with frames := e.frames }
theorem ok_mark {CX : CXT} {P : Program} {w : World} {K : PySem.W.Frag} {mg : Str → Option Value} {base : Heap} {N : List Str} {qual : Str} {scope : Scope} {f : Addr} {cd : Value} {A : Around} {outer : List PySem.Env} {s : Shared} {H : Hp} {E : XK}
    (o : (cxOf CX P w K mg base N qual scope f cd { A with handled := none } outer s H E).Ok) : (cxT CX P w K mg base N qual scope f cd A outer s H E).Ok :=
  { mod := o.mod, kind := o.kind, glob := o.glob, blt := o.blt, above := o.above, inj := o.inj, has := o.has, cab := o.cab, hd := fun z => (Bool.false_ne_true z).elim, frames := o.frames, stk := o.stk, exf := o.exf, bs := o.bs, bsz := o.bsz, noex := o.noex, exfs := o.exfs, funs := o.funs, frf := o.frf }
section
variable {P : Program} {w : World} {K : PySem.W.Frag} {mg : Str → Option Value} {base : Heap} {x qual : Str} {params : Arguments} {body : List Stmt} {scope : Scope} {f : Addr} {fd : FuncData} {N ps : List Str} {k : Nat} {CX : CXT} {sp : Sp}
theorem fnT (F : FunD K x qual params body scope [] [] f fd) (S : FnScope N ps scope) (len : ∀ vs H Q E, sp vs H Q E → vs.length = ps.length)
    (hbody : ∀ (cd : Value) (A : Around) (outer : List PySem.Env) (s : Shared) (H : Hp) (vs : List V) (Q : VK) (E : XK), L2H.RoomH k (A.deeper (envOfC qual scope s.heap.objs.size f cd)) → sp vs H Q E →
      ∃ t, PSs (cxT CX P w K mg base N qual scope f cd A outer s H E) body t ∧ t { nx := fun _ H' => Q .non H', rt := Q } (L2.start N vs) H) : FnT P w K mg base CX (k + 1) f fd ps sp where
  len := len
  run A outer s H args us vs Q E room e0 bound vals want := by
    obtain ⟨_, _, _, _, _, _, _, cd, _, _, rfl, at_, code, _, _⟩ := F.ex
    have held : ∀ b o, base.get? b = some o → s.heap.get? b = some o := fun b o e => (e0.bs b o e).1
    have inK := e0.mod.kin.keeps held
    have lim := e0.mod.nolimit.keeps held
    refine codeAny_call_function room.depth (inK f _ at_) rfl S.co S.gen rfl (PySem.W.codeRec_of inK code) (bound _ _ _ _ (wpAny_newFunctionEnv_cells S.kind ?_ ?_))
    · intro y hy
      have m : y.1 ∈ ps := (List.of_mem_zip (show (y.1, y.2) ∈ ps.zip us from hy)).1
      exact (S.par y.1 m).imp id fun q => ⟨q, PySem.W.cellsFrom_some _ _ _ (.inl q)⟩
    · intro env ee s1 call
      subst ee
      refine ⟨lim.keeps call.toInCall.keep, codeAny_func ?_⟩
      have J := inv_start (CX := CX) (E := E) S (A := { A with handled := none }) rfl (env0_mark e0) (len _ _ _ _ want) vals call
      have I : Inv (cxT CX P w K mg base N qual scope f cd A outer s H E) [] (L2.start N vs) H s1 :=
        { ok := ok_mark J.ok, os := J.os, bare := J.bare, base := J.base, loc := J.loc, cell := J.cell, free := J.free, freeC := J.freeC, pin := J.pin, hok := J.hok, len := J.len }
      obtain ⟨t, run, q⟩ := hbody cd A outer s H vs Q E (room.deeper _) want
      refine wpAny_mono (run.run [] s1 _ H _ I q) (fun fl s2 e => ?_) fun _ _ e => e
      cases fl with
      | next => obtain ⟨_, H2, I2, q2⟩ := e; exact ⟨.non, H2, I2.os, I2.bare, I2.base, I2.hok, rfl, q2⟩
      | ret u => obtain ⟨v, _, H2, I2, r2, q2⟩ := e; exact ⟨v, H2, I2.os, I2.bare, I2.base, I2.hok, r2, q2⟩
      | brk => exact e.elim fun _ e => e.elim fun _ e => e.2.elim
      | cont => exact e.elim fun _ e => e.elim fun _ e => e.2.elim
end
structure CalleeT (P : Program) (w : World) (K : PySem.W.Frag) (mg : Str → Option Value) (base : Heap) (x : Str) (n k : Nat) (m : Fn) : Prop where
  ex : ∃ (f : Addr) (fd : FuncData) (ps : List Str), FnT P w K mg base (L2N.CX P w) k f fd ps (spD K n m) ∧ mg x = some (.ref f) ∧ PySem.W.keepIn K (.ref f) = true ∧ Binds K fd ps [] ∧ ps.length = n
  len : ∀ ds M, ds.length ≠ n → m ds M = .stuck
section
variable {P : Program} {w : World} {K : PySem.W.Frag} {mg : Str → Option Value} {base : Heap}
theorem okT {x qual : Str} {params : Arguments} {body : List Stmt} {scope : Scope} {f : Addr} {N ps : List Str} {k : Nat} {mb : MS} (F : ∃ fd, FunD K x qual params body scope [] [] f fd) (S : FnScope N ps scope) (hm : mg x = some (.ref f))
    (hbind : ∀ (kV doc pm : Value) (an : Option Addr) (cdv ct : Value) (us : List Value), us.length = ps.length → bindArgs (PySem.W.fnOf x qual params body scope .none kV doc pm an cdv ct) ⟨us, []⟩ = pure (ps.zip us))
    (hbody : ∀ (cdv : Value) (A : Around) (outer : List PySem.Env) (s : Shared) (H : Hp) (E : XK), let X := cxT (L2N.CX P w) P w K mg base N qual scope f cdv A outer s H E
      CtxH X (fun cls d _ H => E cls d H) k → PSs X body (LS K (fun cls d _ H => E cls d H) mb)) :
    CalleeT P w K mg base x ps.length (k + 1) (fnD ps.length N.length mb) := by
  obtain ⟨fd, F⟩ := F
  refine ⟨⟨f, fd, ps, fnT F S (fun vs H Q E h => h.1) ?_, hm, F.kp, F.bindsN hbind, rfl⟩, fun ds M h => if_neg h⟩
  rintro cdv A outer s H vs Q E hr ⟨hl, ι, ds, M, SS, rs, h⟩
  refine ⟨_, hbody cdv A outer s H E ⟨S.nd, hr, L2N.takes_of rfl rfl rfl rfl⟩, ι, startE N.length ds, M, SS, ?_, ?_⟩
  · unfold startE L2.start
    rw [rs.length]
    exact envR_start rs _
  · unfold fnD at h
    rw [if_pos (by rw [rs.length]; exact hl)] at h
    revert h
    cases mb (startE N.length ds) M with
    | next env M1 => exact fun h ι1 σ1 H1 e1 S1 _ => h ι1 H1 e1 S1 _ .non
    | ret d M1 => exact fun h ι1 v H1 e1 S1 r => h ι1 H1 e1 S1 v r
    | exc y env M1 => exact fun h ι1 σ1 H1 cls dx e1 S1 _ ex => h ι1 H1 cls dx e1 S1 ex
    | stuck => exact fun h => h
end
section
variable {X : Cx} {W : WX} {e : Expr} {es : List Expr} {mas : MA} {x : Str} {p pos : Pos}
/-- such a call -/
theorem pe_callT {CX : CXT} {k : Nat} {f : Addr} {fd : FuncData} {ps : List Str} {sp : Sp} {E : L2.St → XK} {t : TA} (F : FnT X.prog X.w X.K X.mg X.base CX k f fd ps sp) (room : L2H.RoomH k X.A) (hg : Gl X x) (hm : X.mg x = some (.ref f)) (kp : PySem.W.keepIn X.K (.ref f) = true) (bi : Binds X.K fd ps [])
    (ps' : ∀ σ, PassesAt CX X σ (E σ)) (ha : PA X (e :: es) t) (hdb : (x == ("__debug__" : Str)) = false) (st : starEach (e :: es) X.env = (false, eval e X.env) :: starEach es X.env) (pl : (backTo pos (starEach es X.env)).any (·.1) = false) :
    PE X (.Call (.Name x p) (e :: es) [] pos) (tCallS sp E t) where
  run pins s σ H Q I want := by
    apply wpAny_Call_Name_kw
    refine ld_glob I hg hm ?_ hdb
    refine PySem.W.callWith_K (h₀ := X.base) I.ok.mod.kin kp ?_ st pl
    refine thn (ha.run pos pins s σ H _ I want) ?_
    rintro us s1 ⟨vs, H1, I1, vals, q⟩
    refine ⟨I1.kIn, ?_⟩
    have many : (us ++ []).length = ps.length := by rw [List.append_nil, ← vals.length]; exact F.len _ _ _ _ q
    have bound : BindsTo s1 fd ⟨us, []⟩ (ps.zip us) := by
      have b := bi s1 us I1.kIn many
      rwa [List.append_nil] at b
    apply wpAny_call
    refine codeAny_mono (F.run X.A X.stack s1 H1 _ us vs Q (E σ) room I1.env0 bound vals q) ?_
    rintro (er | fl) s2 e2
    · exact ps' σ pins H1 s1 er s2 I1 e2
    · cases fl with
      | ret u => exact I1.after e2
      | next => exact e2.elim
      | brk => exact e2.elim
      | cont => exact e2.elim
theorem d_callT {k k' n : Nat} {m : Fn} (C : CtxH X W k') (F : CalleeT X.prog X.w X.K X.mg X.base x n k m) (hk : k ≤ k') (ha : PA X (e :: es) (LA X.K W mas)) (hg : Gl X x := by rfl)
    (hdb : (x == ("__debug__" : Str)) = false := by decide) (hst : starEach (e :: es) X.env = (false, eval e X.env) :: starEach es X.env := by rfl) (hpl : (backTo pos (starEach es X.env)).any (·.1) = false := by rfl) :
    PE X (.Call (.Name x p) (e :: es) [] pos) (LE X.K W (eCall m mas)) := by
  have hlen := F.len
  obtain ⟨f, fd, ps, F, hm, kp, hb, _⟩ := F.ex
  refine (pe_callT F (C.room.mono hk) hg hm kp hb (fun σ => L2N.passAt C.tk σ) ha hdb hst hpl).imp fun σ H Q ⟨ι, env, M, S, R, h⟩ => ⟨ι, env, M, S, R, ?_⟩
  refine (OutP.bind h).imp fun ds M1 ι1 H1 e1 S1 h1 vs rv => ⟨?_, ι1, ds, M1, S1, rv, h1⟩
  rw [← rv.length]
  by_cases q : ds.length = n
  · exact q
  · rw [hlen ds M1 q] at h1
    exact h1.elim
end
end TL
end
section
set_option maxHeartbeats 4000000
namespace TL
open PySem PySem.Spec PyProof.Rows L2
/-- what a class says, so that isinstance and fields of its instances go the usual way -/
def isCB (K : PySem.W.Frag) (c : Str) : Bool :=
  He.eqO (PySem.W.findIn K (.ref (He.ga K c)) "__class__") (some (some (.builtin "object.__class__"))) && (xfB K (He.ga K c) &&
    (decide (PySem.W.mroIn K (He.ga K c) (.type "object") = some true) && (He.eqO (PySem.W.specialIn K (.builtin "object.__class__") "__get__") (some (some (.builtin "getset_descriptor.__get__"))) && decide (PySem.W.takesIn K (.builtin "object.__class__") = some true))))
structure IsC (K : PySem.W.Frag) (C : Addr) : Prop where
  x : XfC K C
  cl : PySem.W.findIn K (.ref C) "__class__" = some (some (.builtin "object.__class__"))
  mro : PySem.W.mroIn K C (.type "object") = some true
  get : PySem.W.specialIn K (.builtin "object.__class__") "__get__" = some (some (.builtin "getset_descriptor.__get__"))
  take : PySem.W.takesIn K (.builtin "object.__class__") = some true
theorem isCB_ok {K : PySem.W.Frag} {c : Str} (h : isCB K c = true) : IsC K (He.ga K c) := by
  obtain ⟨h1, h⟩ := He.ba h
  obtain ⟨h2, h⟩ := He.ba h
  obtain ⟨h3, h⟩ := He.ba h
  obtain ⟨h4, h5⟩ := He.ba h
  exact ⟨xfB_ok h2, He.eqO_ok h1, of_decide_eq_true h3, He.eqO_ok h4, of_decide_eq_true h5⟩
theorem IsC.kit {K : PySem.W.Frag} {C x : Addr} {ox : Obj} {od : Option Obj} (T : IsC K C) : PySem.W.KitX K (.ref x) (.ref C) (fun h => PySem.W.InstAt h x ox C od) :=
  PySem.W.kitx_exc (by obtain ⟨cd, hc, _⟩ := PySem.W.any_some T.x.hdC; rw [hc]; rfl) T.x.ga T.x.gg T.x.exC T.cl T.get T.take T.mro
/-- the classes cl, held against the classes hl and ValueError -/
def isTB (K : PySem.W.Frag) (cl hl : List Str) : Bool := cl.all fun c => isCB K c && (decide (PySem.W.kitOne K (.ref (He.ga K c)) (.type "ValueError") = some true) && hl.all fun C => decide (PySem.W.kitOne K (.ref (He.ga K c)) (.ref (He.ga K C)) = some (subX c C)))
structure IsT (K : PySem.W.Frag) (cl hl : List Str) : Prop where
  c : ∀ c ∈ cl, IsC K (He.ga K c)
  v : ∀ c ∈ cl, PySem.W.kitOne K (.ref (He.ga K c)) (.type "ValueError") = some true
  h : ∀ c ∈ cl, ∀ C ∈ hl, PySem.W.kitOne K (.ref (He.ga K c)) (.ref (He.ga K C)) = some (subX c C)
theorem isTB_ok {K : PySem.W.Frag} {cl hl : List Str} (h : isTB K cl hl = true) : IsT K cl hl := by
  have h' := fun c hc => He.ba (List.all_eq_true.mp h c hc)
  exact ⟨fun c hc => isCB_ok (h' c hc).1, fun c hc => of_decide_eq_true (He.ba (h' c hc).2).1, fun c hc C hC => of_decide_eq_true (List.all_eq_true.mp (He.ba (h' c hc).2).2 C hC)⟩
/-- .. held by except clauses -/
def exSubB (K : PySem.W.Frag) (cl hl : List Str) : Bool := cl.all fun c => hl.all fun C => decide (PySem.W.exmOne K (.ref (He.ga K c)) (.ref (He.ga K C)) = some (subX c C))
theorem exSubB_ok {K : PySem.W.Frag} {cl hl : List Str} (h : exSubB K cl hl = true) : ExSub K cl hl := fun c hc C hC => of_decide_eq_true (List.all_eq_true.mp (List.all_eq_true.mp h c hc) C hC)
theorem ExSub.of {K : PySem.W.Frag} {cl hl : List Str} (h : ExSub K cl hl) {C : Str} (hC : C ∈ hl) : ∀ c ∈ cl, PySem.W.exmOne K (.ref (He.ga K c)) (.ref (He.ga K C)) = some (subX c C) := fun c hc => h c hc C hC
section
variable {X : Cx} {W : WX} {pins : List (Addr × Obj)} {σ : L2.St} {H : Hp} {s : Shared}
theorem err_inst (I : L2.Inv X pins σ H s) {a : Addr} {x : Ex} (h : ErrAt X.K H a x) : ∃ oe od, PySem.W.InstAt s.heap a oe (He.ga X.K x.cls) od := by
  obtain ⟨oe, vs, h1, h2, h3, h4, h5⟩ := h
  have h6 : s.heap.get? a = some oe := (I.hok a _ h1).1
  have no : PySem.W.notCls oe = true := by unfold PySem.W.notCls; rw [h3]
  rcases h5 with ⟨_, h5⟩ | ⟨i, d, _, h5, h7⟩
  · exact ⟨oe, none, ⟨h6, h2, no, by rw [h5]; trivial⟩⟩
  · obtain ⟨mA, hns, _⟩ := (show ObjOk X.prog X.w H s.heap d (.xd _) from I.hok d _ h7)
    obtain ⟨od, ho, _⟩ := lookIn_ns hns
    exact ⟨oe, some od, ⟨h6, h2, no, by rw [h5]; exact ho⟩⟩
/-- the classes asked for: own ones by name, ValueError -/
def clsV (K : PySem.W.Frag) (C : Str) : V := if C = "ValueError" then .ty "ValueError" else .ref (He.ga K C)
def clsU (K : PySem.W.Frag) (C : Str) : Value := if C = "ValueError" then .type "ValueError" else .ref (He.ga K C)
theorem cls_rel {K : PySem.W.Frag} {C : Str} {u : Value} (r : RelV (clsV K C) u) : u = clsU K C := by
  unfold clsV at r
  unfold clsU
  by_cases h : C = "ValueError"
  · rw [if_pos h] at r ⊢; exact r
  · rw [if_neg h] at r ⊢; exact r
theorem IsT.one {K : PySem.W.Frag} {cl hl : List Str} (T : IsT K cl hl) {c C : Str} (hc : c ∈ cl) (hC : C = "ValueError" ∨ C ∈ hl) : PySem.W.kitOne K (.ref (He.ga K c)) (clsU K C) = some (subX c C) := by
  unfold clsU
  by_cases h : C = "ValueError"
  · rw [if_pos h, T.v c hc, h]; simp [subX]
  · rw [if_neg h]; exact T.h c hc C (hC.resolve_left h)
def rErr (K : PySem.W.Frag) (cl : List Str) (C : Str) : List V → Hp → VK → Prop := fun xs H Q => ∃ (a : Addr) (x : Ex), xs = [.ref a, clsV K C] ∧ ErrAt K H a x ∧ x.cls ∈ cl ∧ Q (.bl (subX x.cls C)) H
theorem c_isErr {cl hl : List Str} (T : IsT X.K cl hl) {C : Str} (hC : C = "ValueError" ∨ C ∈ hl) : CallR X (.builtin "isinstance") (rErr X.K cl C) := by
  intro pins s σ H xs us Q I r h
  obtain ⟨a, x, rfl, he, hc, q⟩ := h
  obtain ⟨u1, u2, rfl, r1, r2⟩ := vals2 r
  obtain rfl : u1 = Value.ref a := r1
  obtain rfl := cls_rel r2
  obtain ⟨oe, od, J⟩ := err_inst I he
  exact PySem.W.kia_one (T.c _ hc).kit I.kIn J (T.one hc hC) (fun z => nomatch z) fun tk => ⟨.bl _, H, I.tok tk, rfl, q⟩
def rErrs (K : PySem.W.Frag) (cl Cs : List Str) : List V → Hp → VK → Prop := fun xs H Q => ∃ (a tp : Addr) (x : Ex), xs = [.ref a, .ref tp] ∧ H tp = some (.tup (Cs.map (clsV K))) ∧ ErrAt K H a x ∧ x.cls ∈ cl ∧ Q (.bl (Cs.any (subX x.cls))) H
theorem IsT.any {K : PySem.W.Frag} {cl hl : List Str} (T : IsT K cl hl) {c : Str} (hc : c ∈ cl) : ∀ {Cs : List Str}, (∀ C ∈ Cs, C = "ValueError" ∨ C ∈ hl) → PySem.W.kitAny K (.ref (He.ga K c)) (Cs.map (clsU K)) = some (Cs.any (subX c))
  | [], _ => rfl
  | C :: Cs, h => by
    refine kitAny_cons (T.one hc (h C List.mem_cons_self)) (fun e => ?_) fun e => ?_
    · rw [T.any hc fun C' h' => h C' (List.mem_cons_of_mem _ h')]; simp [e]
    · simp [e]
theorem clss_rel {K : PySem.W.Frag} : ∀ {Cs : List Str} {us : List Value}, Vals (Cs.map (clsV K)) us → us = Cs.map (clsU K)
  | [], _, .nil => rfl
  | C :: Cs, _, .cons r t => by rw [cls_rel r, clss_rel t]; rfl
theorem c_isErrs {cl hl : List Str} (T : IsT X.K cl hl) {Cs : List Str} (hC : ∀ C ∈ Cs, C = "ValueError" ∨ C ∈ hl) : CallR X (.builtin "isinstance") (rErrs X.K cl Cs) := by
  intro pins s σ H xs us Q I r h
  obtain ⟨a, tp, x, rfl, ht, he, hc, q⟩ := h
  obtain ⟨u1, u2, rfl, r1, r2⟩ := vals2 r
  obtain rfl : u1 = Value.ref a := r1
  obtain rfl : u2 = Value.ref tp := r2
  obtain ⟨oe, od, J⟩ := err_inst I he
  obtain ⟨_, its, rv, ⟨o1, o2, o3, o4⟩, h1, h2, n, h3⟩ := (show ObjOk X.prog X.w H s.heap tp (.tup _) from I.hok tp _ ht)
  simp only at h2 h3
  subst h2 h3
  obtain rfl := clss_rel rv
  exact PySem.W.kia_tup (T.c _ hc).kit I.kIn J h1 (T.any hc hC) (fun z => nomatch z) fun tk => ⟨.bl _, H, I.tok tk, rfl, q⟩
end
def mIsE (cl : List Str) (C : Str) : Op1 := fun d M => match d with
  | .err x => if x.cls ∈ cl then some (.bl (subX x.cls C), M) else none
  | _ => none
def mIsEs (cl Cs : List Str) : Op1 := fun d M => match d with
  | .err x => if x.cls ∈ cl then some (.bl (Cs.any (subX x.cls)), M) else none
  | _ => none
def eIsE (cl : List Str) (C : Str) (a : ME) : ME := eUn (mIsE cl C) a
def eIsEs (cl Cs : List Str) (a : ME) : ME := eUn (mIsEs cl Cs) a
section
variable {X : Cx} {W : WX} {e : Expr} {me : ME} {p p2 p3 pos : Pos}
theorem Rp.err_inv {K : PySem.W.Frag} {ι : List Addr} {H : Hp} {x : Ex} {v : V} (r : Rp K ι H (.err x) v) : ∃ a, v = .ref a ∧ ErrAt K H a x := by cases r with | err h => exact ⟨_, rfl, h⟩
/-- a class by its name -/
theorem pe_cls {C : Str} (hg : Gl X C) (hm : (C = "ValueError" ∧ X.mg C = none) ∨ (C ≠ "ValueError" ∧ X.mg C = some (.ref (He.ga X.K C)))) (hd : (C == ("__debug__" : Str)) = false := by decide) : PE X (.Name C p2) (tC (clsV X.K C)) := by
  rcases hm with ⟨rfl, hm⟩ | ⟨hn, hm⟩
  · exact pe_bltn hg hm PyProof.Rows.Boot.«ValueError» (v := clsV X.K "ValueError") (by rw [show clsV X.K "ValueError" = .ty "ValueError" from if_pos rfl]; rfl) (by decide) hd
  · refine pe_glob hg hm ?_ hd
    rw [show clsV X.K C = .ref (He.ga X.K C) from if_neg hn]
    rfl
theorem d_isE {cl hl : List Str} {C : Str} (T : IsT X.K cl hl) (hC : C = "ValueError" ∨ C ∈ hl) (hi : X.mg "isinstance" = none) (hm : (C = "ValueError" ∧ X.mg C = none) ∨ (C ≠ "ValueError" ∧ X.mg C = some (.ref (He.ga X.K C)))) (he : PE X e (LE X.K W me))
    (hgi : Gl X "isinstance" := by rfl) (hg : Gl X C := by rfl) (hd : (C == ("__debug__" : Str)) = false := by decide)
    (h1 : starEach [e, .Name C p2] X.env = (false, eval e X.env) :: starEach [.Name C p2] X.env := by rfl) (h2 : starEach [.Name C p2] X.env = (false, eval (.Name C p2) X.env) :: starEach [] X.env := by rfl)
    (h3 : (backTo pos (starEach [.Name C p2] X.env)).any (·.1) = false := by rfl) : PE X (.Call (.Name "isinstance" p) [e, .Name C p2] [] pos) (LE X.K W (eIsE cl C me)) :=
  (pe_callB (c_isErr T hC) hgi hi boot_isinstance (pa_cons he (pa_cons (pe_cls hg hm hd) pa_nil h2) h1) (by decide) (by decide) h1 h3).imp fun σ H Q ⟨ι, env, M, S, R, h⟩ => ⟨ι, env, M, S, R, (OutP.bind h).imp fun d M1 ι1 H1 e1 S1 h1 v rv => by
    cases d with
    | err x =>
      obtain ⟨a, rfl, hx⟩ := rv.err_inv
      have h2 : OutP X.K (W1 W σ) ι1 H1 (liftO (if x.cls ∈ cl then some (D.bl (subX x.cls C), M1) else none)) (VR X.K Q) := h1
      by_cases hc : x.cls ∈ cl
      · rw [if_pos hc] at h2
        exact ⟨a, x, rfl, hx, hc, OutP.val S1 h2 _ (.bl _)⟩
      · rw [if_neg hc] at h2
        exact h2.elim
    | _ => exact h1.elim⟩
/-- names of classes, one after another -/
inductive ClsNames (X : Cx) : List Str → List Expr → Prop
  | nil : ClsNames X [] []
  | cons {C : Str} {Cs : List Str} {es : List Expr} {p2 : Pos} (hg : Gl X C) (hd : (C == ("__debug__" : Str)) = false) (hm : (C = "ValueError" ∧ X.mg C = none) ∨ (C ≠ "ValueError" ∧ X.mg C = some (.ref (He.ga X.K C))))
      (hs : starEach (.Name C p2 :: es) X.env = (false, eval (.Name C p2) X.env) :: starEach es X.env) (r : ClsNames X Cs es) : ClsNames X (C :: Cs) (.Name C p2 :: es)
theorem ClsNames.pa {Cs : List Str} {es : List Expr} (N : ClsNames X Cs es) : PA X es (fun _ H Q => Q (Cs.map (clsV X.K)) H) := by
  induction N with
  | nil => exact pa_nil
  | cons hg hd hm hs r ih => exact pa_cons (pe_cls hg hm hd) ih hs
theorem d_isEs {cl hl Cs : List Str} {ns : List Expr} {j : Nat} (T : IsT X.K cl hl) (hC : ∀ C ∈ Cs, C = "ValueError" ∨ C ∈ hl) (hi : X.mg "isinstance" = none) (N : ClsNames X Cs ns) (he : PE X e (LE X.K W me))
    (hl' : Cs.length ≤ 100 := by decide) (hgi : Gl X "isinstance" := by rfl)
    (h1 : starEach [e, .Tuple ns j p2] X.env = (false, eval e X.env) :: starEach [.Tuple ns j p2] X.env := by rfl) (h2 : starEach [.Tuple ns j p2] X.env = (false, eval (.Tuple ns j p2) X.env) :: starEach [] X.env := by rfl)
    (h3 : (backTo pos (starEach [.Tuple ns j p2] X.env)).any (·.1) = false := by rfl) : PE X (.Call (.Name "isinstance" p) [e, .Tuple ns j p2] [] pos) (LE X.K W (eIsEs cl Cs me)) :=
  (pe_callB (c_isErrs T hC) hgi hi boot_isinstance (pa_cons he (pa_cons (pe_tup N.pa) pa_nil h2) h1) (by decide) (by decide) h1 h3).imp fun σ H Q ⟨ι, env, M, S, R, h⟩ => ⟨ι, env, M, S, R, (OutP.bind h).imp fun d M1 ι1 H1 e1 S1 h1 v rv => by
    cases d with
    | err x =>
      obtain ⟨a, rfl, hx⟩ := rv.err_inv
      have h2 : OutP X.K (W1 W σ) ι1 H1 (liftO (if x.cls ∈ cl then some (D.bl (Cs.any (subX x.cls)), M1) else none)) (VR X.K Q) := h1
      by_cases hc : x.cls ∈ cl
      · rw [if_pos hc] at h2
        refine ⟨by rw [List.length_map, sizeLine_eq]; omega, fun tp ht => ?_⟩
        have e2 : Ext X.K ι1 H1 ι1 (upd H1 tp (.tup (Cs.map (clsV X.K)))) := Ext.new ht
        exact ⟨a, tp, x, rfl, upd_same, e2.err _ _ hx, hc, OutP.val (S1.new ht) (OutP.ext e2 h2) _ (.bl _)⟩
      · rw [if_neg hc] at h2
        exact h2.elim
    | _ => exact h1.elim⟩
def mAt : Op1 := fun d M => match d with
  | .err x => x.at_.map fun i => (.int i, M)
  | _ => none
/-- classes whose instances bear at: cl, all of those that are made with it -/
def atB (K : PySem.W.Frag) (cl : List Str) : Bool := cl.all fun c => xfB K (He.ga K c) && He.eqO (PySem.W.findIn K (.ref (He.ga K c)) "at") (some none)
def eAt (cl : List Str) (a : ME) : ME := fun env M => (a env M).bind fun d M1 => match d with
  | .err x => if x.cls ∈ cl then liftO (mAt (.err x) M1) else .stuck
  | _ => .stuck
theorem d_at {cl : List Str} (T : atB X.K cl = true) (he : PE X e (LE X.K W me)) (hb : attributeBase e "at" X.env (eval e X.env) = eval e X.env := by rfl) : PE X (.Attribute e "at" pos) (LE X.K W (eAt cl me)) := by
  constructor
  rintro pins s σ H Q I ⟨ι, env, M, S, R, h⟩
  refine attr_of hb (thn (he.run pins s σ H _ I ⟨ι, env, M, S, R, (OutP.bind h).imp (R' := VR X.K fun v H1 => ∃ a x i, v = .ref a ∧ ErrAt X.K H1 a x ∧ x.cls ∈ cl ∧ x.at_ = some i ∧ Q (.int i) H1) fun d M1 ι1 H1 e1 S1 h1 v rv => ?_⟩) ?_)
  · cases d with
    | err x =>
      obtain ⟨a, rfl, hx⟩ := rv.err_inv
      have h2 : OutP X.K (W1 W σ) ι1 H1 (if x.cls ∈ cl then liftO (x.at_.map fun i => (D.int i, M1)) else .stuck) (VR X.K Q) := h1
      by_cases hc : x.cls ∈ cl
      · rw [if_pos hc] at h2
        cases ea : x.at_ with
        | none => rw [ea] at h2; exact h2.elim
        | some i => rw [ea] at h2; exact ⟨a, x, i, rfl, hx, hc, ea, OutP.val S1 h2 _ (.int _)⟩
      · rw [if_neg hc] at h2
        exact h2.elim
    | _ => exact h1.elim
  · rintro u s1 ⟨v, H1, I1, rx, a, x, i, rfl, hx, hc, ea, q⟩
    obtain rfl : u = Value.ref a := rx
    obtain ⟨T1, T2⟩ := He.ba (List.all_eq_true.mp T _ hc)
    have T1 := xfB_ok T1
    obtain ⟨oe, vs, h1, h2, h3, h4, h5⟩ := hx
    have h6 : s1.heap.get? a = some oe := (I1.hok a _ h1).1
    rcases h5 with ⟨h5, _⟩ | ⟨i', d, h5, h7, h8⟩
    · rw [ea] at h5; cases h5
    rw [ea] at h5
    cases h5
    obtain ⟨mA, hns, hr⟩ := (show ObjOk X.prog X.w H1 s1.heap d (.xd _) from I1.hok d _ h8)
    obtain ⟨od, ho, hl⟩ := lookIn_ns hns
    obtain ⟨w, hw, rw'⟩ := RelO.some_of (v := V.int i) (o := mA "at") (by have := hr "at"; simpa [List.lookup] using this)
    have no : PySem.W.notCls oe = true := by unfold PySem.W.notCls; rw [h3]
    have J : PySem.W.InstAt s1.heap a oe (He.ga X.K x.cls) (some od) := ⟨h6, h2, no, by rw [h7]; exact ho⟩
    exact HandSPX.exc_get I1.kIn J T1.ga T1.gg T1.exC (PySem.W.findObj_own T1.hdC (He.eqO_ok T2) rfl (by rw [hl, hw])) (handed_of rw') ⟨.int i, H1, I1.tok _, rw', q⟩
end
end TL
end
section
set_option maxHeartbeats 4000000
namespace TL
open PySem PySem.Spec PyProof.Rows L2
def mCount : D → OpN := fun d ds M => match d, ds with
  | .ref n, [y] => match seqAt M n with
    | some xs => if flatD y = true ∧ xs.all flatD = true then some (.int ((xs.countP fun x => eqF x y : Nat) : Int), M) else none
    | none => none
  | _, _ => none
def mIndex : D → OpN := fun d ds M => match d, ds with
  | .ref n, [y] => match seqAt M n with
    | some xs => if flatD y = true ∧ xs.all flatD = true then (xs.findIdx? fun x => eqF x y).map fun j => (.int ((j : Nat) : Int), M) else none
    | none => none
  | _, _ => none
section
variable {X : Cx}
theorem m_index : MtR X "list.index" (rDM X.K mIndex) := by
  refine MtR.imp mt_index fun x xs H Q h => ?_
  obtain ⟨ι, M, d, ds, S, r, rs, h⟩ := h
  unfold mIndex at h
  split at h
  · rename_i n y
    obtain ⟨p, rfl, hp⟩ := r.ref_inv
    obtain ⟨y', rfl, ry⟩ := rs.one_inv
    split at h
    · rename_i xs0 m
      obtain ⟨vs, h1, r1⟩ := S.seq hp m
      split at h
      · rename_i c
        cases q : xs0.findIdx? fun x => eqF x y with
        | none => rw [q] at h; exact h.elim
        | some j =>
          rw [q] at h
          obtain ⟨hj, e1, e2⟩ := List.findIdx?_eq_some_iff_getElem.mp q
          obtain ⟨z, g1, g2⟩ := r1.get (List.getElem?_eq_getElem hj)
          refine ⟨p, vs, y', j, z, rfl, rfl, h1, by rw [flat_v ry]; exact c.1, by rw [flat_all r1]; exact c.2, g1, by rw [eqF_v g2 ry]; exact e1, fun k z' hk hz => ?_, OpO.val S h (.int _)⟩
          obtain ⟨z2, g3, g4⟩ := r1.get (List.getElem?_eq_getElem (show k < xs0.length by omega))
          rw [g3] at hz
          cases hz
          rw [eqF_v g4 ry]
          have := e2 k hk
          simpa using this
      · exact h.elim
    · exact h.elim
  · exact h.elim
end
/-- a class's facts off the head -/
theorem exF_of {K : PySem.W.Frag} {h : Heap} {mg : Str → Option Value} (X : K.In h) (G : h.Ns mainGlobals mg) {c : Str} (c1 : (He.Fa.glo c).ok K = true) (c2 : (He.Fa.exc c).ok K = true) : ExF K mg c := by
  obtain ⟨h1, h2, h3, h4⟩ := He.exc_ok c2
  exact ⟨He.glo_ok X G c1, h1, h2, h3, h4⟩
end TL
end
section
namespace TL
open PySem PySem.Spec PyProof.Rows L2
section
variable {env : Env} {M : Mem} {a b e : ME}
@[simp] theorem sStk_ap : sStk env M = .stuck := rfl
open Classical in
@[simp] theorem eTupRg1_ap : eTupRg1 e env M = (e env M).bind fun d M1 => kInt d fun j => if RgOk 0 j then .ok (.tup (rngItems 0 j.toNat)) M1 else .stuck := rfl
open Classical in
@[simp] theorem eLstRg1_ap : eLstRg1 e env M = (e env M).bind fun d M1 => kInt d fun j => if RgOk 0 j then .ok (.ref M1.length) (M1 ++ [.lst (rngItems 0 j.toNat)]) else .stuck := rfl
open Classical in
@[simp] theorem eTupRg2_ap : eTupRg2 a b env M = (a env M).bind fun d M1 => (b env M1).bind fun d2 M2 => kInt d fun i => kInt d2 fun j => if RgOk i j then .ok (.tup (rngItems i (j - i).toNat)) M2 else .stuck := rfl
open Classical in
@[simp] theorem eLstRg2_ap : eLstRg2 a b env M = (a env M).bind fun d M1 => (b env M1).bind fun d2 M2 => kInt d fun i => kInt d2 fun j => if RgOk i j then .ok (.ref M2.length) (M2 ++ [.lst (rngItems i (j - i).toNat)]) else .stuck := rfl
end
theorem rgOk_nat {i j : Nat} (h : j ≤ 1000000) (hi : i ≤ 1000000) : RgOk (i : Int) (j : Int) := RgOk.of_le (by omega) (by omega) (by omega) (by omega)
theorem intsOf_map : ∀ ns : List Int, intsOf (ns.map D.int) = some ns
  | [] => rfl
  | n :: ns => by
    show (intsOf (ns.map D.int)).map (n :: ·) = _
    rw [intsOf_map ns]; rfl
theorem blsOf_map : ∀ bs : List Bool, blsOf (bs.map D.bl) = some bs
  | [] => rfl
  | b :: bs => by
    show (blsOf (bs.map D.bl)).map (b :: ·) = _
    rw [blsOf_map bs]; rfl
theorem nMax_ints {M : Mem} {n : Nat} {ns : List Int} (h : seqAt M n = some (ns.map D.int)) (hne : ns ≠ []) : nMax [.ref n] M = some (.int (maxI ns), M) := by
  show (match seqAt M n with
    | some xs => match intsOf xs with
      | some ns => if ns = [] then none else some (D.int (maxI ns), M)
      | none => none
    | none => none) = _
  rw [h]
  simp only [intsOf_map]
  rw [if_neg hne]
theorem nAll_bls {M : Mem} {n : Nat} {bs : List Bool} (h : seqAt M n = some (bs.map D.bl)) : nAll [.ref n] M = some (.bl (bs.all id), M) := by
  show (match seqAt M n with
    | some xs => (blsOf xs).map fun (bs : List Bool) => (D.bl (bs.all id), M)
    | none => none) = _
  rw [h]
  simp only [blsOf_map]
  rfl
theorem nTuple_ref {M : Mem} {n : Nat} {xs : List D} (h : seqAt M n = some xs) : nTuple [.ref n] M = some (.tup xs, M) := by
  show (seqAt M n).map (fun xs => (D.tup xs, M)) = _
  rw [h]; rfl
end TL
end
section
namespace TL
open PySem PySem.Spec PyProof.Rows L2
/-- this value, and all that stood stands -/
abbrev Gives (M : Mem) (d : D) : D → Mem → Prop := fun d' M' => d' = d ∧ Keep M M'
theorem gives_of {o : Out D} {M : Mem} {d : D} (h : Ret o (Gives M d)) : ∃ M', o = .ok d M' ∧ Keep M M' := by
  obtain ⟨d', M', e, rfl, k⟩ := h
  exact ⟨M', e, k⟩
/-- how a block ends: with names and a memory, or with a value -/
def SRet (o : SOut) (N : TL.Env → Mem → Prop) (R : D → Mem → Prop) : Prop := match o with
  | .next e M => N e M
  | .ret d M => R d M
  | .exc _ _ _ => False
  | .stuck => False
section
variable {N N' : TL.Env → Mem → Prop} {R R' : D → Mem → Prop} {o : SOut} {env : TL.Env} {M : Mem}
theorem SRet.next (h : N env M) : SRet (.next env M) N R := h
theorem SRet.ret {d : D} (h : R d M) : SRet (.ret d M) N R := h
theorem SRet.imp (h : SRet o N R) (hn : ∀ e M, N e M → N' e M) (hr : ∀ d M, R d M → R' d M) : SRet o N' R' := by
  cases o with
  | next e M => exact hn _ _ h
  | ret d M => exact hr _ _ h
  | exc x e M => exact h
  | stuck => exact h
theorem SRet.nextS {f : TL.Env → Mem → SOut} (h : SRet o (fun e M => SRet (f e M) N R) R) : SRet (nextS o f) N R := by
  cases o with
  | next e M => exact h
  | ret d M => exact h
  | exc x e M => exact h
  | stuck => exact h
theorem Ret.endS {Q : D → Mem → Prop} (h : SRet o (fun _ M => Q .non M) Q) : Ret (endS o) Q := by
  cases o with
  | next e M => exact .ok h
  | ret d M => exact .ok h
  | exc x e M => exact h.elim
  | stuck => exact h.elim
/-- a for by its invariant -/
theorem SRet.for_ {good : Mem → Prop} {g : MG} {b : MS} {ds : List D} (Inv : List D → TL.Env → Mem → Prop) (h0 : Inv ds env M) (hgood : ∀ ds env M, Inv ds env M → good M)
    (step : ∀ d ds env M, Inv (d :: ds) env M → ∃ env1, g d env = some env1 ∧ SRet (b env1 M) (Inv ds) R) (done : ∀ env M, Inv [] env M → N env M) : SRet (forL good g b ds env M) N R := by
  induction ds generalizing env M with
  | nil => rw [forL_nil (hgood _ _ _ h0)]; exact done _ _ h0
  | cons d ds ih =>
    obtain ⟨env1, hg, hs⟩ := step d ds env M h0
    rw [forL_cons (hgood _ _ _ h0) hg]
    exact SRet.nextS (hs.imp (fun e M h => ih h) fun d M h => h)
/-- a for with what follows it -/
theorem SRet.forN {good : Mem → Prop} {g : MG} {b : MS} {ds : List D} {k : TL.Env → Mem → SOut} (Inv : List D → TL.Env → Mem → Prop) (h0 : Inv ds env M) (hgood : ∀ ds env M, Inv ds env M → good M)
    (step : ∀ d ds env M, Inv (d :: ds) env M → ∃ env1, g d env = some env1 ∧ SRet (b env1 M) (Inv ds) R) (done : ∀ env M, Inv [] env M → SRet (k env M) N R) : SRet (TL.nextS (forL good g b ds env M) k) N R :=
  SRet.nextS (SRet.for_ Inv h0 hgood step done)
end
section
variable {good : Mem → Prop} {i n : Nat} {t : MT} {e : ME} {env : TL.Env} {ds : List D} {M0 : Mem}
/-- a comprehension: what stood stands, the items turned -/
theorem Ret.comp {P : Unit → Mem → Prop} (f : D → D) (hg : ∀ M', Keep M0 M' → good M') (hl : ds.length ≤ 1000000)
    (h : ∀ d ∈ ds, ∀ M', Keep M0 M' → Ret (e (env.set i (some d)) M') (Gives M' (f d)))
    (k : ∀ M2, Keep M0 M2 → M2[M0.length]? = some (.lst (ds.map f)) → P () M2) : Ret (compL good i tYesD e M0.length env ds (M0 ++ [.lst []])) P := by
  obtain ⟨M2, e2, k2, a2⟩ := compL_keep (n := M0.length) (t := tYesD) (e := e) (i := i) (env := env) (fun _ => true) f M0 hg (Nat.le_refl _) ds [] (M0 ++ [.lst []]) (Keep.more _ _) (at_len _ _) (by simpa using hl) fun d hd M' k' =>
    ⟨M', rfl, Keep.refl _, fun _ => gives_of (h d hd M' k')⟩
  refine ⟨(), M2, e2, k M2 k2 ?_⟩
  rw [List.filter_eq_self.mpr (fun _ _ => rfl)] at a2
  simpa using a2
end
end TL
end
section
namespace TL
open PySem PySem.Spec PyProof.Rows L2
section
variable {env : TL.Env} {M : Mem} {a : ME} {x : Ex} {i : Nat} {d : D} {b m : MS} {cl : List Str} {hs : List HdM} {C : Str} {sl : Option Nat}
@[simp] theorem sRaise_ap {c : Str} : sRaise c env M = .exc ⟨c, none⟩ env M := rfl
@[simp] theorem sTry_ap : sTry cl b hs env M = match b env M with
  | .exc x env1 M1 => if x.cls ∈ cl then hdsRun x hs env1 M1 else .stuck
  | o => o := rfl
@[simp] theorem hdsRun_nil : hdsRun x [] env M = .exc x env M := rfl
@[simp] theorem hdsRun_cons : hdsRun x (⟨C, sl, m⟩ :: hs) env M = if subX x.cls C = true then undoS sl (m (setE env sl (some (.err x))) M) else hdsRun x hs env M := rfl
@[simp] theorem undoS_next : undoS sl (.next env M) = .next (setE env sl none) M := rfl
@[simp] theorem undoS_ret : undoS sl (.ret d M) = .ret d M := rfl
@[simp] theorem undoS_stuck : undoS sl .stuck = .stuck := rfl
@[simp] theorem setE_none {o : Option D} : setE env none o = env := rfl
@[simp] theorem setE_some {o : Option D} : setE env (some i) o = env.set i o := rfl
@[simp] theorem eIsE_ap : eIsE cl C a env M = (a env M).bind fun d M1 => liftO (mIsE cl C d M1) := rfl
@[simp] theorem eIsEs_ap {Cs : List Str} : eIsEs cl Cs a env M = (a env M).bind fun d M1 => liftO (mIsEs cl Cs d M1) := rfl
@[simp] theorem mIsE_err : mIsE cl C (.err x) M = if x.cls ∈ cl then some (.bl (subX x.cls C), M) else none := rfl
@[simp] theorem mIsEs_err {Cs : List Str} : mIsEs cl Cs (.err x) M = if x.cls ∈ cl then some (.bl (Cs.any (subX x.cls)), M) else none := rfl
@[simp] theorem isNon_err : isNon (.err x) = false := rfl
@[simp] theorem Out.bind_match {α β : Type} (x : Ex) (M : Mem) (f : α → Mem → Out β) : (Out.exc x M : Out α).bind f = .exc x M := rfl
end
section
variable {M : Mem} {xs : List D} {n : Nat} {k : Int}
@[simp] theorem nList_tup : nList [.tup xs] M = some (.ref M.length, M ++ [.lst xs]) := rfl
@[simp] theorem nList_ref : nList [.ref n] M = (seqAt M n).map fun xs => (.ref M.length, M ++ [.lst xs]) := rfl
@[simp] theorem nTuple_tup : nTuple [.tup xs] M = some (.tup xs, M) := rfl
end
theorem lt_of_seq {M : Mem} {n : Nat} {xs : List D} (h : seqAt M n = some xs) : n < M.length := by
  unfold seqAt at h
  cases q : M[n]? with
  | none => rw [q] at h; cases h
  | some o => exact lt_of_at q
theorem at_newK {M G : Mem} {k : Nat} : (M ++ G)[M.length + k]? = G[k]? := by rw [List.getElem?_append_right (by omega)]; simp
/-- it raises this, all that stood stands -/
def Throws {α : Type} (o : Out α) (M : Mem) (x : Ex) : Prop := ∃ M', o = .exc x M' ∧ Keep M M'
/-- one of a list at a drawn place -/
theorem pick_at {M : Mem} {n : Nat} {xs : List D} {r : Int} (hn : seqAt M n = some xs) (h0 : 0 ≤ r) (h1 : r < xs.length) : ∃ d, d ∈ xs ∧ mIdx (.ref n) (.int r) M = some (d, M) := by
  obtain ⟨d, g1, g2⟩ := atI_ok h0 h1
  refine ⟨d, List.mem_of_getElem? g1, ?_⟩
  show (match seqAt M n with | some xs => (atI xs r).map fun d => (d, M) | none => none) = _
  rw [hn]
  simp only [g2]
  rfl
end TL
end
section
namespace TLQ
open PySem PySem.Spec PyProof.Rows L2 TL
/-- a thing that is left alone -/
inductive Held {α : Sort _} : α → Type
  | mk (a : α) : Held a
def bindQ {α β : Type} (o : Out α) (f : α → Mem → Out β) (_ : Held f) : Out β := o.bind f
def thenQ {α : Type} (env : TL.Env) (o : Out α) (f : α → Mem → SOut) (_ : Held f) : SOut := thenS env o f
def nextQ (o : SOut) (f : TL.Env → Mem → SOut) (_ : Held f) : SOut := nextS o f
def kBlQ {β : Type} (d : D) (f : Bool → Out β) (_ : Held f) : Out β := kBl d f
def kIntQ {β : Type} (d : D) (f : Int → Out β) (_ : Held f) : Out β := kInt d f
section
variable {α β : Type} {env : TL.Env} {M : Mem}
@[scoped simp ↓] theorem bind_held {o : Out α} {f : α → Mem → Out β} : o.bind f = bindQ o f (.mk f) := rfl
@[scoped simp ↓] theorem then_held {o : Out α} {f : α → Mem → SOut} : thenS env o f = thenQ env o f (.mk f) := rfl
@[scoped simp ↓] theorem next_held {o : SOut} {f : TL.Env → Mem → SOut} : nextS o f = nextQ o f (.mk f) := rfl
@[scoped simp ↓] theorem kBl_held {d : D} {f : Bool → Out β} : kBl d f = kBlQ d f (.mk f) := rfl
@[scoped simp ↓] theorem kInt_held {d : D} {f : Int → Out β} : kInt d f = kIntQ d f (.mk f) := rfl
@[scoped simp] theorem bindQ_ok {a : α} {f : α → Mem → Out β} {u : Held f} : bindQ (.ok a M) f u = f a M := rfl
@[scoped simp] theorem bindQ_exc {x : Ex} {f : α → Mem → Out β} {u : Held f} : bindQ (.exc x M : Out α) f u = .exc x M := rfl
@[scoped simp] theorem bindQ_stuck {f : α → Mem → Out β} {u : Held f} : bindQ (.stuck : Out α) f u = .stuck := rfl
@[scoped simp] theorem bindQ_bindQ {γ : Type} {o : Out α} {f : α → Mem → Out β} {g : β → Mem → Out γ} {u : Held f} {v : Held g} : bindQ (bindQ o f u) g v = bindQ o (fun a M => (f a M).bind g) (.mk _) := Out.bind_assoc o f g
@[scoped simp] theorem thenQ_ok {a : α} {f : α → Mem → SOut} {u : Held f} : thenQ env (.ok a M) f u = f a M := rfl
@[scoped simp] theorem thenQ_exc {x : Ex} {f : α → Mem → SOut} {u : Held f} : thenQ env (.exc x M : Out α) f u = .exc x env M := rfl
@[scoped simp] theorem thenQ_stuck {f : α → Mem → SOut} {u : Held f} : thenQ env (.stuck : Out α) f u = .stuck := rfl
@[scoped simp] theorem thenQ_bindQ {o : Out α} {f : α → Mem → Out β} {g : β → Mem → SOut} {u : Held f} {v : Held g} : thenQ env (bindQ o f u) g v = thenQ env o (fun a M => thenS env (f a M) g) (.mk _) := thenS_bind f g
@[scoped simp] theorem nextQ_next {f : TL.Env → Mem → SOut} {u : Held f} : nextQ (.next env M) f u = f env M := rfl
@[scoped simp] theorem nextQ_ret {d : D} {f : TL.Env → Mem → SOut} {u : Held f} : nextQ (.ret d M) f u = .ret d M := rfl
@[scoped simp] theorem nextQ_exc {x : Ex} {f : TL.Env → Mem → SOut} {u : Held f} : nextQ (.exc x env M) f u = .exc x env M := rfl
@[scoped simp] theorem nextQ_stuck {f : TL.Env → Mem → SOut} {u : Held f} : nextQ .stuck f u = .stuck := rfl
@[scoped simp] theorem nextQ_thenQ {o : Out α} {f : α → Mem → SOut} {g : TL.Env → Mem → SOut} {u : Held f} {v : Held g} : nextQ (thenQ env o f u) g v = thenQ env o (fun a M => nextS (f a M) g) (.mk _) := nextS_thenS f g
@[scoped simp] theorem nextQ_nextQ {o : SOut} {f g : TL.Env → Mem → SOut} {u : Held f} {v : Held g} : nextQ (nextQ o f u) g v = nextQ o (fun e M => nextS (f e M) g) (.mk _) := nextS_nextS o f g
@[scoped simp] theorem endS_thenQ {o : Out α} {f : α → Mem → SOut} {u : Held f} : endS (thenQ env o f u) = bindQ o (fun a M => endS (f a M)) (.mk _) := endS_thenS f
@[scoped simp] theorem kBlQ_bl {b : Bool} {f : Bool → Out β} {u : Held f} : kBlQ (.bl b) f u = f b := rfl
@[scoped simp] theorem kIntQ_int {i : Int} {f : Int → Out β} {u : Held f} : kIntQ (.int i) f u = f i := rfl
@[scoped simp] theorem undoS_thenQ {sl : Option Nat} {o : Out α} {f : α → Mem → SOut} {u : Held f} (h : ∀ x M, o ≠ .exc x M) : undoS sl (thenQ env o f u) = thenQ env o (fun a M => undoS sl (f a M)) (.mk _) := by
  cases o with
  | ok a M => rfl
  | exc x M => exact absurd rfl (h x M)
  | stuck => rfl
variable {N : TL.Env → Mem → Prop} {R : D → Mem → Prop}
theorem Ret.bindQ {o : Out α} {f : α → Mem → Out β} {u : Held f} {P : α → Mem → Prop} {Q : β → Mem → Prop} (h : Ret o P) (k : ∀ a M, P a M → Ret (f a M) Q) : Ret (TLQ.bindQ o f u) Q := Ret.bind h k
theorem SRet.forQ {good : Mem → Prop} {g : MG} {b : MS} {ds : List D} {k : TL.Env → Mem → SOut} {u : Held k} (Inv : List D → TL.Env → Mem → Prop) (h0 : Inv ds env M) (hgood : ∀ ds env M, Inv ds env M → good M)
    (step : ∀ d ds env M, Inv (d :: ds) env M → ∃ env1, g d env = some env1 ∧ SRet (b env1 M) (Inv ds) R) (done : ∀ env M, Inv [] env M → SRet (k env M) N R) : SRet (TLQ.nextQ (forL good g b ds env M) k u) N R := SRet.forN Inv h0 hgood step done
theorem SRet.nextQ {o : SOut} {f : TL.Env → Mem → SOut} {u : Held f} (h : SRet o (fun e M => SRet (f e M) N R) R) : SRet (TLQ.nextQ o f u) N R := SRet.nextS h
end
@[scoped simp] theorem str_inj {a b : String} : Str.ofString a = Str.ofString b ↔ a = b := by
  refine ⟨fun h => ?_, fun h => by rw [h]⟩
  rw [Str.ofString_eq_toList, Str.ofString_eq_toList] at h
  have h1 := congrArg (fun s : Str => s.cps.toList) h
  simp only at h1
  have h2 : a.toList = b.toList := (List.map_inj_right fun c d e => Char.ext (UInt32.toNat_inj.mp e)).mp h1
  exact String.toList_inj.mp h2
@[scoped simp] theorem str_beq {a b : String} : (Str.ofString a == Str.ofString b) = decide (a = b) := by
  by_cases h : a = b
  · subst h; simp
  · have : Str.ofString a ≠ Str.ofString b := fun e => h (str_inj.mp e)
    simp [h]
section
variable {M : Mem} {n : Nat} {y : D}
@[scoped simp] theorem mCount_ap : mCount (.ref n) [y] M = match seqAt M n with
    | some xs => if flatD y = true ∧ xs.all flatD = true then some (.int ((xs.countP fun x => eqF x y : Nat) : Int), M) else none
    | none => none := rfl
@[scoped simp] theorem mIndex_ap : mIndex (.ref n) [y] M = match seqAt M n with
    | some xs => if flatD y = true ∧ xs.all flatD = true then (xs.findIdx? fun x => eqF x y).map fun j => (.int ((j : Nat) : Int), M) else none
    | none => none := rfl
@[scoped simp] theorem tyD_ref : tyD "list" M (.ref n) = (seqAt M n).isSome := by show (decide ("list" = "list") && (seqAt M n).isSome) = _; simp
@[scoped simp] theorem mNe_bl {b c : Bool} : mNe (.bl b) (.bl c) M = some (.bl (!(b == c)), M) := by
  rw [mNe_eq, eqD_pure (n := 0) (m := 0) (by simp [pureD]) (by simp [pureD]) (by decide) (by decide)]; simp [pyD, PyData.eqv]
@[scoped simp] theorem flat_bl {b : Bool} : flatD (.bl b) = true := rfl
@[scoped simp] theorem flat_int {b : Int} : flatD (.int b) = true := rfl
@[scoped simp] theorem flat_str {b : Str} : flatD (.str b) = true := rfl
@[scoped simp] theorem flat_non : flatD .non = true := rfl
@[scoped simp] theorem eqF_bl {b c : Bool} : eqF (.bl b) (.bl c) = (b == c) := rfl
@[scoped simp] theorem eqF_int {b c : Int} : eqF (.int b) (.int c) = (b == c) := rfl
@[scoped simp] theorem eqF_str {b c : Str} : eqF (.str b) (.str c) = (b == c) := rfl
end
@[scoped simp] theorem line_is : sizeLine = 16777216 := sizeLine_eq
theorem strOk_of (s : String) : PyData.strOk (Str.ofString s) = true := by
  rw [Str.ofString_eq_toList]
  unfold PyData.strOk
  rw [← Array.all_toList]
  simp only [List.all_map, List.all_eq_true]
  intro c _
  have h := c.valid
  have e : c.toNat = c.val.toNat := rfl
  refine decide_eq_true ?_
  show c.toNat < 0x110000
  rw [e]
  rcases h with h | h <;> simp at h ⊢ <;> omega
@[scoped simp] theorem mEq_str {x y : String} {M : Mem} : mEq (.str (Str.ofString x)) (.str (Str.ofString y)) M = some (.bl (decide (x = y)), M) := by
  rw [mEq_eq, eqD_pure (n := 0) (m := 0) (by simp [pureD, strOk_of]) (by simp [pureD, strOk_of]) (by decide) (by decide)]; simp [pyD, PyData.eqv]
@[scoped simp] theorem mNe_str {x y : String} {M : Mem} : mNe (.str (Str.ofString x)) (.str (Str.ofString y)) M = some (.bl (!decide (x = y)), M) := by
  rw [mNe_eq, eqD_pure (n := 0) (m := 0) (by simp [pureD, strOk_of]) (by simp [pureD, strOk_of]) (by decide) (by decide)]; simp [pyD, PyData.eqv]
end TLQ
end
section
set_option maxHeartbeats 4000000
namespace TL
open PySem PySem.Spec PyProof.Rows L2
def strsOf : List D → Option (List Str)
  | [] => some []
  | .str b :: ds => (strsOf ds).map (b :: ·)
  | _ => none
theorem strsOf_map : ∀ ns : List Str, strsOf (ns.map D.str) = some ns
  | [] => rfl
  | n :: ns => by
    show (strsOf (ns.map D.str)).map (n :: ·) = _
    rw [strsOf_map ns]; rfl
def joinO (a : Str) (xs : List D) : Option Str := match strsOf xs with
  | some ys => if (ys.map (·.length)).sum + ys.length * a.length ≤ sizeLine then some (Txt.join a ys) else none
  | none => none
def mJoin : D → OpN := fun d ds M => match d, ds with
  | .str a, [.ref n] => match seqAt M n with
    | some xs => (joinO a xs).map fun z => (.str z, M)
    | none => none
  | .str a, [.tup xs] => (joinO a xs).map fun z => (.str z, M)
  | _, _ => none
def mFind : D → OpN := fun d ds M => match d, ds with
  | .str a, [.str b] => some (.int (Txt.find a b), M)
  | _, _ => none
def mSplit : D → OpN := fun d ds M => match d, ds with
  | .str a, [.str b] => if (b.length == 0) = false ∧ a.length + 2 ≤ sizeLine then some (.ref M.length, M ++ [.lst ((Txt.split a b).map D.str)]) else none
  | _, _ => none
def mPartition : D → OpN := fun d ds M => match d, ds with
  | .str a, [.str b] => if (b.length == 0) = false ∧ a.length ≤ sizeLine then some (.tup [.str (Txt.partition a b).1, .str (Txt.partition a b).2.1, .str (Txt.partition a b).2.2], M) else none
  | _, _ => none
def mUpper : D → OpN := fun d ds M => match d, ds with
  | .str a, [] => if a.length ≤ 5592405 then some (.str (Txt.upper a), M) else none
  | _, _ => none
def nStr : OpN := fun ds M => match ds with
  | [.int i] => if i.natAbs.log2 < 1920 then some (.str (toString i), M) else none
  | [.str x] => some (.str x, M)
  | _ => none
section
variable {K : PySem.W.Frag} {ι : List Addr} {H : Hp} {M : Mem}
theorem strs_v : ∀ {ds : List D} {vs : List V} {bs : List Str}, RpA K ι H ds vs → strsOf ds = some bs → vs = bs.map V.str
  | [], _, _, .nil, e => by cases e; rfl
  | d :: ds, _, bs, .cons r t, e => by
    cases d with
    | str b =>
      have e' : (strsOf ds).map (b :: ·) = some bs := e
      cases q : strsOf ds with
      | none => rw [q] at e'; cases e'
      | some cs =>
        rw [q] at e'
        cases e'
        cases r.str_inv
        rw [strs_v t q]
        rfl
    | _ => cases e
end
section
variable {M : Mem} {a b : Str} {n : Nat} {xs : List D} {i : Int}
theorem mJoin_ref : mJoin (.str a) [.ref n] M = match seqAt M n with
    | some xs => (joinO a xs).map fun z => (.str z, M)
    | none => none := rfl
@[simp] theorem mFind_str : mFind (.str a) [.str b] M = some (.int (Txt.find a b), M) := rfl
@[simp] theorem mSplit_str : mSplit (.str a) [.str b] M = if (b.length == 0) = false ∧ a.length + 2 ≤ sizeLine then some (.ref M.length, M ++ [.lst ((Txt.split a b).map D.str)]) else none := rfl
@[simp] theorem mPartition_str : mPartition (.str a) [.str b] M = if (b.length == 0) = false ∧ a.length ≤ sizeLine then some (.tup [.str (Txt.partition a b).1, .str (Txt.partition a b).2.1, .str (Txt.partition a b).2.2], M) else none := rfl
@[simp] theorem mUpper_str : mUpper (.str a) [] M = if a.length ≤ 5592405 then some (.str (Txt.upper a), M) else none := rfl
@[simp] theorem nStr_int : nStr [.int i] M = if i.natAbs.log2 < 1920 then some (.str (toString i), M) else none := rfl
@[simp] theorem nStr_str : nStr [.str a] M = some (.str a, M) := rfl
@[simp] theorem tyD_str : tyD "str" M (.str a) = true := rfl
theorem joinO_strs {ys : List Str} (h : (ys.map (·.length)).sum + ys.length * a.length ≤ 1000000) : joinO a (ys.map D.str) = some (Txt.join a ys) := by
  unfold joinO
  simp only [strsOf_map]
  exact if_pos (by rw [sizeLine_eq]; omega)
end
end TL
end
section
set_option maxHeartbeats 4000000
namespace TL
open PySem PySem.Spec PyProof.Rows L2
/-- room, and nothing being shown -/
structure RoomG (k : Nat) (A : Around) : Prop where
  room : Room k A
  gd : A.guards = some []
theorem RoomG.mono {j k : Nat} {A : Around} (r : RoomG k A) (h : j ≤ k) : RoomG j A := ⟨r.room.mono h, r.gd⟩
theorem RoomG.deeper {k : Nat} {A : Around} (r : RoomG (k + 1) A) (env : PySem.Env) : RoomG k (A.deeper env) := ⟨r.room.deeper env, r.gd⟩
structure CtxG (X : Cx) (W : WX) (k : Nat) : Prop where
  ctx : Ctx X W k
  gd : X.A.guards = some []
theorem CtxG.rm {X : Cx} {W : WX} {k : Nat} (C : CtxG X W k) : RoomG k X.A := ⟨C.ctx.room, C.gd⟩
structure FnG (P : Program) (w : World) (K : PySem.W.Frag) (mg : Str → Option Value) (base : Heap) (CX : CXT) (k : Nat) (f : Addr) (fd : FuncData) (ps : List Str) (sp : Sp) : Prop where
  len : ∀ vs H Q E, sp vs H Q E → vs.length = ps.length
  run : ∀ (A : Around) (outer : List PySem.Env) (s : Shared) (H : Hp) (args : Args) (us : List Value) (vs : List V) (Q : VK) (E : XK), RoomG k A → Env0 P w K mg base A outer s H → BindsTo s fd args (ps.zip us) → Vals vs us → sp vs H Q E →
    codeAny (model P w) A (.call (.ref f) args) (CR CX outer P w H s Q E) s
section
variable {P : Program} {w : World} {K : PySem.W.Frag} {mg : Str → Option Value} {base : Heap} {x qual : Str} {params : Arguments} {body : List Stmt} {scope : Scope} {f : Addr} {fd : FuncData} {N ps : List Str} {k : Nat} {CX : CXT} {sp : Sp}
theorem fnG (F : FunD K x qual params body scope [] [] f fd) (S : FnScope N ps scope) (len : ∀ vs H Q E, sp vs H Q E → vs.length = ps.length)
    (hbody : ∀ (cd : Value) (A : Around) (outer : List PySem.Env) (s : Shared) (H : Hp) (vs : List V) (Q : VK) (E : XK), RoomG k (A.deeper (envOfC qual scope s.heap.objs.size f cd)) → sp vs H Q E →
      ∃ t, PSs (cxOf CX P w K mg base N qual scope f cd A outer s H E) body t ∧ t { nx := fun _ H' => Q .non H', rt := Q } (L2.start N vs) H) : FnG P w K mg base CX (k + 1) f fd ps sp where
  len := len
  run A outer s H args us vs Q E room e0 bound vals want := by
    obtain ⟨_, _, _, _, _, _, _, cd, _, _, rfl, at_, code, _, _⟩ := F.ex
    have held : ∀ b o, base.get? b = some o → s.heap.get? b = some o := fun b o e => (e0.bs b o e).1
    have inK := e0.mod.kin.keeps held
    have lim := e0.mod.nolimit.keeps held
    have dep : A.depth < recursionLimit := by have := room.room.dp; omega
    refine codeAny_call_function dep (inK f _ at_) rfl S.co S.gen rfl (PySem.W.codeRec_of inK code) (bound _ _ _ _ (wpAny_newFunctionEnv_cells S.kind ?_ ?_))
    · intro y hy
      have m : y.1 ∈ ps := (List.of_mem_zip (show (y.1, y.2) ∈ ps.zip us from hy)).1
      exact (S.par y.1 m).imp id fun q => ⟨q, PySem.W.cellsFrom_some _ _ _ (.inl q)⟩
    · intro env ee s1 call
      subst ee
      refine ⟨lim.keeps call.toInCall.keep, codeAny_func ?_⟩
      have I := inv_start (CX := CX) (E := E) S (A := A) room.room.hd e0 (len _ _ _ _ want) vals call
      obtain ⟨t, run, q⟩ := hbody cd A outer s H vs Q E (room.deeper _) want
      refine wpAny_mono (run.run [] s1 _ H _ I q) (fun fl s2 e => ?_) fun _ _ e => e
      cases fl with
      | next => obtain ⟨_, H2, I2, q2⟩ := e; exact ⟨.non, H2, I2.os, I2.bare, I2.base, I2.hok, rfl, q2⟩
      | ret u => obtain ⟨v, _, H2, I2, r2, q2⟩ := e; exact ⟨v, H2, I2.os, I2.bare, I2.base, I2.hok, r2, q2⟩
      | brk => exact e.elim fun _ e => e.elim fun _ e => e.2.elim
      | cont => exact e.elim fun _ e => e.elim fun _ e => e.2.elim
end
structure CalleeG (P : Program) (w : World) (K : PySem.W.Frag) (mg : Str → Option Value) (base : Heap) (x : Str) (n k : Nat) (m : Fn) : Prop where
  ex : ∃ (f : Addr) (fd : FuncData) (ps : List Str), FnG P w K mg base (L2N.CX P w) k f fd ps (spD K n m) ∧ mg x = some (.ref f) ∧ PySem.W.keepIn K (.ref f) = true ∧ Binds K fd ps [] ∧ ps.length = n
  len : ∀ ds M, ds.length ≠ n → m ds M = .stuck
section
variable {P : Program} {w : World} {K : PySem.W.Frag} {mg : Str → Option Value} {base : Heap}
theorem okG {x qual : Str} {params : Arguments} {body : List Stmt} {scope : Scope} {f : Addr} {N ps : List Str} {k : Nat} {mb : MS} (F : ∃ fd, FunD K x qual params body scope [] [] f fd) (S : FnScope N ps scope) (hm : mg x = some (.ref f))
    (hbind : ∀ (kV doc pm : Value) (an : Option Addr) (cdv ct : Value) (us : List Value), us.length = ps.length → bindArgs (PySem.W.fnOf x qual params body scope .none kV doc pm an cdv ct) ⟨us, []⟩ = pure (ps.zip us))
    (hbody : ∀ (cdv : Value) (A : Around) (outer : List PySem.Env) (s : Shared) (H : Hp) (E : XK), let X := cxOf (L2N.CX P w) P w K mg base N qual scope f cdv A outer s H E
      CtxG X (fun cls d _ H => E cls d H) k → PSs X body (LS K (fun cls d _ H => E cls d H) mb)) :
    CalleeG P w K mg base x ps.length (k + 1) (fnD ps.length N.length mb) := by
  obtain ⟨fd, F⟩ := F
  refine ⟨⟨f, fd, ps, fnG F S (fun vs H Q E h => h.1) ?_, hm, F.kp, F.bindsN hbind, rfl⟩, fun ds M h => if_neg h⟩
  rintro cdv A outer s H vs Q E hr ⟨hl, ι, ds, M, SS, rs, h⟩
  have C : Ctx (cxOf (L2N.CX P w) P w K mg base N qual scope f cdv A outer s H E) (fun cls d _ H => E cls d H) k := ⟨rfl, S.nd, hr.room, L2N.takes_of rfl rfl rfl rfl, passes_of rfl⟩
  refine ⟨_, hbody cdv A outer s H E ⟨C, hr.gd⟩, ι, startE N.length ds, M, SS, ?_, ?_⟩
  · unfold startE L2.start
    rw [rs.length]
    exact envR_start rs _
  · unfold fnD at h
    rw [if_pos (by rw [rs.length]; exact hl)] at h
    revert h
    cases mb (startE N.length ds) M with
    | next env M1 => exact fun h ι1 σ1 H1 e1 S1 _ => h ι1 H1 e1 S1 _ .non
    | ret d M1 => exact fun h ι1 v H1 e1 S1 r => h ι1 H1 e1 S1 v r
    | exc y env M1 => exact fun h ι1 σ1 H1 cls dx e1 S1 _ ex => h ι1 H1 cls dx e1 S1 ex
    | stuck => exact fun h => h
end
section
variable {X : Cx} {W : WX} {e : Expr} {es : List Expr} {mas : MA} {x : Str} {p pos : Pos}
theorem pe_callG {CX : CXT} {k : Nat} {f : Addr} {fd : FuncData} {ps : List Str} {sp : Sp} {E : L2.St → XK} {t : TA} (F : FnG X.prog X.w X.K X.mg X.base CX k f fd ps sp) (room : RoomG k X.A) (hg : Gl X x) (hm : X.mg x = some (.ref f)) (kp : PySem.W.keepIn X.K (.ref f) = true) (bi : Binds X.K fd ps [])
    (ps' : ∀ σ, PassesAt CX X σ (E σ)) (ha : PA X (e :: es) t) (hdb : (x == ("__debug__" : Str)) = false) (st : starEach (e :: es) X.env = (false, eval e X.env) :: starEach es X.env) (pl : (backTo pos (starEach es X.env)).any (·.1) = false) :
    PE X (.Call (.Name x p) (e :: es) [] pos) (tCallS sp E t) where
  run pins s σ H Q I want := by
    apply wpAny_Call_Name_kw
    refine ld_glob I hg hm ?_ hdb
    refine PySem.W.callWith_K (h₀ := X.base) I.ok.mod.kin kp ?_ st pl
    refine thn (ha.run pos pins s σ H _ I want) ?_
    rintro us s1 ⟨vs, H1, I1, vals, q⟩
    refine ⟨I1.kIn, ?_⟩
    have many : (us ++ []).length = ps.length := by rw [List.append_nil, ← vals.length]; exact F.len _ _ _ _ q
    have bound : BindsTo s1 fd ⟨us, []⟩ (ps.zip us) := by
      have b := bi s1 us I1.kIn many
      rwa [List.append_nil] at b
    apply wpAny_call
    refine codeAny_mono (F.run X.A X.stack s1 H1 _ us vs Q (E σ) room I1.env0 bound vals q) ?_
    rintro (er | fl) s2 e2
    · exact ps' σ pins H1 s1 er s2 I1 e2
    · cases fl with
      | ret u => exact I1.after e2
      | next => exact e2.elim
      | brk => exact e2.elim
      | cont => exact e2.elim
theorem d_callG {k k' n : Nat} {m : Fn} (C : CtxG X W k') (F : CalleeG X.prog X.w X.K X.mg X.base x n k m) (hk : k ≤ k') (ha : PA X (e :: es) (LA X.K W mas)) (hg : Gl X x := by rfl)
    (hdb : (x == ("__debug__" : Str)) = false := by decide) (hst : starEach (e :: es) X.env = (false, eval e X.env) :: starEach es X.env := by rfl) (hpl : (backTo pos (starEach es X.env)).any (·.1) = false := by rfl) :
    PE X (.Call (.Name x p) (e :: es) [] pos) (LE X.K W (eCall m mas)) := by
  have hlen := F.len
  obtain ⟨f, fd, ps, F, hm, kp, hb, _⟩ := F.ex
  refine (pe_callG F (C.rm.mono hk) hg hm kp hb (fun σ => L2N.passAt C.ctx.tk σ) ha hdb hst hpl).imp fun σ H Q ⟨ι, env, M, S, R, h⟩ => ⟨ι, env, M, S, R, ?_⟩
  refine (OutP.bind h).imp fun ds M1 ι1 H1 e1 S1 h1 vs rv => ⟨?_, ι1, ds, M1, S1, rv, h1⟩
  rw [← rv.length]
  by_cases q : ds.length = n
  · exact q
  · rw [hlen ds M1 q] at h1
    exact h1.elim
end
end TL
end
section
set_option maxHeartbeats 4000000
namespace TL
open PySem PySem.Spec PyProof.Rows L2
theorem CtxG.blk {X : Cx} {W : WX} {k : Nat} (C : CtxG X W k) {s : Shared} {H : Hp} {scope : Scope} {cenv : PySem.Env} {fp : List Addr} : CtxG (X.blk s H scope cenv fp) W0 k := ⟨C.ctx.blk, C.gd⟩
section
variable {P : Program} {w : World} {K : PySem.W.Frag} {mg mb : Str → Option Value} {CX : CXT} {k : Nat} {fa l : Addr} {fd : FuncData} {x : Str} {sp : Sp} {t : Shared} {vs : List Value} {ns : List Int}
/-- the outer memory while T is followed -/
theorem run_at {T : Hp} (kx : K.In t.heap) (nm : t.heap.Ns mainGlobals mg) (nb : t.heap.Ns builtinsNs mb) (bt : ∀ y : Str, y ≠ "__name__" → mb y = bootBuiltins y) (nl : t.heap.NoLimit) (ng : t.gens = #[])
    (la : t.heap.get? l = some { cls := .type "list", data := .seq vs.toArray }) (rm : RoomG k callerA) (F : ∀ h : Heap, K.In h → h.Ns mainGlobals mg → FnG P w K mg h CX k fa fd [x] sp)
    (bd : ∀ (s : Shared) (u : Value), BindsTo s fd ⟨[u], []⟩ [(x, u)]) (hT : Only T) (hok : HOk P w T t.heap) (hl : ∀ b, T b ≠ none → b = l) (hk : T l ≠ none → K.lookup l = none)
    (want : sp [.ref l] T (fun v _ => v = .bl true) fun _ _ _ => False) (quiet : ∀ e s', CX [] T t (fun _ _ _ => False) e s' → False) :
    codeAny (model P w) callerA (.call (.ref fa) ⟨[.ref l], []⟩) (fun r s' => r = .ok (.ret (.bool true)) ∧ OldK t.heap s'.heap ∧ s'.os = t.os ∧ AllBare s'.gens) t := by
  -- what lies where the script does not is not followed
  have off : ∀ b, b ≠ l → T b = none := fun b hb => by
    cases e : T b with
    | none => rfl
    | some u => exact absurd (hl b (by rw [e]; exact fun z => nomatch z)) hb
  have names : ∀ {b : Addr} {m : Str → Option Value}, t.heap.Ns b m → (hidT t.heap T).Ns b m := by
    rintro b m ⟨o, es, ep, e, d, r⟩
    refine ⟨o, es, ep, hidT_get e (off b ?_), d, r⟩
    rintro rfl
    rw [la] at e
    cases e
    cases d
  have kin : K.In (hidT t.heap T) := fun b o e => by
    refine hidT_get (kx b o e) ?_
    cases q : T b with
    | none => rfl
    | some u =>
      have hb : T b ≠ none := by rw [q]; exact fun z => nomatch z
      have hb' := hl b hb
      subst hb'
      rw [hk hb] at e
      cases e
  have mod : Mod K mg (hidT t.heap T) := by
    obtain ⟨mc, c1, c2⟩ := nl
    exact ⟨kin, names nm, ⟨mb, names nb, bt⟩, mc, names c1, c2⟩
  have env0 : Env0 P w K mg (hidT t.heap T) callerA [] t T := ⟨rfl, mod, fun b o e => of_hidT e, Nat.le_of_eq (hidT_size _ _), trivial, fun b hb => absurd (show b ∈ ([] : List Addr) from hb) (List.not_mem_nil), hok, .of_eq ng⟩
  have go := (F _ kin (names nm)).run callerA [] t T ⟨[.ref l], []⟩ [.ref l] [.ref l] _ _ rm env0 (bd t (.ref l)) (.cons rfl .nil) want
  refine codeAny_mono go ?_
  rintro (er | fl) s2 h
  · exact (quiet er s2 h).elim
  · cases fl with
    | ret u =>
      obtain ⟨v, T2, os, bare, un, ok2, rv, rfl⟩ := h
      obtain rfl : u = Value.bool true := rv
      refine ⟨rfl, OldK.of_keep fun b o e => ?_, os, bare⟩
      rcases hT b with q | ⟨ob, xs, q⟩
      · exact un.keep b o e q (fun z => absurd (show b ∈ ([] : List Addr) from z) (List.not_mem_nil)) (List.not_mem_nil)
      · have q2 := (ok2 b _ (un.frzs b ob _ q)).1
        have q1 := (hok b _ q).1
        rw [e] at q1
        cases q1
        exact q2
    | next => exact h.elim
    | brk => exact h.elim
    | cont => exact h.elim
theorem law_callG (kx : K.In t.heap) (nm : t.heap.Ns mainGlobals mg) (nb : t.heap.Ns builtinsNs mb) (bt : ∀ y : Str, y ≠ "__name__" → mb y = bootBuiltins y) (nl : t.heap.NoLimit) (ng : t.gens = #[])
    (la : t.heap.get? l = some { cls := .type "list", data := .seq vs.toArray }) (ia : IntsAre vs ns) (le : ns.length ≤ sizeLine) (rm : RoomG k callerA) (F : ∀ h : Heap, K.In h → h.Ns mainGlobals mg → FnG P w K mg h CX k fa fd [x] sp)
    (bd : ∀ (s : Shared) (u : Value), BindsTo s fd ⟨[u], []⟩ [(x, u)]) (want : ∀ T : Hp, Only T → SqL K T l (ns.map V.int) → sp [.ref l] T (fun v _ => v = .bl true) fun _ _ _ => False)
    (quiet : ∀ T e s', CX [] T t (fun _ _ _ => False) e s' → False) :
    codeAny (model P w) callerA (.call (.ref fa) ⟨[.ref l], []⟩) (fun r s' => r = .ok (.ret (.bool true)) ∧ OldK t.heap s'.heap ∧ s'.os = t.os ∧ AllBare s'.gens) t := by
  have rv := vals_ints ia
  cases q : K.lookup l with
  | some o =>
    have e := kx l o q
    rw [la] at e
    cases e
    have on : Only fun _ => none := fun _ => .inl rfl
    refine run_at (T := fun _ => none) kx nm nb bt nl ng la rm F bd on (fun _ _ z => nomatch z) (fun _ z => (z rfl).elim) (fun z => (z rfl).elim) (want _ on (.inr ⟨_, vs.toArray, _, q, rfl, rfl, rfl, ?_, ?_⟩)) (quiet _)
    · rw [List.size_toArray, ia.length]
      exact le
    · simpa using rv
  | none =>
    let T : Hp := fun b => if b = l then some (.frz { cls := .type "list", data := .seq vs.toArray } (.lst (ns.map V.int))) else none
    have at_ : T l = some (.frz { cls := .type "list", data := .seq vs.toArray } (.lst (ns.map V.int))) := if_pos rfl
    have away : ∀ b, b ≠ l → T b = none := fun b h => if_neg h
    have on : Only T := fun b => by
      by_cases h : b = l
      · subst h
        exact .inr ⟨_, _, at_⟩
      · exact .inl (away b h)
    refine run_at (T := T) kx nm nb bt nl ng la rm F bd on (fun b u z => ?_) (fun b z => Decidable.byContradiction fun h => z (away b h)) (fun _ => q) (want _ on (.inl (.inr ⟨_, at_⟩))) (quiet _)
    by_cases h : b = l
    · subst h
      rw [at_] at z
      cases z
      exact ⟨la, by rw [List.length_map]; exact le, vs, _, rv, la⟩
    · rw [away b h] at z
      cases z
end
end TL
namespace TL
open PySem PySem.Spec PyProof.Rows L2
theorem walk_ofG {l : PySem.W.OpenLaw} {n k : Nat} {q : Program} {loose : List Str} {XP : (Str → Option Value) → Heap → Prop} {YP : World → Heap → Prop} {d : DefRec} {CX : World → CXT} {x : Str}
    (most : l.most = some n) (fits : n ≤ sizeLine) (plain : d.params.defaults = []) (rm : RoomG k callerA)
    (F : ∀ (w : World) (mg : Str → Option Value) (fa : Addr) (h : Heap), YP w h → h.Ns mainGlobals mg → mg d.name = some (.ref fa) →
      ∃ (K : PySem.W.Frag) (fd : FuncData) (sp : Sp), K.In h ∧ (∀ (s : Shared) (u : Value), BindsTo s fd ⟨[u], []⟩ [(x, u)]) ∧
        (∀ (H : Hp) (a : Addr) (ns : List Int), ns.length ≤ n → Only H → SqL K H a (ns.map V.int) → sp [.ref a] H (fun v _ => v = .bl true) fun _ _ _ => False) ∧
        ∀ base : Heap, K.In base → base.Ns mainGlobals mg → FnG l.prog w K mg base (CX w) k fa fd [x] sp)
    (quiet : ∀ (w : World) (H : Hp) (s : Shared) (e : Value) (s' : Shared), CX w [] H s (fun _ _ _ => False) e s' → False) :
    PySem.W.WalkO q loose XP YP l.row.toRowW d [] (fun f vs => PySem.call f vs) := by
  refine Att.attach_call most plain fun w s₀ s₁ mg mb fa o pm cd doc a vs ns G Y ho hd hcd hmg hobj hints hlen hg => ?_
  obtain ⟨K, fd, sp, kin, bd, want, fn⟩ := F w mg fa _ Y G.T.g hmg
  exact law_callG kin G.T.g G.T.b G.T.builtins G.T.nolimit hg hobj hints (Nat.le_trans hlen fits) rm fn bd (fun T on sq => want T a ns hlen on sq) (fun T e s' => quiet w T s₁ e s')
end TL
end
section
set_option maxHeartbeats 4000000
namespace TL
open PySem PySem.Spec PyProof.Rows L2
/-- what repr shows -/
structure ShowOk (K : PySem.W.Frag) (H : Hp) (x : V) (d : PyData) : Prop where
  dp : Dp K H x d
  sh : d.showable = true
  nd : d.hasDict = false
  dep : d.depth ≤ 60
  size : d.shown.length ≤ sizeLine
theorem call_reprD {X : Cx} (hg : X.A.guards = some []) (hu : X.A.units + 64 < cLine) : CallR X (.builtin "repr") (fun xs H Q => ∃ x d, xs = [x] ∧ ShowOk X.K H x d ∧ Q (.str d.shown) H) := by
  intro pins s σ H xs us Q I r h
  obtain ⟨x, d, rfl, so, q⟩ := h
  cases r with
  | cons rx rt =>
    cases rt
    rename_i u
    obtain ⟨as, rd⟩ := Dp.reads I d x u so.dp rx
    cases rd with
    | none => exact PySem.P.repr_of_none ⟨.str _, H, I.tok _, ⟨_, rfl⟩, q⟩
    | bool b => exact PySem.P.repr_of_bool ⟨.str _, H, I.tok _, ⟨_, rfl⟩, q⟩
    | int i t => exact PySem.P.repr_of_int (of_decide_eq_true so.sh) ⟨.str _, H, I.tok _, ⟨_, rfl⟩, q⟩
    | str y t => exact PySem.P.repr_of_str ⟨.str _, H, I.tok _, ⟨_, rfl⟩, q⟩ so.size
    | list e c dt al =>
      exact repr_of_reads' (.list e c dt al) so.sh (fun z => by rw [so.nd] at z; cases z) hg (by have := so.dep; omega) (fun _ _ e => e) (fun h' u tk hk => ⟨.str _, H, I.kept hk, ⟨_, rfl⟩, q⟩) so.size
    | tuple e c dt al =>
      exact repr_of_reads' (.tuple e c dt al) so.sh (fun z => by rw [so.nd] at z; cases z) hg (by have := so.dep; omega) (fun _ _ e => e) (fun h' u tk hk => ⟨.str _, H, I.kept hk, ⟨_, rfl⟩, q⟩) so.size
    | dict e c dt ks vs => exact absurd so.dp (fun z => nomatch z)
/-- the data of a thing and of what it holds -/
def datL (f : D → Option PyData) : List D → Option (List PyData)
  | [] => some []
  | x :: xs => match f x, datL f xs with
    | some d, some ds => some (d :: ds)
    | _, _ => none
def dat : Nat → Mem → D → Option PyData
  | 0, _, _ => none
  | n + 1, M, d => match d with
    | .non => some .none
    | .bl b => some (.bool b)
    | .int i => some (.int i)
    | .str x => some (.str x)
    | .tup xs => (datL (dat n M) xs).map PyData.tuple
    | .ref a => match seqAt M a with
      | some xs => (datL (dat n M) xs).map PyData.list
      | none => none
    | _ => none
section
variable {K : PySem.W.Frag} {ι : List Addr} {H : Hp} {M : Mem}
theorem datL_dp {f : D → Option PyData} {n : Nat} (h : ∀ (d : D) (v : V) (x : PyData), f d = some x → Rp K ι H d v → Dp K H v x ∧ x.hasDict = false ∧ x.depth ≤ n) :
    ∀ (xs : List D) (vs : List V) (ds : List PyData), datL f xs = some ds → RpA K ι H xs vs → DpAll K H vs ds ∧ PyData.hasDictAll ds = false ∧ PyData.depthAll ds ≤ n
  | [], _, _, e, .nil => by
    cases e
    exact ⟨.nil, rfl, Nat.zero_le _⟩
  | d :: xs, _, ds, e, .cons r rs => by
    unfold datL at e
    cases e1 : f d with
    | none => rw [e1] at e; cases e
    | some y =>
      cases e2 : datL f xs with
      | none => rw [e1, e2] at e; cases e
      | some ys =>
        rw [e1, e2] at e
        cases e
        obtain ⟨a1, a2, a3⟩ := h d _ y e1 r
        obtain ⟨b1, b2, b3⟩ := datL_dp h xs _ ys e2 rs
        refine ⟨.cons a1 b1, ?_, Nat.max_le.mpr ⟨a3, b3⟩⟩
        show (y.hasDict || PyData.hasDictAll ys) = false
        rw [a2, b2]
        rfl
theorem dat_dp (S : SR K ι H M) : ∀ (n : Nat) (d : D) (v : V) (x : PyData), dat n M d = some x → Rp K ι H d v → Dp K H v x ∧ x.hasDict = false ∧ x.depth ≤ n
  | 0, _, _, _, e, _ => nomatch e
  | n + 1, d, v, x, e, r => by
    cases r with
    | non => cases e; exact ⟨.non, rfl, Nat.zero_le _⟩
    | bl b => cases e; exact ⟨.bl b, rfl, Nat.zero_le _⟩
    | int i => cases e; exact ⟨.int i, rfl, Nat.zero_le _⟩
    | str y => cases e; exact ⟨.str y, rfl, Nat.zero_le _⟩
    | err q => cases e
    | tup h1 h2 =>
      obtain ⟨ds, e1, rfl⟩ := Option.map_eq_some_iff.mp (show (datL (dat n M) _).map PyData.tuple = some x from e)
      obtain ⟨a1, a2, a3⟩ := datL_dp (dat_dp S n) _ _ ds e1 h2
      exact ⟨.tup h1 a1, a2, Nat.succ_le_succ a3⟩
    | ref h1 =>
      rename_i m a
      have e' : (match seqAt M m with | some xs => (datL (dat n M) xs).map PyData.list | none => none) = some x := e
      cases q : seqAt M m with
      | none => rw [q] at e'; cases e'
      | some xs =>
        rw [q] at e'
        obtain ⟨ds, e1, rfl⟩ := Option.map_eq_some_iff.mp e'
        obtain ⟨vs, s1, s2⟩ := S.seq h1 q
        obtain ⟨a1, a2, a3⟩ := datL_dp (dat_dp S n) _ _ ds e1 s2
        exact ⟨.lst s1 a1, a2, Nat.succ_le_succ a3⟩
end
open Classical in
noncomputable def nRepr : OpN := fun ds M => match ds with
  | [d] => match dat 40 M d with
    | some x => if x.showable = true ∧ x.shown.length ≤ sizeLine then some (.str x.shown, M) else none
    | none => none
  | _ => none
theorem c_repr {X : Cx} {W : WX} {k : Nat} (C : CtxG X W k) : CallR X (.builtin "repr") (rDN X.K nRepr) := by
  refine CallR.imp (call_reprD C.gd C.ctx.room.units) fun xs H Q h => ?_
  obtain ⟨ι, M, ds, S, r, h⟩ := h
  unfold nRepr at h
  split at h
  · rename_i d
    obtain ⟨v, rfl, r1⟩ := r.one_inv
    cases e : dat 40 M d with
    | none => rw [e] at h; exact h.elim
    | some x =>
      rw [e] at h
      obtain ⟨a1, a2, a3⟩ := dat_dp S 40 d v x e r1
      by_cases c : x.showable = true ∧ x.shown.length ≤ sizeLine
      · simp only [if_pos c] at h
        exact ⟨v, x, rfl, ⟨a1, c.1, a2, by omega, c.2⟩, h.val S (.str _)⟩
      · simp only [if_neg c] at h
        exact h.elim
  · exact h.elim
/-- the law's own def -/
theorem okFG {P : Program} {w : World} {K : PySem.W.Frag} {mg : Str → Option Value} {base : Heap} {x qual : Str} {params : Arguments} {body : List Stmt} {scope : Scope} {f : Addr} {fd : FuncData} {N ps : List Str} {k : Nat} {mb : MS} (F : FunD K x qual params body scope [] [] f fd) (S : FnScope N ps scope)
    (hbody : ∀ (cdv : Value) (A : Around) (outer : List PySem.Env) (s : Shared) (H : Hp) (E : XK), let X := cxOf (L2N.CX P w) P w K mg base N qual scope f cdv A outer s H E
      CtxG X (fun cls d _ H => E cls d H) k → PSs X body (LS K (fun cls d _ H => E cls d H) mb)) :
    FnG P w K mg base (L2N.CX P w) (k + 1) f fd ps (spD K ps.length (fnD ps.length N.length mb)) := by
  refine fnG F S (fun vs H Q E h => h.1) ?_
  rintro cdv A outer s H vs Q E hr ⟨hl, ι, ds, M, SS, rs, h⟩
  have C : Ctx (cxOf (L2N.CX P w) P w K mg base N qual scope f cdv A outer s H E) (fun cls d _ H => E cls d H) k := ⟨rfl, S.nd, hr.room, L2N.takes_of rfl rfl rfl rfl, passes_of rfl⟩
  refine ⟨_, hbody cdv A outer s H E ⟨C, hr.gd⟩, ι, startE N.length ds, M, SS, ?_, ?_⟩
  · unfold startE L2.start
    rw [rs.length]
    exact envR_start rs _
  · unfold fnD at h
    rw [if_pos (by rw [rs.length]; exact hl)] at h
    revert h
    cases mb (startE N.length ds) M with
    | next env M1 => exact fun h ι1 σ1 H1 e1 S1 _ => h ι1 H1 e1 S1 _ .non
    | ret d M1 => exact fun h ι1 v H1 e1 S1 r => h ι1 H1 e1 S1 v r
    | exc y env M1 => exact fun h ι1 σ1 H1 cls dx e1 S1 _ ex => h ι1 H1 cls dx e1 S1 ex
    | stuck => exact fun h => h
end TL
end
section
set_option maxHeartbeats 4000000
namespace TL
open PySem PySem.Spec PyProof.Rows L2
theorem datL_imp {f g : D → Option PyData} (h : ∀ (d : D) (x : PyData), f d = some x → g d = some x) : ∀ (xs : List D) (ds : List PyData), datL f xs = some ds → datL g xs = some ds
  | [], _, e => e
  | d :: xs, ds, e => by
    unfold datL at e ⊢
    cases e1 : f d with
    | none => rw [e1] at e; cases e
    | some y =>
      cases e2 : datL f xs with
      | none => rw [e1, e2] at e; cases e
      | some ys =>
        rw [e1, e2] at e
        rw [h d y e1, datL_imp h xs ys e2]
        exact e
theorem dat_keep {M M' : Mem} (k : Keep M M') : ∀ (n : Nat) (d : D) (x : PyData), dat n M d = some x → dat n M' d = some x
  | 0, _, _, e => nomatch e
  | n + 1, d, x, e => by
    cases d with
    | tup xs =>
      obtain ⟨ds, e1, rfl⟩ := Option.map_eq_some_iff.mp (show (datL (dat n M) xs).map PyData.tuple = some x from e)
      show (datL (dat n M') xs).map PyData.tuple = _
      rw [datL_imp (dat_keep k n) xs ds e1]
      rfl
    | ref m =>
      have e' : (match seqAt M m with | some xs => (datL (dat n M) xs).map PyData.list | none => none) = some x := e
      show (match seqAt M' m with | some xs => (datL (dat n M') xs).map PyData.list | none => none) = some x
      cases q : seqAt M m with
      | none => rw [q] at e'; cases e'
      | some xs =>
        rw [q] at e'
        obtain ⟨ds, e1, rfl⟩ := Option.map_eq_some_iff.mp e'
        rw [k.seq q]
        simp only
        rw [datL_imp (dat_keep k n) xs ds e1]
        rfl
    | _ => exact e
/-- a thing that repr can show -/
def Shows (M : Mem) (d : D) (t : Str) : Prop := ∃ x, dat 40 M d = some x ∧ x.showable = true ∧ x.shown.length ≤ sizeLine ∧ t = x.shown
theorem Shows.keep {M M' : Mem} {d : D} {t : Str} (k : Keep M M') (h : Shows M d t) : Shows M' d t := by
  obtain ⟨x, e, r⟩ := h
  exact ⟨x, dat_keep k 40 d x e, r⟩
theorem nRepr_ok {M : Mem} {d : D} {t : Str} (h : Shows M d t) : nRepr [d] M = some (.str t, M) := by
  obtain ⟨x, e, s, l, rfl⟩ := h
  unfold nRepr
  simp only [e]
  exact if_pos ⟨s, l⟩
theorem Shows.of {M : Mem} {d : D} {x : PyData} (e : dat 40 M d = some x) (s : x.showable = true) (l : x.leavesShort 200 = true) (h : x.weight ≤ 10000) : Shows M d x.shown := by
  refine ⟨x, e, s, ?_, rfl⟩
  have h1 := PyData.shown_le 200 (by decide) x l
  rw [sizeLine_eq]
  omega
theorem int_short {i : Int} (h : i.natAbs < 10 ^ 60) : (PyData.int i).leavesShort 200 = true := by
  have h1 := int_text_length_le10 (a := i) (k := 60) (by decide) h
  show decide ((PyData.int i).shown.length ≤ 200) = true
  refine decide_eq_true ?_
  have h2 : (Str.ofString (toString i)).length ≤ 200 := by
    clear h
    rw [PySem.ofString_length]
    omega
  exact h2
end TL
end
section
set_option maxHeartbeats 4000000
namespace TL
open PySem PySem.Spec PyProof.Rows L2
/-- it can be shown: at most n deep, of weight w -/
def Sh (M : Mem) (n w : Nat) (d : D) : Prop := ∃ x, dat n M d = some x ∧ (x.showable = true ∧ x.canLay0 = true) ∧ x.leavesShort 200 = true ∧ x.weight ≤ w
def ShL (M : Mem) (n w : Nat) (ds : List D) : Prop := ∃ xs, datL (dat n M) ds = some xs ∧ (PyData.showableAll xs = true ∧ PyData.canLayAll0 xs = true) ∧ PyData.leavesShortAll 200 xs = true ∧ PyData.weightAll xs ≤ w
section
variable {M M' : Mem} {n w v : Nat} {d : D} {ds es : List D}
theorem Sh.non : Sh M (n + 1) 0 .non := ⟨.none, rfl, ⟨rfl, rfl⟩, rfl, Nat.le_refl _⟩
theorem Sh.bl {b : Bool} : Sh M (n + 1) 0 (.bl b) := ⟨.bool b, rfl, ⟨rfl, rfl⟩, rfl, Nat.le_refl _⟩
theorem Sh.int {i : Int} (h : i.natAbs < 10 ^ 60) : Sh M (n + 1) 201 (.int i) := by
  have l : i.natAbs.log2 < 200 := by
    by_cases z : i.natAbs = 0
    · rw [z]; decide
    · exact (Nat.log2_lt z).mpr (Nat.lt_trans h (by decide))
  refine ⟨.int i, rfl, ⟨decide_eq_true (by omega), rfl⟩, int_short h, ?_⟩
  show (if i == 0 then 0 else i.natAbs.log2 + 1) ≤ 201
  split <;> omega
theorem Sh.str {x : Str} (h : PyData.strOk x = true) : Sh M (n + 1) x.cps.size (.str x) := by
  refine ⟨.str x, rfl, ⟨rfl, h⟩, ?_, Nat.le_refl _⟩
  show (x.cps.toList.all fun c => decide (c < 16 ^ 8)) = true
  unfold PyData.strOk at h
  rw [← Array.all_toList] at h
  simp only [List.all_eq_true, decide_eq_true_eq] at h ⊢
  exact fun c hc => Nat.lt_trans (h c hc) (by decide)
theorem Sh.le (h : Sh M n w d) (l : w ≤ v) : Sh M n v d := by
  obtain ⟨x, a, b, c, e⟩ := h
  exact ⟨x, a, b, c, Nat.le_trans e l⟩
theorem ShL.le (h : ShL M n w ds) (l : w ≤ v) : ShL M n v ds := by
  obtain ⟨x, a, b, c, e⟩ := h
  exact ⟨x, a, b, c, Nat.le_trans e l⟩
theorem ShL.nil : ShL M n 0 [] := ⟨[], rfl, ⟨rfl, rfl⟩, rfl, Nat.le_refl _⟩
theorem ShL.cons (h : Sh M n w d) (t : ShL M n v ds) : ShL M n (w + 1 + v) (d :: ds) := by
  obtain ⟨x, a, ⟨b, g⟩, c, e⟩ := h
  obtain ⟨xs, a', ⟨b', g'⟩, c', e'⟩ := t
  refine ⟨x :: xs, ?_, ?_, ?_, ?_⟩
  · unfold datL; rw [a, a']
  · exact ⟨by show (x.showable && PyData.showableAll xs) = true; rw [b, b']; rfl, by show (x.canLay0 && PyData.canLayAll0 xs) = true; rw [g, g']; rfl⟩
  · show (x.leavesShort 200 && PyData.leavesShortAll 200 xs) = true; rw [c, c']; rfl
  · show x.weight + 1 + PyData.weightAll xs ≤ _; omega
theorem ShL.append (h : ShL M n w ds) (t : ShL M n v es) : ShL M n (w + v) (ds ++ es) := by
  induction ds generalizing w with
  | nil => exact t.le (by omega)
  | cons d ds ih =>
    obtain ⟨xs, a, ⟨b, g⟩, c, e⟩ := h
    unfold datL at a
    cases q1 : dat n M d with
    | none => rw [q1] at a; cases a
    | some y =>
      cases q2 : datL (dat n M) ds with
      | none => rw [q1, q2] at a; cases a
      | some ys =>
        rw [q1, q2] at a
        cases a
        obtain ⟨b1, b2⟩ := Bool.and_eq_true_iff.mp (show (y.showable && PyData.showableAll ys) = true from b)
        obtain ⟨g1, g2⟩ := Bool.and_eq_true_iff.mp (show (y.canLay0 && PyData.canLayAll0 ys) = true from g)
        obtain ⟨c1, c2⟩ := Bool.and_eq_true_iff.mp (show (y.leavesShort 200 && PyData.leavesShortAll 200 ys) = true from c)
        have e' : y.weight + 1 + PyData.weightAll ys ≤ w := e
        exact (ShL.cons (w := y.weight) ⟨y, q1, ⟨b1, g1⟩, c1, Nat.le_refl _⟩ (ih (w := PyData.weightAll ys) ⟨ys, q2, ⟨b2, g2⟩, c2, Nat.le_refl _⟩)).le (by omega)
theorem Sh.tup (h : ShL M n w ds) : Sh M (n + 1) w (.tup ds) := by
  obtain ⟨xs, a, b, c, e⟩ := h
  refine ⟨.tuple xs, ?_, b, c, e⟩
  show (datL (dat n M) ds).map PyData.tuple = _
  rw [a]; rfl
theorem Sh.ref {m : Nat} (hm : seqAt M m = some ds) (h : ShL M n w ds) : Sh M (n + 1) w (.ref m) := by
  obtain ⟨xs, a, b, c, e⟩ := h
  refine ⟨.list xs, ?_, b, c, e⟩
  show (match seqAt M m with | some xs => (datL (dat n M) xs).map PyData.list | none => none) = _
  rw [hm]
  simp only [a]
  rfl
theorem ShL.all (h : ∀ d ∈ ds, Sh M n w d) : ShL M n ((w + 1) * ds.length) ds := by
  induction ds with
  | nil => exact .nil
  | cons d ds ih =>
    refine (ShL.cons (h d List.mem_cons_self) (ih fun x hx => h x (List.mem_cons_of_mem _ hx))).le ?_
    rw [List.length_cons, Nat.mul_add]
    omega
theorem ShL.of_all (h : ShL M n w ds) : ∀ d ∈ ds, ∃ v, v + 1 ≤ w ∧ Sh M n v d := by
  induction ds generalizing w with
  | nil => exact fun _ hx => nomatch hx
  | cons d ds ih =>
    obtain ⟨xs, a, ⟨b, g⟩, c, e⟩ := h
    unfold datL at a
    cases q1 : dat n M d with
    | none => rw [q1] at a; cases a
    | some y =>
      cases q2 : datL (dat n M) ds with
      | none => rw [q1, q2] at a; cases a
      | some ys =>
        rw [q1, q2] at a
        cases a
        obtain ⟨b1, b2⟩ := Bool.and_eq_true_iff.mp (show (y.showable && PyData.showableAll ys) = true from b)
        obtain ⟨g1, g2⟩ := Bool.and_eq_true_iff.mp (show (y.canLay0 && PyData.canLayAll0 ys) = true from g)
        obtain ⟨c1, c2⟩ := Bool.and_eq_true_iff.mp (show (y.leavesShort 200 && PyData.leavesShortAll 200 ys) = true from c)
        have e' : y.weight + 1 + PyData.weightAll ys ≤ w := e
        intro x hx
        rcases List.mem_cons.mp hx with rfl | hx
        · exact ⟨y.weight, by omega, y, q1, ⟨b1, g1⟩, c1, Nat.le_refl _⟩
        · obtain ⟨v, hv, s⟩ := ih (w := PyData.weightAll ys) ⟨ys, q2, ⟨b2, g2⟩, c2, Nat.le_refl _⟩ x hx
          exact ⟨v, by omega, s⟩
theorem Sh.keep (k : Keep M M') (h : Sh M n w d) : Sh M' n w d := by
  obtain ⟨x, a, r⟩ := h
  exact ⟨x, dat_keep k n d x a, r⟩
theorem ShL.keep (k : Keep M M') (h : ShL M n w ds) : ShL M' n w ds := by
  obtain ⟨x, a, r⟩ := h
  exact ⟨x, datL_imp (dat_keep k n) ds x a, r⟩
theorem Sh.shows (h : Sh M 40 w d) (l : w ≤ 10000) : ∃ t, Shows M d t := by
  obtain ⟨x, a, b, c, e⟩ := h
  exact ⟨_, Shows.of a b.1 c (Nat.le_trans e l)⟩
end
theorem datL_optAll {f g : D → Option PyData} (h : ∀ d x, f d = some x → g d = some x) : ∀ (xs : List D) (ps : List PyData), datL f xs = some ps → optAll g xs = some ps
  | [], _, e => e
  | x :: xs, ps, e => by
    unfold datL at e
    unfold optAll
    cases e1 : f x with
    | none => rw [e1] at e; cases e
    | some y =>
      cases e2 : datL f xs with
      | none => rw [e1, e2] at e; cases e
      | some ys =>
        rw [e1, e2] at e
        rw [h x y e1, datL_optAll h xs ys e2]
        exact e
theorem dat_toP {M : Mem} : ∀ (n : Nat) (d : D) (x : PyData), dat n M d = some x → toP n M d = some x
  | 0, _, _, e => nomatch e
  | n + 1, d, x, e => by
    cases d with
    | tup xs =>
      obtain ⟨ps, e1, rfl⟩ := Option.map_eq_some_iff.mp (show (datL (dat n M) xs).map PyData.tuple = some x from e)
      show (optAll (toP n M) xs).map PyData.tuple = _
      rw [datL_optAll (dat_toP n) xs ps e1]
      rfl
    | ref m =>
      have e' : (match seqAt M m with | some xs => (datL (dat n M) xs).map PyData.list | none => none) = some x := e
      show (match seqAt M m with | some xs => (optAll (toP n M) xs).map PyData.list | none => none) = some x
      cases q : seqAt M m with
      | none => rw [q] at e'; cases e'
      | some xs =>
        rw [q] at e'
        obtain ⟨ps, e1, rfl⟩ := Option.map_eq_some_iff.mp e'
        simp only
        rw [datL_optAll (dat_toP n) xs ps e1]
        rfl
    | _ => exact e
theorem datL_depth {f : D → Option PyData} {n : Nat} (h : ∀ d x, f d = some x → x.depth ≤ n) : ∀ (xs : List D) (ps : List PyData), datL f xs = some ps → PyData.depthAll ps ≤ n
  | [], _, e => by cases e; exact Nat.zero_le _
  | x :: xs, ps, e => by
    unfold datL at e
    cases e1 : f x with
    | none => rw [e1] at e; cases e
    | some y =>
      cases e2 : datL f xs with
      | none => rw [e1, e2] at e; cases e
      | some ys =>
        rw [e1, e2] at e
        cases e
        exact Nat.max_le.mpr ⟨h x y e1, datL_depth h xs ys e2⟩
theorem dat_depth {M : Mem} : ∀ (n : Nat) (d : D) (x : PyData), dat n M d = some x → x.depth ≤ n
  | 0, _, _, e => nomatch e
  | n + 1, d, x, e => by
    cases d with
    | tup xs =>
      obtain ⟨ps, e1, rfl⟩ := Option.map_eq_some_iff.mp (show (datL (dat n M) xs).map PyData.tuple = some x from e)
      exact Nat.succ_le_succ (datL_depth (dat_depth n) xs ps e1)
    | ref m =>
      have e' : (match seqAt M m with | some xs => (datL (dat n M) xs).map PyData.list | none => none) = some x := e
      cases q : seqAt M m with
      | none => rw [q] at e'; cases e'
      | some xs =>
        rw [q] at e'
        obtain ⟨ps, e1, rfl⟩ := Option.map_eq_some_iff.mp e'
        exact Nat.succ_le_succ (datL_depth (dat_depth n) xs ps e1)
    | non => cases e; exact Nat.zero_le _
    | bl b => cases e; exact Nat.zero_le _
    | int i => cases e; exact Nat.zero_le _
    | str y => cases e; exact Nat.zero_le _
    | err y => cases e
/-- what can be shown can be held against other things -/
theorem Sh.shaped {M : Mem} {w : Nat} {d : D} (h : Sh M 40 w d) : (toP 64 M d).isSome = true ∧ ∀ p, toP 64 M d = some p → SeqAt.shaped p = true := by
  obtain ⟨x, a, ⟨_, g⟩, _⟩ := h
  have e := toP_mono (f := 40) (g := 64) (by decide) (dat_toP 40 d x a)
  refine ⟨by rw [e]; rfl, fun p hp => ?_⟩
  rw [e] at hp
  cases hp
  unfold SeqAt.shaped
  rw [g, Bool.true_and]
  exact decide_eq_true (Nat.le_trans (dat_depth 40 d x a) (by decide))
end TL
end
section
set_option maxHeartbeats 4000000
namespace TL
open PySem PySem.Spec PyProof.Rows L2
/-- how many of these are not seen before -/
def fresh {κ : Type} [DecidableEq κ] (S : κ → Bool) : List κ → Nat
  | [] => 0
  | x :: xs => (if S x then 0 else 1) + fresh (fun y => S y || decide (y = x)) xs
theorem fresh_le {κ : Type} [DecidableEq κ] : ∀ (xs : List κ) (S : κ → Bool), fresh S xs ≤ xs.length
  | [], _ => Nat.le_refl _
  | x :: xs, S => by
    have := fresh_le xs (fun y => S y || decide (y = x))
    show (if S x then 0 else 1) + fresh (fun y => S y || decide (y = x)) xs ≤ xs.length + 1
    split <;> omega
theorem fresh_nodup {κ : Type} [DecidableEq κ] : ∀ (xs : List κ) (S : κ → Bool), xs.Nodup → (∀ x ∈ xs, S x = false) → fresh S xs = xs.length
  | [], _, _, _ => rfl
  | x :: xs, S, nd, h => by
    obtain ⟨n1, n2⟩ := List.nodup_cons.mp nd
    show (if S x then 0 else 1) + fresh (fun y => S y || decide (y = x)) xs = xs.length + 1
    rw [h x List.mem_cons_self, fresh_nodup xs _ n2 fun y hy => ?_]
    · simp; omega
    · rw [h y (List.mem_cons_of_mem _ hy)]
      simp
      rintro rfl
      exact n1 hy
section
variable {prog : Program} {w : World} {B : Around} {R : Result → Shared → Prop} {it : Addr} {fp wr : List Addr} {G : Array GenState → Array GenState → Prop} {len : Nat} {P : Nat → Value → Prop} {St : Nat → Shared → Prop}
variable {κ : Type} [DecidableEq κ] {knd : KeyKind prog w κ}
/-- a set is filled off what is walked -/
theorem fill_set (W : WalksS prog w B.in1 it fp wr G len P St) (D : Addr) (off : D ∉ fp) (ks : List κ) (hk : ks.length = len)
    (val : ∀ (i : Nat) (v : Value), P i v → ∃ k : κ, ks[i]? = some k ∧ knd.is k v = true ∧ v.scannable = true) :
    ∀ (rest : List κ) (i : Nat) (t : Shared) (S : κ → Bool) (n : Nat), ks.drop i = rest → i ≤ len → n + rest.length + 1 < scanBound → St i t → t.heap.SetOf knd D S n →
      (∀ t', Moved (D :: wr) G t t' → (∃ S', t'.heap.SetOf knd D S' (n + fresh S rest)) → R (.ok (.ret .none)) t') →
      codeAny (model prog w) B (.builtin "set.update.loop" ⟨[.ref D, .ref it], []⟩) R t := by
  have away : D ∉ wr := fun z => off (W.sub _ z)
  have more : ∀ b ∈ wr, b ∈ D :: wr := fun b z => List.mem_cons_of_mem _ z
  intro rest
  induction rest with
  | nil =>
    intro i t S n hd hi room st so fin
    have here : len = i := by
      have := congrArg List.length hd
      simp at this
      omega
    rw [← here] at st
    refine codeAny_builtin F.entry_set_update_loop ?_
    rw [Around.under_plainId F.plain_set_update_loop _]
    show wpAny _ B.in1 (pyNext (.ref it) >>= _) _ _ t
    refine wpAny_bind (W.done t _ _ st fun t' mv => ?_)
    show wpAny _ B.in1 (ret Value.none) _ _ t'
    refine wpAny_pure (fin t' (mv.mono more) ⟨S, ?_⟩)
    obtain ⟨o, es, ep, tb, ho, rest⟩ := so
    exact ⟨o, es, ep, tb, mv.heap D _ away ho, rest⟩
  | cons k rest ih =>
    intro i t S n hd hi room st so fin
    obtain ⟨at_, tail⟩ := drop_at hd
    have lt : i < len := hk ▸ (List.getElem?_eq_some_iff.mp at_).1
    refine codeAny_builtin F.entry_set_update_loop ?_
    rw [Around.under_plainId F.plain_set_update_loop _]
    show wpAny _ B.in1 (pyNext (.ref it) >>= _) _ _ t
    refine wpAny_bind (W.item i t _ _ lt st fun v t' pv st' mv => ?_)
    obtain ⟨k', at', isk, sc⟩ := val i v pv
    rw [at_] at at'
    cases at'
    have so' : t'.heap.SetOf knd D S n := by
      obtain ⟨o, es, ep, tb, ho, rest⟩ := so
      exact ⟨o, es, ep, tb, mv.heap D _ away ho, rest⟩
    show wpAny _ B.in1 (holding [v] (setAdd D v) >>= _) _ _ t'
    refine wpAny_bind (wpAny_holding ?_)
    unfold setAdd
    refine wpAny_holding ?_
    refine wpAny_bind (knd.pyHash (k := k) isk ?_)
    rw [List.length_cons] at room
    refine wpAny_setAddHashed_of (knd := knd) (s := { t' with toks := t'.toks + 1 }) isk sc so' (by omega) fun h' sb so2 => ?_
    refine wpAny_pure ⟨plainId_quiet F.plain_set_update_loop _, ih (i + 1) _ _ _ tail lt (by split <;> omega) (W.frame _ t' _ _ st' (Nat.le_succ _) fun b hb o e => ?_) so2 fun t2 mv2 so3 => ?_⟩
    · rw [sb.2 b (fun z : b = D => off (z ▸ hb))]
      exact e
    · refine fin t2 (Moved.trans W.gtrans ((mv.mono more).then_heap (Nat.le_succ _) fun b o hb e => ?_) mv2) ?_
      · rw [sb.2 b (fun z : b = D => hb (z ▸ List.mem_cons_self))]
        exact e
      · obtain ⟨S', so3⟩ := so3
        refine ⟨S', ?_⟩
        have e : n + fresh S (k :: rest) = (if S k then n else n + 1) + fresh (fun y => S y || decide (y = k)) rest := by
          show n + ((if S k then 0 else 1) + _) = _
          split <;> omega
        rw [e]
        exact so3
end
section
variable {prog : Program} {w : World} {B : Around} {E : Value → Shared → Prop} {t : Shared}
variable {κ : Type} [DecidableEq κ] {knd : KeyKind prog w κ}
/-- set(xs), xs a list of keys of one kind -/
theorem set_of_list {l : Addr} {its : Array Value} {ks : List κ} {Q : Value → Shared → Prop} (quiet : B.handled = none) (hl : t.heap.IsList l its) (hk : ks.length = its.size)
    (val : ∀ (i : Nat) (v : Value), its[i]? = some v → ∃ k : κ, ks[i]? = some k ∧ knd.is k v = true ∧ v.scannable = true) (room : ks.length + 1 < scanBound)
    (fin : ∀ (h' : Heap) (tk : Nat), (∃ S, h'.SetOf knd t.heap.objs.size S (fresh (fun _ => false) ks)) → (∀ b o, b < t.heap.objs.size → t.heap.get? b = some o → h'.get? b = some o) → Q (.ref t.heap.objs.size) { t with heap := h', toks := tk }) :
    wpAny (model prog w) B (call (.type "set") [.ref l]) Q E t := by
  let D := t.heap.objs.size
  obtain ⟨c0, tl0, mro0⟩ := PySem.F.called_set.mro
  have made0 := PySem.F.called_set.made
  have sub0 := PySem.F.called_set.sub
  refine wpAny_call (codeAny_of_tree ?_)
  show wpAny _ _ (callAny (.type "set") _) _ _ _
  refine wpAny_pure ⟨Code.quiet_builtin _ (by decide +kernel), codeAny_builtin PySem.F.entry_type_call ?_⟩
  rw [Around.under_plain (weight_type_call_type "set" [.ref l] []) rfl]
  have nt0 := PySem.F.called_set.notType
  have cc0 := PySem.F.called_set.canCreate
  have tc0 := PySem.F.typeCall_set_1 (.ref l)
  repeat (any_goals (first | assumption | wp_step))
  let fo (led : Bool) : Obj := { cls := .type "set", dict := none, data := .set #[] 0 (.fresh 0 0 led) }
  refine codeAny_mono (code_set_new_1 (.ref l) (E := E) (Q₁ := fun obj u => ∃ led : Bool, obj = .ref D ∧ u = { t with heap := t.heap.push (fo led) }) fun led => ⟨led, rfl, rfl⟩) fun r u hr => ?_
  cases r with
  | error e => exact hr
  | ok fl =>
    cases fl with
    | ret obj =>
      obtain ⟨led, rfl, rfl⟩ := hr
      have atD : (t.heap.push (fo led)).get? D = some (fo led) := Heap.get?_push_size _ rfl
      have tyD : Shared.TypeIs { t with heap := t.heap.push (fo led) } (.ref D) "set" := ⟨_, atD, rfl⟩
      have li0 := PySem.F.called_set.init.lookup
      have bi0 := PySem.F.called_set.init.bind (.ref D)
      repeat (any_goals (first | assumption | wp_step))
      refine codeAny_mono (codeAny_call_builtin (R := wants (fun r u => r = .none ∧ ∃ h' tk, u = { t with heap := h', toks := tk } ∧ (∃ S, h'.SetOf knd D S (fresh (fun _ => false) ks)) ∧
          (∀ b o, b < D → t.heap.get? b = some o → h'.get? b = some o)) E) PySem.F.called_set.init.plain PySem.F.entry_set_init (check_set_init_1 tyD ?_)) fun r2 u2 hr2 => ?_
      · obtain ⟨⟨lc, ld, la, ls⟩, atl, lcl, m, ldl⟩ := hl
        simp only at lcl ldl
        subst lcl ldl
        have atl' : (t.heap.push (fo led)).get? l = some { cls := .type "list", dict := ld, data := .seq its m, slots := ls } := Heap.get?_push_of_some _ atl
        have s1 := PySem.F.sub_list_set
        have s2 := PySem.F.sub_list_frozenset
        have s3 : (Value.type "list" == Value.type "dict") = false := by decide
        have isl : (t.heap.push (fo led)).IsList l its := ⟨_, atl', rfl, m, rfl⟩
        unfold Builtin.«set.__init__» noKeywords Builtin.Frozenset.updateFrom
        generalize hPI : pyIter = PI
        wp_walk
        subst hPI
        refine wpAny_pyIter_list isl ?_
        refine wpAny_bind (wpAny_runValue ?_)
        have ltl : l < D := Heap.lt_size atl
        have quiet3 : B.in1.in1.in1.handled = none := by simp [quiet]
        have nel : l ≠ (t.heap.push (fo led)).objs.size := by
          rw [Heap.size_push]
          exact Nat.ne_of_lt (Nat.lt_succ_of_lt ltl)
        have offD : D ∉ [(t.heap.push (fo led)).objs.size, l] := by
          rw [Heap.size_push]
          intro z
          rcases List.mem_cons.mp z with z | z
          · exact Nat.ne_of_lt (Nat.lt_succ_self _) z
          · exact Nat.ne_of_gt ltl (List.mem_singleton.mp z)
        refine fill_set ((Walks.list quiet3 _ l nel its).toS) D offD ks hk val ks 0 _ (fun _ => false) 0 rfl (Nat.zero_le _) (by omega) ⟨⟨_, Heap.get?_push_size _ rfl, rfl, rfl⟩, (isl.push _)⟩ ?so ?fin
        case so =>
          have atD2 : ((t.heap.push (fo led)).push { cls := .type "list_iterator", data := .fields #[.ref l, .int 0 0] }).get? D = some (fo led) := Heap.get?_push_of_some _ atD
          exact (setObjOf_fresh (knd := knd) led).setOf atD2 (by unfold scanBound; omega)
        case fin =>
          intro u mv so
          obtain ⟨h', g', d', tk', os'⟩ := u
          cases (mv.gens : g' = t.gens)
          cases (mv.drawn : d' = t.drawn)
          cases (mv.os : os' = t.os)
          show wpAny _ _ _ _ _ _
          refine wpAny_pure ?_
          show wpAny _ _ (ret Value.none) _ _ _
          rw [Nat.zero_add] at so
          refine wpAny_pure ⟨rfl, h', tk', rfl, so, fun b o hb e => ?_⟩
          refine mv.heap b o (fun z => ?_) (Heap.get?_push_of_some _ (Heap.get?_push_of_some _ e))
          rcases List.mem_cons.mp z with z | z
          · exact Nat.ne_of_lt hb z
          · have z := List.mem_singleton.mp z
            rw [Heap.size_push] at z
            exact Nat.ne_of_lt (Nat.lt_succ_of_lt hb) z
      · cases r2 with
        | error e => exact hr2
        | ok fl2 =>
          cases fl2 with
          | ret r =>
            obtain ⟨rfl, h', tk, rfl, so, kp⟩ := hr2
            repeat (any_goals (first | assumption | wp_step))
            exact fin _ _ so kp
          | _ => exact hr2.elim
    | _ => exact hr.elim
end
def mLenSet : Op1 := fun d M => match d with
  | .ref n => match seqAt M n with
    | some xs => match strsOf xs with
      | some ys => if ys.length ≤ 1000 then some (.int (fresh (fun _ => false) ys : Nat), M) else none
      | none => none
    | none => none
  | _ => none
def eLenSet (a : ME) : ME := eUn mLenSet a
@[simp] theorem eLenSet_ap {a : ME} {env : TL.Env} {M : Mem} : eLenSet a env M = (a env M).bind fun d M1 => liftO (mLenSet d M1) := rfl
theorem mLenSet_ok {M : Mem} {n : Nat} {ys : List Str} (h : seqAt M n = some (ys.map D.str)) (hl : ys.length ≤ 1000) : mLenSet (.ref n) M = some (.int (fresh (fun _ => false) ys : Nat), M) := by
  unfold mLenSet
  simp only [h, strsOf_map]
  exact if_pos hl
section
variable {X : Cx} {W : WX} {a : Expr} {ma : ME} {p p2 q pos : Pos}
theorem d_lenSet (hc : X.calm = true) (hm : X.mg "len" = none) (hm2 : X.mg "set" = none) (ha : PE X a (LE X.K W ma)) (hg : Gl X "len" := by rfl) (hg2 : Gl X "set" := by rfl)
    (na : starEach [a] X.env = (false, eval a X.env) :: starEach [] X.env := by rfl) : PE X (.Call (.Name "len" p) [.Call (.Name "set" p2) [a] [] q] [] pos) (LE X.K W (eLenSet ma)) := by
  refine ⟨fun pins s σ H Q I h => ?_⟩
  obtain ⟨ι, env, M, S, R, h⟩ := h
  refine Call_ (ld_blt I hg hm boot_len ?_)
  refine PyProof.Rows.callWith_builtin1 (PyProof.Rows.args_cons ?_ rfl) rfl rfl
  refine Call_ (ld_blt I hg2 hm2 boot_set ?_)
  refine PyProof.Rows.callWith_type1 (PyProof.Rows.args_cons (thn (ha.run pins s σ H _ I ⟨ι, env, M, S, R, (OutP.bind h).imp (R' := VR X.K fun x H1 => ∃ l, ∃ xs : List Str, x = .ref l ∧ SqL X.K H1 l (xs.map V.str) ∧ xs.length ≤ 1000 ∧ Q (.int (fresh (fun _ => false) xs : Nat)) H1) fun d M1 ι1 H1 e1 S1 h1 v rv => ?_⟩) fun v s1 z => PyProof.Rows.args_nil ?_) na) na rfl
  · have h2 := OpO.of h1
    unfold mLenSet at h2
    split at h2
    · rename_i n
      obtain ⟨l, rfl, hl⟩ := rv.ref_inv
      split at h2
      · rename_i xs m
        obtain ⟨vs, g1, g2⟩ := S1.seq hl m
        split at h2
        · rename_i ys m2
          cases strs_v g2 m2
          split at h2
          · exact ⟨l, ys, rfl, g1, by assumption, OpO.val S1 h2 (.int _)⟩
          · exact h2.elim
        · exact h2.elim
      · exact h2.elim
    · exact h2.elim
  · obtain ⟨x, H1, I1, r1, l, xs, rfl, hq, hz, q1⟩ := z
    cases r1
    obtain ⟨its, r, pl, _⟩ := I1.list hq
    have sz : its.toArray.size = xs.length := by rw [List.size_toArray, ← r.length, List.length_map]
    refine set_of_list (knd := strKind X.prog X.w) (ks := xs) (I1.ok.hd hc) pl.isList sz.symm (fun i v hv => ?_) (by unfold scanBound; omega) fun h' tk so kp => PyProof.Rows.args_nil ?_
    · have hv' : its[i]? = some v := by simpa using hv
      cases e3 : xs[i]? with
      | none =>
        have := r.length
        have h1 := (List.getElem?_eq_some_iff.mp hv').1
        have h2 := List.getElem?_eq_none_iff.mp e3
        simp at this
        omega
      | some y =>
        obtain ⟨u, g1, g2⟩ := r.get (i := i) (x := V.str y) (by rw [List.getElem?_map, e3]; rfl)
        rw [hv'] at g1
        cases g1
        obtain ⟨t, rfl⟩ := g2
        exact ⟨y, rfl, strKind_is _ _ _ _, rfl⟩
    · have I2 : L2.Inv X pins σ H1 { s1 with heap := h', toks := tk } := I1.kept fun b o e => kp b o (Heap.lt_size e) e
      obtain ⟨_, o, es, ep, t, ho, hex, hd, _, _, _, hf, hn⟩ := so
      have le := fresh_le xs (fun _ => false)
      exact call_len_set ho hex hd hf (by rw [hn] <;> omega) ⟨.int (fresh (fun _ => false) xs : Nat), H1, I2.tok _, ⟨_, by rw [hn]⟩, q1⟩
end
end TL
end
section
set_option maxHeartbeats 4000000
namespace TL
open PySem PySem.Spec PyProof.Rows L2
theorem Sh.shapedN {M : Mem} {n w : Nat} {d : D} (h : Sh M n w d) (hn : n ≤ 40) : ∃ p, dat n M d = some p ∧ toP 64 M d = some p ∧ SeqAt.shaped p = true := by
  obtain ⟨x, a, ⟨_, g⟩, c⟩ := h
  have e := toP_mono (f := n) (g := 64) (by omega) (dat_toP n d x a)
  refine ⟨x, a, e, ?_⟩
  unfold SeqAt.shaped
  rw [g, Bool.true_and]
  exact decide_eq_true (Nat.le_trans (dat_depth n d x a) (by omega))
/-- the text, and nothing else -/
def isText (x : Str) : D → Bool
  | .str y => decide (y = x)
  | _ => false
theorem eqv_text {M : Mem} {n : Nat} {d : D} {p : PyData} {x : Str} (h : dat (n + 1) M d = some p) : PyData.eqv p (.str x) = isText x d := by
  cases d with
  | non => cases h; simp [PyData.eqv, isText]
  | bl b => cases h; simp [PyData.eqv, isText]
  | int i => cases h; simp [PyData.eqv, isText]
  | str y => cases h; simp only [PyData.eqv, isText]; rfl
  | tup xs =>
    obtain ⟨ps, e1, rfl⟩ := Option.map_eq_some_iff.mp (show (datL (dat n M) xs).map PyData.tuple = some p from h)
    simp [PyData.eqv, isText]
  | ref m =>
    have e' : (match seqAt M m with | some xs => (datL (dat n M) xs).map PyData.list | none => none) = some p := h
    cases q : seqAt M m with
    | none => rw [q] at e'; cases e'
    | some xs =>
      rw [q] at e'
      obtain ⟨ps, e1, rfl⟩ := Option.map_eq_some_iff.mp e'
      simp [PyData.eqv, isText]
  | err y => cases h
theorem eqD_text_sh {M : Mem} {n w : Nat} {d : D} {x : Str} (h : Sh M (n + 1) w d) (hn : n + 1 ≤ 40) (hx : PyData.strOk x = true) : eqD M d (.str x) = some (isText x d) := by
  obtain ⟨p, a, e, s⟩ := h.shapedN hn
  have e2 : toP 64 M (.str x) = some (.str x) := rfl
  have s2 : SeqAt.shaped (.str x) = true := by
    unfold SeqAt.shaped
    simp [PyData.canLay0, PyData.depth, hx]
  unfold eqD
  rw [e, e2]
  simp only [s, s2, and_self, if_true]
  rw [eqv_text a]
theorem mEq_text_sh {M : Mem} {n w : Nat} {d : D} {x : Str} (h : Sh M (n + 1) w d) (hn : n + 1 ≤ 40) (hx : PyData.strOk x = true) : mEq d (.str x) M = some (.bl (isText x d), M) := by
  unfold mEq
  rw [eqD_text_sh h hn hx]; rfl
theorem mNe_text_sh {M : Mem} {n w : Nat} {d : D} {x : Str} (h : Sh M (n + 1) w d) (hn : n + 1 ≤ 40) (hx : PyData.strOk x = true) : mNe d (.str x) M = some (.bl (!isText x d), M) := by
  unfold mNe
  rw [eqD_text_sh h hn hx]; rfl
end TL
end
section
set_option maxHeartbeats 4000000
namespace TL
open PySem PySem.Spec PyProof.Rows L2
def putD (f : Str) (d : D) : List (Str × D) → List (Str × D)
  | [] => [(f, d)]
  | (g, x) :: r => if g = f then (g, d) :: r else (g, x) :: putD f d r
section
variable {K : PySem.W.Frag} {ι : List Addr} {H : Hp}
theorem RpF.put {f : Str} {d : D} {v : V} (r : Rp K ι H d v) : ∀ {fs : List (Str × D)} {vs : List (Str × V)}, RpF K ι H fs vs → RpF K ι H (putD f d fs) (putF f v vs)
  | _, _, .nil => .cons r .nil
  | _, _, .cons (x := x) h t => by
    unfold putD putF
    by_cases e : x = f
    · rw [if_pos e, if_pos e]; exact .cons r t
    · rw [if_neg e, if_neg e]; exact .cons h (RpF.put r t)
theorem RpF.look {f : Str} : ∀ {fs : List (Str × D)} {vs : List (Str × V)}, RpF K ι H fs vs → ∀ d, fs.lookup f = some d → ∃ v, vs.lookup f = some v ∧ Rp K ι H d v
  | _, _, .nil, d, e => nomatch e
  | _, _, .cons (x := x) (v := v) h t, d, e => by
    by_cases q : f = x
    · subst q
      simp only [List.lookup, beq_self_eq_true] at e
      cases e
      exact ⟨v, by simp [List.lookup], h⟩
    · have q' : (f == x) = false := by simpa using q
      simp only [List.lookup, q'] at e
      obtain ⟨u, e1, e2⟩ := RpF.look t d e
      exact ⟨u, by simp only [List.lookup, q']; exact e1, e2⟩
theorem RpF.lookN {f : Str} : ∀ {fs : List (Str × D)} {vs : List (Str × V)}, RpF K ι H fs vs → fs.lookup f = none → vs.lookup f = none
  | _, _, .nil, e => rfl
  | _, _, .cons (x := x) h t, e => by
    by_cases q : f = x
    · subst q
      simp [List.lookup] at e
    · have q' : (f == x) = false := by simpa using q
      simp only [List.lookup, q'] at e ⊢
      exact RpF.lookN t e
theorem RpF.length : ∀ {fs : List (Str × D)} {vs : List (Str × V)}, RpF K ι H fs vs → fs.length = vs.length
  | _, _, .nil => rfl
  | _, _, .cons _ t => congrArg (· + 1) t.length
end
/-- the object there, of that class -/
def insAt (M : Mem) (c : Str) (n : Nat) : Option (List (Str × D)) := match M[n]? with
  | some (.ins c' fs) => if c' = c then some fs else none
  | _ => none
theorem insAt_some {M : Mem} {c : Str} {n : Nat} {fs : List (Str × D)} (h : insAt M c n = some fs) : M[n]? = some (.ins c fs) := by
  unfold insAt at h
  split at h
  · rename_i c' fs' e
    split at h
    · rename_i z
      subst z
      cases h
      exact e
    · cases h
  · cases h
theorem insAt_of {M : Mem} {c : Str} {n : Nat} {fs : List (Str × D)} (h : M[n]? = some (.ins c fs)) : insAt M c n = some fs := by
  unfold insAt
  rw [h]
  exact if_pos rfl
/-- a field of objects of that class -/
structure FldF (K : PySem.W.Frag) (c f : Str) : Prop where
  cls : Cls K (He.ga K c)
  no : NoAttr K (He.ga K c) f
/-- x.f -/
def mFld (c f : Str) : Op1 := fun d M => match d with
  | .ref n => match insAt M c n with
    | some fs => (fs.lookup f).map fun v => (v, M)
    | none => none
  | _ => none
def eFld (c f : Str) (e : ME) : ME := eUn (mFld c f) e
/-- x.f = v -/
def putO (c f : Str) (x v : D) (M : Mem) : Option Mem := match x with
  | .ref n => match insAt M c n with
    | some fs => if fs.length < 1000 then some (M.set n (.ins c (putD f v fs))) else none
    | none => none
  | _ => none
def sFldD (c f : Str) (o e : ME) : MS := fun env M => thenS env (e env M) fun v M1 => thenS env (o env M1) fun x M2 => match putO c f x v M2 with
  | some M3 => .next env M3
  | none => .stuck
section
variable {X : Cx} {W : WX} {k : Nat} {c f : Str} {e o : Expr} {me mo : ME} {pos pos' : Pos}
theorem d_fld (F : FldF X.K c f) (he : PE X e (LE X.K W me)) (hb : attributeBase e f X.env (eval e X.env) = eval e X.env := by rfl) : PE X (.Attribute e f pos) (LE X.K W (eFld c f me)) :=
  (pe_fld he hb).imp fun σ H Q ⟨ι, env, M, S, R, h⟩ => ⟨ι, env, M, S, R, (OutP.bind h).imp fun d M1 ι1 H1 e1 S1 h1 v rv => by
    revert h1
    unfold mFld
    cases d with
    | ref n =>
      obtain ⟨a, rfl, ha⟩ := rv.ref_inv
      cases q : insAt M1 c n with
      | none => intro h1; simp only [q] at h1; exact h1.elim
      | some fs =>
        obtain ⟨dx, vs, h2, h3⟩ := S1.ok n a _ ha (insAt_some q)
        cases q2 : fs.lookup f with
        | none => intro h1; simp only [q, q2] at h1; exact h1.elim
        | some d =>
          intro h1
          simp only [q, q2] at h1
          obtain ⟨v, e4, r4⟩ := h3.look d q2
          exact ⟨a, _, dx, vs, v, rfl, h2, F.cls, F.no, e4, OutP.val S1 h1 _ r4⟩
    | _ => exact fun h1 => h1.elim⟩
theorem ds_fld (F : FldF X.K c f) (ho : PE X o (LE X.K W mo)) (he : PE X e (LE X.K W me)) (hs : swapsWith e (some (.Attribute o f pos')) pos.line X.env = pure false := by rfl) :
    PS X (.Assign [.Attribute o f pos'] e pos) (LS X.K W (sFldD c f mo me)) :=
  (ps_fld ho he hs).imp fun En σ H ⟨ι, env, M, S, R, h⟩ => ⟨ι, env, M, S, R, (thenS_out R h).imp fun v M1 ι1 H1 e1 S1 h1 u ru =>
    ⟨ι1, env, M1, S1, R.ext e1, (thenS_out (R.ext e1) h1).imp fun x M2 ι2 H2 e2 S2 h2 y ry => by
      revert h2
      unfold putO
      cases x with
      | ref n =>
        obtain ⟨a, rfl, ha⟩ := ry.ref_inv
        cases q : insAt M2 c n with
        | none => intro h2; simp only [q] at h2; exact h2.elim
        | some fs =>
          obtain ⟨dx, vs, h3, h4⟩ := S2.ok n a _ ha (insAt_some q)
          by_cases q2 : fs.length < 1000
          · intro h2
            simp only [q, if_pos q2] at h2
            refine ⟨a, _, dx, vs, rfl, h3, F.cls, F.no, by rw [← h4.length]; exact q2, ?_⟩
            have k0 := S2.ok n a _ ha (insAt_some q)
            have nt := k0.notTup (u := .ins c fs) rfl
            have ex : Ext X.K ι2 H2 ι2 (L2.upd H2 a (.ins (He.ga X.K c) dx (putF f u vs))) := Ext.upd nt
            have r4 := (RpF.put (f := f) ((ru.ext e2).ext ex) (h4.ext ex))
            exact h2 ι2 σ _ ex (S2.write ha (insAt_some q) rfl rfl ⟨dx, _, upd_same, r4⟩) (((R.ext e1).ext e2).ext ex)
          · intro h2
            simp only [q, if_neg q2] at h2
            exact h2.elim
      | _ => exact fun h2 => h2.elim⟩⟩
end
/-- a method of that class; dd: what stands for arguments left out -/
structure CalleeM (P : Program) (w : World) (K : PySem.W.Frag) (mg : Str → Option Value) (base : Heap) (c m : Str) (n k : Nat) (dd : List D) (fn : Fn) : Prop where
  ex : ∃ (fd : FuncData) (ps : List Str) (dvs : List V) (ds : List Value), FnOk P w K mg base (L2N.CX P w) k (He.ma K (He.ga K c) m) fd ps (spD K n fn) ∧ Binds K fd ps ds ∧ Vals dvs ds ∧ (∀ ι H, RpA K ι H dd dvs)
  len : ∀ ds M, ds.length ≠ n → fn ds M = .stuck
  cls : Cls K (He.ga K c)
  meth : Meth K (He.ga K c) m (He.ma K (He.ga K c) m)
theorem CalleeM.mono {P : Program} {w : World} {K : PySem.W.Frag} {mg : Str → Option Value} {base : Heap} {c m : Str} {n j k : Nat} {dd : List D} {fn : Fn} (C : CalleeM P w K mg base c m n j dd fn) (h : j ≤ k) : CalleeM P w K mg base c m n k dd fn := by
  obtain ⟨fd, ps, dvs, ds, F, a, b, d⟩ := C.ex
  exact ⟨⟨fd, ps, dvs, ds, F.mono h, a, b, d⟩, C.len, C.cls, C.meth⟩
/-- x.m(..) -/
def eMeM (c m : Str) (dd : List D) (fn : Fn) (o : ME) (mas : MA) : ME := fun env M => (o env M).bind fun x M1 => match x with
  | .ref n => match insAt M1 c n with
    | some fs => if (fs.lookup m).isNone = true then (mas env M1).bind fun ds M2 => fn (.ref n :: (ds ++ dd)) M2 else .stuck
    | none => .stuck
  | _ => .stuck
/-- C(..): a new object, then its __init__ -/
def eMake (c : Str) (dd : List D) (fn : Fn) (mas : MA) : ME := fun env M => (mas env M).bind fun ds M1 => (fn (.ref M1.length :: (ds ++ dd)) (M1 ++ [.ins c []])).bind fun d M2 => match d with
  | .non => .ok (.ref M1.length) M2
  | _ => .stuck
section
variable {X : Cx} {k : Nat} {g C : Addr} {fd : FuncData} {ps : List Str} {sp : Sp} {dvs : List V} {ds : List Value} {E : L2.St → XK} {x m : Str} {p pos apos : Pos} {e o : Expr} {es : List Expr} {ta : TE} {t : TA} {CX : CXT}
def tMethX (C : Addr) (m : Str) (sp : Sp) (dvs : List V) (E : L2.St → XK) (ta : TE) (t : TA) : TE := fun σ H Q => ta σ H fun x H1 => ∃ a dx fs, x = .ref a ∧ H1 a = some (.ins C dx fs) ∧ fs.lookup m = none ∧
  t σ H1 fun vs H2 => sp (x :: (vs ++ dvs)) H2 Q (E σ)
theorem pe_methX {pl : Sem Bool} (he : PE X o ta) (c : Cls X.K C) (hm : Meth X.K C m g) (F : FnOk X.prog X.w X.K X.mg X.base CX k g fd ps sp) (room : Room k X.A) (hb : Binds X.K fd ps ds) (hd : Vals dvs ds) (hx : ∀ σ, PassesAt CX X σ (E σ)) (ha : PA X (e :: es) t)
    (hst : starEach (e :: es) X.env = (false, eval e X.env) :: starEach es X.env) (hpl : (backTo pos (starEach es X.env)).any (·.1) = false)
    (ht : eval (.Call (.Attribute o m apos) (e :: es) [] pos) X.env = (eval o X.env >>= fun ov => standAt apos.atName >>= fun _ => holding [ov] (getMethod ov m pl) >>= fun y => callWith pos y.1 y.2 (backTo pos (starEach (e :: es) X.env)) (backToKw pos (keywordEach [] X.env)))) :
    PE X (.Call (.Attribute o m apos) (e :: es) [] pos) (tMethX C m sp dvs E ta t) := by
  refine ⟨fun pins s σ H Q I h => PySem.W.methodCall_KW (pl := pl) (thn (he.run pins s σ H _ I h) ?_) ht⟩
  rintro u s1 ⟨x, H1, I1, rx, a, dx, fs, rfl, ea, l, q⟩
  obtain rfl : u = Value.ref a := rx
  refine getmeth_ok I1 ea c hm l (PySem.W.callWith_K (first := [.ref a]) (h₀ := X.base) I.ok.mod.kin hm.kp (thn (ha.run pos pins s1 σ H1 _ I1 q) ?_) hst hpl)
  rintro us s2 ⟨vs, H2, I2, r, q2⟩
  exact ⟨I2.kIn, run_fnSD (us := .ref a :: us) (vs := .ref a :: vs) F room hb hd (hx σ) I2 (.cons rfl r) q2⟩
theorem pe_methX0 {pl : Sem Bool} (he : PE X o ta) (c : Cls X.K C) (hm : Meth X.K C m g) (F : FnOk X.prog X.w X.K X.mg X.base CX k g fd ps sp) (room : Room k X.A) (hb : Binds X.K fd ps ds) (hd : Vals dvs ds) (hx : ∀ σ, PassesAt CX X σ (E σ))
    (ht : eval (.Call (.Attribute o m apos) [] [] pos) X.env = (eval o X.env >>= fun ov => standAt apos.atName >>= fun _ => holding [ov] (getMethod ov m pl) >>= fun y => callWith pos y.1 y.2 (backTo pos (starEach [] X.env)) (backToKw pos (keywordEach [] X.env)))) :
    PE X (.Call (.Attribute o m apos) [] [] pos) (tMethX C m sp dvs E ta tNil) := by
  refine ⟨fun pins s σ H Q I h => PySem.W.methodCall_KW (pl := pl) (thn (he.run pins s σ H _ I h) ?_) ht⟩
  rintro u s1 ⟨x, H1, I1, rx, a, dx, fs, rfl, ea, l, q⟩
  obtain rfl : u = Value.ref a := rx
  refine getmeth_ok I1 ea c hm l (PySem.W.callWith_K0 (first := [.ref a]) I1.kIn hm.kp ?_)
  exact run_fnSD (us := [.ref a]) (vs := [.ref a]) F room hb hd (hx σ) I1 (.cons rfl .nil) q
def tMakeX (C : Addr) (sp : Sp) (dvs : List V) (E : L2.St → XK) (t : TA) : TE := fun σ H Q => t σ H fun vs H1 => ∀ x dx, H1 x = none → H1 dx = none → dx ≠ x →
  sp (.ref x :: (vs ++ dvs)) (L2.upd (L2.upd H1 dx (.own x)) x (.ins C dx [])) (fun v H2 => v = .non ∧ Q (.ref x) H2) (E σ)
theorem run_makeX {pins : List (Addr × Obj)} {σ : L2.St} {H : Hp} {s : Shared} {Q : VK} {us : List Value} {vs : List V} (Mm : Mk X.K C g) (F : FnOk X.prog X.w X.K X.mg X.base CX k g fd ps sp) (room : Room (k + 1) X.A) (hb : Binds X.K fd ps ds) (hd : Vals dvs ds)
    (hx : PassesAt CX X σ (E σ)) (I : Inv X pins σ H s) (r : Vals vs us)
    (want : ∀ x dx, H x = none → H dx = none → dx ≠ x → sp (.ref x :: (vs ++ dvs)) (L2.upd (L2.upd H dx (.own x)) x (.ins C dx [])) (fun v H2 => v = .non ∧ Q (.ref x) H2) (E σ)) :
    wpAny (model X.prog X.w) X.A (call (.ref C) us) (EP X pins σ Q) X.xe s := by
  have fresh1 : H (s.heap.objs.size + 1) = none := I.hok.fresh (Nat.le_succ _)
  have fresh0 : H s.heap.objs.size = none := I.hok.fresh (Nat.le_refl _)
  have w1 := want _ _ fresh1 fresh0 (Nat.ne_of_lt (Nat.lt_succ_self _))
  have J := Inv.made (C := C) I
  have rr : Vals (V.ref (s.heap.objs.size + 1) :: (vs ++ dvs)) (Value.ref (s.heap.objs.size + 1) :: (us ++ ds)) := .cons rfl (r.append hd)
  have many : (Value.ref (s.heap.objs.size + 1) :: us ++ ds).length = ps.length := (rr.length.symm.trans (F.len _ _ _ _ w1))
  have runs := F.run _ X.stack _ _ ⟨Value.ref (s.heap.objs.size + 1) :: us, []⟩ _ _ _ (E σ) (room.make C us []) (J.env0.make C us []) (hb _ (Value.ref (s.heap.objs.size + 1) :: us) J.kIn many) rr w1
  refine wpAny_call (make_map (f := g) I.kIn Mm.makes Mm.init (beq_iff_eq.mp Mm.fn) (codeAny_mono runs ?_))
  rintro (er | fl) s2 q2
  · exact hx pins _ _ er s2 J q2
  · cases fl with
    | ret u =>
      obtain ⟨v, H2, I2, rv, rfl, q3⟩ := J.after q2
      exact ⟨rv, ⟨V.ref (s.heap.objs.size + 1), H2, I2, rfl, q3⟩⟩
    | next => exact q2.elim
    | brk => exact q2.elim
    | cont => exact q2.elim
theorem pe_makeX (Mm : Mk X.K C g) (F : FnOk X.prog X.w X.K X.mg X.base CX k g fd ps sp) (room : Room (k + 1) X.A) (hg : Gl X x) (hm : X.mg x = some (.ref C)) (hb : Binds X.K fd ps ds) (hd : Vals dvs ds) (hx : ∀ σ, PassesAt CX X σ (E σ))
    (ha : PA X (e :: es) t) (hdb : (x == ("__debug__" : Str)) = false) (hst : starEach (e :: es) X.env = (false, eval e X.env) :: starEach es X.env) (hpl : (backTo pos (starEach es X.env)).any (·.1) = false) :
    PE X (.Call (.Name x p) (e :: es) [] pos) (tMakeX C sp dvs E t) := by
  refine ⟨fun pins s σ H Q I h => wpAny_Call_Name_kw (ld_glob I hg hm ?_ hdb)⟩
  refine PySem.W.callWith_K (h₀ := X.base) I.ok.mod.kin Mm.kp (thn (ha.run pos pins s σ H _ I h) ?_) hst hpl
  rintro us s1 ⟨vs, H1, I1, r, q⟩
  exact ⟨I1.kIn, run_makeX Mm F room hb hd (hx σ) I1 r q⟩
end
section
variable {X : Cx} {W : WX} {e o : Expr} {es : List Expr} {mo : ME} {mas : MA} {c m x : Str} {p pos apos : Pos} {dd : List D} {fn : Fn}
theorem meth_le {n : Nat} {dvs : List V} {t : TA} {σ : L2.St} {H : Hp} {Q : VK} (len : ∀ ds M, ds.length ≠ n → fn ds M = .stuck) (hr : ∀ ι H, RpA X.K ι H dd dvs) (ht : ∀ σ H Q, LA X.K W mas σ H Q → t σ H Q)
    (h : LE X.K W (eMeM c m dd fn mo mas) σ H Q) : tMethX (He.ga X.K c) m (spD X.K n fn) dvs (fun σ cls d H => W cls d σ H) (LE X.K W mo) t σ H Q := by
  obtain ⟨ι, env, M, S, R, h⟩ := h
  refine ⟨ι, env, M, S, R, (OutP.bind h).imp fun x M1 ι1 H1 e1 S1 h1 v rv => ?_⟩
  revert h1
  cases x with
  | ref j =>
    obtain ⟨a, rfl, ha⟩ := rv.ref_inv
    cases q : insAt M1 c j with
    | none => intro h1; simp only [q] at h1; exact h1.elim
    | some fs =>
      obtain ⟨dx, vs, h2, h3⟩ := S1.ok j a _ ha (insAt_some q)
      cases q2 : fs.lookup m with
      | some z => intro h1; simp only [q, q2] at h1; exact h1.elim
      | none =>
        intro h1
        simp only [q, q2] at h1
        have h1' : OutP X.K (W1 W σ) ι1 H1 ((mas env M1).bind fun ds M2 => fn (.ref j :: (ds ++ dd)) M2) (VR X.K Q) := h1
        refine ⟨a, dx, vs, rfl, h2, h3.lookN q2, ht _ _ _ ⟨ι1, env, M1, S1, R.ext e1, (OutP.bind h1').imp fun ds M2 ι2 H2 e2 S2 h4 us ru => ?_⟩⟩
        have ra : RpA X.K ι2 H2 (.ref j :: (ds ++ dd)) (.ref a :: (us ++ dvs)) := .cons (.ref (e2.pre _ _ ha)) (ru.append (hr ι2 H2))
        refine ⟨?_, ι2, _, M2, S2, ra, h4⟩
        rw [← ra.length]
        by_cases z : (D.ref j :: (ds ++ dd)).length = n
        · exact z
        · rw [len _ _ z] at h4
          exact h4.elim
  | _ => exact fun h1 => h1.elim
theorem d_meM {k k' n : Nat} (C : Ctx X W k') (F : CalleeM X.prog X.w X.K X.mg X.base c m n k dd fn) (hk : k ≤ k') (ho : PE X o (LE X.K W mo)) (ha : PA X (e :: es) (LA X.K W mas)) {pl : Sem Bool}
    (hst : starEach (e :: es) X.env = (false, eval e X.env) :: starEach es X.env := by rfl) (hpl : (backTo pos (starEach es X.env)).any (·.1) = false := by rfl)
    (ht : eval (.Call (.Attribute o m apos) (e :: es) [] pos) X.env = (eval o X.env >>= fun ov => standAt apos.atName >>= fun _ => holding [ov] (getMethod ov m pl) >>= fun y => callWith pos y.1 y.2 (backTo pos (starEach (e :: es) X.env)) (backToKw pos (keywordEach [] X.env))) := by rfl) :
    PE X (.Call (.Attribute o m apos) (e :: es) [] pos) (LE X.K W (eMeM c m dd fn mo mas)) := by
  obtain ⟨fd, ps, dvs, ds, F1, hb, hd, hr⟩ := F.ex
  exact (pe_methX (pl := pl) ho F.cls F.meth F1 (C.room.mono hk) hb hd (fun σ => L2N.passAt C.tk σ) ha hst hpl ht).imp fun σ H Q h => meth_le F.len hr (fun _ _ _ z => z) h
theorem d_meM0 {k k' n : Nat} (C : Ctx X W k') (F : CalleeM X.prog X.w X.K X.mg X.base c m n k dd fn) (hk : k ≤ k') (ho : PE X o (LE X.K W mo)) {pl : Sem Bool}
    (ht : eval (.Call (.Attribute o m apos) [] [] pos) X.env = (eval o X.env >>= fun ov => standAt apos.atName >>= fun _ => holding [ov] (getMethod ov m pl) >>= fun y => callWith pos y.1 y.2 (backTo pos (starEach [] X.env)) (backToKw pos (keywordEach [] X.env))) := by rfl) :
    PE X (.Call (.Attribute o m apos) [] [] pos) (LE X.K W (eMeM c m dd fn mo aNil)) := by
  obtain ⟨fd, ps, dvs, ds, F1, hb, hd, hr⟩ := F.ex
  exact (pe_methX0 (pl := pl) ho F.cls F.meth F1 (C.room.mono hk) hb hd (fun σ => L2N.passAt C.tk σ) ht).imp fun σ H Q h => meth_le (mas := aNil) F.len hr (fun σ H Q ⟨ι, env, M, S, R, h⟩ => h ι H Ext.refl S [] .nil) h
end
/-- a class that is made, by its __init__ -/
structure CalleeI (P : Program) (w : World) (K : PySem.W.Frag) (mg : Str → Option Value) (base : Heap) (c : Str) (n k : Nat) (dd : List D) (fn : Fn) : Prop where
  i : CalleeM P w K mg base c "__init__" n k dd fn
  mkr : Mk K (He.ga K c) (He.ma K (He.ga K c) "__init__")
  mg : mg c = some (.ref (He.ga K c))
section
variable {X : Cx} {W : WX} {e o : Expr} {es : List Expr} {mas : MA} {c : Str} {p pos : Pos} {dd : List D} {fn : Fn}
theorem make_le {n : Nat} {dvs : List V} {t : TA} {σ : L2.St} {H : Hp} {Q : VK} (len : ∀ ds M, ds.length ≠ n → fn ds M = .stuck) (hr : ∀ ι H, RpA X.K ι H dd dvs) (ht : ∀ σ H Q, LA X.K W mas σ H Q → t σ H Q)
    (h : LE X.K W (eMake c dd fn mas) σ H Q) : tMakeX (He.ga X.K c) (spD X.K n fn) dvs (fun σ cls d H => W cls d σ H) t σ H Q := by
  obtain ⟨ι, env, M, S, R, h⟩ := h
  refine ht _ _ _ ⟨ι, env, M, S, R, (OutP.bind h).imp fun ds M1 ι1 H1 e1 S1 h1 us ru => ?_⟩
  intro x dx nx nd ne
  have nx' : L2.upd H1 dx (.own x) x = none := by rw [upd_ne (Ne.symm ne)]; exact nx
  have g1 : Ext X.K ι1 H1 ι1 (L2.upd H1 dx (.own x)) := Ext.new nd
  have g2 : Ext X.K ι1 (L2.upd H1 dx (.own x)) (ι1 ++ [x]) (L2.upd (L2.upd H1 dx (.own x)) x (.ins (He.ga X.K c) dx [])) := Ext.more nx'
  have S2 : SR X.K (ι1 ++ [x]) (L2.upd (L2.upd H1 dx (.own x)) x (.ins (He.ga X.K c) dx [])) (M1 ++ [.ins c []]) := (S1.new nd).alloc nx' ⟨dx, [], upd_same, .nil⟩
  have at0 : (ι1 ++ [x])[M1.length]? = some x := by rw [← S1.len]; simp
  have h2 := OutP.ext (g1.trans g2) h1
  have ra : RpA X.K (ι1 ++ [x]) (L2.upd (L2.upd H1 dx (.own x)) x (.ins (He.ga X.K c) dx [])) (.ref M1.length :: (ds ++ dd)) (.ref x :: (us ++ dvs)) :=
    .cons (.ref at0) ((ru.ext (g1.trans g2)).append (hr _ _))
  refine ⟨?_, _, _, _, S2, ra, (OutP.bind h2).imp fun d M2 ι2 H2 e2 S3 h3 v rv => ?_⟩
  · rw [← ra.length]
    by_cases z : (D.ref M1.length :: (ds ++ dd)).length = n
    · exact z
    · rw [len _ _ z] at h2
      exact h2.elim
  · revert h3
    cases d with
    | non =>
      intro h3
      exact ⟨rv.non_inv, OutP.val S3 h3 _ (.ref (e2.pre _ _ at0))⟩
    | _ => exact fun h3 => h3.elim
theorem d_make {k k' n : Nat} (C : Ctx X W k') (F : CalleeI X.prog X.w X.K X.mg X.base c n k dd fn) (hk : k + 1 ≤ k') (ha : PA X (e :: es) (LA X.K W mas)) (hg : Gl X c := by rfl)
    (hdb : (c == ("__debug__" : Str)) = false := by decide) (hst : starEach (e :: es) X.env = (false, eval e X.env) :: starEach es X.env := by rfl) (hpl : (backTo pos (starEach es X.env)).any (·.1) = false := by rfl) :
    PE X (.Call (.Name c p) (e :: es) [] pos) (LE X.K W (eMake c dd fn mas)) := by
  obtain ⟨fd, ps, dvs, ds, F1, hb, hd, hr⟩ := F.i.ex
  exact (pe_makeX F.mkr F1 (C.room.mono hk) hg F.mg hb hd (fun σ => L2N.passAt C.tk σ) ha hdb hst hpl).imp fun σ H Q h => make_le F.i.len hr (fun _ _ _ z => z) h
end
section
variable {P : Program} {w : World} {K : PySem.W.Frag} {mg : Str → Option Value} {base : Heap}
theorem okFd {x qual : Str} {params : Arguments} {body : List Stmt} {scope : Scope} {dvs : List V} {f : Addr} {fd : FuncData} {N ps : List Str} {k : Nat} {mb : MS} (F : FunD K x qual params body scope dvs [] f fd) (S : FnScope N ps scope)
    (hbody : ∀ (cdv : Value) (A : Around) (outer : List PySem.Env) (s : Shared) (H : Hp) (E : XK), let X := cxOf (L2N.CX P w) P w K mg base N qual scope f cdv A outer s H E
      Ctx X (fun cls d _ H => E cls d H) k → PSs X body (LS K (fun cls d _ H => E cls d H) mb)) :
    FnOk P w K mg base (L2N.CX P w) (k + 1) f fd ps (spD K ps.length (fnD ps.length N.length mb)) := by
  refine F.ok S (fun vs H Q E h => h.1) ?_
  rintro cdv A outer s H vs Q E room ⟨many, ι, ds, M, SS, rs, h⟩
  have C : Ctx (cxOf (L2N.CX P w) P w K mg base N qual scope f cdv A outer s H E) (fun cls d _ H => E cls d H) k := ⟨rfl, S.nd, room, L2N.takes_of rfl rfl rfl rfl, passes_of rfl⟩
  have h' : OutP K E ι H (endS (mb (startE N.length ds) M)) (VR K Q) := by
    unfold fnD at h
    rwa [if_pos (by rw [rs.length]; exact many)] at h
  have R0 : EnvR K ι H (startE N.length ds) (L2.start N vs) := by
    unfold startE L2.start
    rw [rs.length]
    exact envR_start rs _
  refine ⟨_, hbody cdv A outer s H E C, ι, startE N.length ds, M, SS, R0, ?_⟩
  clear h
  revert h'
  cases mb (startE N.length ds) M with
  | next env M1 => exact fun h ι1 σ1 H1 e1 S1 _ => h ι1 H1 e1 S1 _ .non
  | ret d M1 => exact fun h ι1 v H1 e1 S1 r => h ι1 H1 e1 S1 v r
  | exc y env M1 => exact fun h ι1 σ1 H1 cls dx e1 S1 _ ex => h ι1 H1 cls dx e1 S1 ex
  | stuck => exact fun h => h
/-- a method, all arguments written -/
theorem okM {c m x qual : Str} {params : Arguments} {body : List Stmt} {scope : Scope} {N ps : List Str} {k : Nat} {mb : MS} (F : ∃ fd, FunD K x qual params body scope [] [] (He.ma K (He.ga K c) m) fd) (S : FnScope N ps scope) (hc : Cls K (He.ga K c)) (hm : Meth K (He.ga K c) m (He.ma K (He.ga K c) m))
    (hbind : ∀ (kV doc pm : Value) (an : Option Addr) (cdv ct : Value) (us : List Value), us.length = ps.length → bindArgs (PySem.W.fnOf x qual params body scope .none kV doc pm an cdv ct) ⟨us, []⟩ = pure (ps.zip us))
    (hbody : ∀ (cdv : Value) (A : Around) (outer : List PySem.Env) (s : Shared) (H : Hp) (E : XK), let X := cxOf (L2N.CX P w) P w K mg base N qual scope (He.ma K (He.ga K c) m) cdv A outer s H E
      Ctx X (fun cls d _ H => E cls d H) k → PSs X body (LS K (fun cls d _ H => E cls d H) mb)) :
    CalleeM P w K mg base c m ps.length (k + 1) [] (fnD ps.length N.length mb) := by
  obtain ⟨fd, F⟩ := F
  exact ⟨⟨fd, ps, [], [], okFd F S hbody, F.bindsN hbind, .nil, fun _ _ => .nil⟩, fun ds M h => if_neg h, hc, hm⟩
/-- a method whose last argument is left out, or written; its default a constant -/
theorem okMd {c m x qual : Str} {params : Arguments} {body : List Stmt} {scope : Scope} {N ps : List Str} {k : Nat} {mb : MS} {dv : V} {d : D} (hd : ∀ ι H, Rp K ι H d dv) (F : ∃ fd, FunD K x qual params body scope [dv] [] (He.ma K (He.ga K c) m) fd) (S : FnScope N ps scope) (hc : Cls K (He.ga K c)) (hm : Meth K (He.ga K c) m (He.ma K (He.ga K c) m))
    (n : Nat) (hn : n + 1 = ps.length)
    (hbind : ∀ (T : Addr) (kV doc pm : Value) (an : Option Addr) (cdv ct : Value) (us its : List Value), us.length = n → its.length = 1 →
      ∃ k, bindArgs (PySem.W.fnOf x qual params body scope (.ref T) kV doc pm an cdv ct) ⟨us, []⟩ = seqItems? (.ref T) >>= k ∧ k (some its.toArray) = pure (ps.zip (us ++ its)))
    (hbindN : ∀ (T : Addr) (kV doc pm : Value) (an : Option Addr) (cdv ct : Value) (us its : List Value), us.length = n + 1 → its.length = 1 →
      ∃ k, bindArgs (PySem.W.fnOf x qual params body scope (.ref T) kV doc pm an cdv ct) ⟨us, []⟩ = seqItems? (.ref T) >>= k ∧ k (some its.toArray) = pure (ps.zip us))
    (hbody : ∀ (cdv : Value) (A : Around) (outer : List PySem.Env) (s : Shared) (H : Hp) (E : XK), let X := cxOf (L2N.CX P w) P w K mg base N qual scope (He.ma K (He.ga K c) m) cdv A outer s H E
      Ctx X (fun cls d _ H => E cls d H) k → PSs X body (LS K (fun cls d _ H => E cls d H) mb)) :
    CalleeM P w K mg base c m ps.length (k + 1) [d] (fnD ps.length N.length mb) ∧ CalleeM P w K mg base c m ps.length (k + 1) [] (fnD ps.length N.length mb) := by
  obtain ⟨fd, F⟩ := F
  constructor
  · obtain ⟨ds, hv, hb⟩ := F.binds1 (ps := ps) n 0 (by simp) (by simp; omega) (by
      intro T kV doc pm an cdv ct us its h1 h2
      obtain ⟨k, e1, e2⟩ := hbind T kV doc pm an cdv ct us its h1 (by simpa using h2)
      exact ⟨k, e1, by rw [e2]; rfl⟩)
    exact ⟨⟨fd, ps, [dv], ds, okFd F S hbody, hb, hv, fun ι H => .cons (hd ι H) .nil⟩, fun ds M h => if_neg h, hc, hm⟩
  · obtain ⟨ds, hv, hb⟩ := F.binds1 (ps := ps) (n + 1) 1 (by simp) (by simp; omega) (by
      intro T kV doc pm an cdv ct us its h1 h2
      obtain ⟨k, e1, e2⟩ := hbindN T kV doc pm an cdv ct us its h1 (by simpa using h2)
      refine ⟨k, e1, ?_⟩
      have : its.drop 1 = [] := List.drop_eq_nil_of_le (by simpa using Nat.le_of_eq h2)
      rw [e2, this, List.append_nil])
    cases hv
    exact ⟨⟨fd, ps, [], [], okFd F S hbody, hb, .nil, fun _ _ => .nil⟩, fun ds M h => if_neg h, hc, hm⟩
end
section
variable {M : Mem} {n : Nat} {c f m : Str} {fs : List (Str × D)}
theorem mFld_at {v : D} (h : M[n]? = some (.ins c fs)) (hv : fs.lookup f = some v) : mFld c f (.ref n) M = some (v, M) := by
  simp only [mFld, insAt_of h, hv, Option.map_some]
theorem putO_at {v : D} (h : M[n]? = some (.ins c fs)) (hl : fs.length < 1000) : putO c f (.ref n) v M = some (M.set n (.ins c (putD f v fs))) := by
  simp only [putO, insAt_of h]
  exact if_pos hl
end
/-- a class's statements -/
def clsB (s : Stmt) : List Stmt := match s with
  | .ClassDef (body := b) .. => b
  | _ => []
def meR (c m : Str) (dd : List D) (fn : Fn) (mas : MA) (env : Env) (x : D) (M1 : Mem) : Out D := match x with
  | .ref n => match insAt M1 c n with
    | some fs => if (fs.lookup m).isNone = true then (mas env M1).bind fun ds M2 => fn (.ref n :: (ds ++ dd)) M2 else .stuck
    | none => .stuck
  | _ => .stuck
def putS (env : Env) (o : Option Mem) : SOut := match o with
  | some M => .next env M
  | none => .stuck
def noneO (d x : D) (M : Mem) : Out D := match d with
  | .non => .ok x M
  | _ => .stuck
section
variable {M : Mem} {n : Nat} {c f m : Str} {fs : List (Str × D)} {dd : List D} {fn : Fn} {mas : MA} {env : Env} {o e : ME}
@[simp] theorem eMeM_ap : eMeM c m dd fn o mas env M = (o env M).bind fun x M1 => meR c m dd fn mas env x M1 := rfl
@[simp] theorem eFld_ap : eFld c f e env M = (e env M).bind fun d M1 => liftO (mFld c f d M1) := rfl
@[simp] theorem sFldD_ap : sFldD c f o e env M = thenS env (e env M) fun v M1 => thenS env (o env M1) fun x M2 => putS env (putO c f x v M2) := rfl
@[simp] theorem putS_some : putS env (some M) = .next env M := rfl
@[simp] theorem eMake_ap : eMake c dd fn mas env M = (mas env M).bind fun ds M1 => (fn (.ref M1.length :: (ds ++ dd)) (M1 ++ [.ins c []])).bind fun d M2 => noneO d (.ref M1.length) M2 := rfl
@[simp] theorem noneO_non {x : D} : noneO .non x M = .ok x M := rfl
theorem meR_at (h : M[n]? = some (.ins c fs)) (hl : fs.lookup m = none) : meR c m dd fn mas env (.ref n) M = (mas env M).bind fun ds M2 => fn (.ref n :: (ds ++ dd)) M2 := by
  simp only [meR, insAt_of h, hl]
  rfl
end
end TL
end
section
set_option maxHeartbeats 4000000
namespace TL
open PySem PySem.Spec PyProof.Rows L2
def enumItems : Nat → List D → List D
  | _, [] => []
  | i, x :: xs => .tup [.int (i : Nat), x] :: enumItems (i + 1) xs
theorem enum_at : ∀ (xs : List D) (k i : Nat), (enumItems k xs)[i]? = (xs[i]?).map fun x => .tup [.int ((k + i : Nat) : Int), x]
  | [], k, i => by simp [enumItems]
  | x :: xs, k, 0 => by simp [enumItems]
  | x :: xs, k, i + 1 => by
    have := enum_at xs (k + 1) i
    simp only [enumItems, List.getElem?_cons_succ, this]
    rw [show k + 1 + i = k + (i + 1) from by omega]
theorem enum_len : ∀ (xs : List D) (k : Nat), (enumItems k xs).length = xs.length
  | [], _ => rfl
  | x :: xs, k => by simp [enumItems, enum_len xs]
def enumOf (M : Mem) (d : D) : Option Src := match d with
  | .ref n => (seqAt M n).map fun xs => ⟨enumItems 0 xs, fun M' => seqAt M' n = some xs⟩
  | _ => none
noncomputable def iEnumD (e : ME) : MI := fun env M => (e env M).bind fun d M1 => match enumOf M1 d with
  | some s => .ok s M1
  | none => .stuck
section
variable {X : Cx} {W : WX} {e : Expr} {me : ME} {p pos tpos : Pos} {elts : List Expr} {kk : Nat}
theorem di_enum (hm : X.mg "enumerate" = none) (he : PE X e (LE X.K W me)) (hg : Gl X "enumerate" := by rfl) (hs : starEach [e] X.env = [(false, eval e X.env)] := by rfl) (hs' : starEach [e] X.env = (false, eval e X.env) :: starEach [] X.env := by rfl) :
    PI X (.Tuple elts kk tpos) (.Call (.Name "enumerate" p) [e] [] pos) (LI X.K W (iEnumD me)) :=
  (pi_enum hg hm (pa_cons he pa_nil hs') hs).imp fun σ H R0 ⟨ι, env, M, S, R, h⟩ => ⟨ι, env, M, S, R, (OutP.bind h).imp fun d M1 ι1 H1 e1 S1 h1 v rv => by
    revert h1
    cases d with
    | ref n =>
      obtain ⟨a, rfl, ha⟩ := rv.ref_inv
      cases q : seqAt M1 n with
      | none => intro h1; simp only [enumOf, q, Option.map_none] at h1; exact h1.elim
      | some xs =>
        intro h1
        simp only [enumOf, q, Option.map_some] at h1
        obtain ⟨vs, h2, r1⟩ := S1.seq ha q
        refine ⟨a, vs, rfl, h2, OutP.val S1 h1 _ fun ι2 H2 M2 e2 S2 gd i => ?_⟩
        obtain ⟨us, g1, g2⟩ := S2.seq (e2.pre _ _ ha) gd
        refine ⟨fun d hd => ?_, fun hl => ⟨us, g1, by rw [← g2.length]; have hl' : (enumItems 0 xs).length ≤ i := hl; rwa [enum_len] at hl'⟩⟩
        have hd' : (enumItems 0 xs)[i]? = some d := hd
        rw [enum_at] at hd'
        cases q3 : xs[i]? with
        | none => rw [q3] at hd'; cases hd'
        | some x =>
          rw [q3] at hd'
          cases hd'
          obtain ⟨u, h3, h4⟩ := g2.get q3
          refine ⟨⟨us, u, g1, h3⟩, fun v H' y => ?_⟩
          obtain ⟨T, x', rfl, nT, rfl, y2⟩ := y
          have e := y2 us g1
          rw [h3] at e
          cases e
          have ex : Ext X.K ι2 H2 ι2 (L2.upd H2 T (.tup [.int ((i : Nat) : Int), u])) := Ext.new nT
          refine ⟨ex, S2.new nT, .tup (.inl (.inl upd_same)) (.cons ?_ (.cons (h4.ext ex) .nil))⟩
          rw [Nat.zero_add]
          exact .int _
    | _ => exact fun h1 => h1.elim⟩
end
section
variable {M : Mem} {env : Env} {e : ME}
@[simp] theorem iEnumD_ap : iEnumD e env M = (e env M).bind fun d M1 => match enumOf M1 d with
  | some s => .ok s M1
  | none => .stuck := rfl
theorem enumOf_ref {n : Nat} {xs : List D} (h : seqAt M n = some xs) : enumOf M (.ref n) = some ⟨enumItems 0 xs, fun M' => seqAt M' n = some xs⟩ := by
  simp only [enumOf, h, Option.map_some]
end
end TL
end
section
set_option maxHeartbeats 4000000
namespace TL
open PySem PySem.Spec PyProof.Rows L2
/-- the class's object -/
def clsOB (K : PySem.W.Frag) (C : Addr) : Bool := match K.lookup C with
  | some ⟨.type "type", _, .cls cd, sl⟩ =>
    (match cd.mro, sl.toList with
    | .ref C' :: bm, [_, _, _, _, some (.builtin n), _] => C' == C && (n == "ValueError.__new__" && (cd.hasDict && (!cd.hasDel && PySem.HandSPX.refsVE bm)))
    | _, _ => false)
  | _ => false
theorem clsOB_ok {K : PySem.W.Frag} {C : Addr} (h : clsOB K C = true) :
    ∃ nm q N bs bm sn sub ab col dd k0 k1 k2 k3 k5, K.lookup C = some (excClassObj nm q C N bs bm true sn sub ab col dd k0 k1 k2 k3 k5 "ValueError.__new__") ∧ PySem.HandSPX.refsVE bm = true := by
  unfold clsOB at h
  split at h
  case h_2 => cases h
  rename_i dd cd sl e
  split at h
  case h_2 => cases h
  rename_i C' bm k0 k1 k2 k3 n k5 e1 e2
  obtain ⟨z1, h⟩ := He.ba h
  obtain ⟨z2, h⟩ := He.ba h
  obtain ⟨z3, h⟩ := He.ba h
  obtain ⟨z4, z5⟩ := He.ba h
  obtain rfl : C' = C := eq_of_beq z1
  obtain rfl : n = "ValueError.__new__" := eq_of_beq z2
  obtain ⟨nm, bs, mro, ns, qn, hdd, sn, sub, ab, col, del⟩ := cd
  dsimp only at e1 z3 z4
  subst e1 z3
  have z4' : del = false := by simpa using z4
  subst z4'
  obtain ⟨l⟩ := sl
  dsimp only at e2
  subst e2
  exact ⟨nm, qn, ns, bs, bm, sn, sub, ab, col, dd, k0, k1, k2, k3, k5, e, z5⟩
def oexB (K : PySem.W.Frag) (c : Str) : Bool := clsOB K (He.ga K c) && (He.eqO (PySem.W.findIn K (.ref (He.ga K c)) "__setattr__") (some (some (.builtin "object.__setattr__"))) &&
  (decide (PySem.W.subIn K (.ref (He.ga K c)) (.type "BaseException") = some true) && (decide (PySem.W.typeIn K (.ref (He.ga K c)) = some (.type "type")) &&
  (PySem.W.keepIn K (.ref (He.ga K c)) && He.eqO (PySem.W.findIn K (.ref (He.ga K c)) "at") (some none)))))
/-- the class that is asked for its __init__ -/
def baseB (K : PySem.W.Frag) (S : Str) : Bool := decide (PySem.W.specialIn K (.ref (He.ga K S)) "__getattribute__" = some (some (.builtin "type.__getattribute__"))) && (PySem.W.readsIn K (He.ga K S) (.type "type") &&
  (match PySem.W.findCls K (.ref (He.ga K S)) (.type "type") "__init__" with
    | some (.val (.builtin n)) => n == "ValueError.__init__"
    | _ => false))
/-- an own class with such an __init__ -/
structure ExI (K : PySem.W.Frag) (mg : Str → Option Value) (c : Str) : Prop where
  g : mg c = some (.ref (He.ga K c))
  T : OexC K (He.ga K c)
  m : Meth K (He.ga K c) "__init__" (He.ma K (He.ga K c) "__init__")
  no : NoAttr K (He.ga K c) "at"
structure BaseI (K : PySem.W.Frag) (mg : Str → Option Value) (S : Str) : Prop where
  g : mg S = some (.ref (He.ga K S))
  ga : PySem.W.specialIn K (.ref (He.ga K S)) "__getattribute__" = some (some (.builtin "type.__getattribute__"))
  rd : PySem.W.readsIn K (He.ga K S) (.type "type") = true
  v : PySem.W.findCls K (.ref (He.ga K S)) (.type "type") "__init__" = some (.val (.builtin "ValueError.__init__"))
theorem exI_of {K : PySem.W.Frag} {h : Heap} {mg : Str → Option Value} (X : K.In h) (G : h.Ns mainGlobals mg) {c : Str} (c1 : (He.Fa.glo c).ok K = true) (c2 : (He.Fa.meth c "__init__").ok K = true) (c3 : oexB K c = true) : ExI K mg c := by
  obtain ⟨h1, h⟩ := He.ba c3
  obtain ⟨h2, h⟩ := He.ba h
  obtain ⟨h3, h⟩ := He.ba h
  obtain ⟨h4, h⟩ := He.ba h
  obtain ⟨h5, h6⟩ := He.ba h
  exact ⟨He.glo_ok X G c1, ⟨clsOB_ok h1, He.eqO_ok h2, of_decide_eq_true h3, of_decide_eq_true h4, h5⟩, He.meth_ok c2, He.eqO_ok h6⟩
theorem baseI_of {K : PySem.W.Frag} {h : Heap} {mg : Str → Option Value} (X : K.In h) (G : h.Ns mainGlobals mg) {S : Str} (c1 : (He.Fa.glo S).ok K = true) (c2 : baseB K S = true) : BaseI K mg S := by
  obtain ⟨h1, h⟩ := He.ba c2
  obtain ⟨h2, h3⟩ := He.ba h
  refine ⟨He.glo_ok X G c1, of_decide_eq_true h1, h2, ?_⟩
  revert h3
  cases q : PySem.W.findCls K (.ref (He.ga K S)) (.type "type") "__init__" with
  | none => exact fun h => nomatch h
  | some r =>
    cases r with
    | val v =>
      cases v with
      | builtin n =>
        intro h3
        have h4 : n = "ValueError.__init__" := eq_of_beq h3
        rw [h4]
      | _ => exact fun h => nomatch h
    | _ => exact fun h => nomatch h
def obsCG (n : Nat) (ok : PySem.W.Frag → Bool) (fn : List He.DefD) (g : Addr → Option Obj) : AlB := obsB ok fn (He.frG g (He.asD g n ++ [cStatics]))
def hookC (n : Nat) (ok : PySem.W.Frag → Bool) (fn : List He.DefD) : PySem.W.Hook where
  α := AlB
  obs s := obsCG n ok fn s.heap.get?
  val _ := valB fn
  says _ h := ∃ K : PySem.W.Frag, K.In h ∧ SaysB ok fn K
  of _ _ e := ⟨_, He.frG_in, e⟩
  keeps _ _ _ := fun ⟨K, hK, c⟩ k => ⟨K, PySem.W.Frag.In.keeps hK k, c⟩
theorem obsCG_eq {n : Nat} {ok : PySem.W.Frag → Bool} {fn : List He.DefD} {g : Addr → Option Obj} {s : Shared} (h : ∀ a, g a = s.heap.get? a) : obsCG n ok fn g = (hookC n ok fn).obs s := by
  obtain rfl : g = s.heap.get? := funext h
  rfl
section
variable {X : Cx} {e : Expr} {es : List Expr} {ta : TA} {S : Str} {p1 p2 pos : Pos}
theorem handed_VI : PySem.W.handedIn (.builtin "ValueError.__init__") = true := by decide +kernel
/-- S.__init__(self, ..) -/
theorem pe_baseI {pl : Sem Bool} (B : BaseI X.K X.mg S) (ha : PA X (e :: es) ta) (hg : Gl X S := by rfl) (hdb : (S == ("__debug__" : Str)) = false := by decide)
    (hc : eval (.Call (.Attribute (.Name S p1) "__init__" p2) (e :: es) [] pos) X.env = (do
      let o ← eval (.Name S p1) X.env
      standAt p2.atName
      let (fn, us) ← holding [o] (getMethod o "__init__" pl)
      callWith pos fn us (backTo pos (starEach (e :: es) X.env)) (backToKw pos (keywordEach [] X.env))) := by rfl)
    (he : starEach (e :: es) X.env = (false, eval e X.env) :: starEach es X.env := by rfl) (hpl : (backTo pos (starEach es X.env)).any (·.1) = false := by rfl) :
    PE X (.Call (.Attribute (.Name S p1) "__init__" p2) (e :: es) [] pos) (tVeI X.K ta) := by
  constructor
  intro pins s σ H Q I want
  refine PySem.W.methodCall_KW (ld_glob I hg B.g ?_ hdb) hc
  refine PySem.W.method_cls I.kIn B.ga ?_
  refine PySem.W.cls_value I.kIn B.rd B.v handed_VI ?_
  show wpAny _ _ (callWith pos (.builtin "ValueError.__init__") [] _ []) _ _ _
  refine PyProof.Rows.callWith_method1 ?_ he hpl
  refine thn (ha.run pos pins _ σ H _ (I.tok _) want) ?_
  rintro us s1 ⟨vs, H1, I1, r1, a, C, ws, rfl, few, T, ea, q⟩
  cases r1 with
  | @cons _ u0 _ ur ra rest =>
    have ua : u0 = Value.ref a := ra
    subst ua
    refine oinit_ok T I1 ea ?_ fun s' J => ⟨.non, H1, J, rfl, q⟩
    have := Paired.length rest
    rw [sizeLine_eq]
    omega
end
/-- what such an __init__ promises -/
def spIni (C : Addr) : Sp := fun vs H Q _ => ∃ (a : Addr) (y : V), vs = [.ref a, y] ∧ H a = some (exo a C none) ∧ ∀ dx, H dx = none → dx ≠ a → Q .non (upd (upd H dx (exd dx [(("at" : Str), y)])) a (exo a C (some dx)))
/-- the two names of such an __init__ -/
theorem pe_self {X : Cx} {p : Pos} (hN : X.N[0]? = some ("self" : Str) := by rfl) (hv : Vis X.env.scope "self" := by first | exact Or.inl rfl | exact Or.inr (Or.inl rfl)) : PE X (.Name "self" p) (tVar 0) := pe_var hN hv
theorem pe_at {X : Cx} {p : Pos} (hN : X.N[1]? = some ("at" : Str) := by rfl) (hv : Vis X.env.scope "at" := by first | exact Or.inl rfl | exact Or.inr (Or.inl rfl)) : PE X (.Name "at" p) (tVar 1) := pe_var hN hv
end TL
end
section
set_option maxHeartbeats 4000000
namespace TL
open PySem PySem.Spec PyProof.Rows L2
/-- the heap once the cause is written -/
def causedBy (h : Heap) (a x1 : Addr) : Heap := (h.update a (Obj.mapFields (·.setIfInBounds 3 (.ref x1)))).update a (Obj.mapFields (·.setIfInBounds 4 (.bool true)))
def causedO (oe : Obj) (x1 : Addr) : Obj := (oe.mapFields (·.setIfInBounds 3 (.ref x1))).mapFields (·.setIfInBounds 4 (.bool true))
theorem causedBy_at {h : Heap} {a x1 : Addr} {oe : Obj} {vs : Array Value} (ha : h.get? a = some oe) (hd : oe.data = .fields vs) :
    (causedBy h a x1).get? a = some (causedO oe x1) ∧ (causedO oe x1).data = .fields ((vs.setIfInBounds 3 (.ref x1)).setIfInBounds 4 (.bool true)) := by
  have d3 := Obj.data_mapFields hd (·.setIfInBounds 3 (.ref x1))
  have a3 := Heap.get?_update_self (Obj.mapFields (·.setIfInBounds 3 (.ref x1))) ha (Obj.isFreed_of_fields d3)
  have d4 := Obj.data_mapFields d3 (·.setIfInBounds 4 (.bool true))
  exact ⟨Heap.get?_update_self (Obj.mapFields (·.setIfInBounds 4 (.bool true))) a3 (Obj.isFreed_of_fields d4), d4⟩
theorem causedBy_other {h : Heap} {a b x1 : Addr} (hne : a ≠ b) : (causedBy h a x1).get? b = h.get? b := by
  unfold causedBy
  rw [Heap.get?_update_other _ _ hne, Heap.get?_update_other _ _ hne]
section
variable {prog : Program} {w : World} {A : Around} {E : Value → Shared → Prop}
/-- an instance is no class -/
theorem isType_inst {s : Shared} {a : Addr} {o : Obj} {vs : Array Value} {Q : Bool → Shared → Prop} (ha : s.heap.get? a = some o) (hd : o.data = .fields vs) (q : Q false s) : wpAny (model prog w) A (isType (.ref a)) Q E s := by
  simp only [isType, loadHead]
  refine wpAny_bind (wpAny_loadPart ha ?_)
  rw [hd]
  exact wpAny_pure q
/-- an exception stands for itself -/
theorem excFrom_inst {s : Shared} {a : Addr} {o : Obj} {vs : Array Value} {cls : Value} {m : String} {Q : Value → Shared → Prop} (ha : s.heap.get? a = some o) (hc : o.cls = cls) (hd : o.data = .fields vs)
    (L1 : PySem.W.Looks (model prog w) s.heap (isSubtype cls (.type "BaseException")) true) (q : Q (.ref a) s) : wpAny (model prog w) A (excFromValue (.ref a) m) Q E s := by
  have LT : PySem.W.Looks (model prog w) s.heap (typeOf (.ref a)) cls := fun A Q E s k q => wpAny_typeOf_ref (k _ _ ha) (by rw [hc]; exact q)
  have LI : PySem.W.Looks (model prog w) s.heap (isInstance (.ref a) (.type "BaseException")) true := LT.andThen L1
  unfold excFromValue isExcClass
  refine wpAny_bind (wpAny_bind (isType_inst ha hd ?_))
  simp only [Bool.false_eq_true, if_false]
  refine wpAny_pure ?_
  simp only [Bool.false_eq_true, if_false]
  refine wpAny_bind (LI.here ?_)
  simp only [if_true]
  exact wpAny_pure q
theorem raise_caused {env : PySem.Env} {s : Shared} {x c : Sem Value} {Q : Flow → Shared → Prop} {x1 : Addr}
    (h : wpAny (model prog w) A x (fun v s₁ => ∃ a oe vs cls o1 vs1 c1, v = .ref a ∧ s₁.heap.get? a = some oe ∧ oe.cls = cls ∧ oe.data = .fields vs ∧ vs[1]? = some .none ∧ 4 < vs.size ∧ x1 ≠ a ∧ HotX.HotAt A x1 s₁.heap ∧
      (∀ Q' : Value → Shared → Prop, Q' (.ref x1) s₁ → wpAny (model prog w) A c Q' E s₁) ∧ s₁.heap.get? x1 = some o1 ∧ o1.data = .fields vs1 ∧ o1.cls = c1 ∧ PySem.W.Looks (model prog w) s₁.heap (isSubtype c1 (.type "BaseException")) true ∧
      PySem.W.Looks (model prog w) s₁.heap (isSubtype cls (.type "BaseException")) true ∧ PySem.W.Looks (model prog w) (causedBy s₁.heap a x1) (typeOf cls) (.type "type") ∧
      E (.ref a) { s₁ with heap := (causedBy s₁.heap a x1).update a (Obj.mapFields (·.setIfInBounds 2 (.ref x1))) }) E s) :
    wpAny (model prog w) A (raiseStmt env (some x) (some c)) Q E s := by
  unfold raiseStmt
  dsimp only
  refine wpAny_bind (wpAny_mono h (fun v s₁ h₁ => ?_) fun _ _ x => x)
  obtain ⟨a, oe, vs, cls, o1, vs1, c1, rfl, ha, hcls, hd, h1, hi, hne, hot, hc, h1a, h1d, h1c, L0, L1, L3, hE⟩ := h₁
  have d3 := Obj.data_mapFields hd (·.setIfInBounds 3 (.ref x1))
  have a3 := Heap.get?_update_self (Obj.mapFields (·.setIfInBounds 3 (.ref x1))) ha (Obj.isFreed_of_fields d3)
  obtain ⟨a4, d4⟩ := causedBy_at (x1 := x1) ha hd
  have s3 : 3 < vs.size := by omega
  have s4 : 4 < (vs.setIfInBounds 3 (Value.ref x1)).size := by rw [HotX.set_size]; exact hi
  have s2 : 2 < ((vs.setIfInBounds 3 (Value.ref x1)).setIfInBounds 4 (Value.bool true)).size := by rw [HotX.set_size, HotX.set_size]; omega
  have h14 : ((vs.setIfInBounds 3 (Value.ref x1)).setIfInBounds 4 (Value.bool true))[1]? = some Value.none := HotX.set_other (by decide) (HotX.set_other (by decide) h1)
  have cls4 : (causedO oe x1).cls = cls := by unfold causedO; rw [Obj.cls_mapFields, Obj.cls_mapFields]; exact hcls
  have LT4 : PySem.W.Looks (model prog w) (causedBy s₁.heap a x1) (typeOf (.ref a)) cls := fun A Q E s k q => wpAny_typeOf_ref (k _ _ a4) (by rw [cls4]; exact q)
  have hot4 : HotX.HotAt A x1 (causedBy s₁.heap a x1) := by
    obtain ⟨q1, o, vs', q2, q3, q4⟩ := hot
    exact ⟨q1, o, vs', by rw [causedBy_other (Ne.symm hne)]; exact q2, q3, q4⟩
  have rest : wpAny (model prog w) A (do
      let b ← isType (.ref a)
      if b = true then do
        let e ← holding [.ref a] (raisedFor (.ref a) (.ref a))
        setFlight e none
        raiseNew e
      else do
        let e ← raisedInstance (.ref a)
        setFlight e none
        raiseNew e : Sem Flow) Q E { s₁ with heap := causedBy s₁.heap a x1 } := by
    refine wpAny_bind (isType_inst a4 d4 ?_)
    simp only [Bool.false_eq_true, if_false]
    unfold raisedInstance
    refine wpAny_bind (wpAny_bind (LT4.here (wpAny_bind (L3.here ?_))))
    rw [if_pos (beq_self_eq_true _)]
    refine wpAny_pure ?_
    unfold setFlight
    refine wpAny_bind (wpAny_bind (wpAny_field a4 d4 h14 ?_))
    rw [if_neg (by decide)]
    refine wpAny_pure ?_
    exact HotX.raiseNew_hot hot4 hne a4 d4 s2 hE
  refine wpAny_bind (wpAny_holding (hc _ (wpAny_bind (wpAny_pure ?_))))
  dsimp only
  refine wpAny_bind (wpAny_holding (excFrom_inst ha hcls hd L1 ?_))
  rw [if_neg (show ¬ ((Value.ref x1 == Value.none) = true) from by simp)]
  refine wpAny_bind (wpAny_holding (excFrom_inst h1a h1c h1d L0 ?_))
  refine wpAny_bind (wpAny_setField ha hd s3 (wpAny_bind (wpAny_setField a3 d3 s4 ?_)))
  exact rest
end
theorem sky_imp {B : Heap} {l : List PySem.Env} {a L : Addr} {Z Z' : Obj → Prop} {h : Heap} (z : ∀ o, Z o → Z' o) (x : Sky B l a Z L h) : Sky B l a Z' L h := by
  rcases x with ⟨p1, p2, p3, oe, vs, p4, p5, p6⟩ | x | x
  · exact .inl ⟨p1, p2, p3, oe, vs, p4, z _ p5, p6⟩
  · exact .inr (.inl (L2H.flyingZ_imp z x))
  · exact .inr (.inr ⟨x.1, x.2.1, x.2.2.1, L2H.tracedZ_imp z x.2.2.2⟩)
theorem takesN {X : Cx} {W : WX} (tk : L2.Takes X W) : L2N.Takes X W := fun u s ⟨a, B, sI, pins, σ, H, cls, d, e, I, nb, up, sky, r⟩ => tk u s ⟨a, B, sI, pins, σ, H, cls, d, e, I, nb, up, sky_imp (fun _ z => z.zc) sky, r⟩
section
variable {X : Cx} {W : WX} {pins : List (Addr × Obj)} {σ : L2.St} {H : Hp} {s : Shared} {i : Nat} {n : Str} {v : V}
/-- a local name is read: nothing else moves -/
theorem ld_slot (I : L2.Inv X pins σ H s) (hN : X.N[i]? = some n) (hv : X.env.kindOf n = some .local) (e : σ[i]? = some (some v)) (hd : (n == ("__debug__" : Str)) = false) :
    ∃ u, RelV v u ∧ ∀ {np : Pos} {Q : Value → Shared → Prop} {E : Value → Shared → Prop}, Q u s → wpAny (model X.prog X.w) X.A (eval (.Name n np) X.env) Q E s := by
  obtain ⟨m, hn, hl⟩ := I.loc
  obtain ⟨u, r, l⟩ := hl i n v hN e (.inl hv)
  refine ⟨u, r, fun q => ?_⟩
  rcases l with ⟨hk, hm⟩ | ⟨hk, _⟩
  · exact wpAny_Name (wpAny_loadName_local I.ok.kind hk hn hm q) hd
  · rw [hv] at hk
    rcases hk with hk | hk <;> cases hk
/-- a state that holds an object more -/
theorem Inv.bigger {sI : Shared} (I : L2.Inv X pins σ H sI) (k : ∀ b o, sI.heap.get? b = some o → s.heap.get? b = some o) (os : s.os = sI.os) (ag : AllBare s.gens) : L2.Inv X pins σ H s :=
  I.landed (B := sI.heap) (fun _ _ e _ => e) k (Heap.UpToSlots.of_keeps k) os ag
theorem ps_raiseF {e : Expr} {t : L2.St → Hp → XK → Prop} {p : Addr × Obj} {np pos : Pos} (hot : L2H.Hot1 X.A p) (hp : p ∈ X.pn) (rp : L2.Raises X p.2.cls) (hN : X.N[i]? = some n) (hv : X.env.kindOf n = some .local) (hd : (n == ("__debug__" : Str)) = false) (tk : L2.Takes X W) (he : L2H.PMk5 X e t) :
    PS X (.Raise (some e) (some (.Name n np)) pos) (fun _ σ H => t σ H fun cls d H' => σ[i]? = some (some (.ref p.1)) ∧ W cls d σ H') := by
  constructor
  intro pins s σ H D I want
  obtain ⟨hh, v1, e1, c1⟩ := hot
  show wpAny _ _ (do standAt pos; raiseStmt X.env (some (do let v ← eval e X.env; standAt pos; pure v)) (some (do let v ← eval (.Name n np) X.env; standAt pos; pure v))) _ _ _
  refine wpAny_bind (wpAny_standAt (raise_caused (x1 := p.1) (wpAny_bind (wpAny_mono (he pins s σ H _ I want) (fun u s1 hu => wpAny_bind (wpAny_standAt (wpAny_pure ?_))) fun _ _ x => x))))
  obtain ⟨⟨a, oe, vs, sI, H', cls, d, rfl, J, k, hne, ha, hz, hda, h1, na, os, ag, r, slot, q⟩, h5⟩ := hu
  have hi : 4 < vs.size := h5 a oe vs rfl ha hda
  have J1 : L2.Inv X pins σ H' s1 := Inv.bigger J k os ag
  obtain ⟨u, ru, ld⟩ := ld_slot J1 hN hv slot hd
  obtain rfl : u = Value.ref p.1 := ru
  have P1 := (J.pin p (List.mem_append_left _ hp)).1
  have nap : p.1 ≠ a := fun z => by
    rw [z, hne] at P1
    cases P1
  have k4 : ∀ b o, sI.heap.get? b = some o → (causedBy s1.heap a p.1).get? b = some o := fun b o z => by
    have nab : a ≠ b := fun y => by
      rw [← y, hne] at z
      cases z
    rw [causedBy_other nab]
    exact k b o z
  obtain ⟨r1, _⟩ := r (model X.prog X.w) s1.heap (J.kIn.keeps k)
  obtain ⟨_, r2⟩ := r (model X.prog X.w) (causedBy s1.heap a p.1) (J.kIn.keeps k4)
  obtain ⟨r3, _⟩ := rp (model X.prog X.w) s1.heap (J.kIn.keeps k)
  obtain ⟨a4, d4⟩ := causedBy_at (x1 := p.1) ha hda
  have h12 : (((vs.setIfInBounds 3 (Value.ref p.1)).setIfInBounds 4 (Value.bool true)).setIfInBounds 2 (Value.ref p.1))[1]? = some Value.none := HotX.set_other (by decide) (HotX.set_other (by decide) (HotX.set_other (by decide) h1))
  refine ⟨a, oe, vs, cls, p.2, v1, p.2.cls, rfl, ha, hz.1, hda, h1, hi, nap, ⟨hh, p.2, v1, k _ _ P1, e1, c1⟩, fun Q' q' => wpAny_bind (ld (wpAny_bind (wpAny_standAt (wpAny_pure q')))), k _ _ P1, e1, rfl, r3, r1, r2,
    tk _ _ (L2.XE.new J (fun b o z => ?_) hne (Heap.get?_update_self _ a4 (Obj.isFreed_of_fields (Obj.data_mapFields d4 _))) ⟨?_, ?_⟩ (Obj.data_mapFields d4 _) h12 na os ag q)⟩
  · have nab : a ≠ b := fun y => by
      rw [← y, hne] at z
      cases z
    show ((causedBy s1.heap a p.1).update a (Obj.mapFields (·.setIfInBounds 2 (.ref p.1)))).get? b = some o
    rw [Heap.get?_update_other _ _ nab]
    exact k4 b o z
  · unfold causedO
    rw [Obj.cls_mapFields, Obj.cls_mapFields, Obj.cls_mapFields]
    exact hz.1
  · unfold causedO
    rw [HandSPX.dict_mapFields, HandSPX.dict_mapFields, HandSPX.dict_mapFields]
    exact hz.2.1
theorem funFrames_alive {base h h' : Heap} (k : ∀ b o, h.get? b = some o → (∀ vs, o.data ≠ .fields vs) → ∃ o', h'.get? b = some o' ∧ ∀ vs, o'.data ≠ .fields vs) : ∀ {l : List PySem.Env}, h.FunFrames base l → h'.FunFrames base l
  | [], _ => trivial
  | _ :: _, ⟨hk, ⟨L, o, hf, hn, ho, hd⟩, hr⟩ => by
    obtain ⟨o', ho', hd'⟩ := k L o ho hd
    exact ⟨hk, ⟨L, o', hf, hn, ho', hd'⟩, funFrames_alive k hr⟩
/-- a slot's name goes from the frame's own names -/
theorem Inv.nameGoes {m : Str → Option Value} {h' : Heap} {v : Option Value} {t' : Nat} (I : L2.Inv X pins σ H s) (hN : X.N.Nodup) (hi : X.N[i]? = some n) (hl : X.env.kindOf n = some .local)
    (hlk : ∀ (j : Nat) (x : Str) (v : V), X.N[j]? = some x → σ[j]? = some (some v) → Vis X.env.scope x → ∃ u, RelV v u ∧ Look X.env s.heap m x u) (hn' : h'.Ns X.env.locals fun x => if x = n then v else m x) (hs : Heap.SameBut X.env.locals s.heap h') :
    L2.Inv X pins (σ.set i none) H { s with heap := h', toks := t' } := by
  have neL : ∀ b o, X.s_0.heap.get? b = some o → b ≠ X.env.locals := fun b o e => Nat.ne_of_lt (Nat.lt_of_lt_of_le (Heap.lt_size e) I.ok.above)
  have cne : ∀ y c, X.env.cells.lookup y = some c → c ≠ X.env.locals := fun y c e => I.cne y c e
  refine ⟨I.ok, I.os, I.bare, ?_, ⟨_, hn', fun j y v' e1 e2 e3 => ?_⟩, fun y c e => (I.cell y c e).imp fun _ z => z.sameBut hs (cne y c e), I.free, I.freeC, fun p hp => ?_, fun b ob e => ?_, by rw [List.length_set]; exact I.len⟩
  · exact ⟨fun b o e q hb hx => (hs.2 b (neL b o e)).trans (I.base.keep b o e q hb hx), fun b o e q hb hx => (I.base.slot b o e q hb hx).imp fun _ z => (hs.2 b (neL b o e)).trans z, I.base.free,
      fun b o e hx => (I.base.there b o e hx).imp fun _ z => (hs.2 b (neL b o e)).trans z, I.base.tups, I.base.frzs, I.base.tbls⟩
  · have hj : j ≠ i := fun z => by
      subst z
      rw [List.getElem?_set] at e2
      simp only [if_true] at e2
      split at e2 <;> cases e2
    rw [List.getElem?_set_ne (Ne.symm hj)] at e2
    obtain ⟨u, r, q⟩ := hlk j y v' e1 e2 e3
    refine ⟨u, r, ?_⟩
    rcases q with ⟨k1, k2⟩ | ⟨k1, c, k2, k3⟩
    · refine .inl ⟨k1, ?_⟩
      have ny : y ≠ n := fun z => hj (nodup_ix hN e1 (z ▸ hi))
      simp only [ny, if_false]
      exact k2
    · exact .inr ⟨k1, c, k2, k3.sameBut hs (cne y c k2)⟩
  · obtain ⟨e1, e2, e3, e4, e5⟩ := I.pin p hp
    exact ⟨(hs.2 p.1 e3).trans e1, e2, e3, e4, e5⟩
  · refine (I.hok b ob e).stay (fun c w' hc q => (hs.2 c fun z => ?_).trans q) (fun _ q => q) fun _ _ q => q
    subst z
    have fr := I.free
    rcases hc with hc | hc
    · rw [hc, e] at fr; cases fr
    · rw [hc] at fr; cases fr
end
section
variable {X : Cx} {Wf Wout : WX} {i : Nat} {n : Str} {a : Addr} {oe : Obj} {pins : List (Addr × Obj)}
/-- noted by this frame -/
theorem sky_note {M : Model} {A : Around} {E₁ : Value → Shared → Prop} {env : PySem.Env} {outer : List PySem.Env} {L a : Addr} {B : Heap} {s : Shared} {Z : Obj → Prop} {Q : Unit → Shared → Prop} (hZ : HandSPX.Steady Z) (hfr : A.frames = some (env :: outer)) (hf : env.frame = some L)
    (x : Sky B (env :: outer) a Z L s.heap) (hQ : ∀ h', HandSPX.HeldZ B (env :: outer) a Z L h' → s.heap.UpToSlots h' → Q () { s with heap := h' }) : wpAny M A (noteFrame (.ref a) env) Q E₁ s := by
  rcases x with ⟨hB, hn, hl, oe, vs, he, hz, hd, h1⟩ | fl | hh
  · exact HandSPX.look_newZ hZ hfr hl hf he hB hn hd h1 hz hQ
  · exact HandSPX.looks_onZ hZ hfr hf fl hQ
  · exact HandSPX.againZ hf hh.2.2.2 (hQ s.heap hh (Heap.UpToSlots.refl _))
theorem as_out {u : Value} {s6 : Shared} {pos : Pos} {N : Value → Shared → Prop} {P : Value → Shared → Prop} (ok : X.Ok) (hs : X.stack = X.env :: X.outer) (hf : X.env.frame = some X.env.locals) (hN : X.N.Nodup) (hi : X.N[i]? = some n) (hl : X.env.kindOf n = some .local) (tk : L2.Takes X Wout)
    (hW : ∀ cls d σ H, Wf cls d σ H → Wout cls d (σ.set i none) H) (hN' : ∀ u s, X.xe u s → N u s)
    (x6 : L2.XE (X.suite a ((a, oe) :: (X.pn ++ pins))) Wf u s6) :
    wpAny (model X.prog X.w) (X.A.mark (some (.ref a))) (noteFrame u X.env) (fun _ s1 => wpAny (model X.prog X.w) (X.A.mark (some (.ref a))) (do bindName X.env n .none; unbindBehindTheSuite X.env n pos)
      (fun _ s2 => wpAny (model X.prog X.w) (X.A.mark (some (.ref a))) (passOn "try.except-as" u X.env : Sem Flow) (fun _ _ => False) N s2) P s1) N s6 := by
  obtain ⟨a2, B, sI, pins', σ, H, cls, d, rfl, I, nb, up, sky, na, os, ag, w⟩ := x6
  have hs' : (X.suite a ((a, oe) :: (X.pn ++ pins))).stack = X.env :: X.outer := hs
  have hfr : (X.A.mark (some (.ref a))).frames = some (X.env :: X.outer) := by
    have := I.ok.frames
    rw [hs'] at this
    exact this
  rw [hs'] at sky
  refine sky_note Zc.steady hfr hf sky fun h1 hh1 up1 => ?_
  obtain ⟨m, hn, hlk⟩ := id I.loc
  have upA := up.trans up1
  have hn1 : h1.Ns X.env.locals m := upA.ns hn
  have hcls : (X.env.scope.kind == .class || (X.env.scope.kind == .module && X.env.locals != X.env.globals)) = false := by rw [show X.env.scope.kind = _ from ok.kind]; rfl
  refine wpAny_nameGoes_keeps hl hn1 hcls fun h2 v hn2 hs2 => ?_
  obtain ⟨oL, es, ep, hoL, hdL, _⟩ := id hn2
  have hnfL : ∀ vs, oL.data ≠ .fields vs := fun vs z => by rw [hdL] at z; cases z
  obtain ⟨o1, es1, ep1, ho1, hd1, _⟩ := id hn1
  have notL : ∀ {b : Addr} {o : Obj} {vs : Array Value}, h1.get? b = some o → o.data = .fields vs → b ≠ X.env.locals := fun {b o vs} e dd z => by
    rw [z, ho1] at e
    cases e
    rw [hd1] at dd
    cases dd
  obtain ⟨k1, k2, k3, oe2, vs, T, oT, ts, t1, t2, t3, t4, t5, t6, t7, t8, t9⟩ := hh1
  have aL := notL t1 t3
  have TL := notL t7 t8
  have BL : B.get? X.env.locals = none := by
    obtain ⟨_, ⟨L, o, q1, q2, _⟩, _⟩ := k3
    rw [hf] at q1
    cases q1
    exact q2
  have hh2 : HandSPX.HeldZ B (X.env :: X.outer) a2 (Zc cls d) X.env.locals h2 := by
    refine ⟨fun b o e => ?_, k2, funFrames_alive (fun b o e dd => ?_) k3, oe2, vs, T, oT, ts, (hs2.2 _ aL).trans t1, t2, t3, t4, t5, t6, (hs2.2 _ TL).trans t7, t8, t9⟩
    · have hb : b ≠ X.env.locals := fun z => by rw [z, BL] at e; cases e
      exact (hs2.2 b hb).trans (k1 b o e)
    · by_cases hb : b = X.env.locals
      · subst hb
        exact ⟨oL, hoL, hnfL⟩
      · exact ⟨o, (hs2.2 b hb).trans e, dd⟩
  obtain ⟨e1, e2, e3, e4, e5, e6, e7, e8, e9⟩ := (show HandSPX.TracedZ h2 B a2 (Zc cls d) (rawInt X.env.locals) from hh2.2.2.2)
  -- the state without it
  obtain ⟨oI, esI, epI, hoI, hdI, _⟩ := id hn
  have sbI : Heap.SameBut X.env.locals sI.heap (sI.heap.update X.env.locals fun _ => oL) := Heap.SameBut.update _ _ _
  have oLfree : oL.isFreed = false := by
    clear hoL hnfL
    obtain ⟨c0, d0, dt0, sl0⟩ := oL
    dsimp only at hdL
    subst hdL
    rfl
  have atI : (sI.heap.update X.env.locals fun _ => oL).get? X.env.locals = some oL := Heap.get?_update_self (fun _ => oL) hoI oLfree
  have nsI : (sI.heap.update X.env.locals fun _ => oL).Ns X.env.locals fun x => if x = n then v else m x := by
    obtain ⟨o, es, ep, q1, q2⟩ := hn2
    rw [hoL] at q1
    cases q1
    exact ⟨oL, es, ep, atI, q2⟩
  have J := (Inv.nameGoes (t' := sI.toks) I hN hi hl hlk nsI sbI).unsuite ok
  unfold PySem.passOn
  apply wpAny_bind
  refine wpAny_field (hs2.2 _ aL |>.trans t1) t3 t4 ?_
  rw [if_neg (by simp)]
  have last : wpAny (model X.prog X.w) (X.A.mark (some (.ref a))) (setFlight (.ref a2) X.env.frame) (fun _ t => wpAny (model X.prog X.w) (X.A.mark (some (.ref a))) (throw (.ref a2) : Sem Flow) (fun _ _ => False) N t) N { s6 with heap := h2, toks := s6.toks + 1 } := by
    rw [hf]
    refine HandSPX.setFlight_onZ (s := { s6 with heap := h2, toks := s6.toks + 1 }) hh2 fun h3 hh3 up3 => wpAny_throw (hN' _ _ (tk _ _ ?_))
    refine ⟨a2, B, { sI with heap := sI.heap.update X.env.locals fun _ => oL, toks := sI.toks }, pins, σ.set i none, H, cls, d, rfl, J, fun b o e hb => ?_, fun b o e dd => ?_, .inr (.inr (hs ▸ hh3)), na, os, ag, hW _ _ _ _ w⟩
    · have bL : b ≠ X.env.locals := fun z => hb (by rw [z, hs]; exact List.mem_filterMap.mpr ⟨X.env, List.mem_cons_self, hf⟩)
      exact nb b o ((sbI.2 b bL).symm.trans e) hb
    · by_cases bL : b = X.env.locals
      · subst bL
        have e' : (sI.heap.update X.env.locals fun _ => oL).get? X.env.locals = some o := e
        rw [atI] at e'
        cases e'
        exact up3 _ _ hoL hnfL
      · obtain ⟨sl, q⟩ := upA b o ((sbI.2 b bL).symm.trans e) dd
        exact up3 b { o with slots := sl } ((hs2.2 b bL).trans q) dd
  first
    | exact wpAny_bind last
    | exact wpAny_bind (wpAny_pure (wpAny_bind last))
end
abbrev Cx.suiteF (X : Cx) (a : Addr) (pn : List (Addr × Obj)) (xe : Value → Shared → Prop) : Cx := { X with A := X.A.mark (some (.ref a)), calm := false, pn := pn, xe := xe }
def wFrom (K : PySem.W.Frag) (c : Value) (i : Nat) (ts : Addr → Value → L2.St → Hp → Prop) (Wout : WX) : WX := fun cls d σ H => ∃ b, PySem.W.exmOne K cls c = some b ∧
  (b = true → ∀ a : Addr, H a = none → i < σ.length → ts a cls (σ.set i (some (.ref a))) H) ∧ (b = false → Wout cls d σ H)
section
variable {X : Cx} {x n : Str} {c : Value} {i : Nat} {body suite : List Stmt} {b₀ : Stmt} {np pos pos' : Pos} {tb : WX → TS} {ts : Addr → Value → L2.St → Hp → Prop} {Wout : WX}
theorem ps_tryF (hex : X.ex = []) (hs : X.stack = X.env :: X.outer) (hf : X.env.frame = some X.env.locals) (hN : X.N.Nodup) (hi : X.N[i]? = some n) (hl : X.env.kindOf n = some .local) (hc : Names X x c) (tk : L2.Takes X Wout)
    (hpa : ∀ hd : Option Value, PassesOwnAt (model X.prog X.w) (X.A.mark hd) X.A X.env X.xe)
    (hb : ∀ (W : WX) (pn : List (Addr × Obj)) (xe : Value → Shared → Prop), L2N.Takes (X.tr pn xe) W → PassesOwn (model X.prog X.w) X.A X.env xe → PSs (X.tr pn xe) body (tb W))
    (hsu : ∀ (a : Addr) (oe : Obj) (cls : Value) (d : Option Addr) (pn : List (Addr × Obj)) (xe : Value → Shared → Prop), L2N.Zn cls d oe → (∃ vs, oe.data = .fields vs) → L2.Takes (Cx.suiteF X a ((a, oe) :: pn) xe) (fun cls d σ H => Wout cls d (σ.set i none) H) →
      PSs (Cx.suiteF X a ((a, oe) :: pn) xe) (b₀ :: suite) (fun _ σ H => ts a cls σ H)) :
    PS X (.Try body [.ExceptHandler (some (.Name x np)) (some n) (b₀ :: suite) pos'] [] [] pos) (fun D σ H => tb (wFrom X.K c i ts Wout) D σ H) := by
  constructor
  intro pins s σ H D I h
  apply wpAny_Try_except
  have ok := I.ok
  have B := hb (wFrom X.K c i ts Wout) (X.pn ++ pins) (fun e s1 => wpAny (model X.prog X.w) X.A (noteFrame e X.env) (fun _ s2 => wpAny (model X.prog X.w) X.A (setFlight e none)
    (fun _ s3 => wpAny (model X.prog X.w) X.A (handleBy e X.env [.ExceptHandler (some (.Name x np)) (some n) (b₀ :: suite) pos']) (SP X pins D) X.xe s3) X.xe s2) X.xe s1)
    (fun u t xx => caught ok hex hs hf xx fun a cls d B1 σ1 H1 g eu w Dn => by
      subst eu
      obtain ⟨b, e, yes, no⟩ := w
      apply wpAny_handleBy_cons (h := codeAny_handlers_test (Dn.reads hc ((Dn.fits e).here ?_)))
      · exact fun q => by cases q
      cases b with
      | false => exact Dn.on hf (takesN tk) (no rfl)
      | true =>
        apply codeAny_handlers_suite_as
        refine HandSPX.lands_againZ Dn.fl fun g2 fg ug => ?_
        have D2 := Dn.move fg ug
        obtain ⟨oe, vs, at_, z, dt⟩ := D2.fl.there
        have I2 := D2.here
        have nF : a ∉ X.fs := fun m => by
          obtain ⟨_, o, e0, _⟩ := ok.funs.mem m
          exact D2.young o e0
        have S2 := I2.suite at_ dt D2.free D2.frame nF
        refine store_ok (X := X.suite a ((a, oe) :: (X.pn ++ pins))) (v := .ref a) S2 hN hi (.inl hl) rfl (fun s5 S5 => ?_) (.inr hl)
        have tkF : L2.Takes (Cx.suiteF X a ((a, oe) :: (X.pn ++ pins)) fun u s => L2.XE (X.suite a ((a, oe) :: (X.pn ++ pins))) (fun cls d σ H => Wout cls d (σ.set i none) H) u s) (fun cls d σ H => Wout cls d (σ.set i none) H) := fun u2 s2 ⟨a2, B2, sI2, pn2, σ2, H2, cls2, d2, e2, J2, r2⟩ =>
          ⟨a2, B2, sI2, pn2, σ2, H2, cls2, d2, e2, Inv.wish (X := Cx.suiteF X a ((a, oe) :: (X.pn ++ pins)) fun u s => L2.XE (X.suite a ((a, oe) :: (X.pn ++ pins))) (fun cls d σ H => Wout cls d (σ.set i none) H) u s) J2 fun _ _ => False, r2⟩
        have S6 : L2.Inv (Cx.suiteF X a ((a, oe) :: (X.pn ++ pins)) fun u s => L2.XE (X.suite a ((a, oe) :: (X.pn ++ pins))) (fun cls d σ H => Wout cls d (σ.set i none) H) u s) [] (σ1.set i (some (.ref a))) H1 s5 := Inv.wish (X := X.suite a ((a, oe) :: (X.pn ++ pins))) S5 _
        have hlt : i < σ1.length := by
          rw [I2.len]
          exact (List.getElem?_eq_some_iff.mp hi).1
        refine wpAny_mono ((hsu a oe cls d (X.pn ++ pins) _ z ⟨_, dt⟩ tkF).run [] s5 _ H1 { nx := fun _ _ => False, rt := fun _ _ => False } S6 (yes rfl a D2.free hlt)) (fun f s6 e6 => ?_) fun u s6 x6 => ?_
        · cases f with
          | ret u => exact e6.elim fun _ e => e.elim fun _ e => e.elim fun _ e => e.2.2.elim
          | next => exact e6.elim fun _ e => e.elim fun _ e => e.2.elim
          | brk => exact e6.elim fun _ e => e.elim fun _ e => e.2.elim
          | cont => exact e6.elim fun _ e => e.elim fun _ e => e.2.elim
        · exact as_out ok hs hf hN hi hl tk (fun _ _ _ _ w => w) (fun u s x => hpa _ u s x) x6)
    PassesOwn.looking
  refine wpAny_mono (B.run [] s σ H D (I.toTry _) h) (fun f t e => ?_) fun _ _ z => z
  cases f with
  | ret u => exact e.imp fun _ e => e.imp fun _ e => e.imp fun _ e => ⟨e.1.ofTry I.ok, e.2⟩
  | next => exact wpAny_execs_nil (e.imp fun _ e => e.imp fun _ e => ⟨e.1.ofTry I.ok, e.2⟩)
  | brk => exact e.imp fun _ e => e.imp fun _ e => ⟨e.1.ofTry I.ok, e.2⟩
  | cont => exact e.imp fun _ e => e.imp fun _ e => ⟨e.1.ofTry I.ok, e.2⟩
end
def sTryFrom (cl : List Str) (C : Str) (i : Nat) (c : Str) (e : ME) (b : MS) : MS := fun env M => match b env M with
  | .exc x env1 M1 => if x.cls ∈ cl ∧ subX x.cls C = true then (match e (env1.set i none) M1 with | .ok (.int j) M2 => .exc ⟨c, some j⟩ (env1.set i none) M2 | _ => .stuck) else .stuck
  | o => o
/-- an __init__ that is called while an exception is handled -/
structure IniH (P : Program) (w : World) (K : PySem.W.Frag) (mg : Str → Option Value) (base : Heap) (c : Str) (k : Nat) : Prop where
  ex : ∃ fd, L2H.FnH P w K mg base (L2.CX P w) k (He.ma K (He.ga K c) "__init__") fd ["self", "at"] (spIni (He.ga K c)) ∧ Binds K fd ["self", "at"] []
theorem iniOkH {P : Program} {w : World} {K : PySem.W.Frag} {mg : Str → Option Value} {base : Heap} {c x qual : Str} {m : Str} {params : Arguments} {body : List Stmt} {scope : Scope} {k : Nat} (E1 : ExI K mg c) (F : ∃ fd, FunD K x qual params body scope [] [] (He.ma K (He.ga K c) "__init__") fd) (S : FnScope ["self", "at"] ["self", "at"] scope)
    (hbind : ∀ (kV doc pm : Value) (an : Option Addr) (cdv ct : Value) (us : List Value), us.length = 2 → bindArgs (PySem.W.fnOf x qual params body scope .none kV doc pm an cdv ct) ⟨us, []⟩ = pure ((["self", "at"] : List Str).zip us))
    (hbody : ∀ (cdv : Value) (A : Around) (outer : List PySem.Env) (s : Shared) (H : Hp) (E : XK) (p : Addr × Obj),
      PSs (L2H.cxH (L2.CX P w) P w K mg base ["self", "at"] qual scope (He.ma K (He.ga K c) "__init__") cdv A outer s H E p) body (tSeq (tDrop (tVeI K (tCons (tVar 0) (tCons (tC (.str m)) tNil)))) (tOst K "at" (tVar 0) (tVar 1)))) :
    IniH P w K mg base c (k + 1) := by
  obtain ⟨fd, F⟩ := F
  have hb : Binds K fd ["self", "at"] [] := F.bindsN hbind
  obtain ⟨_, _, _, _, _, _, _, cd, _, _, rfl, at_, code, _, _⟩ := F.ex
  refine ⟨_, L2H.fn_ofH at_ code S (fun vs H Q E h => by obtain ⟨a, y, rfl, _⟩ := h; rfl) ?_, hb⟩
  rintro A outer s H vs Q E p _ _ ⟨a, y, rfl, ha, hq⟩
  refine ⟨_, hbody cd A outer s H E p, ?_⟩
  refine ⟨.ref a, rfl, a, He.ga K c, [.str m], rfl, (show (1 : Nat) ≤ 1000 by decide), E1.T, ha, ?_⟩
  exact ⟨y, rfl, .ref a, rfl, a, He.ga K c, rfl, E1.T, E1.no, .inl ⟨ha, fun dx h1 h2 => hq dx h1 h2⟩⟩
/-- classes that may be raised -/
def rsB (K : PySem.W.Frag) (cl : List Str) : Bool := cl.all fun c => decide (PySem.W.subIn K (.ref (He.ga K c)) (.type "BaseException") = some true) && decide (PySem.W.typeIn K (.ref (He.ga K c)) = some (.type "type"))
theorem rs_of {X : Cx} {cl : List Str} (h : rsB X.K cl = true) {c : Str} (hc : c ∈ cl) : L2.Raises X (.ref (He.ga X.K c)) := by
  have := List.all_eq_true.mp h c hc
  obtain ⟨h1, h2⟩ := He.ba this
  exact raises_own (of_decide_eq_true h1) (of_decide_eq_true h2)
theorem EnvR.hide {K : PySem.W.Frag} {ι : List Addr} {H : Hp} {v : V} : ∀ {env : TL.Env} {σ : L2.St} (i : Nat), EnvR K ι H env σ → EnvR K ι H (env.set i none) (σ.set i (some v))
  | _, _, _, .nil => .nil
  | _, _, 0, .cons _ t => .cons trivial t
  | _, _, i + 1, .cons q t => .cons q (EnvR.hide i t)
/-- a context whose exceptions may have a context of their own -/
structure CtxZ (X : Cx) (W : WX) (k : Nat) : Prop where
  ctx : Ctx X W k
  tk : L2.Takes X W
section
variable {X : Cx} {W : WX} {k k' : Nat} {body : List Stmt} {x n c : Str} {i : Nat} {e : Expr} {me : ME} {mb : MS} {cl : List Str} {np np2 p pos1 pos2 pos' pos : Pos}
theorem ds_tryFrom (C : CtxZ X W k') (hb : ∀ (W' : WX) (pn : List (Addr × Obj)) (xe : Value → Shared → Prop), Ctx (X.tr pn xe) W' k' → PSs (X.tr pn xe) body (LS X.K W' mb))
    (hg : Gl X x) (hdb : (x == ("__debug__" : Str)) = false) (hm : X.mg x = some (.ref (He.ga X.K x))) (hsub : ∀ c ∈ cl, PySem.W.exmOne X.K (.ref (He.ga X.K c)) (.ref (He.ga X.K x)) = some (subX c x)) (hi : X.N[i]? = some n) (hl : X.env.kindOf n = some .local) (hdn : (n == ("__debug__" : Str)) = false)
    (hr : rsB X.K cl = true) (F : ExI X.K X.mg c) (F1 : IniH X.prog X.w X.K X.mg X.base c k) (hk : k + 1 ≤ k') (hgc : Gl X c) (hdc : (c == ("__debug__" : Str)) = false)
    (he : ∀ (a : Addr) (pn : List (Addr × Obj)) (xe : Value → Shared → Prop), PE (Cx.suiteF X a pn xe) e (LE X.K W0 me)) (hst : starEach [e] X.env = (false, eval e X.env) :: starEach [] X.env) (hpl : (backTo pos1 (starEach [] X.env)).any (·.1) = false)
    (hpa : ∀ hd : Option Value, PassesOwnAt (model X.prog X.w) (X.A.mark hd) X.A X.env X.xe)
    (hex : X.ex = [] := by rfl) (hs : X.stack = X.env :: X.outer := by rfl) (hf : X.env.frame = some X.env.locals := by rfl) :
    PS X (.Try body [.ExceptHandler (some (.Name x np)) (some n) [.Raise (some (.Call (.Name c p) [e] [] pos1)) (some (.Name n np2)) pos2] pos'] [] [] pos) (LS X.K W (sTryFrom cl x i c me mb)) := by
  obtain ⟨fd, F2, hbi⟩ := F1.ex
  refine (ps_tryF hex hs hf C.ctx.nd hi hl ⟨hg, hdb, .inl hm⟩ C.tk hpa (tb := fun W' => LS X.K W' mb)
    (ts := fun a cls σ H => L2.Raises X cls ∧ tMkO (He.ga X.K c) (spIni (He.ga X.K c)) [] (LA X.K W0 (aCons me aNil)) σ H fun cls' d' H' => σ[i]? = some (some (.ref a)) ∧ W cls' d' (σ.set i none) H')
    (fun W' pn xe tk ps => hb W' pn xe (C.ctx.tr tk ps)) (fun a oe cls d pn xe hz hd tkF => ?_)).imp fun En σ H want => ?_
  · obtain ⟨vs, hd⟩ := hd
    have hot : L2H.Hot1 (Cx.suiteF X a ((a, oe) :: pn) xe).A (a, oe) := ⟨rfl, vs, hd, hz.2.2 vs hd⟩
    have hin : (a, oe) ∈ (Cx.suiteF X a ((a, oe) :: pn) xe).pn := List.mem_cons_self
    have mk := L2H.pmk5_oexH (X := Cx.suiteF X a ((a, oe) :: pn) xe) (pos := pos1) (p := p) F.T F.m.at_ (eq_of_beq F.m.fn) F2 (L2H.roomH_mark (C.ctx.room.mono hk) _) ⟨(a, oe), hot, hin⟩ hbi (L2.passes_call tkF fun _ _ _ _ z => z.elim) hgc F.g (da_cons (he a _ _) da_nil hst) hdc hst hpl
    refine pss_one ⟨fun pins s σ H D I ⟨rp, want⟩ => ?_⟩
    refine (ps_raiseF (X := Cx.suiteF X a ((a, oe) :: pn) xe) (W := fun cls d σ H => W cls d (σ.set i none) H) (p := (a, oe)) hot hin ?_ hi hl hdn tkF mk).run pins s σ H D I want
    show L2.Raises X oe.cls
    rw [hz.1]
    exact rp
  · obtain ⟨ι, env, M, S, R, h⟩ := want
    refine ⟨ι, env, M, S, R, ?_⟩
    unfold sTryFrom at h
    revert h
    cases mb env M with
    | next env1 M1 => exact fun h => h
    | ret d M1 => exact fun h => h
    | stuck => exact fun h => h
    | exc y env1 M1 =>
      intro h ι1 σ1 H1 cls dx e1 S1 R1 ex
      have h0 : SOutP X.K W ι H (if y.cls ∈ cl ∧ subX y.cls x = true then (match me (env1.set i none) M1 with | .ok (.int j) M2 => .exc ⟨c, some j⟩ (env1.set i none) M2 | _ => .stuck) else .stuck) En := h
      have hy : y.cls ∈ cl ∧ subX y.cls x = true := Classical.byContradiction fun hy => by
        rw [if_neg hy] at h0
        exact h0
      rw [if_pos hy] at h0
      obtain ⟨ec, _⟩ := ex
      refine ⟨true, by rw [ec, hsub _ hy.1, hy.2], fun _ a na hlt => ⟨by rw [ec]; exact rs_of hr hy.1, ?_⟩, fun z => by cases z⟩
      have h1 := SOutP.ext e1 h0
      refine ⟨ι1, env1.set i none, M1, S1, R1.hide i, ?_⟩
      have slot : (σ1.set i (some (V.ref a)))[i]? = some (some (.ref a)) := List.getElem?_set_self hlt
      have two : (σ1.set i (some (V.ref a))).set i none = σ1.set i none := List.set_set ..
      revert h1
      unfold aCons aNil
      cases q : me (env1.set i none) M1 with
      | stuck => exact fun h => h
      | exc x M2 => exact fun h => h.elim
      | ok d M2 =>
        cases d with
        | int j =>
          intro h ι2 H2 e2 S2 vs rv
          cases rv with
          | cons r0 rn =>
            cases rn
            cases r0
            refine ⟨(show (1 : Nat) ≤ 1000 by decide), fun b nb => ⟨b, .int j, rfl, upd_same, fun dx hd ne => ⟨rfl, dx, _, upd_same, by rw [upd_ne ne]; exact upd_same, by rw [upd_ne ne] at hd; exact hd, slot, ?_⟩⟩⟩
            have hd' : H2 dx = none := by rw [upd_ne ne] at hd; exact hd
            have eH : upd (del (upd (upd (upd H2 b (exo b (He.ga X.K c) none)) dx (exd dx [(("at" : Str), V.int j)])) b (exo b (He.ga X.K c) (some dx))) b) dx (.xd [(("at" : Str), V.int j)]) = upd H2 dx (.xd [(("at" : Str), V.int j)]) := by
              funext b'
              by_cases c1 : b' = dx
              · rw [c1, upd_same, upd_same]
              · rw [upd_ne c1, upd_ne c1]
                by_cases c2 : b' = b
                · rw [c2, del_same, nb]
                · rw [del_ne c2, upd_ne c2, upd_ne c1, upd_ne c2]
            rw [eH, two]
            have e3 : Ext X.K ι2 H2 ι2 (upd H2 dx (.xd [(("at" : Str), V.int j)])) := Ext.new hd'
            exact h ι2 _ _ _ _ (e2.trans e3) (S2.new hd') ((R1.unset i).ext (e2.trans e3)) ⟨rfl, .inr ⟨j, dx, rfl, rfl, upd_same⟩⟩
        | _ => exact fun h => h.elim
end
end TL
end
section
set_option maxHeartbeats 4000000
namespace TL
open PySem PySem.Spec PyProof.Rows L2
/-- an exception has come down at a in the frame of X: what is so of the state, the record of its way in whatever form -/
structure DownZ (X : Cx) (pins : List (Addr × Obj)) (σ : L2.St) (H : Hp) (a : Addr) (cls : Value) (d : Option Addr) (B : Heap) (s : Shared) (h : Heap) : Prop where
  fl : HandSPX.FlyingZ B (X.env :: X.outer) a (Zc cls d) h
  inv : ∀ g, HandSPX.FlyingZ B (X.env :: X.outer) a (Zc cls d) g → h.UpToSlots g → Inv X pins σ H { s with heap := g }
  up : ∀ g, HandSPX.HeldZ B (X.env :: X.outer) a (Zc cls d) X.env.locals g → h.UpToSlots g → ∀ W : WX, W cls d σ H → L2.XE X W (.ref a) { s with heap := g }
  free : H a = none
  young : ∀ o, X.s_0.heap.get? a ≠ some o
  apart : ∀ p ∈ X.pn ++ pins, p.1 ≠ a
  frame : a ≠ X.env.locals
section
variable {X : Cx} {pins : List (Addr × Obj)} {σ : L2.St} {H : Hp} {a : Addr} {cls : Value} {d : Option Addr} {B : Heap} {s : Shared} {h g : Heap}
theorem DownZ.move (D : DownZ X pins σ H a cls d B s h) (fl : HandSPX.FlyingZ B (X.env :: X.outer) a (Zc cls d) g) (u : h.UpToSlots g) : DownZ X pins σ H a cls d B s g :=
  { D with fl := fl, inv := fun g' f' u' => D.inv g' f' (u.trans u'), up := fun g' f' u' => D.up g' f' (u.trans u') }
theorem DownZ.here (D : DownZ X pins σ H a cls d B s h) : Inv X pins σ H { s with heap := h } := D.inv h D.fl (Heap.UpToSlots.refl h)
/-- the suite begins: the exception is tracked -/
theorem DownZ.suite (D : DownZ X pins σ H a cls d B s h) : ∃ oe : Obj, Zc cls d oe ∧ (∃ vs, oe.data = .fields vs) ∧ Inv (Cx.suiteT X a (X.pn ++ pins)) [] σ (upd H a (errO oe)) { s with heap := h } := by
  obtain ⟨oe, vs, at_, z, dt⟩ := D.fl.there
  exact ⟨oe, z, ⟨vs, dt⟩, Inv.goSuite (Inv.adopt D.here D.young D.apart at_ dt D.free D.frame) a⟩
/-- the clause's class is read -/
theorem DownZ.reads {x : Str} {c : Value} {np : Pos} (D : DownZ X pins σ H a cls d B s h) (hc : Names X x c) {Q : Value → Shared → Prop} {E : Value → Shared → Prop} (q : Q c { s with heap := h }) :
    wpAny (model X.prog X.w) (X.A.mark (some (.ref a))) (eval (.Name x np) X.env) Q E { s with heap := h } := by
  have I : Inv (Cx.suiteT X a (X.pn ++ pins)) [] σ H { s with heap := h } := Inv.goSuite D.here a
  obtain ⟨g, nd, m | ⟨m, v, nn⟩⟩ := hc
  · exact ld_glob I g m q nd
  · exact ld_blt I g m v q nn nd
/-- the clause's class is held against it -/
theorem DownZ.fits {c : Value} {b : Bool} (D : DownZ X pins σ H a cls d B s h) (e : PySem.W.exmOne X.K cls c = some b) : PySem.W.Looks (model X.prog X.w) h (excMatches (.ref a) c) b := by
  obtain ⟨oe, vs, at_, z, dt⟩ := D.fl.there
  refine PySem.W.exm_one D.here.kIn ?_ e
  intro A Q E s1 k q
  exact wpAny_typeOf_ref (k _ _ at_) (z.1 ▸ q)
/-- no clause takes it: it goes on -/
theorem DownZ.on {W : WX} {Q : Flow → Shared → Prop} (D : DownZ X pins σ H a cls d B s h) (hf : X.env.frame = some X.env.locals) (tk : L2.Takes X W) (w : W cls d σ H) :
    wpAny (model X.prog X.w) X.A (handleBy (.ref a) X.env []) Q X.xe { s with heap := h } := by
  obtain ⟨_, _, _, oe, vs, T, _, _, at_, _, dt, v1, _⟩ := D.fl
  have last : wpAny (model X.prog X.w) X.A (setFlight (.ref a) X.env.frame) (fun _ t => wpAny (model X.prog X.w) X.A (throw (.ref a) : Sem Flow) Q X.xe t) X.xe { s with heap := h } := by
    rw [hf]
    exact HandSPX.setFlight_upZ D.fl fun g hg ug => wpAny_throw (tk _ _ (D.up g hg ug W w))
  apply wpAny_handleBy_nil
  show wpAny _ _ (PySem.passOn _ _ _) _ _ _
  unfold PySem.passOn
  apply wpAny_bind
  refine wpAny_field at_ dt v1 ?_
  rw [if_neg (by simp)]
  first
    | exact wpAny_bind last
    | exact wpAny_bind (wpAny_pure (wpAny_bind last))
end
/-- what was raised in the body of a try, where it is caught -/
theorem caughtZ {X : Cx} {pins : List (Addr × Obj)} {W : WX} {u : Value} {s : Shared} {xe : Value → Shared → Prop} {Q : Unit → Shared → Prop} {E : Value → Shared → Prop} (ok : X.Ok) (hex : X.ex = []) (hs : X.stack = X.env :: X.outer) (hf : X.env.frame = some X.env.locals)
    (x : L2.XE (X.tr (X.pn ++ pins) xe) W u s) (go : ∀ (a : Addr) (cls : Value) (d : Option Addr) (B : Heap) (σ : L2.St) (H : Hp) (h : Heap), u = .ref a → W cls d σ H → DownZ X pins σ H a cls d B s h → Q () { s with heap := h }) :
    wpAny (model X.prog X.w) X.A (noteFrame u X.env) (fun _ t => wpAny (model X.prog X.w) X.A (setFlight u none) Q E t) E s := by
  obtain ⟨a, B, s1, pn1, σ1, H1, cls, d, rfl, I1, ground, up1, sky, free, os1, bare1, w1⟩ := x
  have I : Inv X pins σ1 H1 s1 := I1.ofTry ok
  have fr : X.A.frames = some (X.env :: X.outer) := hs ▸ ok.frames
  have sk : Sky B (X.env :: X.outer) a (Zc cls d) X.env.locals s.heap := hs ▸ sky
  refine L2.Sky.land Zc.steady fr hf sk fun h fl up2 => go a cls d B σ1 H1 h rfl w1 ?_
  have inv : ∀ g, HandSPX.FlyingZ B (X.env :: X.outer) a (Zc cls d) g → h.UpToSlots g → Inv X pins σ1 H1 { s with heap := g } := fun g fg ug => I.landed ground fg.1 ((up1.trans up2).trans ug) os1 bare1
  obtain ⟨oe, vs, at_, _, dt⟩ := fl.there
  have noFrame : a ∉ frs (X.env :: X.outer) := by
    intro m
    obtain ⟨_, o, e, nf⟩ := fl.2.2.1.mem m
    rw [at_] at e
    cases e
    exact nf _ dt
  have nL : a ≠ X.env.locals := fun z => noFrame (List.mem_filterMap.mpr ⟨X.env, List.mem_cons_self, z ▸ hf⟩)
  have old : ∀ b o, s1.heap.get? b = some o → b ∉ frs (X.env :: X.outer) → b ≠ a := by
    intro b o e nb z
    have e2 := ground b o e (hs ▸ nb)
    rw [z, fl.2.1] at e2
    cases e2
  refine { fl := fl, inv := inv, free := free, frame := nL, up := fun g fg ug V v => ?_, young := fun o e => ?_, apart := fun p hp => ?_ }
  · exact ⟨a, B, s1, pins, σ1, H1, cls, d, rfl, I, ground, (up1.trans up2).trans ug, .inr (.inr (hs ▸ fg)), free, os1, bare1, v⟩
  · obtain ⟨o1, e1⟩ := I.base.there a o e (hex ▸ List.not_mem_nil)
    exact old a o1 e1 noFrame rfl
  · obtain ⟨e1, _, n1, n2, _⟩ := I.pin p hp
    refine old p.1 p.2 e1 fun m => ?_
    exact (List.mem_cons.mp (I.stkSub p.1 (hs ▸ m))).elim n1 n2
section
variable {X : Cx} {pins : List (Addr × Obj)} {D : Ends}
/-- the clauses, one after the other -/
theorem clausesZ {Wout : WX} {σ : L2.St} {H : Hp} {a : Addr} {cls : Value} {d : Option Addr} {B : Heap} {s : Shared} {h : Heap} (ok : X.Ok) (hf : X.env.frame = some X.env.locals) (hN : X.N.Nodup) (tk : L2.Takes X Wout) (Dn : DownZ X pins σ H a cls d B s h) :
    ∀ {hds : List ExceptHandler} {l : List Hd}, HdsT X hds l → wHds X.K Wout D l cls d σ H → wpAny (model X.prog X.w) X.A (handleBy (.ref a) X.env hds) (SP X pins D) X.xe { s with heap := h }
  | _, _, .nil, w => Dn.on hf tk w
  | _, _, .one hc hsu r, ⟨b, e, yes, no⟩ => by
    apply wpAny_handleBy_cons (h := codeAny_handlers_test (Dn.reads hc ((Dn.fits e).here ?_)))
    · exact fun q => by cases q
    cases b with
    | false => exact clausesZ ok hf hN tk Dn r (no rfl)
    | true =>
      apply codeAny_handlers_suite
      refine HandSPX.lands_againZ Dn.fl fun g fg ug => ?_
      obtain ⟨oe, z, dt, I⟩ := (Dn.move fg ug).suite
      exact wpAny_mono ((hsu a _).run _ _ _ _ _ I (yes rfl a oe Dn.free z dt)) (fun f t e => end_plain ok e) fun _ _ z => z.elim
  | _, _, .as hc hi hln hsu r, ⟨b, e, yes, no⟩ => by
    apply wpAny_handleBy_cons (h := codeAny_handlers_test (Dn.reads hc ((Dn.fits e).here ?_)))
    · exact fun q => by cases q
    cases b with
    | false => exact clausesZ ok hf hN tk Dn r (no rfl)
    | true =>
      apply codeAny_handlers_suite_as
      refine HandSPX.lands_againZ Dn.fl fun g fg ug => ?_
      obtain ⟨oe, z, dt, I⟩ := (Dn.move fg ug).suite
      refine store_ok (X := Cx.suiteT X a (X.pn ++ pins)) (v := .ref a) I hN hi (.inl hln) rfl (fun t J => ?_) (.inr hln)
      exact wpAny_mono ((hsu a _).run _ _ _ _ _ J (yes rfl a oe Dn.free z dt)) (fun f t e => end_named ok hN hi hln e) fun _ _ z => z.elim
end
section
variable {X : Cx} {body : List Stmt} {h0 : ExceptHandler} {hds : List ExceptHandler} {l : List Hd} {pos : Pos} {tb : WX → TS} {Wout : WX}
theorem ps_tryZ (hex : X.ex = []) (hs : X.stack = X.env :: X.outer) (hf : X.env.frame = some X.env.locals) (hN : X.N.Nodup) (tk : L2.Takes X Wout)
    (hb : ∀ (W : WX) (pn : List (Addr × Obj)) (xe : Value → Shared → Prop), L2.Takes (X.tr pn xe) W → PassesOwn (model X.prog X.w) X.A X.env xe → PSs (X.tr pn xe) body (tb W))
    (hh : HdsT X (h0 :: hds) l) : PS X (.Try body (h0 :: hds) [] [] pos) (fun D σ H => tb (wHds X.K Wout D l) D σ H) := by
  constructor
  intro pins s σ H D I h
  apply wpAny_Try_except
  have B := hb (wHds X.K Wout D l) (X.pn ++ pins) (fun e s1 => wpAny (model X.prog X.w) X.A (noteFrame e X.env) (fun _ s2 => wpAny (model X.prog X.w) X.A (setFlight e none)
    (fun _ s3 => wpAny (model X.prog X.w) X.A (handleBy e X.env (h0 :: hds)) (SP X pins D) X.xe s3) X.xe s2) X.xe s1)
    (fun u t x => caughtZ I.ok hex hs hf x fun a cls d B σ1 H1 g eu w Dn => by subst eu; exact clausesZ I.ok hf hN tk Dn hh w) PassesOwn.looking
  refine wpAny_mono (B.run [] s σ H D (I.toTry _) h) (fun f t e => ?_) fun _ _ z => z
  cases f with
  | ret u => exact e.imp fun _ e => e.imp fun _ e => e.imp fun _ e => ⟨e.1.ofTry I.ok, e.2⟩
  | next => exact wpAny_execs_nil (e.imp fun _ e => e.imp fun _ e => ⟨e.1.ofTry I.ok, e.2⟩)
  | brk => exact e.imp fun _ e => e.imp fun _ e => ⟨e.1.ofTry I.ok, e.2⟩
  | cont => exact e.imp fun _ e => e.imp fun _ e => ⟨e.1.ofTry I.ok, e.2⟩
end
def hdsAll (x : Ex) : List HdM → MS
  | [] => fun _ _ => .stuck
  | h :: r => fun env M => if subX x.cls h.C = true then undoS h.slot (h.m (setE env h.slot (some (.err x))) M) else hdsAll x r env M
def sTryA (cl : List Str) (b : MS) (hs : List HdM) : MS := fun env M => match b env M with
  | .exc x env1 M1 => if x.cls ∈ cl then hdsAll x hs env1 M1 else .stuck
  | o => o
section
variable {K : PySem.W.Frag} {En : Ends}
theorem wHdsA_of {W : WX} {x : Ex} {cl : List Str} (hx : x.cls ∈ cl) {cls : Value} {dx : Option Addr} {ι : List Addr} {σ : L2.St} {H : Hp} {env : TL.Env} {M : Mem} (S : SR K ι H M) (R : EnvR K ι H env σ) (ex : ExR K ι x cls dx H) :
    ∀ {l : List HdM}, (∀ h ∈ l, ∀ c ∈ cl, PySem.W.exmOne K (.ref (He.ga K c)) (.ref (He.ga K h.C)) = some (subX c h.C)) → SOutP K W ι H (hdsAll x l env M) En → wHds K W0 En (l.map (HdM.hd K)) cls dx σ H
  | [], _, h => h.elim
  | hd :: l, hs, h => by
    obtain ⟨ec, ed⟩ := ex
    have h0 : SOutP K W ι H (if subX x.cls hd.C = true then undoS hd.slot (hd.m (setE env hd.slot (some (.err x))) M) else hdsAll x l env M) En := h
    refine ⟨subX x.cls hd.C, by rw [ec]; exact hs hd List.mem_cons_self _ hx, fun hb a oe na hz hv => ?_, fun hb => ?_⟩
    · rw [if_pos hb] at h0
      obtain ⟨vs, hv⟩ := hv
      have e1 : Ext K ι H ι (upd H a (errO oe)) := Ext.new na
      have h1 := SOutP.ext e1 h0
      have er : ErrAt K (upd H a (errO oe)) a x := by
        refine ⟨oe, vs, upd_same, hz.1.trans ec, hv, rfl, ?_⟩
        rw [hz.2]
        rcases ed with ed | ⟨i, d, e1, e2, e3⟩
        · exact .inl ed
        · exact .inr ⟨i, d, e1, e2, by rw [upd_ne (ne_of_none e3 na)]; exact e3⟩
      refine ⟨ι, _, M, S.new na, (R.ext e1).setO (.err er) hd.slot, ?_⟩
      revert h1
      cases hd.m (setE env hd.slot (some (.err x))) M with
      | next env2 M2 => exact fun h1 ι2 σ2 H2 e2 S2 R2 => h1 ι2 _ H2 e2 S2 (R2.unsetO hd.slot)
      | ret d M2 => exact fun h1 => h1
      | exc y env2 M2 => exact fun h1 => h1.elim
      | stuck => exact fun h1 => h1
    · rw [if_neg (by rw [hb]; exact Bool.false_ne_true)] at h0
      exact wHdsA_of hx S R ⟨ec, ed⟩ (fun h hh => hs h (List.mem_cons_of_mem _ hh)) h0
end
section
variable {X : Cx} {W : WX} {k : Nat} {body : List Stmt} {h₀ : ExceptHandler} {hds : List ExceptHandler} {l : List HdM} {cl : List Str} {mb : MS} {pos : Pos}
theorem ds_tryA (C : Ctx X W k) (hb : ∀ (W' : WX) (pn : List (Addr × Obj)) (xe : Value → Shared → Prop), CtxZ (X.tr pn xe) W' k → PSs (X.tr pn xe) body (LS X.K W' mb)) (hh : HdsM X cl (h₀ :: hds) l)
    (hex : X.ex = [] := by rfl) (hs : X.stack = X.env :: X.outer := by rfl) (hf : X.env.frame = some X.env.locals := by rfl) : PS X (.Try body (h₀ :: hds) [] [] pos) (LS X.K W (sTryA cl mb l)) :=
  (ps_tryZ (Wout := W0) hex hs hf C.nd (fun _ _ ⟨_, _, _, _, _, _, _, _, _, _, _, _, _, _, _, _, w⟩ => w.elim) (tb := fun W' => LS X.K W' mb) (fun W' pn xe tk ps => hb W' pn xe ⟨C.tr (takesN tk) ps, tk⟩) hh.hds).imp fun En σ H ⟨ι, env, M, S, R, h⟩ => ⟨ι, env, M, S, R, by
    unfold sTryA at h
    revert h
    cases mb env M with
    | next env1 M1 => exact fun h => h
    | ret d M1 => exact fun h => h
    | stuck => exact fun h => h
    | exc x env1 M1 =>
      intro h ι1 σ1 H1 cls dx e1 S1 R1 ex
      have h0 : SOutP X.K W ι H (if x.cls ∈ cl then hdsAll x l env1 M1 else .stuck) En := h
      by_cases hx : x.cls ∈ cl
      · rw [if_pos hx] at h0
        exact wHdsA_of hx S1 R1 ex hh.sub (SOutP.ext e1 h0)
      · rw [if_neg hx] at h0
        exact h0.elim⟩
end
structure CalleeZ (P : Program) (w : World) (K : PySem.W.Frag) (mg : Str → Option Value) (base : Heap) (x : Str) (n k : Nat) (m : Fn) : Prop where
  ex : ∃ (f : Addr) (fd : FuncData) (ps : List Str), FnOk P w K mg base (L2.CX P w) k f fd ps (spD K n m) ∧ mg x = some (.ref f) ∧ PySem.W.keepIn K (.ref f) = true ∧ Binds K fd ps [] ∧ ps.length = n
  len : ∀ ds M, ds.length ≠ n → m ds M = .stuck
structure CalleeMZ (P : Program) (w : World) (K : PySem.W.Frag) (mg : Str → Option Value) (base : Heap) (c m : Str) (n k : Nat) (dd : List D) (fn : Fn) : Prop where
  ex : ∃ (fd : FuncData) (ps : List Str) (dvs : List V) (ds : List Value), FnOk P w K mg base (L2.CX P w) k (He.ma K (He.ga K c) m) fd ps (spD K n fn) ∧ Binds K fd ps ds ∧ Vals dvs ds ∧ (∀ ι H, RpA K ι H dd dvs)
  len : ∀ ds M, ds.length ≠ n → fn ds M = .stuck
  cls : Cls K (He.ga K c)
  meth : Meth K (He.ga K c) m (He.ma K (He.ga K c) m)
section
variable {P : Program} {w : World} {K : PySem.W.Frag} {mg : Str → Option Value} {base : Heap}
theorem okFz {x qual : Str} {params : Arguments} {body : List Stmt} {scope : Scope} {f : Addr} {fd : FuncData} {N ps : List Str} {k : Nat} {mb : MS} (F : FunD K x qual params body scope [] [] f fd) (S : FnScope N ps scope)
    (hbody : ∀ (cdv : Value) (A : Around) (outer : List PySem.Env) (s : Shared) (H : Hp) (E : XK), let X := cxOf (L2.CX P w) P w K mg base N qual scope f cdv A outer s H E
      CtxZ X (fun cls d _ H => E cls d H) k → PSs X body (LS K (fun cls d _ H => E cls d H) mb)) :
    FnOk P w K mg base (L2.CX P w) (k + 1) f fd ps (spD K ps.length (fnD ps.length N.length mb)) := by
  refine F.ok S (fun vs H Q E h => h.1) ?_
  rintro cdv A outer s H vs Q E room ⟨many, ι, ds, M, SS, rs, h⟩
  have C : CtxZ (cxOf (L2.CX P w) P w K mg base N qual scope f cdv A outer s H E) (fun cls d _ H => E cls d H) k := ⟨⟨rfl, S.nd, room, takesN (L2.takes_of rfl rfl rfl rfl), passes_of rfl⟩, L2.takes_of rfl rfl rfl rfl⟩
  have h' : OutP K E ι H (endS (mb (startE N.length ds) M)) (VR K Q) := by
    unfold fnD at h
    rwa [if_pos (by rw [rs.length]; exact many)] at h
  have R0 : EnvR K ι H (startE N.length ds) (L2.start N vs) := by
    unfold startE L2.start
    rw [rs.length]
    exact envR_start rs _
  refine ⟨_, hbody cdv A outer s H E C, ι, startE N.length ds, M, SS, R0, ?_⟩
  clear h
  revert h'
  cases mb (startE N.length ds) M with
  | next env M1 => exact fun h ι1 σ1 H1 e1 S1 _ => h ι1 H1 e1 S1 _ .non
  | ret d M1 => exact fun h ι1 v H1 e1 S1 r => h ι1 H1 e1 S1 v r
  | exc y env M1 => exact fun h ι1 σ1 H1 cls dx e1 S1 _ ex => h ι1 H1 cls dx e1 S1 ex
  | stuck => exact fun h => h
theorem okZ {x qual : Str} {params : Arguments} {body : List Stmt} {scope : Scope} {f : Addr} {N ps : List Str} {k : Nat} {mb : MS} (F : ∃ fd, FunD K x qual params body scope [] [] f fd) (S : FnScope N ps scope) (hm : mg x = some (.ref f))
    (hbind : ∀ (kV doc pm : Value) (an : Option Addr) (cdv ct : Value) (us : List Value), us.length = ps.length → bindArgs (PySem.W.fnOf x qual params body scope .none kV doc pm an cdv ct) ⟨us, []⟩ = pure (ps.zip us))
    (hbody : ∀ (cdv : Value) (A : Around) (outer : List PySem.Env) (s : Shared) (H : Hp) (E : XK), let X := cxOf (L2.CX P w) P w K mg base N qual scope f cdv A outer s H E
      CtxZ X (fun cls d _ H => E cls d H) k → PSs X body (LS K (fun cls d _ H => E cls d H) mb)) :
    CalleeZ P w K mg base x ps.length (k + 1) (fnD ps.length N.length mb) := by
  obtain ⟨fd, F⟩ := F
  exact ⟨⟨f, fd, ps, okFz F S hbody, hm, F.kp, F.bindsN hbind, rfl⟩, fun ds M h => if_neg h⟩
theorem okMZ {c m x qual : Str} {params : Arguments} {body : List Stmt} {scope : Scope} {N ps : List Str} {k : Nat} {mb : MS} (F : ∃ fd, FunD K x qual params body scope [] [] (He.ma K (He.ga K c) m) fd) (S : FnScope N ps scope) (hc : Cls K (He.ga K c)) (hm : Meth K (He.ga K c) m (He.ma K (He.ga K c) m))
    (hbind : ∀ (kV doc pm : Value) (an : Option Addr) (cdv ct : Value) (us : List Value), us.length = ps.length → bindArgs (PySem.W.fnOf x qual params body scope .none kV doc pm an cdv ct) ⟨us, []⟩ = pure (ps.zip us))
    (hbody : ∀ (cdv : Value) (A : Around) (outer : List PySem.Env) (s : Shared) (H : Hp) (E : XK), let X := cxOf (L2.CX P w) P w K mg base N qual scope (He.ma K (He.ga K c) m) cdv A outer s H E
      CtxZ X (fun cls d _ H => E cls d H) k → PSs X body (LS K (fun cls d _ H => E cls d H) mb)) :
    CalleeMZ P w K mg base c m ps.length (k + 1) [] (fnD ps.length N.length mb) := by
  obtain ⟨fd, F⟩ := F
  exact ⟨⟨fd, ps, [], [], okFz F S hbody, F.bindsN hbind, .nil, fun _ _ => .nil⟩, fun ds M h => if_neg h, hc, hm⟩
end
section
variable {X : Cx} {W : WX} {e o : Expr} {es : List Expr} {mas : MA} {mo : ME} {x c m : Str} {p pos apos : Pos} {dd : List D} {fn : Fn}
theorem d_callZ {k k' n : Nat} {m : Fn} (C : CtxZ X W k') (F : CalleeZ X.prog X.w X.K X.mg X.base x n k m) (hk : k ≤ k') (ha : PA X (e :: es) (LA X.K W mas)) (hg : Gl X x := by rfl)
    (hdb : (x == ("__debug__" : Str)) = false := by decide) (hst : starEach (e :: es) X.env = (false, eval e X.env) :: starEach es X.env := by rfl) (hpl : (backTo pos (starEach es X.env)).any (·.1) = false := by rfl) :
    PE X (.Call (.Name x p) (e :: es) [] pos) (LE X.K W (eCall m mas)) := by
  have hlen := F.len
  obtain ⟨f, fd, ps, F, hm, kp, hb, _⟩ := F.ex
  refine (pe_callS F (C.ctx.room.mono hk) hg hm kp hb (fun σ => L2.passAt C.tk σ) ha hdb hst hpl).imp fun σ H Q ⟨ι, env, M, S, R, h⟩ => ⟨ι, env, M, S, R, ?_⟩
  refine (OutP.bind h).imp fun ds M1 ι1 H1 e1 S1 h1 vs rv => ⟨?_, ι1, ds, M1, S1, rv, h1⟩
  rw [← rv.length]
  by_cases q : ds.length = n
  · exact q
  · rw [hlen ds M1 q] at h1
    exact h1.elim
theorem d_meMZ {k k' n : Nat} (C : CtxZ X W k') (F : CalleeMZ X.prog X.w X.K X.mg X.base c m n k dd fn) (hk : k ≤ k') (ho : PE X o (LE X.K W mo)) (ha : PA X (e :: es) (LA X.K W mas)) {pl : Sem Bool}
    (hst : starEach (e :: es) X.env = (false, eval e X.env) :: starEach es X.env := by rfl) (hpl : (backTo pos (starEach es X.env)).any (·.1) = false := by rfl)
    (ht : eval (.Call (.Attribute o m apos) (e :: es) [] pos) X.env = (eval o X.env >>= fun ov => standAt apos.atName >>= fun _ => holding [ov] (getMethod ov m pl) >>= fun y => callWith pos y.1 y.2 (backTo pos (starEach (e :: es) X.env)) (backToKw pos (keywordEach [] X.env))) := by rfl) :
    PE X (.Call (.Attribute o m apos) (e :: es) [] pos) (LE X.K W (eMeM c m dd fn mo mas)) := by
  obtain ⟨fd, ps, dvs, ds, F1, hb, hd, hr⟩ := F.ex
  exact (pe_methX (pl := pl) ho F.cls F.meth F1 (C.ctx.room.mono hk) hb hd (fun σ => L2.passAt C.tk σ) ha hst hpl ht).imp fun σ H Q h => meth_le F.len hr (fun _ _ _ z => z) h
end
section
variable {env : TL.Env} {M : Mem} {cl : List Str} {b : MS} {hs : List HdM} {x : Ex} {C c : Str} {sl : Option Nat} {m : MS} {i : Nat} {e : ME}
theorem sTryA_ap : sTryA cl b hs env M = match b env M with
  | .exc x env1 M1 => if x.cls ∈ cl then hdsAll x hs env1 M1 else .stuck
  | o => o := rfl
theorem hdsAll_cons : hdsAll x (⟨C, sl, m⟩ :: hs) env M = if subX x.cls C = true then undoS sl (m (setE env sl (some (.err x))) M) else hdsAll x hs env M := rfl
theorem sTryFrom_exc {x : Ex} {env1 : TL.Env} {M1 M2 : Mem} {j : Int} (h : b env M = .exc x env1 M1) (hc : x.cls ∈ cl) (hs : subX x.cls C = true) (he : e (env1.set i none) M1 = .ok (.int j) M2) : sTryFrom cl C i c e b env M = .exc ⟨c, some j⟩ (env1.set i none) M2 := by
  unfold sTryFrom
  rw [h]
  simp only
  rw [if_pos ⟨hc, hs⟩, he]
theorem sTryFrom_next {env1 : TL.Env} {M1 : Mem} (h : b env M = .next env1 M1) : sTryFrom cl C i c e b env M = .next env1 M1 := by
  unfold sTryFrom
  rw [h]
end
end TL
end
section
namespace TLP
open PySem TL
section
variable {t : MT} {a b t2 rest : MS} {env env' : TL.Env} {M M' : Mem} {e : ME} {gg : MG} {v : D} {i : Nat}
theorem ifT (h : t env M = .ok true M') : (sSeq (sIf t a b) rest) env M = (sSeq a rest) env M' := by
  show nextS (thenS env (t env M) fun k M1 => if k = true then a env M1 else b env M1) rest = _
  rw [h] <;> rfl
theorem ifF (h : t env M = .ok false M') : (sSeq (sIf t a b) rest) env M = (sSeq b rest) env M' := by
  show nextS (thenS env (t env M) fun k M1 => if k = true then a env M1 else b env M1) rest = _
  rw [h] <;> rfl
theorem ifN (h : t env M = .ok false M') : (sSeq (sIf t a sNil) rest) env M = rest env M' := by rw [ifF h] <;> rfl
theorem ifT1 (h : t env M = .ok true M') : (sIf t a b) env M = a env M' := by
  show thenS env (t env M) (fun k M1 => if k = true then a env M1 else b env M1) = _
  rw [h] <;> rfl
theorem ifF1 (h : t env M = .ok false M') : (sIf t a b) env M = b env M' := by
  show thenS env (t env M) (fun k M1 => if k = true then a env M1 else b env M1) = _
  rw [h] <;> rfl
theorem asgG (h : e env M = .ok v M') (hg : gg v env = some env') : (sSeq (sAsg gg e) rest) env M = rest env' M' := by
  show nextS (thenS env (e env M) fun d M1 => match gg d env with | some env' => .next env' M1 | none => .stuck) rest = _
  rw [h]
  show nextS (match gg v env with | some env' => .next env' M' | none => .stuck) rest = _
  rw [hg] <;> rfl
theorem asg (h : e env M = .ok v M') : (sSeq (sAsg (gOne i) e) rest) env M = rest (env.set i (some v)) M' := asgG h rfl
theorem expr (h : e env M = .ok v M') : (sSeq (sExpr e) rest) env M = rest env M' := by
  show nextS (thenS env (e env M) fun d M1 => .next env M1) rest = _
  rw [h] <;> rfl
theorem any_ (h : a env M = .next env' M') : (sSeq a rest) env M = rest env' M' := by
  show nextS (a env M) rest = _
  rw [h] <;> rfl
theorem retX {x : Ex} (h : e env M = .exc x M') : (sRet e) env M = .exc x env M' := by
  show thenS env (e env M) (fun d M1 => .ret d M1) = _
  rw [h] <;> rfl
theorem anyX {x : Ex} (h : a env M = .exc x env' M') : (sSeq a rest) env M = .exc x env' M' := by
  show nextS (a env M) rest = _
  rw [h] <;> rfl
theorem ret (h : e env M = .ok v M') : (sRet e) env M = .ret v M' := by
  show thenS env (e env M) (fun d M1 => .ret d M1) = _
  rw [h] <;> rfl
theorem ret1 (h : e env M = .ok v M') : (sSeq (sRet e) rest) env M = .ret v M' := by
  show nextS (sRet e env M) rest = _
  rw [ret h] <;> rfl
end
end TLP
end
section
set_option maxHeartbeats 4000000
namespace TL
open PySem PySem.Spec PyProof.Rows L2
def anyTy (t : String) : List String → Option Bool
  | [] => some false
  | U :: Us => match kitB t U, anyTy t Us with
    | some b, some r => some (b || r)
    | _, _ => none
theorem anyTy_kit {K : PySem.W.Frag} {t : String} : ∀ {Us : List String} {r : Bool}, anyTy t Us = some r → PySem.W.kitAny K (.type t) (Us.map Value.type) = some r
  | [], r, h => by cases h; exact kitAny_nil
  | U :: Us, r, h => by
    unfold anyTy at h
    cases q1 : kitB t U with
    | none => rw [q1] at h; cases h
    | some b =>
      cases q2 : anyTy t Us with
      | none => rw [q1, q2] at h; cases h
      | some r' =>
        rw [q1, q2] at h
        cases h
        refine kitAny_cons (kit_ty q1) (fun e => ?_) fun e => by simp [e]
        rw [anyTy_kit q2, e]
        rfl
def mIsiT (Us : List String) : Op1 := fun d M => match tyName M d with
  | some t => (anyTy t Us).map fun b => (.bl b, M)
  | none => none
def eIsiT (Us : List String) (a : ME) : ME := eUn (mIsiT Us) a
@[simp] theorem eIsiT_ap {Us : List String} {a : ME} : eIsiT Us a env M = (a env M).bind fun x M1 => liftO (mIsiT Us x M1) := rfl
section
variable {X : Cx} {W : WX} {e : Expr} {me : ME} {p p2 p3 pos : Pos}
inductive TyNames (X : Cx) : List String → List Expr → Prop
  | nil : TyNames X [] []
  | cons {T : Str} {U : String} {Us : List String} {es : List Expr} {p2 : Pos} (hg : Gl X T) (hm : X.mg T = none) (hv : bootBuiltins T = some (.type U)) (hn : T ≠ "__name__") (hd : (T == ("__debug__" : Str)) = false)
      (hs : starEach (.Name T p2 :: es) X.env = (false, eval (.Name T p2) X.env) :: starEach es X.env) (r : TyNames X Us es) : TyNames X (U :: Us) (.Name T p2 :: es)
theorem TyNames.pa {Us : List String} {es : List Expr} (N : TyNames X Us es) : PA X es (fun _ H Q => Q (Us.map V.ty) H) := by
  induction N with
  | nil => exact pa_nil
  | cons hg hm hv hn hd hs r ih => exact pa_cons (pe_bltn hg hm hv (v := .ty _) rfl hn hd) ih hs
theorem tys_paired : ∀ {Us : List String}, Paired ClsV (Us.map V.ty) (Us.map Value.type)
  | [] => .nil
  | U :: Us => .cons (.ty U) tys_paired
theorem d_isiT {Us : List String} {ns : List Expr} {j : Nat} (hi : X.mg "isinstance" = none) (N : TyNames X Us ns) (he : PE X e (LE X.K W me))
    (hl' : Us.length ≤ 100 := by decide) (hgi : Gl X "isinstance" := by rfl)
    (h1 : starEach [e, .Tuple ns j p2] X.env = (false, eval e X.env) :: starEach [.Tuple ns j p2] X.env := by rfl) (h2 : starEach [.Tuple ns j p2] X.env = (false, eval (.Tuple ns j p2) X.env) :: starEach [] X.env := by rfl)
    (h3 : (backTo pos (starEach [.Tuple ns j p2] X.env)).any (·.1) = false := by rfl) : PE X (.Call (.Name "isinstance" p) [e, .Tuple ns j p2] [] pos) (LE X.K W (eIsiT Us me)) :=
  (pe_callB call_isiT hgi hi boot_isinstance (pa_cons he (pa_cons (pe_tup N.pa) pa_nil h2) h1) (by decide) (by decide) h1 h3).imp fun σ H Q ⟨ι, env, M, S, R, h⟩ => ⟨ι, env, M, S, R, (OutP.bind h).imp fun d M1 ι1 H1 e1 S1 h1 v rv => by
    revert h1
    unfold mIsiT
    cases q : tyName M1 d with
    | none => exact fun h1 => h1.elim
    | some t =>
      intro h1
      have h2 : OutP X.K (W1 W σ) ι1 H1 (liftO ((anyTy t Us).map fun b => (D.bl b, M1))) (VR X.K Q) := h1
      cases q2 : anyTy t Us with
      | none => rw [q2] at h2; exact h2.elim
      | some b =>
        rw [q2] at h2
        refine ⟨by rw [List.length_map, sizeLine_eq]; omega, fun tp ht => ?_⟩
        have e2 : Ext X.K ι1 H1 ι1 (upd H1 tp (.tup (Us.map V.ty))) := Ext.new ht
        refine ⟨v, tp, Us.map V.ty, .type t, Us.map Value.type, b, rfl, upd_same, tys_paired, ?_, anyTy_kit q2, OutP.val (S1.new ht) (OutP.ext e2 h2) _ (.bl _)⟩
        exact tyX_of (S1.new ht) (rv.ext e2) q⟩
end
end TL
end
section
set_option maxHeartbeats 4000000
namespace TL
open PySem PySem.Spec PyProof.Rows L2
def sAsgL (is : List Nat) (e : ME) : MS := fun env M => thenS env (e env M) fun d M1 => match d with
  | .ref n => (match seqAt M1 n with
    | some xs => if xs.length = is.length then .next (setAll env is xs) M1 else .stuck
    | none => .stuck)
  | _ => .stuck
section
variable {X : Cx} {W : WX} {e tgt : Expr} {me : ME} {pos : Pos}
theorem ds_asgL {is : List Nat} {n : Nat} {g : TGs} (he : PE X e (LE X.K W me)) (h : PG X tgt (gLst X.K n g)) (hn : n = is.length := by rfl) (hg : g = gsN is := by rfl)
    (hs : swapsWithSole [tgt] e pos.line X.env = pure false := by rfl) (h2 : swappedStores [tgt] e X.env = pure none := by rfl) (h1 : (assignEach [tgt] X.env).map (·.2) = [assign tgt X.env] := by rfl) :
    PS X (.Assign [tgt] e pos) (LS X.K W (sAsgL is me)) :=
  (ps_asg he h hs h2 h1).imp fun En σ H want => by
    obtain ⟨ι, env, M, S, R, want⟩ := want
    refine ⟨ι, env, M, S, R, (thenS_out R want).imp fun d M1 ι1 H1 e1 S1 h3 v rv => ?_⟩
    subst hn hg
    cases d with
    | ref j =>
      obtain ⟨p, rfl, hp⟩ := rv.ref_inv
      cases q : seqAt M1 j with
      | none => simp only [q] at h3; exact h3.elim
      | some xs =>
        simp only [q] at h3
        obtain ⟨vs, s1, r1⟩ := S1.seq hp q
        by_cases c : xs.length = is.length
        · rw [if_pos c] at h3
          exact ⟨p, vs, rfl, s1, by rw [← r1.length]; exact c, gsN_ok r1 (R.ext e1) c fun σ' R' => h3 ι1 σ' H1 Ext.refl S1 R'⟩
        · rw [if_neg c] at h3
          exact h3.elim
    | _ => exact h3.elim
theorem sAsgL_ap {is : List Nat} {env : TL.Env} {M M1 : Mem} {n : Nat} {xs : List D} (h : me env M = .ok (.ref n) M1) (hx : seqAt M1 n = some xs) (hl : xs.length = is.length) : sAsgL is me env M = .next (setAll env is xs) M1 := by
  unfold sAsgL
  rw [h]
  show (match seqAt M1 n with
    | some xs => if xs.length = is.length then SOut.next (setAll env is xs) M1 else SOut.stuck
    | none => SOut.stuck) = _
  rw [hx]
  exact if_pos hl
end
end TL
end
section
set_option maxHeartbeats 4000000
namespace TL
open PySem PySem.Spec PyProof.Rows L2
def repS (x : Str) (n : Nat) : Str := ⟨(List.replicate n x.cps).foldl (· ++ ·) #[]⟩
def mMulS : Op2 := fun a b M => match a, b with
  | .str x, .int n => if (2 ≤ n ∧ n ≤ 1000) ∧ (1 ≤ x.length ∧ x.length ≤ 10000) then some (.str (repS x n.toNat), M) else none
  | _, _ => none
@[simp] theorem mMulS_str (x : Str) (n : Int) (M : Mem) : mMulS (.str x) (.int n) M = if (2 ≤ n ∧ n ≤ 1000) ∧ (1 ≤ x.length ∧ x.length ≤ 10000) then some (.str (repS x n.toNat), M) else none := rfl
theorem repS_go (a : Array Nat) : ∀ (n : Nat) (b : Array Nat), ((List.replicate n a).foldl (· ++ ·) b).toList = b.toList ++ (List.replicate n a.toList).flatten
  | 0, b => by simp
  | n + 1, b => by
    rw [List.replicate_succ, List.foldl_cons, repS_go a n, List.replicate_succ, List.flatten_cons]
    simp
theorem repS_tl (x : Str) (n : Nat) : (repS x n).cps.toList = (List.replicate n x.cps.toList).flatten := by
  show ((List.replicate n x.cps).foldl (· ++ ·) #[]).toList = _
  rw [repS_go]
  rfl
theorem repS_len (x : Str) (n : Nat) : (repS x n).length = n * x.length := by
  show (repS x n).cps.size = n * x.cps.size
  rw [← Array.length_toList, repS_tl]
  simp
section
variable {X : Cx}
theorem op_mul_str : OpR X (binaryOp .Mult) (fun x y H Q => ∃ (a : Str) (n : Int), x = .str a ∧ y = .int n ∧ ((2 ≤ n ∧ n ≤ 1000) ∧ (1 ≤ a.length ∧ a.length ≤ 10000)) ∧ Q (.str (repS a n.toNat)) H) := by
  intro pins s σ H x y v u Q I rx ry h
  obtain ⟨i, n, rfl, rfl, ⟨hn, hi⟩, q⟩ := h
  obtain ⟨t, rfl⟩ := rx
  obtain ⟨t', rfl⟩ := ry
  have l := repS_len i n.toNat
  have small : n.toNat * i.length ≤ 1000 * 10000 := Nat.mul_le_mul (by omega) hi.2
  have one : (n == 1 || i.length == 0) = false := by
    simp only [Bool.or_eq_false_iff, beq_eq_false_iff_ne]
    omega
  refine PySem.P.mul_str ?_ (fun _ _ => ?_) (fun _ _ => ?_) ?_
  · simp only [Bool.or_eq_false_iff, decide_eq_false_iff_not]
    omega
  · have h1 : n * (i.length : Int) ≤ 2 ^ 63 - 1 := by
      have : ((n.toNat * i.length : Nat) : Int) ≤ 10000000 := by omega
      rw [Int.natCast_mul, Int.toNat_of_nonneg (by omega)] at this
      omega
    have := (Int.le_ediv_iff_mul_le (a := (i.length : Int)) (b := 2 ^ 63 - 1) (c := n) (by omega)).mpr (by rw [Int.mul_comm]; exact h1)
    omega
  · rw [Nat.mul_comm]
    refine decide_eq_false ?_
    have := sizeLine_eq
    omega
  · rw [if_neg (by omega), one, if_neg (by decide)]
    exact ⟨by show (repS i n.toNat).length ≤ _; rw [l, sizeLine_eq]; omega, .str (repS i n.toNat), H, I.tok _, ⟨_, rfl⟩, q⟩
theorem o_mulS : OpR X (binaryOp .Mult) (rD2 X.K mMulS) := by
  refine OpR.imp op_mul_str fun x y H Q h => ?_
  obtain ⟨ι, M, a, b, S, ra, rb, h⟩ := h
  unfold mMulS at h
  split at h
  · cases ra.str_inv; cases rb.int_inv
    split at h
    · exact ⟨_, _, rfl, rfl, by assumption, h.val S (.str _)⟩
    · exact h.elim
  · exact h.elim
end
end TL
end
section
set_option maxHeartbeats 4000000
namespace LW
open PySem PySem.Spec PyProof.Rows L2 TL
def top (i : Nat) : Stmt := PySem.Challenge.pw_tally_k72_books_written_anew.main.body.getD i (.Pass ⟨0, 0, 0, 0⟩)
abbrev st_Falls_new : Stmt := (clsB (top 11)).getD 0 (.Pass ⟨0, 0, 0, 0⟩)
abbrev st_is_between : Stmt := top 15
abbrev st_is_throw_name : Stmt := top 16
abbrev st_is_throw : Stmt := top 17
abbrev st_is_down : Stmt := top 18
abbrev st_down_begun : Stmt := top 19
abbrev st_throw_named : Stmt := top 20
abbrev st_with_count : Stmt := top 21
abbrev st_turn_ended : Stmt := top 22
abbrev st_down_thrown : Stmt := top 23
abbrev st_is_lane : Stmt := top 25
abbrev st_lane_begun : Stmt := top 26
abbrev st_frame_behind : Stmt := top 27
abbrev st_extra_behind : Stmt := top 28
abbrev st_row_behind : Stmt := top 29
abbrev st_lane_bowled : Stmt := top 30
abbrev st_best_of : Stmt := top 31
abbrev st_is_count : Stmt := top 37
abbrev st_has_numbers : Stmt := top 38
abbrev st_units_in : Stmt := top 39
abbrev st_is_rule : Stmt := top 40
abbrev st_rule_within : Stmt := top 42
abbrev st_begun : Stmt := top 43
abbrev st_is_won : Stmt := top 44
abbrev st_rallied : Stmt := top 45
abbrev st_is_game : Stmt := top 47
abbrev st_first : Stmt := top 48
abbrev st_deeds_at : Stmt := top 49
abbrev st_rally_played : Stmt := top 50
abbrev st_down_played : Stmt := top 51
abbrev st_lane_played : Stmt := top 52
abbrev st_played : Stmt := top 53
abbrev st_stands_of : Stmt := top 57
abbrev st_Book_new : Stmt := (clsB (top 58)).getD 0 (.Pass ⟨0, 0, 0, 0⟩)
abbrev st_Book_game : Stmt := (clsB (top 58)).getD 1 (.Pass ⟨0, 0, 0, 0⟩)
abbrev st_Book_deeds : Stmt := (clsB (top 58)).getD 2 (.Pass ⟨0, 0, 0, 0⟩)
abbrev st_Book_add : Stmt := (clsB (top 58)).getD 3 (.Pass ⟨0, 0, 0, 0⟩)
abbrev st_Book_back : Stmt := (clsB (top 58)).getD 4 (.Pass ⟨0, 0, 0, 0⟩)
abbrev st_Book_hold_number : Stmt := (clsB (top 58)).getD 5 (.Pass ⟨0, 0, 0, 0⟩)
abbrev st_Book_written_anew : Stmt := (clsB (top 58)).getD 6 (.Pass ⟨0, 0, 0, 0⟩)
abbrev st_Book_put_right : Stmt := (clsB (top 58)).getD 7 (.Pass ⟨0, 0, 0, 0⟩)
abbrev st_Book_put_in : Stmt := (clsB (top 58)).getD 8 (.Pass ⟨0, 0, 0, 0⟩)
abbrev st_Book_leave_out : Stmt := (clsB (top 58)).getD 9 (.Pass ⟨0, 0, 0, 0⟩)
abbrev st_Book_stand : Stmt := (clsB (top 58)).getD 10 (.Pass ⟨0, 0, 0, 0⟩)
abbrev st_l_cell_at : Stmt := top 60
abbrev st_l_draws : Stmt := top 61
abbrev st_l_unit : Stmt := top 62
abbrev st_l_throws : Stmt := top 63
abbrev st_l_game : Stmt := top 64
abbrev st_l_bad : Stmt := top 65
abbrev st_l_deed : Stmt := top 66
abbrev st_l_kinds : Stmt := top 67
abbrev st_l_due : Stmt := top 68
abbrev st_l_right : Stmt := top 69
abbrev st_l_stands : Stmt := top 70
abbrev st_l_told : Stmt := top 71
abbrev st_l_row_then : Stmt := top 72
abbrev st_l_anew : Stmt := top 73
abbrev st_law : Stmt := top 74
def hcls : List Str := ["Falls", "ScoreError"]
def icls : List Str := ["BadWord", "Falls", "NoDeed", "NoGame", "NoLine", "NoPins", "NoSide", "NoThrow", "Over", "TooMany"]
def fn : List He.DefD := [⟨("Falls", some "__init__"), "__init__", "Falls.__init__", defArgs st_Falls_new, defBody st_Falls_new, defScope st_Falls_new, [], []⟩, ⟨("is_between", none), "is_between", "is_between", defArgs st_is_between, defBody st_is_between, defScope st_is_between, [], []⟩, ⟨("is_throw_name", none), "is_throw_name", "is_throw_name", defArgs st_is_throw_name, defBody st_is_throw_name, defScope st_is_throw_name, [], []⟩, ⟨("is_throw", none), "is_throw", "is_throw", defArgs st_is_throw, defBody st_is_throw, defScope st_is_throw, [], []⟩, ⟨("is_down", none), "is_down", "is_down", defArgs st_is_down, defBody st_is_down, defScope st_is_down, [], []⟩, ⟨("down_begun", none), "down_begun", "down_begun", defArgs st_down_begun, defBody st_down_begun, defScope st_down_begun, [], []⟩, ⟨("throw_named", none), "throw_named", "throw_named", defArgs st_throw_named, defBody st_throw_named, defScope st_throw_named, [], []⟩, ⟨("with_count", none), "with_count", "with_count", defArgs st_with_count, defBody st_with_count, defScope st_with_count, [], []⟩, ⟨("turn_ended", none), "turn_ended", "turn_ended", defArgs st_turn_ended, defBody st_turn_ended, defScope st_turn_ended, [], []⟩, ⟨("down_thrown", none), "down_thrown", "down_thrown", defArgs st_down_thrown, defBody st_down_thrown, defScope st_down_thrown, [], []⟩, ⟨("is_lane", none), "is_lane", "is_lane", defArgs st_is_lane, defBody st_is_lane, defScope st_is_lane, [], []⟩, ⟨("lane_begun", none), "lane_begun", "lane_begun", defArgs st_lane_begun, defBody st_lane_begun, defScope st_lane_begun, [], []⟩, ⟨("frame_behind", none), "frame_behind", "frame_behind", defArgs st_frame_behind, defBody st_frame_behind, defScope st_frame_behind, [], []⟩, ⟨("extra_behind", none), "extra_behind", "extra_behind", defArgs st_extra_behind, defBody st_extra_behind, defScope st_extra_behind, [], []⟩, ⟨("row_behind", none), "row_behind", "row_behind", defArgs st_row_behind, defBody st_row_behind, defScope st_row_behind, [], []⟩, ⟨("lane_bowled", none), "lane_bowled", "lane_bowled", defArgs st_lane_bowled, defBody st_lane_bowled, defScope st_lane_bowled, [], []⟩, ⟨("best_of", none), "best_of", "best_of", defArgs st_best_of, defBody st_best_of, defScope st_best_of, [], []⟩, ⟨("is_count", none), "is_count", "is_count", defArgs st_is_count, defBody st_is_count, defScope st_is_count, [], []⟩, ⟨("has_numbers", none), "has_numbers", "has_numbers", defArgs st_has_numbers, defBody st_has_numbers, defScope st_has_numbers, [], []⟩, ⟨("units_in", none), "units_in", "units_in", defArgs st_units_in, defBody st_units_in, defScope st_units_in, [], []⟩, ⟨("is_rule", none), "is_rule", "is_rule", defArgs st_is_rule, defBody st_is_rule, defScope st_is_rule, [], []⟩, ⟨("rule_within", none), "rule_within", "rule_within", defArgs st_rule_within, defBody st_rule_within, defScope st_rule_within, [], []⟩, ⟨("begun", none), "begun", "begun", defArgs st_begun, defBody st_begun, defScope st_begun, [], []⟩, ⟨("is_won", none), "is_won", "is_won", defArgs st_is_won, defBody st_is_won, defScope st_is_won, [], []⟩, ⟨("rallied", none), "rallied", "rallied", defArgs st_rallied, defBody st_rallied, defScope st_rallied, [], []⟩, ⟨("is_game", none), "is_game", "is_game", defArgs st_is_game, defBody st_is_game, defScope st_is_game, [], []⟩, ⟨("first", none), "first", "first", defArgs st_first, defBody st_first, defScope st_first, [], []⟩, ⟨("deeds_at", none), "deeds_at", "deeds_at", defArgs st_deeds_at, defBody st_deeds_at, defScope st_deeds_at, [], []⟩, ⟨("rally_played", none), "rally_played", "rally_played", defArgs st_rally_played, defBody st_rally_played, defScope st_rally_played, [], []⟩, ⟨("down_played", none), "down_played", "down_played", defArgs st_down_played, defBody st_down_played, defScope st_down_played, [], []⟩, ⟨("lane_played", none), "lane_played", "lane_played", defArgs st_lane_played, defBody st_lane_played, defScope st_lane_played, [], []⟩, ⟨("played", none), "played", "played", defArgs st_played, defBody st_played, defScope st_played, [], []⟩, ⟨("stands_of", none), "stands_of", "stands_of", defArgs st_stands_of, defBody st_stands_of, defScope st_stands_of, [], []⟩, ⟨("Book", some "__init__"), "__init__", "Book.__init__", defArgs st_Book_new, defBody st_Book_new, defScope st_Book_new, [], []⟩, ⟨("Book", some "game"), "game", "Book.game", defArgs st_Book_game, defBody st_Book_game, defScope st_Book_game, [], []⟩, ⟨("Book", some "deeds"), "deeds", "Book.deeds", defArgs st_Book_deeds, defBody st_Book_deeds, defScope st_Book_deeds, [], []⟩, ⟨("Book", some "add"), "add", "Book.add", defArgs st_Book_add, defBody st_Book_add, defScope st_Book_add, [], []⟩, ⟨("Book", some "back"), "back", "Book.back", defArgs st_Book_back, defBody st_Book_back, defScope st_Book_back, [], []⟩, ⟨("Book", some "hold_number"), "hold_number", "Book.hold_number", defArgs st_Book_hold_number, defBody st_Book_hold_number, defScope st_Book_hold_number, [], []⟩, ⟨("Book", some "written_anew"), "written_anew", "Book.written_anew", defArgs st_Book_written_anew, defBody st_Book_written_anew, defScope st_Book_written_anew, [], []⟩, ⟨("Book", some "put_right"), "put_right", "Book.put_right", defArgs st_Book_put_right, defBody st_Book_put_right, defScope st_Book_put_right, [], []⟩, ⟨("Book", some "put_in"), "put_in", "Book.put_in", defArgs st_Book_put_in, defBody st_Book_put_in, defScope st_Book_put_in, [], []⟩, ⟨("Book", some "leave_out"), "leave_out", "Book.leave_out", defArgs st_Book_leave_out, defBody st_Book_leave_out, defScope st_Book_leave_out, [], []⟩, ⟨("Book", some "stand"), "stand", "Book.stand", defArgs st_Book_stand, defBody st_Book_stand, defScope st_Book_stand, [.non], []⟩, ⟨("_law_cell_at", none), "_law_cell_at", "_law_cell_at", defArgs st_l_cell_at, defBody st_l_cell_at, defScope st_l_cell_at, [], []⟩, ⟨("_law_draws", none), "_law_draws", "_law_draws", defArgs st_l_draws, defBody st_l_draws, defScope st_l_draws, [], []⟩, ⟨("_law_unit", none), "_law_unit", "_law_unit", defArgs st_l_unit, defBody st_l_unit, defScope st_l_unit, [], []⟩, ⟨("_law_throws", none), "_law_throws", "_law_throws", defArgs st_l_throws, defBody st_l_throws, defScope st_l_throws, [], []⟩, ⟨("_law_game", none), "_law_game", "_law_game", defArgs st_l_game, defBody st_l_game, defScope st_l_game, [], []⟩, ⟨("_law_bad", none), "_law_bad", "_law_bad", defArgs st_l_bad, defBody st_l_bad, defScope st_l_bad, [], []⟩, ⟨("_law_deed", none), "_law_deed", "_law_deed", defArgs st_l_deed, defBody st_l_deed, defScope st_l_deed, [], []⟩, ⟨("_law_kinds", none), "_law_kinds", "_law_kinds", defArgs st_l_kinds, defBody st_l_kinds, defScope st_l_kinds, [], []⟩, ⟨("_law_due", none), "_law_due", "_law_due", defArgs st_l_due, defBody st_l_due, defScope st_l_due, [], []⟩, ⟨("_law_right", none), "_law_right", "_law_right", defArgs st_l_right, defBody st_l_right, defScope st_l_right, [], []⟩, ⟨("_law_stands", none), "_law_stands", "_law_stands", defArgs st_l_stands, defBody st_l_stands, defScope st_l_stands, [], []⟩, ⟨("_law_told", none), "_law_told", "_law_told", defArgs st_l_told, defBody st_l_told, defScope st_l_told, [], []⟩, ⟨("_law_row_then", none), "_law_row_then", "_law_row_then", defArgs st_l_row_then, defBody st_l_row_then, defScope st_l_row_then, [], []⟩, ⟨("_law_anew", none), "_law_anew", "_law_anew", defArgs st_l_anew, defBody st_l_anew, defScope st_l_anew, [], []⟩, ⟨("law", none), "law", "law", defArgs st_law, defBody st_law, defScope st_law, [], []⟩]
def fa : List He.Fa := [.meth "Falls" "__init__", .glo "is_between", .glo "is_throw_name", .glo "is_throw", .glo "is_down", .glo "down_begun", .glo "throw_named", .glo "with_count", .glo "turn_ended", .glo "down_thrown", .glo "is_lane", .glo "lane_begun", .glo "frame_behind", .glo "extra_behind", .glo "row_behind", .glo "lane_bowled", .glo "best_of", .glo "is_count", .glo "has_numbers", .glo "units_in", .glo "is_rule", .glo "rule_within", .glo "begun", .glo "is_won", .glo "rallied", .glo "is_game", .glo "first", .glo "deeds_at", .glo "rally_played", .glo "down_played", .glo "lane_played", .glo "played", .glo "stands_of", .meth "Book" "__init__", .meth "Book" "game", .meth "Book" "deeds", .meth "Book" "add", .meth "Book" "back", .meth "Book" "hold_number", .meth "Book" "written_anew", .meth "Book" "put_right", .meth "Book" "put_in", .meth "Book" "leave_out", .meth "Book" "stand", .glo "_law_cell_at", .glo "_law_draws", .glo "_law_unit", .glo "_law_throws", .glo "_law_game", .glo "_law_bad", .glo "_law_deed", .glo "_law_kinds", .glo "_law_due", .glo "_law_right", .glo "_law_stands", .glo "_law_told", .glo "_law_row_then", .glo "_law_anew", .glo "law", .free "ValueError", .free "all", .free "bool", .free "enumerate", .free "int", .free "isinstance", .free "len", .free "list", .free "max", .free "min", .free "range", .free "repr", .free "set", .free "str", .free "tuple", .cls "Book", .noat "Book" "kept_deeds", .noat "Book" "kept_game", .noat "Book" "kept_stands", .mkr "Book", .glo "Book", .glo "BadWord", .glo "Falls", .glo "NoDeed", .glo "NoGame", .glo "NoLine", .glo "NoPins", .glo "NoSide", .glo "NoThrow", .glo "Over", .glo "ScoreError", .glo "TooMany", .exc "NoDeed", .exc "NoGame", .exc "NoPins", .exc "NoSide", .exc "NoThrow", .exc "Over", .glo "Falls", .meth "Falls" "__init__", .glo "ScoreError", .str "LETTERS" "abcdefghijklmnopqrstuvwxyz", .str "FIGURES" "0123456789", .glo "POINT", .int "GREATEST" 99, .int "MOST_UNITS" 10, .int "MOST_DEEP" 4]
def okB (K : PySem.W.Frag) : Bool := fa.all (fun f => f.ok K) && oexB K "Falls" && baseB K "ScoreError" && exSubB K ["NoThrow", "NoPins", "NoSide", "Over", "NoGame", "NoDeed", "TooMany", "NoLine", "BadWord", "Falls"] hcls && isTB K ["NoThrow", "NoPins", "NoSide", "Over", "NoGame", "NoDeed", "TooMany", "NoLine", "BadWord", "Falls"] icls && atB K ["BadWord", "Falls"] && rsB K ["NoThrow", "NoPins", "NoSide", "Over", "NoGame", "NoDeed", "TooMany", "NoLine", "BadWord", "Falls"] && He.tupB K "POINT" [.str "point"]
abbrev R : PySem.W.OpenRow := PySem.W.OpenLaw.row PySem.Challenge.rw_tally_k72_books_written_anew
abbrev hk : PySem.W.Hook := hookC 4 okB fn
def ob (s : PySem.W.SharedT) : AlB := obsCG 4 okB fn (HandSHeadRun.getT s)
theorem ob_eq (s : PySem.W.SharedT) : ob s = hk.obs s.abs := obsCG_eq (HandSHeadRun.getT_eq s)
def loose0 : List Str := ["ScoreError", "NoThrow", "NoPins", "NoSide", "Over", "NoGame", "NoDeed", "TooMany", "NoLine", "BadWord", "Falls", "LETTERS", "FIGURES", "is_between", "is_throw_name", "is_throw", "is_down", "down_begun", "throw_named", "with_count", "turn_ended", "down_thrown", "is_lane", "lane_begun", "frame_behind", "extra_behind", "row_behind", "lane_bowled", "best_of", "POINT"]
def loose1 : List Str := ["GREATEST", "MOST_UNITS", "MOST_DEEP", "is_count", "has_numbers", "units_in", "is_rule", "rule_within", "begun", "is_won", "rallied", "is_game", "first", "deeds_at", "rally_played", "down_played", "lane_played", "played", "stakes", "stands_of", "Book", "_law_cell_at", "_law_draws", "_law_unit", "_law_throws", "_law_game", "_law_bad", "_law_deed", "_law_kinds", "_law_due"]
def loose2 : List Str := ["_law_right", "_law_stands", "_law_told", "_law_row_then", "_law_anew"]
abbrev loose : List Str := loose0 ++ loose1 ++ loose2
theorem run (w : World) : HandSHeadRun.RunEq R (PySem.W.view R.prog [74]) hk ob 9000 loose w := by
  intro os
  kernel_rfl
end LW
end
section
namespace RL
open PySem PySem.Spec PyProof.Rows L2 TL
inductive Rule where
  | point
  | unit (to lead : Int) (cap : Option Int) (inner : Rule)
  | unitL (to lead cap : Int) (inner last : Rule)
  deriving DecidableEq
def capD : Option Int → D
  | none => .non
  | some c => .int c
abbrev pointD : D := .tup [.str "point"]
namespace Rule
def toD : Rule → D
  | point => pointD
  | unit to lead cap inner => .tup [.str "unit", .int to, .int lead, capD cap, inner.toD, .non]
  | unitL to lead cap inner last => .tup [.str "unit", .int to, .int lead, .int cap, inner.toD, last.toD]
/-- units within one another -/
def depth : Rule → Nat
  | point => 0
  | unit _ _ _ inner => inner.depth + 1
  | unitL _ _ _ inner last => max inner.depth last.depth + 1
/-- how many units -/
def units : Rule → Nat
  | point => 0
  | unit _ _ _ inner => inner.units + 1
  | unitL _ _ _ inner last => inner.units + last.units + 1
/-- numbers within their bounds -/
def good : Rule → Prop
  | point => True
  | unit to lead cap inner => 1 ≤ to ∧ to ≤ 99 ∧ 1 ≤ lead ∧ lead ≤ 99 ∧ (∀ c, cap = some c → to ≤ c ∧ c ≤ 99) ∧ inner.good
  | unitL to lead cap inner last => 1 ≤ to ∧ to ≤ 99 ∧ 1 ≤ lead ∧ lead ≤ 99 ∧ to ≤ cap ∧ cap ≤ 99 ∧ inner.good ∧ last.good
theorem ok_unit : PyData.strOk ("unit" : Str) = true := by decide +kernel
theorem ok_point : PyData.strOk ("point" : Str) = true := by decide +kernel
theorem pure_toD : ∀ r : Rule, pureD r.toD (r.depth + 1) = true
  | point => by simp [toD, depth, pureD, pureL, ok_point]
  | unit to lead cap inner => by
    have h := pure_toD inner
    cases cap <;> simp [toD, depth, pureD, pureL, capD, ok_unit, h]
  | unitL to lead cap inner last => by
    have h := pure_mono (pure_toD inner) (show inner.depth + 1 ≤ max inner.depth last.depth + 1 by omega)
    have h' := pure_mono (pure_toD last) (show last.depth + 1 ≤ max inner.depth last.depth + 1 by omega)
    simp [toD, depth, pureD, pureL, ok_unit, h, h']
theorem eqv_point (r : Rule) : PyData.eqv (pyD r.toD) (pyD pointD) = decide (r = point) := by
  cases r <;> simp [toD, pyD, pyL, PyData.eqv, PyData.eqvAll]
end Rule
theorem pure_point : pureD pointD 1 = true := by simp [pureD, pureL, Rule.ok_point]
theorem eq_point {M : Mem} {r : Rule} (h : r.depth ≤ 60) : eqD M r.toD pointD = some (decide (r = .point)) := by
  rw [eqD_pure r.pure_toD pure_point (by omega) (by omega), Rule.eqv_point]
theorem mEq_point {M : Mem} {r : Rule} (h : r.depth ≤ 60) : mEq r.toD (.tup [.str "point"]) M = some (.bl (decide (r = .point)), M) := by rw [mEq_eq, eq_point h]; rfl
@[simp] theorem isNon_capD {c : Option Int} : isNon (capD c) = c.isNone := by cases c <;> rfl
@[simp] theorem isNon_toD {r : Rule} : isNon r.toD = false := by cases r <;> rfl
end RL
end
section
namespace RL
open PySem PySem.Spec PyProof.Rows L2 TL
namespace Rule
def to : Rule → Int
  | point => 0
  | unit t _ _ _ => t
  | unitL t _ _ _ _ => t
def lead : Rule → Int
  | point => 0
  | unit _ l _ _ => l
  | unitL _ l _ _ _ => l
def cap : Rule → Option Int
  | point => none
  | unit _ _ c _ => c
  | unitL _ _ c _ _ => some c
def inner : Rule → Rule
  | point => point
  | unit _ _ _ i => i
  | unitL _ _ _ i _ => i
def last : Rule → Option Rule
  | unitL _ _ _ _ l => some l
  | _ => none
end Rule
def lastD : Option Rule → D
  | none => .non
  | some l => l.toD
theorem toD_unit : ∀ {r : Rule}, r ≠ .point → r.toD = .tup [.str "unit", .int r.to, .int r.lead, capD r.cap, r.inner.toD, lastD r.last]
  | .point, h => absurd rfl h
  | .unit _ _ _ _, _ => rfl
  | .unitL _ _ _ _ _, _ => rfl
theorem depth_inner {r : Rule} (h : r ≠ .point) : r.inner.depth < r.depth := by
  cases r with
  | point => exact absurd rfl h
  | unit _ _ _ i => simp [Rule.inner, Rule.depth]
  | unitL _ _ _ i l => simp [Rule.inner, Rule.depth]; omega
theorem depth_last {r l : Rule} (h : r.last = some l) : l.depth < r.depth := by
  cases r with
  | unitL _ _ _ i l' => simp [Rule.last] at h; subst h; simp [Rule.depth]; omega
  | _ => simp [Rule.last] at h
theorem cap_last {r l : Rule} (h : r.last = some l) : ∃ c, r.cap = some c := by
  cases r with
  | unitL _ _ c _ _ => exact ⟨c, rfl⟩
  | _ => simp [Rule.last] at h
/-- the rule by which a unit goes on at some counts -/
def within (r : Rule) (z o : Int) : Rule := match r.last, r.cap with
  | some l, some c => if z = c - 1 ∧ o = c - 1 then l else r.inner
  | _, _ => r.inner
theorem depth_within {r : Rule} (h : r ≠ .point) (z o : Int) : (within r z o).depth < r.depth := by
  unfold within
  split
  · rename_i l c hl hc
    split
    · exact depth_last hl
    · exact depth_inner h
  · exact depth_inner h
inductive Stand where
  | nil
  | st (zero one : Int) (within : Stand)
  deriving DecidableEq
namespace Stand
def toD : Stand → D
  | nil => .tup []
  | st z o w => .tup [.int z, .int o, w.toD]
def depth : Stand → Nat
  | nil => 0
  | st _ _ w => w.depth + 1
theorem pure_toD : ∀ s : Stand, pureD s.toD (s.depth + 1) = true
  | nil => by simp [toD, depth, pureD, pureL]
  | st z o w => by simp [toD, depth, pureD, pureL, pure_toD w]
end Stand
/-- the first stand -/
def begunR (r : Rule) : Stand := if h : r = .point then .nil else .st 0 0 (begunR (within r 0 0))
termination_by r.depth
decreasing_by exact depth_within h 0 0
theorem begunR_point : begunR .point = .nil := by rw [begunR]; simp
theorem begunR_unit {r : Rule} (h : r ≠ .point) : begunR r = .st 0 0 (begunR (within r 0 0)) := by rw [begunR]; simp [h]
/-- whether a unit is won by a count -/
def wonR (r : Rule) (own other : Int) : Bool := decide (r.cap = some own) || (decide (r.to ≤ own) && decide (r.lead ≤ own - other))
/-- a stand has the rule's form -/
def Fits : Rule → Stand → Prop
  | _, .nil => True
  | r, .st z o w => r ≠ .point ∧ Fits (within r z o) w
/-- a stand that is not won: it has a place for the next rally -/
def Open : Rule → Stand → Prop
  | r, .nil => r = .point
  | r, .st z o w => r ≠ .point ∧ Open (within r z o) w
theorem open_begun : ∀ (n : Nat) (r : Rule), r.depth ≤ n → Open r (begunR r)
  | n, r, hn => by
    by_cases h : r = .point
    · subst h; rw [begunR_point]; exact rfl
    · have hd := depth_within h 0 0
      match n with
      | 0 => omega
      | n + 1 =>
        rw [begunR_unit h]
        exact ⟨h, open_begun n _ (by omega)⟩
def bump (z o : Int) (side : Bool) : Int × Int := if side then (z, o + 1) else (z + 1, o)
def ownC (p : Int × Int) (side : Bool) : Int := if side then p.2 else p.1
def otherC (p : Int × Int) (side : Bool) : Int := if side then p.1 else p.2
/-- behind a rally: the stand, whether it is won; side true is 1 -/
def ralliedR : Rule → Stand → Bool → Stand × Bool
  | _, .nil, _ => (.nil, true)
  | r, .st z o w, side =>
    let q := ralliedR (within r z o) w side
    if q.2 then
      let p := bump z o side
      if wonR r (ownC p side) (otherC p side) then (.st p.1 p.2 .nil, true) else (.st p.1 p.2 (begunR (within r p.1 p.2)), false)
    else (.st z o q.1, false)
theorem open_rallied : ∀ {s : Stand} {r : Rule} {side : Bool}, Open r s → (ralliedR r s side).2 = false → Open r (ralliedR r s side).1
  | .nil, r, side, h, e => by simp [ralliedR] at e
  | .st z o w, r, side, h, e => by
    have ih := open_rallied (side := side) h.2
    simp only [ralliedR] at e ⊢
    split at e
    · rename_i hq
      split at e
      · cases e
      · rename_i hw
        rw [if_pos hq, if_neg hw]
        exact ⟨h.1, open_begun _ _ (Nat.le_refl _)⟩
    · rename_i hq
      rw [if_neg hq]
      exact ⟨h.1, ih (by simpa using hq)⟩
end RL
end
section
set_option maxHeartbeats 4000000
namespace CM
open PySem PySem.Spec PyProof.Rows L2 TL RL
noncomputable section
def b_rule_within : MS := (sSeq (sIf (tAnd (tB (eBin mIsNot (eBin mIdx (eVar 0) (eC (.int 5))) (eC .non))) (tAnd (tB (eBin mEq (eVar 1) (eBin mSub (eBin mIdx (eVar 0) (eC (.int 3))) (eC (.int 1))))) (tB (eBin mEq (eVar 2) (eBin mSub (eBin mIdx (eVar 0) (eC (.int 3))) (eC (.int 1))))))) (sRet (eBin mIdx (eVar 0) (eC (.int 5)))) sNil)
    (sRet (eBin mIdx (eVar 0) (eC (.int 4)))))
def m_rule_within : Fn := fnD 3 3 b_rule_within
def b_begun (r_begun : Fn) : MS := (sSeq (sIf (tB (eBin mEq (eVar 0) (eC (.tup [(.str "point")])))) (sRet (eTup aNil)) sNil)
    (sRet (eTup (aCons (eC (.int 0)) (aCons (eC (.int 0)) (aCons (eCall r_begun (aCons (eCall m_rule_within (aCons (eVar 0) (aCons (eC (.int 0)) (aCons (eC (.int 0)) aNil)))) aNil)) aNil))))))
def m_begun : Nat → Fn
  | 0 => noFn
  | n + 1 => fnD 1 1 (b_begun (m_begun n))
def b_is_won : MS := (sSeq (sIf (tAnd (tB (eBin mIsNot (eBin mIdx (eVar 0) (eC (.int 3))) (eC .non))) (tB (eBin mEq (eVar 1) (eBin mIdx (eVar 0) (eC (.int 3)))))) (sRet (eC (.bl true))) sNil)
    (sRet (eAnd (eBin mGe (eVar 1) (eBin mIdx (eVar 0) (eC (.int 1)))) (eBin mGe (eBin mSub (eVar 1) (eVar 2)) (eBin mIdx (eVar 0) (eC (.int 2)))))))
def m_is_won : Fn := fnD 3 3 b_is_won
def b_rallied (r_rallied : Fn) : MS := (sSeq (sIf (tB (eBin mEq (eVar 0) (eC (.tup [(.str "point")])))) (sRet (eTup (aCons (eTup aNil) (aCons (eC (.bl true)) aNil)))) sNil)
    (sSeq (sAsg (gOne 3) (eLst (aCons (eBin mIdx (eVar 1) (eC (.int 0))) (aCons (eBin mIdx (eVar 1) (eC (.int 1))) aNil))))
    (sSeq (sAsg (gTupD [4, 5]) (eCall r_rallied (aCons (eCall m_rule_within (aCons (eVar 0) (aCons (eBin mIdx (eVar 1) (eC (.int 0))) (aCons (eBin mIdx (eVar 1) (eC (.int 1))) aNil)))) (aCons (eBin mIdx (eVar 1) (eC (.int 2))) (aCons (eVar 2) aNil)))))
    (sSeq (sIf (tTru (eVar 5)) (sSeq (sSub (eVar 3) (eVar 2) (eBin mAdd (eBin mIdx (eVar 3) (eVar 2)) (eC (.int 1))))
    (sSeq (sIf (tTru (eCall m_is_won (aCons (eVar 0) (aCons (eBin mIdx (eVar 3) (eVar 2)) (aCons (eBin mIdx (eVar 3) (eBin mSub (eC (.int 1)) (eVar 2))) aNil))))) (sRet (eTup (aCons (eTup (aCons (eBin mIdx (eVar 3) (eC (.int 0))) (aCons (eBin mIdx (eVar 3) (eC (.int 1))) (aCons (eTup aNil) aNil)))) (aCons (eC (.bl true)) aNil)))) sNil)
    (sAsg (gOne 4) (eCall (m_begun 14) (aCons (eCall m_rule_within (aCons (eVar 0) (aCons (eBin mIdx (eVar 3) (eC (.int 0))) (aCons (eBin mIdx (eVar 3) (eC (.int 1))) aNil)))) aNil))))) sNil)
    (sRet (eTup (aCons (eTup (aCons (eBin mIdx (eVar 3) (eC (.int 0))) (aCons (eBin mIdx (eVar 3) (eC (.int 1))) (aCons (eVar 4) aNil)))) (aCons (eC (.bl false)) aNil))))))))
def m_rallied : Nat → Fn
  | 0 => noFn
  | n + 1 => fnD 3 6 (b_rallied (m_rallied n))
end
theorem rule_within_ok {r : Rule} (h : r ≠ .point) (z o : Int) (M : Mem) : m_rule_within [r.toD, .int z, .int o] M = .ok (within r z o).toD M := by
  show endS (b_rule_within [some r.toD, some (.int z), some (.int o)] M) = _
  unfold b_rule_within
  rw [toD_unit h]
  cases hl : r.last with
  | none => simp [lastD, within, hl]
  | some l =>
    obtain ⟨c, hc⟩ := cap_last hl
    simp [lastD, within, hl, hc, capD]
    by_cases h1 : z = c - 1 <;> by_cases h2 : o = c - 1 <;> simp [h1, h2]
theorem begun_ok : ∀ (n : Nat) (r : Rule) (M : Mem), r.depth < n → r.depth ≤ 60 → m_begun n [r.toD] M = .ok (begunR r).toD M
  | 0, _, _, h, _ => by omega
  | n + 1, r, M, h, h6 => by
    show endS (b_begun (m_begun n) [some r.toD] M) = _
    unfold b_begun
    by_cases hp : r = .point
    · subst hp
      simp [mEq_point (M := M) (r := .point) h6, begunR_point, Stand.toD]
    · have hd := depth_within hp 0 0
      simp [mEq_point (M := M) h6, hp, rule_within_ok hp, begun_ok n _ M (show (within r 0 0).depth < n by omega) (by omega), begunR_unit hp, Stand.toD]
theorem is_won_ok {r : Rule} (h : r ≠ .point) (own other : Int) (M : Mem) : m_is_won [r.toD, .int own, .int other] M = .ok (.bl (wonR r own other)) M := by
  show endS (b_is_won [some r.toD, some (.int own), some (.int other)] M) = _
  unfold b_is_won
  rw [toD_unit h]
  cases hc : r.cap with
  | none =>
    simp [wonR, hc, capD]
    by_cases h1 : r.to ≤ own <;> simp [h1]
  | some c =>
    by_cases h0 : own = c
    · subst h0; simp [wonR, hc, capD]
    · have h0' : ¬ c = own := fun e => h0 e.symm
      simp [wonR, hc, capD, h0, h0']
      by_cases h1 : r.to ≤ own <;> simp [h1]
def sideD (s : Bool) : D := .int (if s then 1 else 0)
theorem rallied_ok : ∀ (n : Nat) (r : Rule) (s : Stand) (side : Bool) (M : Mem), r.depth < n → r.depth ≤ 12 → Open r s → ∃ M', m_rallied n [r.toD, s.toD, sideD side] M = .ok (.tup [(ralliedR r s side).1.toD, .bl (ralliedR r s side).2]) M' ∧ Keep M M'
  | 0, _, _, _, _, h, _, _ => by omega
  | n + 1, r, s, side, M, h, h6, hO => by
    have h60 : r.depth ≤ 60 := by omega
    show ∃ M', endS (b_rallied (m_rallied n) [some r.toD, some s.toD, some (sideD side), none, none, none] M) = _ ∧ _
    unfold b_rallied
    cases s with
    | nil =>
      have hp : r = .point := hO
      subst hp
      exact ⟨M, by simp [mEq_point (M := M) (r := .point) h60, ralliedR, Stand.toD], Keep.refl M⟩
    | st z o w =>
      obtain ⟨hp, hO⟩ := hO
      have hd := depth_within hp z o
      obtain ⟨M1, e1, k1⟩ := rallied_ok n (within r z o) w side (M ++ [.lst [.int z, .int o]]) (by omega) (by omega) hO
      have l1 := k1.at (at_len M (.lst [.int z, .int o]))
      have hlt := lt_of_at l1
      have kk := (Keep.more M [.lst [.int z, .int o]]).trans k1
      simp only [ralliedR]
      generalize ralliedR (within r z o) w side = q at e1
      obtain ⟨w', won⟩ := q
      have nx : ∀ (a b : Int) (M : Mem), m_begun 14 [(within r a b).toD] M = .ok (begunR (within r a b)).toD M := fun a b M => begun_ok 14 _ M (by have := depth_within hp a b; omega) (by have := depth_within hp a b; omega)
      cases won with
      | false =>
        refine ⟨M1, ?_, kk⟩
        simp [mEq_point (M := M) h60, hp, Stand.toD, rule_within_ok hp, e1, seqAt, l1]
      | true =>
        cases side with
        | false =>
          refine ⟨M1.set M.length (.lst [.int (z + 1), .int o]), ?_, kk.setNew (Nat.le_refl _)⟩
          simp [sideD] at e1
          simp [mEq_point (M := M) h60, hp, Stand.toD, rule_within_ok hp, e1, seqAt, l1, sideD, setD, ixN, List.getElem?_set_self hlt, is_won_ok hp, RL.bump, ownC, otherC, nx]
          cases wonR r (z + 1) o <;> simp [Stand.toD, seqAt, List.getElem?_set_self hlt, rule_within_ok hp, nx]
        | true =>
          refine ⟨M1.set M.length (.lst [.int z, .int (o + 1)]), ?_, kk.setNew (Nat.le_refl _)⟩
          simp [sideD] at e1
          simp [mEq_point (M := M) h60, hp, Stand.toD, rule_within_ok hp, e1, seqAt, l1, sideD, setD, ixN, List.getElem?_set_self hlt, is_won_ok hp, RL.bump, ownC, otherC, nx]
          cases wonR r (o + 1) z <;> simp [Stand.toD, seqAt, List.getElem?_set_self hlt, rule_within_ok hp, nx]
theorem fits_depth : ∀ {s : Stand} {r : Rule}, Fits r s → s.depth ≤ r.depth
  | .nil, _, _ => Nat.zero_le _
  | .st z o w, r, h => by
    have := fits_depth h.2
    have := depth_within h.1 z o
    simp only [Stand.depth]; omega
theorem Open.fits : ∀ {s : Stand} {r : Rule}, Open r s → Fits r s
  | .nil, _, _ => trivial
  | .st _ _ _, _, h => ⟨h.1, Open.fits h.2⟩
/-- how many units would be won at once -/
def stakesR : Rule → Stand → Bool → Nat
  | _, .nil, _ => 0
  | r, .st z o w, side => stakesR (within r z o) w side + (if (ralliedR r (.st z o w) side).2 then 1 else 0)
end CM
end
section
namespace RL
open PySem PySem.Spec PyProof.Rows L2 TL CM
/-- counts of open units lie below the cap -/
def Below : Rule → Stand → Prop
  | _, .nil => True
  | r, .st z o w => 0 ≤ z ∧ 0 ≤ o ∧ (∀ c, r.cap = some c → z < c ∧ o < c) ∧ Below (within r z o) w
theorem good_inner {r : Rule} (h : r.good) : r.inner.good := by
  cases r with
  | point => exact h
  | unit _ _ _ i => exact h.2.2.2.2.2
  | unitL _ _ _ i l => exact h.2.2.2.2.2.2.1
theorem good_last {r l : Rule} (h : r.good) (e : r.last = some l) : l.good := by
  cases r with
  | unitL _ _ _ i l' => simp [Rule.last] at e; subst e; exact h.2.2.2.2.2.2.2
  | _ => simp [Rule.last] at e
theorem good_within {r : Rule} (h : r.good) (z o : Int) : (within r z o).good := by
  unfold within
  split
  · split
    · exact good_last h (by assumption)
    · exact good_inner h
  · exact good_inner h
theorem good_cap {r : Rule} (h : r.good) (hp : r ≠ .point) {c : Int} (e : r.cap = some c) : r.to ≤ c ∧ 1 ≤ c ∧ c ≤ 99 := by
  cases r with
  | point => exact absurd rfl hp
  | unit to lead cap i => simp [Rule.cap] at e; obtain ⟨h1, _, _, _, h5, _⟩ := h; have := h5 c e; simp [Rule.to]; omega
  | unitL to lead cap i l => simp [Rule.cap] at e; obtain ⟨h1, _, _, _, h5, h6, _⟩ := h; simp [Rule.to]; omega
theorem below_begun : ∀ (n : Nat) (r : Rule), r.depth ≤ n → r.good → Below r (begunR r)
  | n, r, hn, hg => by
    by_cases h : r = .point
    · subst h; rw [begunR_point]; exact trivial
    · have hd := depth_within h 0 0
      match n with
      | 0 => omega
      | n + 1 =>
        rw [begunR_unit h]
        exact ⟨Int.le_refl _, Int.le_refl _, fun c hc => by have := good_cap hg h hc; omega, below_begun n _ (by omega) (good_within hg 0 0)⟩
theorem below_rallied : ∀ {s : Stand} {r : Rule} {side : Bool}, r.good → Open r s → Below r s → (ralliedR r s side).2 = false → Below r (ralliedR r s side).1
  | .nil, r, side, hg, h, hb, e => by simp [ralliedR] at e
  | .st z o w, r, side, hg, h, hb, e => by
    have ih := below_rallied (side := side) (good_within hg z o) h.2 hb.2.2.2
    simp only [ralliedR] at e ⊢
    split at e
    · rename_i hq
      split at e
      · cases e
      · rename_i hw
        rw [if_pos hq, if_neg hw]
        refine ⟨?_, ?_, fun c hc => ?_, below_begun _ _ (Nat.le_refl _) (good_within hg _ _)⟩
        · have := hb.1; cases side <;> simp [bump] <;> omega
        · have := hb.2.1; cases side <;> simp [bump] <;> omega
        · obtain ⟨h1, h2⟩ := hb.2.2.1 c hc
          have hw' : wonR r (ownC (bump z o side) side) (otherC (bump z o side) side) = false := by simpa using hw
          unfold wonR at hw'
          rw [hc] at hw'
          cases side <;> simp [bump, ownC, otherC] at hw' ⊢ <;> omega
    · rename_i hq
      rw [if_neg hq]
      exact ⟨hb.1, hb.2.1, hb.2.2.1, ih (by simpa using hq)⟩
/-- the stand behind a row in which nobody wins -/
def runS (r : Rule) : Stand → List Bool → Stand
  | s, [] => s
  | s, x :: xs => runS r (ralliedR r s x).1 xs
/-- nobody wins along the row -/
def Alive (r : Rule) : Stand → List Bool → Prop
  | _, [] => True
  | s, x :: xs => (ralliedR r s x).2 = false ∧ Alive r (ralliedR r s x).1 xs
theorem runS_append {r : Rule} : ∀ (xs ys : List Bool) (s : Stand), runS r s (xs ++ ys) = runS r (runS r s xs) ys
  | [], _, _ => rfl
  | x :: xs, ys, s => by simp only [List.cons_append, runS]; exact runS_append xs ys _
theorem alive_open {r : Rule} (hg : r.good) : ∀ {xs : List Bool} {s : Stand}, Open r s → Below r s → Alive r s xs → Open r (runS r s xs) ∧ Below r (runS r s xs)
  | [], _, h, b, _ => ⟨h, b⟩
  | x :: xs, s, h, b, a => alive_open (s := (ralliedR r s x).1) hg (open_rallied h a.1) (below_rallied hg h b a.1) a.2
end RL
end
section
set_option maxHeartbeats 4000000
namespace CM
open PySem PySem.Spec PyProof.Rows L2 TL RL
noncomputable section
def b_l_draw : MS := (sSeq (sAsg (gOne 2) (eBin mIdx (eVar 0) (eC (.int 0))))
    (sSeq (sAsg (gOne 3) (eBin mIdx (eVar 0) (eC (.int 1))))
    (sSeq (sSub (eVar 0) (eC (.int 1)) (eBin mAdd (eVar 3) (eC (.int 1))))
    (sSeq (sAsg (gOne 4) (eC (.int 0)))
    (sSeq (sIf (tB (eBin mGt (eCallO nLen (aCons (eVar 2) aNil)) (eC (.int 0)))) (sAsg (gOne 4) (eBin mIdx (eVar 2) (eBin mMod (eIf (tB (eBin mEq (eBin mIdx (eVar 0) (eC (.int 3))) (eC (.int 1)))) (eBin mFdiv (eVar 3) (eC (.int 60))) (eVar 3)) (eCallO nLen (aCons (eVar 2) aNil))))) sNil)
    (sSeq (sIf (tB (eBin mEq (eBin mIdx (eVar 0) (eC (.int 3))) (eC (.int 1)))) (sSeq (sIf (tB (eBin mEq (eBin mMod (eVar 3) (eC (.int 60))) (eC (.int 0)))) (sSub (eVar 0) (eC (.int 2)) (eBin mFdiv (eVar 4) (eC (.int 2)))) sNil)
    (sSeq (sAsg (gOne 6) (eBin mIdx (eVar 0) (eC (.int 2))))
    (sSeq (sSub (eVar 0) (eC (.int 2)) (eBin mFdiv (eVar 6) (eVar 1)))
    (sRet (eBin mMod (eVar 6) (eVar 1)))))) sNil)
    (sSeq (sAsg (gOne 5) (eBin mMod (eBin mMul (eBin mAdd (eBin mMod (eVar 4) (eC (.int 1000003))) (eC (.int 1))) (eBin mAdd (eBin mAdd (eBin mMul (eBin mMod (eVar 3) (eC (.int 997))) (eC (.int 7919))) (eC (.int 104729))) (eVar 3))) (eC (.int 1000033))))
    (sSeq (sAsg (gOne 5) (eBin mMod (eBin mAdd (eBin mAdd (eBin mMul (eVar 5) (eVar 5)) (eBin mMul (eC (.int 3)) (eVar 5))) (eVar 3)) (eC (.int 999983))))
    (sRet (eBin mMod (eBin mMod (eBin mMul (eVar 5) (eC (.int 48271))) (eC (.int 65537))) (eVar 1)))))))))))
def m_l_draw : Fn := fnD 2 7 b_l_draw
def b_l_unit (r_l_unit : Fn) (r_l_rule : Fn) : MS := (sSeq (sAsg (gOne 3) (eBin mAdd (eC (.int 1)) (eCall m_l_draw (aCons (eVar 0) (aCons (eBin mIdx (eLst (aCons (eC (.int 3)) (aCons (eC (.int 5)) (aCons (eC (.int 99)) aNil)))) (eBin mFdiv (eCall m_l_draw (aCons (eVar 0) (aCons (eC (.int 20)) aNil))) (eC (.int 8)))) aNil)))))
    (sSeq (sAsg (gOne 4) (eBin mAdd (eC (.int 1)) (eCall m_l_draw (aCons (eVar 0) (aCons (eBin mIdx (eLst (aCons (eC (.int 2)) (aCons (eC (.int 3)) (aCons (eC (.int 99)) aNil)))) (eBin mFdiv (eCall m_l_draw (aCons (eVar 0) (aCons (eC (.int 20)) aNil))) (eC (.int 9)))) aNil)))))
    (sSeq (sAsg (gOne 5) (eC .non))
    (sSeq (sAsg (gOne 6) (eC .non))
    (sSeq (sIf (tB (eBin mEq (eCall m_l_draw (aCons (eVar 0) (aCons (eC (.int 2)) aNil))) (eC (.int 1)))) (sAsg (gOne 5) (eCallO nMin2 (aCons (eC (.int 99)) (aCons (eBin mAdd (eVar 3) (eCall m_l_draw (aCons (eVar 0) (aCons (eC (.int 4)) aNil)))) aNil)))) sNil)
    (sSeq (sAsg (gOne 7) (eCall r_l_rule (aCons (eVar 0) (aCons (eBin mSub (eVar 1) (eC (.int 1))) (aCons (eVar 2) aNil)))))
    (sSeq (sIf (tAnd (tB (eBin mIsNot (eVar 5) (eC .non))) (tB (eBin mGt (eCall m_l_draw (aCons (eVar 0) (aCons (eC (.int 3)) aNil))) (eC (.int 0))))) (sAsg (gOne 6) (eCall r_l_rule (aCons (eVar 0) (aCons (eCallO nMin2 (aCons (eBin mSub (eVar 1) (eC (.int 1))) (aCons (eVar 2) aNil))) (aCons (eVar 2) aNil))))) sNil)
    (sRet (eTup (aCons (eC (.str "unit")) (aCons (eVar 3) (aCons (eVar 4) (aCons (eVar 5) (aCons (eVar 7) (aCons (eVar 6) aNil)))))))))))))))
def b_l_rule (r_l_unit : Fn) (r_l_rule : Fn) : MS := (sSeq (sIf (tOr (tB (eBin mEq (eVar 1) (eC (.int 0)))) (tB (eBin mEq (eCall m_l_draw (aCons (eVar 0) (aCons (eC (.int 7)) aNil))) (eC (.int 3))))) (sRet (eTup (aCons (eC (.str "point")) aNil))) sNil)
    (sRet (eCall r_l_unit (aCons (eVar 0) (aCons (eVar 1) (aCons (eVar 2) aNil))))))
def g_l_unit : Nat → Fn × Fn
  | 0 => (noFn, noFn)
  | n + 1 => (fnD 3 8 (b_l_unit ((g_l_unit n).1) ((g_l_unit n).2)), fnD 3 3 (b_l_rule ((g_l_unit n).1) ((g_l_unit n).2)))
def m_l_unit (n : Nat) : Fn := (g_l_unit n).1
def m_l_rule (n : Nat) : Fn := (g_l_unit n).2
def b_l_any_rule : MS := (sSeq (sAsg (gOne 1) (eCall m_l_draw (aCons (eVar 0) (aCons (eC (.int 6)) aNil))))
    (sRet (eCall (m_l_rule 14) (aCons (eVar 0) (aCons (eBin mIdx (eLst (aCons (eC (.int 2)) (aCons (eC (.int 1)) (aCons (eC (.int 2)) (aCons (eC (.int 3)) (aCons (eC (.int 3)) (aCons (eC (.int 4)) aNil))))))) (eVar 1)) (aCons (eBin mIdx (eLst (aCons (eC (.int 3)) (aCons (eC (.int 3)) (aCons (eC (.int 3)) (aCons (eC (.int 3)) (aCons (eC (.int 1)) (aCons (eC (.int 1)) aNil))))))) (eVar 1)) aNil))))))
def m_l_any_rule : Fn := fnD 1 2 b_l_any_rule
end
/-- a tape at t -/
def Tape (M : Mem) (t : Nat) : Prop := ∃ (s : Nat) (ns : List Int) (spot left way : Int), M[t]? = some (.lst [.ref s, .int spot, .int left, .int way]) ∧ M[s]? = some (.rol (ns.map D.int)) ∧ ns.length ≤ 63 ∧ 0 ≤ spot
theorem cell_at {ns : List Int} (h : ns ≠ []) {k : Int} (hk : 0 ≤ k) : ∃ c : Int, atI (ns.map D.int) (k % (ns.length : Int)) = some (.int c) := by
  have hl : 0 < ns.length := List.length_pos_iff.mpr h
  have h1 : 0 ≤ k % (ns.length : Int) := Int.emod_nonneg _ (by omega)
  have h2 : k % (ns.length : Int) < ns.length := Int.emod_lt_of_pos _ (by omega)
  obtain ⟨a, e1, e2⟩ := atI_ok (xs := ns.map D.int) h1 (by rw [List.length_map]; exact h2)
  rw [List.getElem?_map] at e1
  cases q : ns[(k % (ns.length : Int)).toNat]? with
  | none => rw [q] at e1; cases e1
  | some c => rw [q] at e1; cases e1; exact ⟨c, e2⟩
def Drew (M : Mem) (t s : Nat) (spot many : Int) (d : D) (M' : Mem) : Prop := ∃ x l w : Int, d = .int (x % many) ∧ M' = M.set t (.lst [.ref s, .int (spot + 1), .int l, .int w])
theorem draw_ok {M : Mem} {t : Nat} {many : Int} (T : Tape M t) (h0 : 0 < many) (h1 : many < 1073741824) :
    Ret (m_l_draw [.ref t, .int many] M) (fun d M' => ∃ (r : Int) (o : MO), d = .int r ∧ M' = M.set t o ∧ 0 ≤ r ∧ r < many ∧ Tape (M.set t o) t) := by
  obtain ⟨s, ns, spot, left, way, ht, hs, hl, hp⟩ := T
  have hne : t ≠ s := by rintro rfl; rw [ht] at hs; cases hs
  have lt : t < M.length := (List.getElem?_eq_some_iff.mp ht).1
  have e : m_l_draw [.ref t, .int many] M = endS (b_l_draw [some (.ref t), some (.int many), none, none, none, none, none] M) := rfl
  suffices h : Ret (m_l_draw [.ref t, .int many] M) (Drew M t s spot many) by
    refine h.imp fun d M' ⟨x, l, w, h1, h2⟩ => ⟨_, _, h1, h2, Int.emod_nonneg _ (by omega), Int.emod_lt_of_pos _ h0, s, ns, spot + 1, l, w, by rw [List.getElem?_set_self lt], by rw [List.getElem?_set_ne hne]; exact hs, hl, by omega⟩
  rw [e]
  unfold b_l_draw
  have bnd : ∀ (x m : Int), 0 < m → 0 ≤ x % m ∧ x % m < m := fun x m h => ⟨Int.emod_nonneg _ (by omega), Int.emod_lt_of_pos _ h⟩
  have k1 : ∀ (x j : Int) (M : Mem), mMul (.int (x % 1000033)) (.int j) M = some (.int (x % 1000033 * j), M) := fun x j M => by
    rw [mMul_int, if_pos]; have := bnd x 1000033 (by decide); omega
  have k2 : ∀ (x j : Int) (M : Mem), mMul (.int (x % 1000003 + 1)) (.int j) M = some (.int ((x % 1000003 + 1) * j), M) := fun x j M => by
    rw [mMul_int, if_pos]; have := bnd x 1000003 (by decide); omega
  have k3 : ∀ (x j : Int) (M : Mem), mMul (.int (x % 997)) (.int j) M = some (.int (x % 997 * j), M) := fun x j M => by
    rw [mMul_int, if_pos]; have := bnd x 997 (by decide); omega
  have k4 : ∀ (j : Int) (M : Mem), mMul (.int 3) (.int j) M = some (.int (3 * j), M) := fun j M => by
    rw [mMul_int, if_pos]; omega
  have k5 : ∀ (x j : Int) (M : Mem), mMul (.int (x % 999983)) (.int j) M = some (.int (x % 999983 * j), M) := fun x j M => by
    rw [mMul_int, if_pos]; have := bnd x 999983 (by decide); omega
  have k0 : ∀ (j : Int) (M : Mem), mMul (.int 1) (.int j) M = some (.int (1 * j), M) := fun j M => by
    rw [mMul_int, if_pos]; omega
  have h2 : spot / 60 ≥ 0 := by omega
  by_cases hns : ns = []
  · subst hns
    by_cases hw : way = 1
    · by_cases h60 : spot % 60 = 0
      · simp [seqAt, ht, setD, ixN, List.getElem?_set_self lt, List.getElem?_set_ne hne, hs, hw, h60, h0, h1]
        first | exact .ok ⟨_, _, _, rfl, rfl⟩ | exact .ok ⟨0, _, _, by simp, rfl⟩
      · simp [seqAt, ht, setD, ixN, List.getElem?_set_self lt, List.getElem?_set_ne hne, hs, hw, h60, h0, h1]
        first | exact .ok ⟨_, _, _, rfl, rfl⟩ | exact .ok ⟨0, _, _, by simp, rfl⟩
    · simp [seqAt, ht, setD, ixN, List.getElem?_set_self lt, List.getElem?_set_ne hne, hs, hw, h0, h1, -mMul_int, k0, k1, k2, k3, k4, k5]
      first | exact .ok ⟨_, _, _, rfl, rfl⟩ | exact .ok ⟨0, _, _, by simp, rfl⟩
  · have hlen : 0 < ns.length := List.length_pos_iff.mpr hns
    have hlen' : (0 : Int) < (ns.length : Int) := by omega
    obtain ⟨c1, e1⟩ := cell_at hns hp
    obtain ⟨c2, e2⟩ := cell_at hns h2
    by_cases hw : way = 1
    · by_cases h60 : spot % 60 = 0
      · simp [seqAt, ht, setD, ixN, List.getElem?_set_self lt, List.getElem?_set_ne hne, hs, hw, h60, h0, h1, e1, e2, hlen, hlen']
        first | exact .ok ⟨_, _, _, rfl, rfl⟩ | exact .ok ⟨0, _, _, by simp, rfl⟩
      · simp [seqAt, ht, setD, ixN, List.getElem?_set_self lt, List.getElem?_set_ne hne, hs, hw, h60, h0, h1, e1, e2, hlen, hlen']
        first | exact .ok ⟨_, _, _, rfl, rfl⟩ | exact .ok ⟨0, _, _, by simp, rfl⟩
    · simp [seqAt, ht, setD, ixN, List.getElem?_set_self lt, List.getElem?_set_ne hne, hs, hw, h0, h1, e1, e2, hlen, hlen', -mMul_int, k0, k1, k2, k3, k4, k5]
      first | exact .ok ⟨_, _, _, rfl, rfl⟩ | exact .ok ⟨0, _, _, by simp, rfl⟩
/-- the tape at t goes on, all else stands -/
structure Adv (t : Nat) (M M' : Mem) : Prop where
  tape : Tape M' t
  len : M.length ≤ M'.length
  keep : ∀ n, n < M.length → n ≠ t → M'[n]? = M[n]?
theorem Tape.lt {M : Mem} {t : Nat} (T : Tape M t) : t < M.length := by obtain ⟨s, ns, spot, left, way, ht, _⟩ := T; exact lt_of_at ht
theorem Tape.keep {M M' : Mem} {t : Nat} (T : Tape M t) (k : Keep M M') : Tape M' t := by
  obtain ⟨s, ns, spot, left, way, ht, hs, h⟩ := T
  exact ⟨s, ns, spot, left, way, k.at ht, k.at hs, h⟩
theorem Adv.trans {t : Nat} {M M1 M2 : Mem} (a : Adv t M M1) (b : Adv t M1 M2) : Adv t M M2 :=
  ⟨b.tape, Nat.le_trans a.len b.len, fun n h hn => (b.keep n (Nat.lt_of_lt_of_le h a.len) hn).trans (a.keep n h hn)⟩
theorem Adv.of {t : Nat} {M M1 : Mem} (T : Tape M t) (k : Keep M M1) : Adv t M M1 := ⟨T.keep k, k.1, fun n h _ => k.2 n h⟩
theorem Adv.refl {t : Nat} {M : Mem} (T : Tape M t) : Adv t M M := .of T (.refl M)
theorem Adv.at {t : Nat} {M M1 : Mem} (a : Adv t M M1) {n : Nat} {o : MO} (h : M[n]? = some o) (hn : n ≠ t) : M1[n]? = some o := (a.keep n (lt_of_at h) hn).trans h
theorem Adv.seq {t : Nat} {M M1 : Mem} (a : Adv t M M1) {n : Nat} {xs : List D} (h : seqAt M n = some xs) (hn : n ≠ t) : seqAt M1 n = some xs := by
  unfold seqAt at h ⊢
  cases q : M[n]? with
  | none => rw [q] at h; cases h
  | some o => rw [a.at q hn]; rw [q] at h; exact h
/-- what a drawn number is -/
def DrawQ (t : Nat) (M : Mem) (many : Int) (d : D) (M' : Mem) : Prop := ∃ r : Int, d = .int r ∧ 0 ≤ r ∧ r < many ∧ Adv t M M'
theorem draw {M : Mem} {t : Nat} {many : Int} (T : Tape M t) (h0 : 0 < many) (h1 : many < 1073741824) : Ret (m_l_draw [.ref t, .int many] M) (DrawQ t M many) :=
  (draw_ok T h0 h1).imp fun d M' ⟨r, o, h1, h2, h3, h4, h5⟩ => ⟨r, h1, h3, h4, by rw [h2]; exact h5, by rw [h2, List.length_set]; omega, fun n hn hne => by rw [h2, List.getElem?_set_ne (Ne.symm hne)]⟩
/-- most units of a drawn rule -/
def ub : Nat → Nat → Nat
  | 0, _ => 0
  | d + 1, thin => 1 + ub d thin + ub (min d thin) thin
theorem ub_succ (d thin : Nat) : ub (d + 1) thin = 1 + ub d thin + ub (min d thin) thin := by rw [ub]
def RuleQ (t : Nat) (M : Mem) (deep thin : Nat) (d : D) (M' : Mem) : Prop := ∃ r : Rule, d = r.toD ∧ r.good ∧ r.depth ≤ deep ∧ r.units ≤ ub deep thin ∧ Adv t M M'
def RuleOk (f : Fn) (deep : Nat) : Prop := ∀ (M : Mem) (t thin : Nat), Tape M t → Ret (f [.ref t, .int (deep : Nat), .int (thin : Nat)] M) (RuleQ t M deep thin)
theorem pick3 {a b c k : Int} (h0 : 0 ≤ k) (h1 : k < 3) : ∃ v : Int, (v = a ∨ v = b ∨ v = c) ∧ atI [D.int a, .int b, .int c] k = some (.int v) := by
  rcases (show k = 0 ∨ k = 1 ∨ k = 2 by omega) with rfl | rfl | rfl
  · exact ⟨a, .inl rfl, by simp⟩
  · exact ⟨b, .inr (.inl rfl), by simp⟩
  · exact ⟨c, .inr (.inr rfl), by simp⟩
theorem unit_ok {ru rr : Fn} {deep : Nat} (ih : ∀ d ≤ deep, RuleOk rr d) : RuleOk (fnD 3 8 (b_l_unit ru rr)) (deep + 1) := by
  intro M t thin T
  show Ret (endS (b_l_unit ru rr [some (.ref t), some (.int (deep + 1 : Nat)), some (.int (thin : Nat)), none, none, none, none, none] M)) _
  unfold b_l_unit
  have n1 : M.length ≠ t := fun e => by have := T.lt; omega
  simp
  refine Ret.bind (draw (T.keep (Keep.more M _)) (by decide) (by decide)) ?_
  rintro _ M1 ⟨r1, rfl, h0, h1, A1⟩
  have l1 := A1.at (at_len M _) n1
  obtain ⟨v1, hv1, ev1⟩ := pick3 (a := 3) (b := 5) (c := 99) (k := r1 / 8) (by omega) (by omega)
  simp [seqAt, l1, ev1]
  refine Ret.bind (draw A1.tape (by omega) (by omega)) ?_
  rintro _ M2 ⟨r2, rfl, h2, h3, A2⟩
  have a2 := (Adv.of T (Keep.more M _)).trans (A1.trans A2)
  have n2 : M2.length ≠ t := fun e => by have := A2.tape.lt; omega
  simp
  refine Ret.bind (draw (A2.tape.keep (Keep.more M2 _)) (by decide) (by decide)) ?_
  rintro _ M3 ⟨r3, rfl, h4, h5, A3⟩
  have l3 := A3.at (at_len M2 _) n2
  obtain ⟨v2, hv2, ev2⟩ := pick3 (a := 2) (b := 3) (c := 99) (k := r3 / 9) (by omega) (by omega)
  simp [seqAt, l3, ev2]
  refine Ret.bind (draw A3.tape (by omega) (by omega)) ?_
  rintro _ M4 ⟨r4, rfl, h6, h7, A4⟩
  have a4 := a2.trans ((Adv.of A2.tape (Keep.more M2 _)).trans (A3.trans A4))
  simp
  refine Ret.bind (draw A4.tape (by decide) (by decide)) ?_
  rintro _ M5 ⟨r5, rfl, h8, h9, A5⟩
  have a5 := a4.trans A5
  have em : (if thin < deep then (thin : Int) else (deep : Int)) = ((min deep thin : Nat) : Int) := by split <;> omega
  by_cases c5 : r5 = 1
  · simp [c5]
    refine Ret.bind (draw A5.tape (by decide) (by decide)) ?_
    rintro _ M6 ⟨r6, rfl, h10, h11, A6⟩
    have a6 := a5.trans A6
    simp
    refine Ret.bind (ih deep (Nat.le_refl _) M6 t thin A6.tape) ?_
    rintro _ M7 ⟨inner, rfl, g1, g2, g3, A7⟩
    refine Ret.bind (draw A7.tape (by decide) (by decide)) ?_
    rintro _ M8 ⟨r8, rfl, h12, h13, A8⟩
    have a8 := a6.trans (A7.trans A8)
    simp
    by_cases c8 : 0 < r8
    · simp [c8, em]
      refine Ret.bind (ih (min deep thin) (Nat.min_le_left _ _) M8 t thin A8.tape) ?_
      rintro _ M9 ⟨last, rfl, g4, g5, g6, A9⟩
      refine .ok ⟨.unitL (1 + r2) (1 + r4) (if 1 + r2 + r6 < 99 then 1 + r2 + r6 else 99) inner last, rfl, ⟨by omega, by omega, by omega, by omega, by split <;> omega, by split <;> omega, g1, g4⟩, ?_, ?_, a8.trans A9⟩
      · show max inner.depth last.depth + 1 ≤ deep + 1
        have := Nat.min_le_left deep thin
        omega
      · show inner.units + last.units + 1 ≤ _
        rw [ub_succ]
        omega
    · simp [c8]
      refine .ok ⟨.unit (1 + r2) (1 + r4) (some (if 1 + r2 + r6 < 99 then 1 + r2 + r6 else 99)) inner, rfl, ⟨by omega, by omega, by omega, by omega, fun c hc => by cases hc; constructor <;> split <;> omega, g1⟩, ?_, ?_, a8⟩
      · show inner.depth + 1 ≤ deep + 1
        omega
      · show inner.units + 1 ≤ _
        rw [ub_succ]
        omega
  · simp [c5]
    refine Ret.bind (ih deep (Nat.le_refl _) M5 t thin A5.tape) ?_
    rintro _ M7 ⟨inner, rfl, g1, g2, g3, A7⟩
    refine .ok ⟨.unit (1 + r2) (1 + r4) none inner, rfl, ⟨by omega, by omega, by omega, by omega, fun c hc => (nomatch hc), g1⟩, ?_, ?_, a5.trans A7⟩
    · show inner.depth + 1 ≤ deep + 1
      omega
    · show inner.units + 1 ≤ _
      rw [ub_succ]
      omega
theorem rule_step {ru rr : Fn} {deep : Nat} (ih : ∀ d, deep = d + 1 → RuleOk ru deep) : RuleOk (fnD 3 3 (b_l_rule ru rr)) deep := by
  intro M t thin T
  show Ret (endS (b_l_rule ru rr [some (.ref t), some (.int (deep : Nat)), some (.int (thin : Nat))] M)) _
  unfold b_l_rule
  cases deep with
  | zero =>
    simp
    exact .ok ⟨.point, rfl, trivial, Nat.le_refl _, Nat.zero_le _, .refl T⟩
  | succ deep =>
    have ne : ¬ ((deep : Int) + 1 = 0) := by omega
    simp [ne]
    refine Ret.bind (draw T (by decide) (by decide)) ?_
    rintro _ M1 ⟨r1, rfl, h0, h1, A1⟩
    by_cases c : r1 = 3
    · simp [c]
      exact .ok ⟨.point, rfl, trivial, Nat.zero_le _, Nat.zero_le _, A1⟩
    · simp [c]
      obtain ⟨d, M2, e, r, h1, h2, h3, h4, A2⟩ := ih deep rfl M1 t thin A1.tape
      rw [show ((deep + 1 : Nat) : Int) = (deep : Int) + 1 from by omega] at e
      rw [e]
      simp
      exact .ok ⟨r, h1, h2, h3, h4, A1.trans A2⟩
theorem rule_ok : ∀ (n deep : Nat), 2 * deep + 1 ≤ n → RuleOk (m_l_rule n) deep
  | 0, deep, h => by omega
  | n + 1, deep, h => by
    refine rule_step fun d hd => ?_
    match n, h with
    | 0, h => omega
    | n + 1, h =>
      subst hd
      exact unit_ok fun d' hd' => rule_ok n d' (by omega)
def AnyRuleQ (t : Nat) (M : Mem) (d : D) (M' : Mem) : Prop := ∃ r : Rule, d = r.toD ∧ r.good ∧ r.depth ≤ 4 ∧ r.units ≤ 7 ∧ Adv t M M'
theorem any_rule {M : Mem} {t : Nat} (T : Tape M t) : Ret (m_l_any_rule [.ref t] M) (AnyRuleQ t M) := by
  show Ret (endS (b_l_any_rule [some (.ref t), none] M)) _
  unfold b_l_any_rule
  simp
  refine Ret.bind (draw T (by decide) (by decide)) ?_
  rintro _ M1 ⟨r1, rfl, h0, h1, A1⟩
  obtain ⟨dp, th, e1, e2, hdp, hub⟩ : ∃ dp th : Nat, atI [D.int 2, D.int 1, D.int 2, D.int 3, D.int 3, D.int 4] r1 = some (.int dp) ∧ atI [D.int 3, D.int 3, D.int 3, D.int 3, D.int 1, D.int 1] r1 = some (.int th) ∧ dp ≤ 4 ∧ ub dp th ≤ 7 := by
    rcases (show r1 = 0 ∨ r1 = 1 ∨ r1 = 2 ∨ r1 = 3 ∨ r1 = 4 ∨ r1 = 5 by omega) with rfl | rfl | rfl | rfl | rfl | rfl
    · exact ⟨2, 3, by simp, by simp, by decide, by simp [ub]⟩
    · exact ⟨1, 3, by simp, by simp, by decide, by simp [ub]⟩
    · exact ⟨2, 3, by simp, by simp, by decide, by simp [ub]⟩
    · exact ⟨3, 3, by simp, by simp, by decide, by simp [ub]⟩
    · exact ⟨3, 1, by simp, by simp, by decide, by simp [ub]⟩
    · exact ⟨4, 1, by simp, by simp, by decide, by simp [ub]⟩
  simp [seqAt, e1, e2]
  refine Ret.bind (rule_ok 14 dp (by omega) _ t th (A1.tape.keep (Keep.more _ _))) ?_
  rintro _ M2 ⟨r, rfl, g1, g2, g3, A2⟩
  exact .ok ⟨r, rfl, g1, by omega, by omega, A1.trans ((Adv.of A1.tape (Keep.more _ _)).trans A2)⟩
end CM
end
section
set_option maxHeartbeats 4000000
namespace CM
open PySem PySem.Spec PyProof.Rows L2 TL RL
noncomputable section
def b_l_alike (r_l_alike : Fn) : MS := (sSeq (sIf (tTru (eIsi "tuple" (eVar 1))) (sSeq (sIf (tOr (tNot (tTru (eIsi "tuple" (eVar 0)))) (tB (eBin mNe (eCallO nLen (aCons (eVar 0) aNil)) (eCallO nLen (aCons (eVar 1) aNil))))) (sRet (eC (.bl false))) sNil)
    (sRet (eBin mNotIn (eC (.bl false)) (eComp 2 (iRange1 (eCallO nLen (aCons (eVar 1) aNil))) tYesD (eCall r_l_alike (aCons (eBin mIdx (eVar 0) (eVar 2)) (aCons (eBin mIdx (eVar 1) (eVar 2)) aNil))))))) sNil)
    (sSeq (sIf (tTru (eIsi "bool" (eVar 1))) (sRet (eAnd (eIsi "bool" (eVar 0)) (eBin mEq (eVar 0) (eVar 1)))) sNil)
    (sRet (eAnd (eIsi "int" (eVar 0)) (eAnd (eNot (eIsi "bool" (eVar 0))) (eBin mEq (eVar 0) (eVar 1)))))))
def m_l_alike : Nat → Fn
  | 0 => noFn
  | n + 1 => fnD 2 3 (b_l_alike (m_l_alike n))
end
section
variable {r : Rule} {M : Mem}
theorem ix1 (h : r ≠ .point) : mIdx r.toD (.int 1) M = some (.int r.to, M) := by rw [toD_unit h]; simp
theorem ix2 (h : r ≠ .point) : mIdx r.toD (.int 2) M = some (.int r.lead, M) := by rw [toD_unit h]; simp
theorem ix3 (h : r ≠ .point) : mIdx r.toD (.int 3) M = some (capD r.cap, M) := by rw [toD_unit h]; simp
theorem ix4 (h : r ≠ .point) : mIdx r.toD (.int 4) M = some (r.inner.toD, M) := by rw [toD_unit h]; simp
theorem ix5 (h : r ≠ .point) : mIdx r.toD (.int 5) M = some (lastD r.last, M) := by rw [toD_unit h]; simp
end
@[simp] theorem isNon_lastD {l : Option Rule} : isNon (lastD l) = l.isNone := by cases l <;> simp [lastD]
/-- all but the list at e stand -/
def KeepX (e : Nat) (M M' : Mem) : Prop := M.length ≤ M'.length ∧ ∀ n, n < M.length → n ≠ e → M'[n]? = M[n]?
theorem KeepX.refl (e : Nat) (M : Mem) : KeepX e M M := ⟨Nat.le_refl _, fun _ _ _ => rfl⟩
theorem KeepX.trans {e : Nat} {M M1 M2 : Mem} (a : KeepX e M M1) (b : KeepX e M1 M2) : KeepX e M M2 := ⟨Nat.le_trans a.1 b.1, fun n h hn => (b.2 n (Nat.lt_of_lt_of_le h a.1) hn).trans (a.2 n h hn)⟩
theorem Keep.x {e : Nat} {M M1 : Mem} (a : Keep M M1) : KeepX e M M1 := ⟨a.1, fun n h _ => a.2 n h⟩
theorem KeepX.at {e : Nat} {M M' : Mem} (k : KeepX e M M') {n : Nat} {o : MO} (h : M[n]? = some o) (hn : n ≠ e) : M'[n]? = some o := (k.2 n (lt_of_at h) hn).trans h
theorem KeepX.set (e : Nat) (M : Mem) (o : MO) : KeepX e M (M.set e o) := ⟨by rw [List.length_set]; omega, fun n _ hn => List.getElem?_set_ne (Ne.symm hn)⟩
theorem KeepX.setNew {e : Nat} {M M' : Mem} {n : Nat} {o : MO} (k : KeepX e M M') (h : M.length ≤ n) : KeepX e M (M'.set n o) :=
  ⟨by rw [List.length_set]; exact k.1, fun m hm hn => by rw [List.getElem?_set_ne (by omega)]; exact k.2 m hm hn⟩
theorem Adv.setNew {t : Nat} {M M' : Mem} {k : Nat} {o : MO} (a : Adv t M M') (h : M.length ≤ k) (hk : k ≠ t) (hnl : ∀ s, M'[t]? = some (.lst s) → ∀ q, s[0]? = some (.ref q) → q ≠ k) : Adv t M (M'.set k o) := by
  obtain ⟨⟨s, ns, spot, left, way, ht, hs, hl, hp⟩, h1, h2⟩ := a
  refine ⟨⟨s, ns, spot, left, way, by rw [List.getElem?_set_ne hk]; exact ht, ?_, hl, hp⟩, by rw [List.length_set]; exact h1, fun n hn hne => by rw [List.getElem?_set_ne (by omega)]; exact h2 n hn hne⟩
  rw [List.getElem?_set_ne (Ne.symm (hnl _ ht s rfl))]
  exact hs
/-- a list of ours is no tape's script -/
theorem Adv.setLst {t : Nat} {M M' : Mem} {k : Nat} {xs : List D} {o : MO} (a : Adv t M M') (h : M.length ≤ k) (hk : k ≠ t) (hx : M'[k]? = some (.lst xs)) : Adv t M (M'.set k o) := by
  refine a.setNew h hk fun s hs q hq e => ?_
  obtain ⟨⟨s', ns, spot, left, way, ht, hs', _⟩, _⟩ := a
  rw [ht] at hs
  cases hs
  cases hq
  subst e
  rw [hx] at hs'
  cases hs'
end CM
end
section
set_option maxHeartbeats 4000000
namespace CM
open PySem PySem.Spec PyProof.Rows L2 TL RL
theorem cutL_to {α : Type} {xs : List α} {k : Nat} (h : k ≤ xs.length) : cutL xs none (some (k : Int)) = xs.take k := by
  unfold cutL
  rw [HT.sIx_nat, HT.sIx_none, Nat.min_eq_left h]
  simp
/-- the stand behind so many rallies -/
def standAt (r : Rule) (ys : List Bool) (k : Nat) : Stand := runS r (begunR r) (ys.take k)
theorem standAt_zero {r : Rule} {ys : List Bool} : standAt r ys 0 = begunR r := rfl
theorem standAt_succ {r : Rule} {ys : List Bool} {k : Nat} (h : k < ys.length) : standAt r ys (k + 1) = (ralliedR r (standAt r ys k) ys[k]).1 := by
  unfold standAt
  rw [List.take_succ_eq_append_getElem h, runS_append]
  rfl
/-- a row that is played on, ended or not -/
structure Walk (r : Rule) (ys : List Bool) (ended : Bool) : Prop where
  alive : ∀ k, k < ys.length → Alive r (begunR r) (ys.take k)
  won : ∀ k (h : k < ys.length), (ralliedR r (standAt r ys k) ys[k]).2 = (ended && decide (k + 1 = ys.length))
theorem Walk.open {r : Rule} {ys : List Bool} {b : Bool} (w : Walk r ys b) (hg : r.good) {k : Nat} (hk : k < ys.length) : Open r (standAt r ys k) ∧ Below r (standAt r ys k) :=
  alive_open hg (open_begun _ _ (Nat.le_refl _)) (below_begun _ _ (Nat.le_refl _) hg) (w.alive k hk)
theorem fits_rallied : ∀ {s : Stand} {r : Rule} {side : Bool}, Open r s → Fits r (ralliedR r s side).1 ∧ (r = .point ↔ (ralliedR r s side).1 = .nil)
  | .nil, r, side, h => ⟨trivial, fun _ => rfl, fun _ => h⟩
  | .st z o w, r, side, h => by
    have ih := fits_rallied (side := side) h.2
    simp only [ralliedR]
    split
    · split
      · exact ⟨⟨h.1, trivial⟩, fun e => absurd e h.1, fun e => by cases e⟩
      · exact ⟨⟨h.1, CM.Open.fits (open_begun _ _ (Nat.le_refl _))⟩, fun e => absurd e h.1, fun e => by cases e⟩
    · exact ⟨⟨h.1, ih.1⟩, fun e => absurd e h.1, fun e => by cases e⟩
theorem open_nil : ∀ {s : Stand} {r : Rule}, Open r s → (r = .point ↔ s = .nil)
  | .nil, r, h => ⟨fun _ => rfl, fun _ => h⟩
  | .st z o w, r, h => ⟨fun e => absurd e h.1, fun e => by cases e⟩
theorem Walk.fits {r : Rule} {ys : List Bool} {b : Bool} (w : Walk r ys b) (hg : r.good) {k : Nat} (hk : k ≤ ys.length) : Fits r (standAt r ys k) ∧ (r = .point ↔ standAt r ys k = .nil) := by
  cases k with
  | zero =>
    rw [standAt_zero]
    have h := open_begun _ r (Nat.le_refl _)
    exact ⟨CM.Open.fits h, open_nil h⟩
  | succ k =>
    rw [standAt_succ (by omega)]
    exact fits_rallied (w.open hg (by omega)).1
theorem Walk.depth {r : Rule} {ys : List Bool} {b : Bool} (w : Walk r ys b) (hg : r.good) {k : Nat} (hk : k ≤ ys.length) : (standAt r ys k).depth ≤ r.depth := fits_depth (w.fits hg hk).1
/-- the stands along a row -/
def standsD (r : Rule) (ys : List Bool) (n : Nat) : List D := ((List.range n).map (standAt r ys)).map Stand.toD
@[simp] theorem standsD_length {r : Rule} {ys : List Bool} {n : Nat} : (standsD r ys n).length = n := by simp [standsD]
def Tru (d : D) (_ : Mem) : Prop := d = .bl true
theorem rng_cons (lo : Int) (n : Nat) : rngItems lo (n + 1) = .int lo :: rngItems (lo + 1) n := by
  unfold rngItems
  rw [List.range_succ_eq_map]
  simp only [List.map_cons, List.map_map]
  congr 1
  · simp
  · refine List.map_congr_left fun k _ => ?_
    simp only [Function.comp]
    congr 1
    omega
theorem mNe_bl {M : Mem} (b c : Bool) : mNe (.bl b) (.bl c) M = some (.bl (b != c), M) := by
  rw [mNe_eq, eqD_pure (n := 0) (m := 0) (by simp [pureD]) (by simp [pureD]) (by omega) (by omega)]
  cases b <;> cases c <;> simp [pyD, PyData.eqv]
end CM
end
section
set_option maxHeartbeats 4000000
namespace RB
open PySem PySem.Spec PyProof.Rows L2 TL RL CM
structure LRow where
  done : Int
  ball : Int
  up : Int
  near : Int
  far : Int
  extra : Int
  total : Int
def LRow.toD (r : LRow) : D := .tup [.int r.done, .int r.ball, .int r.up, .int r.near, .int r.far, .int r.extra, .int r.total]
/-- the program's step -/
def frameB (P n : Int) (r : LRow) (near far earned : Int) : LRow × Bool :=
  if r.done = n - 1 ∧ 0 < earned then (⟨r.done, 0, P, near, far, earned, r.total⟩, false) else (⟨r.done + 1, 0, P, near, far, 0, r.total⟩, true)
def extraB (P : Int) (r : LRow) : LRow × Bool :=
  if r.extra = 1 then (⟨r.done + 1, 0, P, r.near, r.far, 0, r.total⟩, true) else (⟨r.done, 0, if r.up = 0 then P else r.up, r.near, r.far, r.extra - 1, r.total⟩, false)
def stepR (P n : Int) (r : LRow) (p : Int) : LRow × Bool :=
  if 0 < r.extra then extraB P ⟨r.done, 0, r.up - p, r.far, 0, r.extra, r.total + p * r.near⟩
  else if r.up = p ∧ r.ball = 0 then frameB P n ⟨r.done, r.ball + 1, r.up - p, r.far, 0, 0, r.total + p * r.near + p⟩ (r.far + 1) 1 2
  else if r.up = p then frameB P n ⟨r.done, r.ball + 1, r.up - p, r.far, 0, 0, r.total + p * r.near + p⟩ (r.far + 1) 0 1
  else if r.ball = 1 then frameB P n ⟨r.done, r.ball + 1, r.up - p, r.far, 0, 0, r.total + p * r.near + p⟩ r.far 0 0
  else (⟨r.done, r.ball + 1, r.up - p, r.far, 0, 0, r.total + p * r.near + p⟩, false)
/-- a frame of a sheet: where it begins, where it ends, how many balls it earns -/
structure Fr where
  b : Nat
  e : Nat
  q : Nat
/-- a sheet, read: the frames done, the first ball of one begun -/
structure Sh where
  g : List Fr
  h : Option Int
def push (P : Int) (n L : Nat) (s : Sh) (p : Int) : Sh := match s.h with
  | some a => ⟨s.g ++ [⟨L - 1, L + 1, if a + p = P then 1 else 0⟩], none⟩
  | none => if s.g.length < n then (if p = P then ⟨s.g ++ [⟨L, L + 1, 2⟩], none⟩ else ⟨s.g, some p⟩) else s
/-- of balls, from the first one on -/
def sh (P : Int) (n : Nat) (bs : List Int) : Sh :=
  (bs.foldl (fun (x : Sh × Nat) p => (push P n x.2 x.1 p, x.2 + 1)) (⟨[], none⟩, 0)).1
/-- how many frames still earn the ball that comes behind m -/
def cnt (g : List Fr) (m : Nat) : Nat := (g.filter fun f => decide (m < f.e + f.q)).length
def own (bs : List Int) (f : Fr) : Int := ((bs.drop f.b).take (f.e - f.b)).sum
def more (bs : List Int) (f : Fr) : Int := ((bs.drop f.e).take f.q).sum
def tot (bs : List Int) (s : Sh) : Int := (s.g.map fun f => own bs f + more bs f).sum + s.h.getD 0
/-- what is known of a sheet -/
structure Ok (P : Int) (n : Nat) (bs : List Int) (s : Sh) : Prop where
  ends : ∀ f ∈ s.g, f.b ≤ f.e ∧ f.e ≤ bs.length ∧ f.q ≤ 2
  len : s.g.length ≤ n
  half : ∀ a, s.h = some a → s.g.length < n ∧ 1 ≤ bs.length ∧ bs[bs.length - 1]? = some a ∧ 0 ≤ a ∧ a < P
/-- the last frame -/
def lastF (s : Sh) : Fr := s.g.getLastD ⟨0, 0, 0⟩
/-- balls behind the last frame that are still to come -/
def ex (n : Nat) (bs : List Int) (s : Sh) : Int := if s.h = none ∧ s.g.length = n then (lastF s).q - ((bs.length - (lastF s).e : Nat) : Int) else 0
def upR (P : Int) (n : Nat) (bs : List Int) (s : Sh) : Int := match s.h with
  | some a => P - a
  | none => if 0 < ex n bs s ∧ (lastF s).e < bs.length ∧ bs.getLastD 0 < P then P - bs.getLastD 0 else P
def row (P : Int) (n : Nat) (bs : List Int) (s : Sh) : LRow :=
  ⟨s.g.length - (if 0 < ex n bs s then 1 else 0), if s.h.isSome then 1 else 0, upR P n bs s, cnt s.g bs.length, cnt s.g (bs.length + 1), ex n bs s, tot bs s⟩
theorem own_snoc {bs : List Int} {f : Fr} (h1 : f.b ≤ f.e) (h2 : f.e ≤ bs.length) (p : Int) : own (bs ++ [p]) f = own bs f := by
  unfold own
  rw [List.drop_append_of_le_length (by omega), List.take_append_of_le_length (by simp; omega)]
theorem more_snoc {bs : List Int} {f : Fr} (h2 : f.e ≤ bs.length) (p : Int) : more (bs ++ [p]) f = more bs f + (if bs.length < f.e + f.q then p else 0) := by
  unfold more
  rw [List.drop_append_of_le_length h2, List.take_append]
  rw [List.sum_append]
  congr 1
  simp only [List.length_drop]
  by_cases h : bs.length < f.e + f.q
  · rw [if_pos h, List.take_of_length_le (by simp; omega)]; simp
  · rw [if_neg h, show f.q - (bs.length - f.e) = 0 by omega]; simp
theorem tot_snoc {bs : List Int} (p : Int) : ∀ {g : List Fr}, (∀ f ∈ g, f.b ≤ f.e ∧ f.e ≤ bs.length ∧ f.q ≤ 2) → (g.map fun f => own (bs ++ [p]) f + more (bs ++ [p]) f).sum = (g.map fun f => own bs f + more bs f).sum + p * cnt g bs.length
  | [], _ => by simp [cnt]
  | f :: g, h => by
    obtain ⟨h1, h2, _⟩ := h f List.mem_cons_self
    have ih := tot_snoc p (g := g) fun x hx => h x (List.mem_cons_of_mem _ hx)
    simp only [List.map_cons, List.sum_cons]
    rw [ih, own_snoc h1 h2, more_snoc h2]
    by_cases c : bs.length < f.e + f.q
    · rw [if_pos c, show cnt (f :: g) bs.length = cnt g bs.length + 1 by unfold cnt; rw [List.filter_cons_of_pos (by simpa using c)]; rfl]
      rw [Int.natCast_add, Int.mul_add]; omega
    · rw [if_neg c, show cnt (f :: g) bs.length = cnt g bs.length by unfold cnt; rw [List.filter_cons_of_neg (by simpa using c)]]
      omega
theorem cnt_snoc (g : List Fr) (f : Fr) (m : Nat) : cnt (g ++ [f]) m = cnt g m + (if m < f.e + f.q then 1 else 0) := by
  unfold cnt
  rw [List.filter_append, List.length_append]
  congr 1
  by_cases c : m < f.e + f.q
  · rw [if_pos c, List.filter_cons_of_pos (by simpa using c)]; rfl
  · rw [if_neg c, List.filter_cons_of_neg (by simpa using c)]; rfl
theorem cnt_far {g : List Fr} {L : Nat} (h : ∀ f ∈ g, f.b ≤ f.e ∧ f.e ≤ L ∧ f.q ≤ 2) : cnt g (L + 2) = 0 := by
  unfold cnt
  rw [List.filter_eq_nil_iff.mpr fun f hf => by have := h f hf; simp; omega]
  rfl
theorem lastF_snoc (g : List Fr) (f : Fr) (h : Option Int) : lastF ⟨g ++ [f], h⟩ = f := by simp [lastF, List.getLastD_eq_getLast?]
theorem last_mem {s : Sh} (h : s.g ≠ []) : lastF s ∈ s.g := by
  unfold lastF
  rw [List.getLastD_eq_getLast?, List.getLast?_eq_some_getLast h]
  exact List.getLast_mem h
/-- a ball more -/
theorem step_ok {P : Int} {n : Nat} {bs : List Int} {s : Sh} {p : Int} (hP : 1 ≤ P) (o : Ok P n bs s) (h0 : 0 ≤ p) (hp : p ≤ (row P n bs s).up) (hd : (row P n bs s).done < n) :
    stepR P n (row P n bs s) p = (row P n (bs ++ [p]) (push P n bs.length s p), decide ((row P n (bs ++ [p]) (push P n bs.length s p)).ball = 0 ∧ (row P n (bs ++ [p]) (push P n bs.length s p)).extra = 0)) := by
  have hlen : (bs ++ [p]).length = bs.length + 1 := by simp
  have hlast : (bs ++ [p]).getLastD 0 = p := by simp [List.getLastD_eq_getLast?]
  have hfar := cnt_far o.ends
  have ht := tot_snoc p o.ends
  have hmul : p * (cnt s.g bs.length : Int) = p * (cnt s.g bs.length : Int) := rfl
  cases hh : s.h with
  | some a =>
    obtain ⟨h1, h2, h3, h4, h5⟩ := o.half a hh
    have hex : ex n bs s = 0 := by unfold ex; rw [if_neg (by rw [hh]; simp)]
    have hup : upR P n bs s = P - a := by unfold upR; rw [hh]
    have hp' : p ≤ P - a := by have := hp; simp only [row, hup] at this; exact this
    have hpush : push P n bs.length s p = ⟨s.g ++ [⟨bs.length - 1, bs.length + 1, if a + p = P then 1 else 0⟩], none⟩ := by unfold push; rw [hh]
    have hown : own (bs ++ [p]) ⟨bs.length - 1, bs.length + 1, if a + p = P then 1 else 0⟩ = a + p := by
      unfold own
      simp only
      have : (bs ++ [p]).drop (bs.length - 1) = [a, p] := by
        rw [List.drop_append_of_le_length (by omega)]
        have : bs.drop (bs.length - 1) = [a] := by
          rw [List.drop_eq_getElem_cons (by omega), List.drop_eq_nil_of_le (by omega)]
          rw [List.getElem?_eq_getElem (by omega)] at h3
          rw [Option.some.inj h3]
        rw [this]; rfl
      rw [this, List.take_of_length_le (by simp; omega)]
      simp
    have hmore : more (bs ++ [p]) ⟨bs.length - 1, bs.length + 1, if a + p = P then 1 else 0⟩ = 0 := by
      unfold more
      simp only
      rw [List.drop_eq_nil_of_le (by simp)]
      simp
    have htot : tot (bs ++ [p]) (push P n bs.length s p) = tot bs s + p * cnt s.g bs.length + p := by
      rw [hpush]
      unfold tot
      rw [hh]
      simp only [List.map_append, List.sum_append, List.map_cons, List.map_nil, List.sum_cons, List.sum_nil, ht, hown, hmore, Option.getD_none, Option.getD_some]
      omega
    have hl1 : (s.g ++ [(⟨bs.length - 1, bs.length + 1, if a + p = P then 1 else 0⟩ : Fr)]).length = s.g.length + 1 := by simp
    have hex' : ex n (bs ++ [p]) (push P n bs.length s p) = if s.g.length + 1 = n then (if a + p = P then 1 else 0) else 0 := by
      rw [hpush]
      unfold ex
      rw [lastF_snoc, hl1, hlen]
      by_cases c : s.g.length + 1 = n
      · rw [if_pos ⟨rfl, c⟩, if_pos c]; simp; split <;> rfl
      · rw [if_neg (by simp [c]), if_neg c]
    have hc1 : cnt (push P n bs.length s p).g (bs.length + 1) = cnt s.g (bs.length + 1) + (if a + p = P then 1 else 0) := by
      rw [hpush, cnt_snoc]
      by_cases c : a + p = P
      · simp [c]
      · simp [c]
    have hc2 : cnt (push P n bs.length s p).g (bs.length + 1 + 1) = 0 := by
      rw [hpush, cnt_snoc, hfar]
      by_cases c : a + p = P
      · simp [c]
      · simp [c]
    have hg : ((push P n bs.length s p).g.length : Int) = s.g.length + 1 := by rw [hpush]; simp
    have hh' : (push P n bs.length s p).h = none := by rw [hpush]
    have hup' : upR P n (bs ++ [p]) (push P n bs.length s p) = P := by
      unfold upR
      rw [hh']
      simp only
      rw [if_neg]
      rintro ⟨_, h, _⟩
      rw [hpush, lastF_snoc, hlen] at h
      simp at h
    unfold stepR row
    simp only [hex, hup, hh, Option.isSome_some, if_true, hex', hh', hup', hlen, hc1, hc2, hg, htot, Option.isSome_none, frameB]
    simp only [Int.lt_irrefl, if_false]
    by_cases c : a + p = P
    · have c' : P - a = p := by omega
      by_cases c2 : s.g.length + 1 = n
      · have c3 : (s.g.length : Int) - 0 = (n : Int) - 1 := by omega
        simp [c, c', c2]
        omega
      · have c3 : ¬ ((s.g.length : Int) = (n : Int) - 1) := by omega
        simp [c, c', c2, c3]
    · have c' : ¬ (P - a = p) := by omega
      by_cases c2 : s.g.length + 1 = n
      · simp [c, c', c2]
      · simp [c, c', c2]
  | none =>
    by_cases hl : s.g.length < n
    · have hex : ex n bs s = 0 := by unfold ex; rw [if_neg (by omega)]
      have hup : upR P n bs s = P := by unfold upR; rw [hh]; simp only; rw [if_neg (by omega)]
      have hp' : p ≤ P := by have := hp; simp only [row, hup] at this; exact this
      by_cases hpP : p = P
      · have hpush : push P n bs.length s p = ⟨s.g ++ [⟨bs.length, bs.length + 1, 2⟩], none⟩ := by unfold push; rw [hh]; simp only; rw [if_pos hl, if_pos hpP]
        have hown : own (bs ++ [p]) ⟨bs.length, bs.length + 1, 2⟩ = p := by
          unfold own; simp
        have hmore : more (bs ++ [p]) ⟨bs.length, bs.length + 1, 2⟩ = 0 := by
          unfold more; simp only; rw [List.drop_eq_nil_of_le (by simp)]; simp
        have htot : tot (bs ++ [p]) (push P n bs.length s p) = tot bs s + p * cnt s.g bs.length + p := by
          rw [hpush]
          unfold tot
          rw [hh]
          simp only [List.map_append, List.sum_append, List.map_cons, List.map_nil, List.sum_cons, List.sum_nil, ht, hown, hmore, Option.getD_none]
          omega
        have hex' : ex n (bs ++ [p]) (push P n bs.length s p) = if s.g.length + 1 = n then 2 else 0 := by
          rw [hpush]
          unfold ex
          rw [lastF_snoc, hlen]
          by_cases c : s.g.length + 1 = n
          · rw [if_pos (by simp [c]), if_pos c]; simp
          · rw [if_neg (by simp [c]), if_neg c]
        have hc1 : cnt (push P n bs.length s p).g (bs.length + 1) = cnt s.g (bs.length + 1) + 1 := by
          rw [hpush, cnt_snoc]; simp
        have hc2 : cnt (push P n bs.length s p).g (bs.length + 1 + 1) = 1 := by
          rw [hpush, cnt_snoc, hfar]; simp
        have hg : ((push P n bs.length s p).g.length : Int) = s.g.length + 1 := by rw [hpush]; simp
        have hh' : (push P n bs.length s p).h = none := by rw [hpush]
        have hup' : upR P n (bs ++ [p]) (push P n bs.length s p) = P := by
          unfold upR
          rw [hh']
          simp only
          rw [if_neg]
          rintro ⟨_, h, _⟩
          rw [hpush, lastF_snoc, hlen] at h
          simp at h
        unfold stepR row
        simp only [hex, hup, hh, Option.isSome_none, hex', hh', hup', hlen, hc1, hc2, hg, htot, frameB, Bool.false_eq_true, if_false]
        simp only [Int.lt_irrefl, if_false]
        by_cases c2 : s.g.length + 1 = n
        · have c3 : (s.g.length : Int) = (n : Int) - 1 := by omega
          simp [hpP, c2]
          omega
        · have c3 : ¬ ((s.g.length : Int) = (n : Int) - 1) := by omega
          simp [hpP, c2, c3]
      · have hpush : push P n bs.length s p = ⟨s.g, some p⟩ := by unfold push; rw [hh]; simp only; rw [if_pos hl, if_neg hpP]
        have htot : tot (bs ++ [p]) (push P n bs.length s p) = tot bs s + p * cnt s.g bs.length + p := by
          rw [hpush]
          unfold tot
          rw [hh]
          simp only [ht, Option.getD_none, Option.getD_some]
          omega
        have hex' : ex n (bs ++ [p]) (push P n bs.length s p) = 0 := by
          rw [hpush]; unfold ex; simp
        have hup' : upR P n (bs ++ [p]) (push P n bs.length s p) = P - p := by rw [hpush]; rfl
        have hg : (push P n bs.length s p).g = s.g := by rw [hpush]
        have hh' : (push P n bs.length s p).h = some p := by rw [hpush]
        have hne : ¬ (P = p) := fun e => hpP e.symm
        unfold stepR row
        simp only [hex, hup, hh, Option.isSome_none, Option.isSome_some, hex', hh', hup', hlen, hg, hfar, htot, Bool.false_eq_true, if_false, if_true]
        simp [hne, show bs.length + 1 + 1 = bs.length + 2 from rfl, hfar]
    · have hln : s.g.length = n := by have := o.len; omega
      have hexd : ex n bs s = (lastF s).q - ((bs.length - (lastF s).e : Nat) : Int) := by unfold ex; rw [if_pos ⟨hh, hln⟩]
      have hexp : 0 < ex n bs s := by
        have := hd
        simp only [row] at this
        by_cases c : 0 < ex n bs s
        · exact c
        · rw [if_neg c] at this; omega
      have hne : s.g ≠ [] := by
        intro e
        have : lastF s = ⟨0, 0, 0⟩ := by unfold lastF; rw [e]; rfl
        rw [hexd, this] at hexp
        simp at hexp
        omega
      have hle := o.ends _ (last_mem hne)
      have hpush : push P n bs.length s p = s := by unfold push; rw [hh]; simp only; rw [if_neg hl]
      have htot : tot (bs ++ [p]) s = tot bs s + p * cnt s.g bs.length := by
        unfold tot; rw [hh]; simp only [ht]; omega
      have hex' : ex n (bs ++ [p]) s = ex n bs s - 1 := by
        rw [hexd]; unfold ex; rw [if_pos ⟨hh, hln⟩, hlen]; omega
      rw [hpush]
      unfold stepR row
      simp only [hexp, if_true, hh, Option.isSome_none, hex', hlen, htot, extraB]
      have hup' : upR P n (bs ++ [p]) s = if ex n bs s = 1 then P else (if upR P n bs s - p = 0 then P else upR P n bs s - p) := by
        by_cases c : ex n bs s = 1
        · rw [if_pos c]; unfold upR; rw [hh]; simp only; rw [hex', if_neg (by omega)]
        · rw [if_neg c]
          have hup : upR P n bs s = P := by unfold upR; rw [hh]; simp only; rw [if_neg (by omega)]
          have hp' : p ≤ P := by have := hp; simp only [row, hup] at this; exact this
          rw [hup]
          unfold upR; rw [hh]; simp only
          rw [hex', hlast, hlen]
          by_cases c2 : p < P
          · rw [if_pos ⟨by omega, by omega, c2⟩, if_neg (by omega)]
          · rw [if_neg (by omega), if_pos (by omega)]
      rw [hup']
      by_cases c : ex n bs s = 1
      · simp [c, show bs.length + 1 + 1 = bs.length + 2 from rfl, hfar]
      · have c2 : 0 < ex n bs s - 1 := by omega
        have c3 : ¬ (ex n bs s - 1 = 0) := by omega
        simp [c, c2, c3, show bs.length + 1 + 1 = bs.length + 2 from rfl, hfar]
        omega
end RB
end
section
set_option maxHeartbeats 4000000
namespace CM
open PySem PySem.Spec PyProof.Rows L2 TL RL RB
noncomputable section
def b_is_between : MS := (sRet (eAnd (eIsi "int" (eVar 0)) (eAnd (eNot (eIsi "bool" (eVar 0))) (eChain mLe mLe (eVar 1) (eVar 0) (eVar 2)))))
def m_is_between : Fn := fnD 3 3 b_is_between
def b_lane_begun : MS := (sRet (eTup (aCons (eBin mMul (eTup (aCons (eTup (aCons (eC (.int 0)) (aCons (eC (.int 0)) (aCons (eBin mIdx (eVar 0) (eC (.int 1))) (aCons (eC (.int 0)) (aCons (eC (.int 0)) (aCons (eC (.int 0)) (aCons (eC (.int 0)) aNil)))))))) aNil)) (eBin mIdx (eVar 0) (eC (.int 0)))) (aCons (eC (.int 0)) aNil))))
def m_lane_begun : Fn := fnD 1 1 b_lane_begun
def b_frame_behind : MS := (sSeq (sIf (tAnd (tB (eBin mEq (eBin mIdx (eVar 1) (eC (.int 0))) (eBin mSub (eBin mIdx (eVar 0) (eC (.int 2))) (eC (.int 1))))) (tB (eBin mGt (eVar 4) (eC (.int 0))))) (sRet (eTup (aCons (eTup (aCons (eBin mIdx (eVar 1) (eC (.int 0))) (aCons (eC (.int 0)) (aCons (eBin mIdx (eVar 0) (eC (.int 1))) (aCons (eVar 2) (aCons (eVar 3) (aCons (eVar 4) (aCons (eBin mIdx (eVar 1) (eC (.int 6))) aNil)))))))) (aCons (eC (.bl false)) aNil)))) sNil)
    (sRet (eTup (aCons (eTup (aCons (eBin mAdd (eBin mIdx (eVar 1) (eC (.int 0))) (eC (.int 1))) (aCons (eC (.int 0)) (aCons (eBin mIdx (eVar 0) (eC (.int 1))) (aCons (eVar 2) (aCons (eVar 3) (aCons (eC (.int 0)) (aCons (eBin mIdx (eVar 1) (eC (.int 6))) aNil)))))))) (aCons (eC (.bl true)) aNil)))))
def m_frame_behind : Fn := fnD 5 5 b_frame_behind
def b_extra_behind : MS := (sSeq (sIf (tB (eBin mEq (eBin mIdx (eVar 1) (eC (.int 5))) (eC (.int 1)))) (sRet (eTup (aCons (eTup (aCons (eBin mAdd (eBin mIdx (eVar 1) (eC (.int 0))) (eC (.int 1))) (aCons (eC (.int 0)) (aCons (eBin mIdx (eVar 0) (eC (.int 1))) (aCons (eBin mIdx (eVar 1) (eC (.int 3))) (aCons (eBin mIdx (eVar 1) (eC (.int 4))) (aCons (eC (.int 0)) (aCons (eBin mIdx (eVar 1) (eC (.int 6))) aNil)))))))) (aCons (eC (.bl true)) aNil)))) sNil)
    (sSeq (sAsg (gOne 2) (eBin mIdx (eVar 1) (eC (.int 2))))
    (sSeq (sIf (tB (eBin mEq (eVar 2) (eC (.int 0)))) (sAsg (gOne 2) (eBin mIdx (eVar 0) (eC (.int 1)))) sNil)
    (sRet (eTup (aCons (eTup (aCons (eBin mIdx (eVar 1) (eC (.int 0))) (aCons (eC (.int 0)) (aCons (eVar 2) (aCons (eBin mIdx (eVar 1) (eC (.int 3))) (aCons (eBin mIdx (eVar 1) (eC (.int 4))) (aCons (eBin mSub (eBin mIdx (eVar 1) (eC (.int 5))) (eC (.int 1))) (aCons (eBin mIdx (eVar 1) (eC (.int 6))) aNil)))))))) (aCons (eC (.bl false)) aNil)))))))
def m_extra_behind : Fn := fnD 2 3 b_extra_behind
def b_row_behind : MS := (sSeq (sAsg (gTupD [5, 6, 7, 8, 9, 10, 3]) (eVar 1))
    (sSeq (sAsg (gOne 3) (eBin mAdd (eVar 3) (eBin mMul (eVar 2) (eVar 8))))
    (sSeq (sIf (tB (eBin mGt (eVar 10) (eC (.int 0)))) (sRet (eCall m_extra_behind (aCons (eVar 0) (aCons (eTup (aCons (eVar 5) (aCons (eC (.int 0)) (aCons (eBin mSub (eVar 7) (eVar 2)) (aCons (eVar 9) (aCons (eC (.int 0)) (aCons (eVar 10) (aCons (eVar 3) aNil)))))))) aNil)))) sNil)
    (sSeq (sAsg (gOne 4) (eTup (aCons (eVar 5) (aCons (eBin mAdd (eVar 6) (eC (.int 1))) (aCons (eBin mSub (eVar 7) (eVar 2)) (aCons (eVar 9) (aCons (eC (.int 0)) (aCons (eC (.int 0)) (aCons (eBin mAdd (eVar 3) (eVar 2)) aNil)))))))))
    (sSeq (sIf (tAnd (tB (eBin mEq (eVar 7) (eVar 2))) (tB (eBin mEq (eVar 6) (eC (.int 0))))) (sRet (eCall m_frame_behind (aCons (eVar 0) (aCons (eVar 4) (aCons (eBin mAdd (eVar 9) (eC (.int 1))) (aCons (eC (.int 1)) (aCons (eC (.int 2)) aNil))))))) sNil)
    (sSeq (sIf (tB (eBin mEq (eVar 7) (eVar 2))) (sRet (eCall m_frame_behind (aCons (eVar 0) (aCons (eVar 4) (aCons (eBin mAdd (eVar 9) (eC (.int 1))) (aCons (eC (.int 0)) (aCons (eC (.int 1)) aNil))))))) sNil)
    (sSeq (sIf (tB (eBin mEq (eVar 6) (eC (.int 1)))) (sRet (eCall m_frame_behind (aCons (eVar 0) (aCons (eVar 4) (aCons (eVar 9) (aCons (eC (.int 0)) (aCons (eC (.int 0)) aNil))))))) sNil)
    (sRet (eTup (aCons (eVar 4) (aCons (eC (.bl false)) aNil)))))))))))
def m_row_behind : Fn := fnD 3 11 b_row_behind
def b_lane_bowled : MS := (sSeq (sAsg (gTupD [3, 4]) (eVar 1))
    (sSeq (sIf (tNot (tTru (eCall m_is_between (aCons (eVar 2) (aCons (eC (.int 0)) (aCons (eBin mIdx (eBin mIdx (eVar 3) (eVar 4)) (eC (.int 2))) aNil)))))) (sRaise "NoPins") sNil)
    (sSeq (sAsg (gTupD [5, 6]) (eCall m_row_behind (aCons (eVar 0) (aCons (eBin mIdx (eVar 3) (eVar 4)) (aCons (eVar 2) aNil)))))
    (sSeq (sAsg (gOne 3) (eBin mAdd (eBin mAdd (eSl (eVar 3) oNone (oSome (eVar 4))) (eTup (aCons (eVar 5) aNil))) (eSl (eVar 3) (oSome (eBin mAdd (eVar 4) (eC (.int 1)))) oNone)))
    (sSeq (sIf (tTru (eVar 6)) (sAsg (gOne 4) (eBin mMod (eBin mAdd (eVar 4) (eC (.int 1))) (eBin mIdx (eVar 0) (eC (.int 0))))) sNil)
    (sRet (eTup (aCons (eTup (aCons (eVar 3) (aCons (eVar 4) aNil))) (aCons (eCallO nAll (aCons (eComp 7 (iAny (eVar 3)) tYesD (eBin mEq (eBin mIdx (eVar 7) (eC (.int 0))) (eBin mIdx (eVar 0) (eC (.int 2))))) aNil)) aNil)))))))))
def m_lane_bowled : Fn := fnD 3 8 b_lane_bowled
def b_best_of : MS := (sSeq (sAsg (gOne 1) (eComp 2 (iAny (eBin mIdx (eVar 0) (eC (.int 0)))) tYesD (eBin mIdx (eVar 2) (eC (.int 6)))))
    (sRet (eCallO nTuple (aCons (eComp 3 (iRange1 (eCallO nLen (aCons (eVar 1) aNil))) (tB (eBin mEq (eBin mIdx (eVar 1) (eVar 3)) (eCallO nMax (aCons (eVar 1) aNil)))) (eVar 3)) aNil))))
def m_best_of : Fn := fnD 1 4 b_best_of
def b_l_lane : MS := (sSeq (sAsg (gOne 1) (eBin mIdx (eLst (aCons (eBin mAdd (eC (.int 1)) (eCall m_l_draw (aCons (eVar 0) (aCons (eC (.int 4)) aNil)))) (aCons (eC (.int 10)) (aCons (eBin mAdd (eC (.int 1)) (eCall m_l_draw (aCons (eVar 0) (aCons (eC (.int 20)) aNil)))) aNil)))) (eCall m_l_draw (aCons (eVar 0) (aCons (eC (.int 3)) aNil)))))
    (sSeq (sAsg (gOne 2) (eBin mIdx (eLst (aCons (eBin mAdd (eC (.int 1)) (eCall m_l_draw (aCons (eVar 0) (aCons (eC (.int 3)) aNil)))) (aCons (eBin mAdd (eC (.int 1)) (eCall m_l_draw (aCons (eVar 0) (aCons (eC (.int 12)) aNil)))) aNil))) (eCall m_l_draw (aCons (eVar 0) (aCons (eC (.int 2)) aNil)))))
    (sRet (eTup (aCons (eBin mAdd (eC (.int 1)) (eCall m_l_draw (aCons (eVar 0) (aCons (eC (.int 3)) aNil)))) (aCons (eVar 1) (aCons (eVar 2) aNil)))))))
def m_l_lane : Fn := fnD 1 3 b_l_lane
end
def laneD (k : Nat) (P : Int) (n : Nat) : D := .tup [.int (k : Nat), .int P, .int (n : Nat)]
structure Lane (k : Nat) (P : Int) (n : Nat) : Prop where
  k0 : 1 ≤ k
  k1 : k ≤ 3
  p0 : 1 ≤ P
  p1 : P ≤ 20
  n0 : 1 ≤ n
  n1 : n ≤ 12
theorem between_ok (i lo hi : Int) (M : Mem) : m_is_between [.int i, .int lo, .int hi] M = .ok (.bl (decide (lo ≤ i) && decide (i ≤ hi))) M := by
  show endS (b_is_between [some (.int i), some (.int lo), some (.int hi)] M) = _
  unfold b_is_between
  by_cases c : lo ≤ i <;> simp [c]
def freshR (P : Int) : LRow := ⟨0, 0, P, 0, 0, 0, 0⟩
def standD (rows : List LRow) (side : Nat) : D := .tup [.tup (rows.map LRow.toD), .int (side : Nat)]
theorem lane_begun_ok {k : Nat} {P : Int} {n : Nat} (l : Lane k P n) (M : Mem) : m_lane_begun [laneD k P n] M = .ok (standD (List.replicate k (freshR P)) 0) M := by
  show endS (b_lane_begun [some (laneD k P n)] M) = _
  unfold b_lane_begun laneD
  have h0 := l.k0
  have h1 := l.k1
  rcases (show k = 1 ∨ k = 2 ∨ k = 3 by omega) with rfl | rfl | rfl
  · simp [mMul, standD, freshR, LRow.toD]
  · simp [mMul, standD, freshR, LRow.toD, List.replicate]
  · simp [mMul, standD, freshR, LRow.toD, List.replicate]
theorem frame_ok {k : Nat} {P : Int} {n : Nat} (r : LRow) (near far earned : Int) (M : Mem) : m_frame_behind [laneD k P n, r.toD, .int near, .int far, .int earned] M = .ok (.tup [(frameB P n r near far earned).1.toD, .bl (frameB P n r near far earned).2]) M := by
  show endS (b_frame_behind [some (laneD k P n), some r.toD, some (.int near), some (.int far), some (.int earned)] M) = _
  unfold b_frame_behind laneD LRow.toD frameB
  by_cases c : r.done = (n : Int) - 1
  · by_cases c2 : 0 < earned
    · simp [c, c2]
    · simp [c, c2]
  · simp [c]
theorem extra_ok {k : Nat} {P : Int} {n : Nat} (r : LRow) (M : Mem) : m_extra_behind [laneD k P n, r.toD] M = .ok (.tup [(extraB P r).1.toD, .bl (extraB P r).2]) M := by
  show endS (b_extra_behind [some (laneD k P n), some r.toD, none] M) = _
  unfold b_extra_behind laneD LRow.toD extraB
  by_cases c : r.extra = 1
  · simp [c]
  · by_cases c2 : r.up = 0
    · simp [c, c2]
    · simp [c, c2]
theorem row_behind_ok {k : Nat} {P : Int} {n : Nat} (r : LRow) {p : Int} (h0 : 0 ≤ p) (h1 : p ≤ 100) (M : Mem) : m_row_behind [laneD k P n, r.toD, .int p] M = .ok (.tup [(stepR P n r p).1.toD, .bl (stepR P n r p).2]) M := by
  show endS (b_row_behind [some (laneD k P n), some r.toD, some (.int p), none, none, none, none, none, none, none, none] M) = _
  unfold b_row_behind stepR
  have hm : ∀ M, mMul (.int p) (.int r.near) M = some (.int (p * r.near), M) := fun M => by rw [mMul_int, if_pos (by omega)]
  have hex := fun x => extra_ok (k := k) (P := P) (n := n) x M
  have hfr := fun x a b c => frame_ok (k := k) (P := P) (n := n) x a b c M
  unfold LRow.toD at *
  by_cases c : 0 < r.extra
  · have h := hex ⟨r.done, 0, r.up - p, r.far, 0, r.extra, r.total + p * r.near⟩
    simp only at h
    simp [-mMul_int, hm, c, h]
  · by_cases c2 : r.up = p
    · by_cases c3 : r.ball = 0
      · have h := hfr ⟨r.done, r.ball + 1, r.up - p, r.far, 0, 0, r.total + p * r.near + p⟩ (r.far + 1) 1 2
        simp only [c2, c3] at h
        simp at h
        simp [-mMul_int, hm, c, c2, c3, h]
      · have h := hfr ⟨r.done, r.ball + 1, r.up - p, r.far, 0, 0, r.total + p * r.near + p⟩ (r.far + 1) 0 1
        simp only [c2] at h
        simp at h
        simp [-mMul_int, hm, c, c2, c3, h]
    · by_cases c3 : r.ball = 1
      · have h := hfr ⟨r.done, r.ball + 1, r.up - p, r.far, 0, 0, r.total + p * r.near + p⟩ r.far 0 0
        simp only [c3] at h
        simp at h
        simp [-mMul_int, hm, c, c2, c3, h]
      · simp [-mMul_int, hm, c, c2, c3]
def isBest (ts : List Int) : D → Bool
  | .int i => decide (ts[i.toNat]? = some (maxI ts))
  | _ => false
def bestD (ts : List Int) : List D := (rngItems 0 ts.length).filter (isBest ts)
theorem best_comp {i j n : Nat} {S : ME} {env : TL.Env} {M : Mem} {ts : List Int} (hS : S env M = .ok (.int (ts.length : Nat)) M) (hj : env[j]? = some (some (.ref n))) (hi : i < env.length) (hij : i ≠ j) (hn : seqAt M n = some (ts.map D.int)) (hne : ts ≠ []) (hl : ts.length ≤ 1000) :
    eComp i (iRange1 S) (TL.tB (eBin mEq (eBin mIdx (eVar j) (eVar i)) (eCallO nMax (aCons (eVar j) aNil)))) (eVar i) env M = .ok (.ref M.length) (M ++ [.lst (bestD ts)]) := by
  have h := eComp_pure (i := i) (s := iRange1 S) (t := TL.tB (eBin mEq (eBin mIdx (eVar j) (eVar i)) (eCallO nMax (aCons (eVar j) aNil)))) (e := eVar i) (env := env) (M := M) (M1 := M) (src := ⟨rngItems 0 ts.length, fun _ => True⟩) (isBest ts) (fun d => d)
    (by simp [hS, rngOk_nat (show ts.length ≤ 1000000 by omega)]) (fun _ => trivial) (by rw [rng_length]; omega) (fun d hd ys => by
      obtain ⟨k, hk, rfl⟩ := mem_rng hd
      have e1 : (env.set i (some (D.int (0 + (k : Int)))))[j]? = some (some (.ref n)) := by rw [List.getElem?_set_ne hij]; exact hj
      have e2 : (env.set i (some (D.int (0 + (k : Int)))))[i]? = some (some (D.int (0 + (k : Int)))) := List.getElem?_set_self hi
      have hs := (Keep.more M [.lst ys]).seq hn
      have hat : atI (ts.map D.int) (k : Int) = some (.int ts[k]) := atI_nat (by rw [List.getElem?_map, List.getElem?_eq_getElem hk]; rfl)
      have hm := nMax_ints hs hne
      have hb : isBest ts (.int (k : Int)) = decide (ts[k] = maxI ts) := by
        simp only [isBest, Int.toNat_natCast, List.getElem?_eq_getElem hk, Option.some.injEq]
      refine ⟨?_, fun _ => ?_⟩
      · simp only [Int.zero_add] at e1 e2 ⊢
        simp [e1, e2, hs, hat, hm, hb]
      · simp only [Int.zero_add] at e1 e2 ⊢
        simp [e2])
  rw [h]
  simp [bestD]
theorem best_of_ok {rows : List LRow} (hr : rows ≠ []) (hl : rows.length ≤ 1000) (side : Nat) (M : Mem) : ∃ M', m_best_of [standD rows side] M = .ok (.tup (bestD (rows.map LRow.total))) M' ∧ Keep M M' := by
  have h1 := eComp_pure (i := 2) (s := iAny (eBin mIdx (eVar 0) (eC (.int 0)))) (t := tYesD) (e := eBin mIdx (eVar 2) (eC (.int 6))) (env := [some (standD rows side), none, none, none]) (M := M) (M1 := M) (src := ⟨rows.map LRow.toD, fun _ => True⟩) (fun _ => true) (fun d => match d with | .tup [_, _, _, _, _, _, x] => x | _ => .non)
    (by simp [standD]) (fun _ => trivial) (by simp; omega) (fun d hd ys => by
      obtain ⟨r, _, rfl⟩ := List.mem_map.mp hd
      exact ⟨rfl, fun _ => by simp [LRow.toD]⟩)
  have e1 : ((rows.map LRow.toD).filter fun _ => true).map (fun d => match d with | .tup [_, _, _, _, _, _, x] => x | _ => D.non) = (rows.map LRow.total).map D.int := by
    rw [List.filter_eq_self.mpr (fun _ _ => rfl), List.map_map, List.map_map]
    exact List.map_congr_left fun r _ => rfl
  simp only [e1] at h1
  obtain ⟨ts, hts⟩ : ∃ ts, ts = rows.map LRow.total := ⟨_, rfl⟩
  have hne : ts ≠ [] := by rw [hts]; simpa using hr
  have htl : ts.length ≤ 1000 := by rw [hts]; simpa using hl
  rw [← hts] at h1 ⊢
  clear e1 hts
  have hs : seqAt (M ++ [.lst (ts.map D.int)]) M.length = some (ts.map D.int) := seqAt_lst (at_len _ _)
  have h2 := best_comp (i := 3) (j := 1) (n := M.length) (S := eCallO nLen (aCons (eVar 1) aNil)) (env := [some (standD rows side), some (.ref M.length), none, none]) (M := M ++ [.lst (ts.map D.int)]) (ts := ts)
    (by simp [hs]) rfl (by simp) (by decide) hs hne htl
  refine ⟨M ++ [.lst (ts.map D.int)] ++ [.lst (bestD ts)], ?_, by rw [List.append_assoc]; exact Keep.more _ _⟩
  show endS (b_best_of [some (standD rows side), none, none, none] M) = _
  unfold b_best_of
  simp [-eComp_ap, h1, h2]
  rw [nTuple_ref (seqAt_lst (xs := bestD ts) (by simp))]
  simp
end CM
end
section
set_option maxHeartbeats 4000000
namespace CF
open PySem PySem.Spec PyProof.Rows L2 TL TLQ
noncomputable section
def b_l_alike (r_l_alike : Fn) : MS := (sSeq (sIf (tOr (tTru (eIsi "tuple" (eVar 0))) (tTru (eIsi "list" (eVar 0)))) (sSeq (sIf (tOr (tB (eBin mNe (eIsi "tuple" (eVar 0)) (eIsi "tuple" (eVar 1)))) (tB (eBin mNe (eIsi "list" (eVar 0)) (eIsi "list" (eVar 1))))) (sRet (eC (.bl false))) sNil)
    (sRet (eAnd (eBin mEq (eCallO nLen (aCons (eVar 0) aNil)) (eCallO nLen (aCons (eVar 1) aNil))) (eCallO nAll (aCons (eComp 2 (iRange1 (eCallO nLen (aCons (eVar 0) aNil))) tYesD (eCall r_l_alike (aCons (eBin mIdx (eVar 0) (eVar 2)) (aCons (eBin mIdx (eVar 1) (eVar 2)) aNil)))) aNil))))) sNil)
    (sSeq (sIf (tB (eBin mIs (eVar 0) (eC .non))) (sRet (eBin mIs (eVar 1) (eC .non))) sNil)
    (sSeq (sIf (tTru (eIsi "str" (eVar 0))) (sRet (eAnd (eIsi "str" (eVar 1)) (eBin mEq (eVar 1) (eVar 0)))) sNil)
    (sSeq (sIf (tTru (eIsi "bool" (eVar 0))) (sRet (eAnd (eIsi "bool" (eVar 1)) (eBin mEq (eVar 1) (eVar 0)))) sNil)
    (sRet (eAnd (eIsi "int" (eVar 1)) (eAnd (eNot (eIsi "bool" (eVar 1))) (eBin mEq (eVar 1) (eVar 0)))))))))
def m_l_alike : Nat → Fn
  | 0 => noFn
  | n + 1 => fnD 2 3 (b_l_alike (m_l_alike n))
end
/-- flat, its text a text -/
def FlatOk : D → Prop
  | .non => True
  | .bl _ => True
  | .int _ => True
  | .str x => PyData.strOk x = true
  | _ => False
/-- the same, lists by what they hold, at most n deep -/
def SameN (M : Mem) : Nat → D → D → Prop
  | 0, d, e => FlatOk d ∧ d = e
  | n + 1, d, e => (FlatOk d ∧ d = e) ∨ ∃ xs ys : List D, ((d = .tup xs ∧ e = .tup ys) ∨ ∃ a b, d = .ref a ∧ e = .ref b ∧ seqAt M a = some xs ∧ seqAt M b = some ys) ∧ xs.length = ys.length ∧ xs.length ≤ 100000 ∧
      ∀ (i : Nat) (x y : D), xs[i]? = some x → ys[i]? = some y → SameN M n x y
theorem SameN.keep {M M' : Mem} (k : Keep M M') : ∀ {n : Nat} {d e : D}, SameN M n d e → SameN M' n d e
  | 0, _, _, h => h
  | n + 1, _, _, .inl h => .inl h
  | n + 1, _, _, .inr ⟨xs, ys, h1, h2, h3, h4⟩ => .inr ⟨xs, ys, h1.imp id fun ⟨a, b, e1, e2, e3, e4⟩ => ⟨a, b, e1, e2, k.seq e3, k.seq e4⟩, h2, h3, fun i x y a b => (h4 i x y a b).keep k⟩
mutual
def smallD : D → Bool
  | .tup xs => decide (xs.length ≤ 1000) && smallL xs
  | _ => true
def smallL : List D → Bool
  | [] => true
  | x :: xs => smallD x && smallL xs
end
end CF
end
section
namespace RD
open PySem PySem.Spec PyProof.Rows L2 TL
structure Thr where
  name : Str
  worth : Int
  ends : Bool
  deriving Inhabited
def Thr.toD (t : Thr) : D := .tup [.str t.name, .int t.worth, .bl t.ends]
structure Down where
  sides : Nat
  start : Int
  turn : Nat
  throws : List Thr
def Down.toD (d : Down) : D := .tup [.int (d.sides : Nat), .int d.start, .int (d.turn : Nat), .tup (d.throws.map Thr.toD)]
/-- small letters -/
def letter (c : Nat) : Bool := decide (97 ≤ c) && decide (c ≤ 122)
def figure (c : Nat) : Bool := decide (48 ≤ c) && decide (c ≤ 57)
def sign (c : Nat) : Bool := letter c || figure c
def nameL (l : List Nat) : Bool := (match l with
  | [] => false
  | c :: _ => letter c) && (decide (l.length ≤ 8) && l.all sign)
def nameB (x : Str) : Bool := nameL x.cps.toList
structure Good (ts : List Thr) : Prop where
  nd : (ts.map (·.name)).Nodup
  nm : ∀ t ∈ ts, nameB t.name = true
  w0 : ∀ t ∈ ts, 0 ≤ t.worth ∧ t.worth ≤ 1000000
structure DownOk (d : Down) : Prop where
  s0 : 1 ≤ d.sides
  s1 : d.sides ≤ 3
  b0 : 1 ≤ d.start
  b1 : d.start ≤ 1000000
  t0 : 1 ≤ d.turn
  t1 : d.turn ≤ 3
  n0 : 1 ≤ d.throws.length
  n1 : d.throws.length ≤ 30
  good : Good d.throws
def S (l : List Nat) : Str := ⟨l.toArray⟩
theorem sign_lt {c : Nat} (h : sign c = true) : c < 123 := by
  unfold sign letter figure at h
  simp at h
  omega
theorem name_strOk {x : Str} (h : nameB x = true) : PyData.strOk x = true := by
  unfold nameB nameL at h
  unfold PyData.strOk
  rw [← Array.all_toList]
  obtain ⟨_, h2⟩ := Bool.and_eq_true_iff.mp h
  obtain ⟨_, h3⟩ := Bool.and_eq_true_iff.mp h2
  simp only [List.all_eq_true, decide_eq_true_eq] at h3 ⊢
  exact fun c hc => Nat.lt_trans (sign_lt (h3 c hc)) (by decide)
theorem name_len {x : Str} (h : nameB x = true) : 1 ≤ x.length ∧ x.length ≤ 8 := by
  unfold nameB nameL at h
  show 1 ≤ x.cps.size ∧ x.cps.size ≤ 8
  rw [← Array.length_toList]
  obtain ⟨h1, h2⟩ := Bool.and_eq_true_iff.mp h
  obtain ⟨h3, _⟩ := Bool.and_eq_true_iff.mp h2
  refine ⟨?_, of_decide_eq_true h3⟩
  cases q : x.cps.toList with
  | nil => rw [q] at h1; cases h1
  | cons c l => simp
end RD
end
section
set_option maxHeartbeats 4000000
namespace CM
open PySem PySem.Spec PyProof.Rows L2 TL TLQ RD
noncomputable section
def b_l_great : MS := (sRet (eBin mAdd (eBin mMul (eC (.int 1000)) (eCall m_l_draw (aCons (eVar 0) (aCons (eC (.int 1000)) aNil)))) (eCall m_l_draw (aCons (eVar 0) (aCons (eC (.int 1000)) aNil)))))
def m_l_great : Fn := fnD 1 1 b_l_great
def b_l_names : MS := (sSeq (sAsg (gOne 2) (eC (.str "abcdefghijklmnopqrstuvwxyz")))
    (sSeq (sAsg (gOne 3) (eMeth "str" mJoin (eC (.str "")) (aCons (eComp 11 (iRange1 (eC (.int 8))) tYesD (eBin mIdx (eVar 2) (eCall m_l_draw (aCons (eVar 0) (aCons (eC (.int 26)) aNil))))) aNil)))
    (sSeq (sAsg (gOne 4) (eCall m_l_draw (aCons (eVar 0) (aCons (eC (.int 2)) aNil))))
    (sSeq (sAsg (gOne 5) (eCall m_l_draw (aCons (eVar 0) (aCons (eC (.int 8)) aNil))))
    (sSeq (sIf (tAnd (tB (eBin mLe (eVar 1) (eC (.int 8)))) (tB (eBin mEq (eVar 4) (eC (.int 0))))) (sSeq (sAsg (gOne 10) (eComp 11 (iRange1 (eC (.int 8))) tYesD (eSl (eVar 3) oNone (oSome (eBin mAdd (eVar 11) (eC (.int 1)))))))
    (sRet (eSl (eBin mAdd (eSl (eVar 10) (oSome (eVar 5)) oNone) (eSl (eVar 10) oNone (oSome (eVar 5)))) oNone (oSome (eVar 1))))) sNil)
    (sSeq (sAsg (gOne 6) (eBin mAdd (eC (.int 2)) (eCall m_l_draw (aCons (eVar 0) (aCons (eC (.int 7)) aNil)))))
    (sSeq (sAsg (gOne 7) (eBin mAdd (eC (.int 1)) (eCall m_l_draw (aCons (eVar 0) (aCons (eBin mSub (eVar 6) (eC (.int 1))) aNil)))))
    (sSeq (sAsg (gOne 8) (eBin mAdd (eVar 2) (eC (.str "0123456789"))))
    (sSeq (sAsg (gOne 9) (eCall m_l_draw (aCons (eVar 0) (aCons (eC (.int 36)) aNil))))
    (sRet (eComp 11 (iRange1 (eVar 1)) tYesD (eBin mAdd (eBin mAdd (eSl (eVar 3) oNone (oSome (eVar 7))) (eBin mIdx (eVar 8) (eBin mMod (eBin mAdd (eVar 9) (eBin mMul (eC (.int 5)) (eVar 11))) (eC (.int 36))))) (eSl (eVar 3) (oSome (eBin mAdd (eVar 7) (eC (.int 1)))) (oSome (eVar 6)))))))))))))))
def m_l_names : Fn := fnD 2 12 b_l_names
def lp_l_throws_0 : MS := (sSeq (sAsg (gOne 5) (eLst (aCons (eCall m_l_draw (aCons (eVar 0) (aCons (eC (.int 21)) aNil))) (aCons (eCall m_l_draw (aCons (eVar 0) (aCons (eC (.int 21)) aNil))) (aCons (eBin mFdiv (eVar 2) (eC (.int 2))) (aCons (eBin mSub (eVar 2) (eCall m_l_draw (aCons (eVar 0) (aCons (eVar 2) aNil)))) aNil))))))
    (sSeq (sExpr (eMeth "list" mAppend (eVar 5) (aCons (eBin mAdd (eCall m_l_great (aCons (eVar 0) aNil)) (eCall m_l_draw (aCons (eVar 0) (aCons (eC (.int 2)) aNil)))) aNil)))
    (sExpr (eMeth "list" mAppend (eVar 3) (aCons (eTup (aCons (eVar 4) (aCons (eBin mIdx (eVar 5) (eCall m_l_draw (aCons (eVar 0) (aCons (eC (.int 5)) aNil)))) (aCons (eBin mEq (eCall m_l_draw (aCons (eVar 0) (aCons (eC (.int 2)) aNil))) (eC (.int 0))) aNil)))) aNil)))))
def b_l_throws : MS := (sSeq (sAsg (gOne 3) (eLst aNil))
    (sSeq (sFor (iAny (eVar 1)) (gOne 4) lp_l_throws_0)
    (sRet (eCallO nTuple (aCons (eVar 3) aNil)))))
def m_l_throws : Fn := fnD 3 6 b_l_throws
def b_l_down : MS := (sSeq (sAsg (gOne 1) (eBin mIdx (eLst (aCons (eBin mAdd (eC (.int 1)) (eCall m_l_draw (aCons (eVar 0) (aCons (eC (.int 6)) aNil)))) (aCons (eBin mAdd (eC (.int 1)) (eCall m_l_draw (aCons (eVar 0) (aCons (eC (.int 30)) aNil)))) aNil))) (eBin mFdiv (eCall m_l_draw (aCons (eVar 0) (aCons (eC (.int 8)) aNil))) (eC (.int 7)))))
    (sSeq (sAsg (gOne 2) (eLst (aCons (eBin mAdd (eC (.int 1)) (eCall m_l_draw (aCons (eVar 0) (aCons (eC (.int 30)) aNil)))) (aCons (eBin mAdd (eC (.int 1)) (eCall m_l_draw (aCons (eVar 0) (aCons (eC (.int 501)) aNil)))) (aCons (eBin mAdd (eC (.int 1)) (eCall m_l_great (aCons (eVar 0) aNil))) aNil)))))
    (sSeq (sAsg (gOne 3) (eBin mIdx (eVar 2) (eCall m_l_draw (aCons (eVar 0) (aCons (eC (.int 3)) aNil)))))
    (sSeq (sAsg (gOne 4) (eCall m_l_throws (aCons (eVar 0) (aCons (eCall m_l_names (aCons (eVar 0) (aCons (eVar 1) aNil))) (aCons (eVar 3) aNil)))))
    (sRet (eTup (aCons (eBin mAdd (eC (.int 1)) (eCall m_l_draw (aCons (eVar 0) (aCons (eC (.int 3)) aNil)))) (aCons (eVar 3) (aCons (eBin mAdd (eC (.int 1)) (eCall m_l_draw (aCons (eVar 0) (aCons (eC (.int 3)) aNil)))) (aCons (eVar 4) aNil))))))))))
def m_l_down : Fn := fnD 1 5 b_l_down
end
theorem Adv.putLst {t : Nat} {M M' : Mem} {k : Nat} {xs : List D} {o : MO} (a : Adv t M M') (h : M.length ≤ k) (hk : k ≠ t) (hx : M'[k]? = some (.lst xs)) : Adv t M (M'.set k o) := by
  refine ⟨?_, by rw [List.length_set]; exact a.len, fun m hm hmt => by rw [List.getElem?_set_ne (by omega)]; exact a.keep m hm hmt⟩
  obtain ⟨s, ns, spot, left, way, g1, g2, g3⟩ := a.tape
  refine ⟨s, ns, spot, left, way, by rw [List.getElem?_set_ne hk]; exact g1, ?_, g3⟩
  have : k ≠ s := by
    rintro rfl
    rw [hx] at g2
    cases g2
  rw [List.getElem?_set_ne this]
  exact g2
/-- a comprehension whose elements draw -/
theorem compL_drawn {good : Mem → Prop} {i n t : Nat} {e : ME} {env : TL.Env} {P : D → Prop} (M0 : Mem) (hg : ∀ M', Adv t M0 M' → good M') (hn : M0.length ≤ n) (hnt : n ≠ t) : ∀ (ds acc : List D) (M : Mem), Adv t M0 M → M[n]? = some (.lst acc) → (∀ x ∈ acc, P x) → acc.length + ds.length ≤ 1000000 →
    (∀ d ∈ ds, ∀ M', Adv t M0 M' → Ret (e (env.set i (some d)) M') (fun x M2 => P x ∧ Adv t M' M2)) →
    ∃ xs M2, compL good i tYesD e n env ds M = .ok () M2 ∧ Adv t M0 M2 ∧ M2[n]? = some (.lst xs) ∧ xs.length = acc.length + ds.length ∧ ∀ x ∈ xs, P x
  | [], acc, M, k, ha, hp, _, _ => ⟨acc, M, compL_nil (hg M k), k, ha, rfl, hp⟩
  | d :: ds, acc, M, k, ha, hp, hl, h => by
    obtain ⟨x, M2, e2, px, k2⟩ := h d List.mem_cons_self M k
    rw [compL_cons (hg M k)]
    simp only [tYesD_ap, Out.nox_ok, Out.bind_ok, if_true, e2]
    have a2 := k2.at ha hnt
    simp only [a2]
    rw [if_pos (by rw [sizeLine_eq]; simp at hl; omega)]
    have k3 : Adv t M0 (M2.set n (.lst (acc ++ [x]))) := (k.trans k2).putLst hn hnt a2
    obtain ⟨xs, M3, e3, k3, a3, l3, p3⟩ := compL_drawn M0 hg hn hnt ds (acc ++ [x]) (M2.set n (.lst (acc ++ [x]))) k3 (List.getElem?_set_self (lt_of_at a2)) (fun y hy => by
      rcases List.mem_append.mp hy with hy | hy
      · exact hp y hy
      · cases List.mem_singleton.mp hy
        exact px) (by simp at hl ⊢; omega) fun d' hd => h d' (List.mem_cons_of_mem _ hd)
    exact ⟨xs, M3, e3, k3, a3, by rw [l3]; simp; omega, p3⟩
theorem Ret.drawn {good : Mem → Prop} {i t : Nat} {e : ME} {env : TL.Env} {P : D → Prop} {ds : List D} {M0 : Mem} {Q : Unit → Mem → Prop} (T : Tape M0 t) (hg : ∀ M', Adv t M0 M' → good M') (hl : ds.length ≤ 1000000)
    (h : ∀ d ∈ ds, ∀ M', Adv t M0 M' → Ret (e (env.set i (some d)) M') (fun x M2 => P x ∧ Adv t M' M2))
    (k : ∀ xs M2, Adv t M0 M2 → M2[M0.length]? = some (.lst xs) → xs.length = ds.length → (∀ x ∈ xs, P x) → Q () M2) : Ret (compL good i tYesD e M0.length env ds (M0 ++ [.lst []])) Q := by
  obtain ⟨xs, M2, e2, k2, a2, l2, p2⟩ := compL_drawn (n := M0.length) (P := P) (e := e) (env := env) (i := i) M0 hg (Nat.le_refl _) (fun e => by have := T.lt; omega) ds [] (M0 ++ [.lst []]) (Adv.of T (Keep.more _ _)) (at_len _ _) (fun x hx => by cases hx) (by simpa using hl) h
  exact ⟨(), M2, e2, k xs M2 k2 a2 (by simpa using l2) p2⟩
def lettersS : Str := Str.ofString "abcdefghijklmnopqrstuvwxyz"
theorem letters_tl : lettersS.cps.toList = (List.range 26).map (97 + ·) := by decide +kernel
theorem figs_tl : (Str.ofString "0123456789").cps.toList = (List.range 10).map (48 + ·) := by decide +kernel
theorem cutL_fr {α : Type} {xs : List α} {k : Nat} (h : k ≤ xs.length) : cutL xs (some (k : Int)) none = xs.drop k := by
  unfold cutL
  rw [HT.sIx_nat, HT.sIx_none, Nat.min_eq_left h, List.take_of_length_le]
  simp
theorem mSl_fr {M : Mem} {n k : Nat} {xs : List D} (h : seqAt M n = some xs) (hk : k ≤ xs.length) : mSl (.ref n) (some (k : Int)) none M = some (.ref M.length, M ++ [.lst (xs.drop k)]) := by rw [mSl_ref, h]; simp only [cutL_fr hk]
theorem mSl_to {M : Mem} {n k : Nat} {xs : List D} (h : seqAt M n = some xs) (hk : k ≤ xs.length) : mSl (.ref n) none (some (k : Int)) M = some (.ref M.length, M ++ [.lst (xs.take k)]) := by rw [mSl_ref, h]; simp only [cutL_to hk]
end CM
end
section
set_option maxHeartbeats 4000000
namespace CM
open PySem PySem.Spec PyProof.Rows L2 TL TLQ RD
noncomputable section
def b_down_begun : MS := (sRet (eTup (aCons (eBin mMul (eTup (aCons (eBin mIdx (eVar 0) (eC (.int 1))) aNil)) (eBin mIdx (eVar 0) (eC (.int 0)))) (aCons (eC (.int 0)) (aCons (eC (.int 0)) (aCons (eBin mIdx (eVar 0) (eC (.int 1))) aNil))))))
def m_down_begun : Fn := fnD 1 1 b_down_begun
def lp_throw_named_0 : MS := (sIf (tB (eBin mEq (eBin mIdx (eVar 2) (eC (.int 0))) (eVar 1))) (sRet (eVar 2)) sNil)
def b_throw_named : MS := (sSeq (sFor (iAny (eBin mIdx (eVar 0) (eC (.int 3)))) (gOne 2) lp_throw_named_0)
    (sRaise "NoThrow"))
def m_throw_named : Fn := fnD 2 3 b_throw_named
def b_with_count : MS := (sRet (eBin mAdd (eBin mAdd (eSl (eVar 0) oNone (oSome (eVar 1))) (eTup (aCons (eVar 2) aNil))) (eSl (eVar 0) (oSome (eBin mAdd (eVar 1) (eC (.int 1)))) oNone)))
def m_with_count : Fn := fnD 3 3 b_with_count
def b_turn_ended : MS := (sSeq (sAsg (gOne 3) (eBin mMod (eBin mAdd (eVar 2) (eC (.int 1))) (eBin mIdx (eVar 0) (eC (.int 0)))))
    (sRet (eTup (aCons (eVar 1) (aCons (eVar 3) (aCons (eC (.int 0)) (aCons (eBin mIdx (eVar 1) (eVar 3)) aNil)))))))
def m_turn_ended : Fn := fnD 3 4 b_turn_ended
def b_down_thrown : MS := (sSeq (sAsg (gTupD [5, 6, 7, 8]) (eVar 1))
    (sSeq (sAsg (gOne 3) (eCall m_throw_named (aCons (eVar 0) (aCons (eVar 2) aNil))))
    (sSeq (sAsg (gOne 4) (eBin mSub (eBin mIdx (eVar 5) (eVar 6)) (eBin mIdx (eVar 3) (eC (.int 1)))))
    (sSeq (sIf (tAnd (tB (eBin mEq (eVar 4) (eC (.int 0)))) (tTru (eBin mIdx (eVar 3) (eC (.int 2))))) (sRet (eTup (aCons (eTup (aCons (eCall m_with_count (aCons (eVar 5) (aCons (eVar 6) (aCons (eC (.int 0)) aNil)))) (aCons (eVar 6) (aCons (eBin mAdd (eVar 7) (eC (.int 1))) (aCons (eVar 8) aNil))))) (aCons (eC (.bl true)) aNil)))) sNil)
    (sSeq (sIf (tB (eBin mLe (eVar 4) (eC (.int 0)))) (sRet (eTup (aCons (eCall m_turn_ended (aCons (eVar 0) (aCons (eCall m_with_count (aCons (eVar 5) (aCons (eVar 6) (aCons (eVar 8) aNil)))) (aCons (eVar 6) aNil)))) (aCons (eC (.bl false)) aNil)))) sNil)
    (sSeq (sAsg (gOne 5) (eCall m_with_count (aCons (eVar 5) (aCons (eVar 6) (aCons (eVar 4) aNil)))))
    (sSeq (sIf (tB (eBin mEq (eBin mAdd (eVar 7) (eC (.int 1))) (eBin mIdx (eVar 0) (eC (.int 2))))) (sRet (eTup (aCons (eCall m_turn_ended (aCons (eVar 0) (aCons (eVar 5) (aCons (eVar 6) aNil)))) (aCons (eC (.bl false)) aNil)))) sNil)
    (sRet (eTup (aCons (eTup (aCons (eVar 5) (aCons (eVar 6) (aCons (eBin mAdd (eVar 7) (eC (.int 1))) (aCons (eVar 8) aNil))))) (aCons (eC (.bl false)) aNil)))))))))))
def m_down_thrown : Fn := fnD 3 9 b_down_thrown
end
/-- a stand of a down -/
structure DSt where
  counts : List Int
  side : Nat
  thrown : Nat
  held : Int
def DSt.toD (s : DSt) : D := .tup [.tup (s.counts.map D.int), .int (s.side : Nat), .int (s.thrown : Nat), .int s.held]
structure DStOk (w : Down) (s : DSt) : Prop where
  len : s.counts.length = w.sides
  side : s.side < w.sides
  thr : s.thrown < w.turn
def firstS (w : Down) : DSt := ⟨List.replicate w.sides w.start, 0, 0, w.start⟩
theorem firstS_ok {w : Down} (h : DownOk w) : DStOk w (firstS w) := ⟨by simp [firstS], by show 0 < _; have := h.s0; omega, by show 0 < _; have := h.t0; omega⟩
/-- whose turn comes: at the next side -/
def nextS' (w : Down) (counts : List Int) (side : Nat) : DSt := ⟨counts, (side + 1) % w.sides, 0, counts.getD ((side + 1) % w.sides) 0⟩
/-- behind a throw -/
def thrownS (w : Down) (s : DSt) (t : Thr) : DSt × Bool :=
  let left := s.counts.getD s.side 0 - t.worth
  if left = 0 ∧ t.ends = true then (⟨s.counts.set s.side 0, s.side, s.thrown + 1, s.held⟩, true)
  else if left ≤ 0 then (nextS' w (s.counts.set s.side s.held) s.side, false)
  else if s.thrown + 1 = w.turn then (nextS' w (s.counts.set s.side left) s.side, false)
  else (⟨s.counts.set s.side left, s.side, s.thrown + 1, s.held⟩, false)
theorem nextS_ok {w : Down} (h : DownOk w) {counts : List Int} {side : Nat} (hl : counts.length = w.sides) : DStOk w (nextS' w counts side) := ⟨hl, Nat.mod_lt _ (by have := h.s0; omega), by show 0 < _; have := h.t0; omega⟩
theorem thrownS_ok {w : Down} (h : DownOk w) {s : DSt} (o : DStOk w s) (t : Thr) (hw : (thrownS w s t).2 = false) : DStOk w (thrownS w s t).1 := by
  unfold thrownS at hw ⊢
  have hl : ∀ c, (s.counts.set s.side c).length = w.sides := fun c => by rw [List.length_set]; exact o.len
  dsimp only at hw ⊢
  by_cases c1 : s.counts.getD s.side 0 - t.worth = 0 ∧ t.ends = true
  · rw [if_pos c1] at hw; cases hw
  · rw [if_neg c1]
    by_cases c2 : s.counts.getD s.side 0 - t.worth ≤ 0
    · rw [if_pos c2]; exact nextS_ok h (hl _)
    · rw [if_neg c2]
      by_cases c3 : s.thrown + 1 = w.turn
      · rw [if_pos c3]; exact nextS_ok h (hl _)
      · rw [if_neg c3]
        exact ⟨hl _, o.side, by have := o.thr; show s.thrown + 1 < _; omega⟩
theorem down_begun_ok {w : Down} (h : DownOk w) (M : Mem) : m_down_begun [w.toD] M = .ok (firstS w).toD M := by
  show endS (b_down_begun [some w.toD] M) = _
  unfold b_down_begun
  have hm : mMul (.tup [.int w.start]) (.int (w.sides : Nat)) M = some (.tup (List.replicate w.sides (D.int w.start)), M) := by
    show (if (w.sides : Int) = 1 then some (D.tup [.int w.start], M) else if _ then some (D.tup (List.replicate ((w.sides : Int)).toNat [D.int w.start]).flatten, M) else none) = _
    have := h.s0
    have := h.s1
    by_cases q : (w.sides : Int) = 1
    · rw [if_pos q]
      have : w.sides = 1 := by omega
      rw [this]; rfl
    · rw [if_neg q, if_pos ⟨by simp, by omega, by omega, by simp⟩]
      simp
  simp [Down.toD, hm, firstS, DSt.toD]
/-- any thing, held against a name -/
def isName (x : D) (t : Thr) : Bool := match x with
  | .str y => decide (t.name = y)
  | _ => false
/-- a thing that is held against names -/
def Held' (M : Mem) (x : D) : Prop := (∃ z, x = .str z) ∨ ((toP 64 M x).isSome = true ∧ ∀ p, toP 64 M x = some p → SeqAt.shaped p = true)
theorem throws_eq {M : Mem} {t : Thr} {x : D} (hx : Held' M x) (hn : nameB t.name = true) : mEq (.str t.name) x M = some (.bl (isName x t), M) := by
  rcases hx with ⟨z, rfl⟩ | hx
  · exact mEq_text
  rw [mEq_eq]
  obtain ⟨p, hp⟩ := Option.isSome_iff_exists.mp hx.1
  have sp := hx.2 p hp
  have sn : SeqAt.shaped (.str t.name) = true := by
    unfold SeqAt.shaped
    have := name_strOk hn
    simp [PyData.canLay0, PyData.depth, this]
  have e : eqD M (.str t.name) x = some (PyData.eqv (.str t.name) p) := by
    unfold eqD
    rw [hp]
    show (if SeqAt.shaped (.str t.name) = true ∧ SeqAt.shaped p = true then some (PyData.eqv (.str t.name) p) else strEq (.str t.name) x) = _
    rw [if_pos ⟨sn, sp⟩]
  rw [e]
  have e2 : PyData.eqv (.str t.name) p = isName x t := by
    cases x with
    | non => cases hp; simp [PyData.eqv, isName]
    | bl b => cases hp; simp [PyData.eqv, isName]
    | int i => cases hp; simp [PyData.eqv, isName]
    | str y => cases hp; simp only [PyData.eqv, isName]; rfl
    | err y => cases hp
    | tup xs =>
      have e' : (optAll (toP 63 M) xs).map PyData.tuple = some p := hp
      cases q : optAll (toP 63 M) xs with
      | none => rw [q] at e'; cases e'
      | some ps => rw [q] at e'; cases e'; simp [PyData.eqv, isName]
    | ref m =>
      have e' : (match seqAt M m with | some xs => (optAll (toP 63 M) xs).map PyData.list | none => none) = some p := hp
      cases q0 : seqAt M m with
      | none => rw [q0] at e'; cases e'
      | some xs =>
        simp only [q0] at e'
        cases q : optAll (toP 63 M) xs with
        | none => rw [q] at e'; cases e'
        | some ps => rw [q] at e'; cases e'; simp [PyData.eqv, isName]
  rw [e2]
  rfl
theorem throw_named_ok {w : Down} (h : DownOk w) {x : D} {M : Mem} (hx : Held' M x) : m_throw_named [w.toD, x] M = match w.throws.find? (isName x) with
    | some t => .ok t.toD M
    | none => .exc ⟨"NoThrow", none⟩ M := by
  show endS (b_throw_named [some w.toD, some x, none] M) = _
  unfold b_throw_named
  have go : ∀ (ts : List Thr) (e : Option D), (∀ t ∈ ts, nameB t.name = true) → forL (fun _ => True) (gOne 2) lp_throw_named_0 (ts.map Thr.toD) [some w.toD, some x, e] M = match ts.find? (isName x) with
      | some t => .ret t.toD M
      | none => .next [some w.toD, some x, if ts = [] then e else (ts.map fun t => some t.toD).getLastD none] M := by
    intro ts
    induction ts with
    | nil => intro e _; rw [List.map_nil, forL_nil trivial]; rfl
    | cons t ts ih =>
      intro e hn
      rw [List.map_cons, forL_cons (env1 := [some w.toD, some x, some t.toD]) trivial rfl]
      have he := throws_eq hx (hn t List.mem_cons_self)
      unfold lp_throw_named_0
      cases q : isName x t with
      | true =>
        rw [q] at he
        simp [Thr.toD, he, List.find?_cons, q]
      | false =>
        rw [q] at he
        rw [List.find?_cons, q]
        have step : nextS (sIf (TL.tB (eBin mEq (eBin mIdx (eVar 2) (eC (.int 0))) (eVar 1))) (sRet (eVar 2)) sNil [some w.toD, some x, some t.toD] M) (forL (fun _ => True) (gOne 2) lp_throw_named_0 (ts.map Thr.toD)) = forL (fun _ => True) (gOne 2) lp_throw_named_0 (ts.map Thr.toD) [some w.toD, some x, some t.toD] M := by
          simp [Thr.toD, he]
        unfold lp_throw_named_0 at step
        rw [step]
        have := ih (some t.toD) fun u hu => hn u (List.mem_cons_of_mem _ hu)
        unfold lp_throw_named_0 at this
        rw [this]
        cases ts.find? (isName x) with
        | some u => rfl
        | none =>
          cases ts with
          | nil => rfl
          | cons u us => rfl
  have g := go w.throws none fun t ht => h.good.nm t ht
  simp [Down.toD] at g ⊢
  rw [g]
  cases w.throws.find? (isName x) with
  | some t => rfl
  | none => rfl
theorem set_cut {α : Type} {xs : List α} {k : Nat} {y : α} (h : k < xs.length) : xs.take k ++ [y] ++ xs.drop (k + 1) = xs.set k y := by
  rw [List.set_eq_take_append_cons_drop, if_pos h]
  simp
theorem with_count_ok {cs : List Int} {k : Nat} (h : k < cs.length) (hl : cs.length ≤ 1000) (c : Int) (M : Mem) : m_with_count [.tup (cs.map D.int), .int (k : Nat), .int c] M = .ok (.tup ((cs.set k c).map D.int)) M := by
  show endS (b_with_count [some (.tup (cs.map D.int)), some (.int (k : Nat)), some (.int c)] M) = _
  unfold b_with_count
  have e1 : cutL (cs.map D.int) none (some (k : Int)) = (cs.take k).map D.int := by rw [cutL_to (by simp; omega), List.map_take]
  have e2 : cutL (cs.map D.int) (some ((k : Int) + 1)) none = (cs.drop (k + 1)).map D.int := by rw [show ((k : Int) + 1) = ((k + 1 : Nat) : Int) from by simp, cutL_fr (by simp; omega), List.map_drop]
  have e3 : (cs.take k).map D.int ++ [D.int c] ++ (cs.drop (k + 1)).map D.int = (cs.set k c).map D.int := by
    rw [← set_cut h]
    simp
  have l1 : ((cs.take k).map D.int).length ≤ 1000 := by rw [List.length_map, List.length_take]; omega
  have l2 : ((cs.drop (k + 1)).map D.int).length ≤ 1000 := by rw [List.length_map, List.length_drop]; omega
  generalize hA : (cs.take k).map D.int = A at *
  generalize hB : (cs.drop (k + 1)).map D.int = B at *
  have s1 : mAdd (.tup A) (.tup [.int c]) M = some (.tup (A ++ [.int c]), M) := by rw [mAdd_tup, if_pos (by rw [sizeLine_eq]; simp; omega)]
  have s2 : mAdd (.tup (A ++ [.int c])) (.tup B) M = some (.tup (A ++ [.int c] ++ B), M) := by rw [mAdd_tup, if_pos (by rw [sizeLine_eq]; simp; omega)]
  rw [e3] at s2
  simp [-mAdd_tup, e1, e2, s1, s2]
theorem at_ints {cs : List Int} {k : Nat} (h : k < cs.length) : atI (cs.map D.int) (k : Int) = some (.int (cs.getD k 0)) := by
  refine atI_nat ?_
  rw [List.getElem?_map, List.getElem?_eq_getElem h, List.getD_eq_getElem?_getD, List.getElem?_eq_getElem h]
  rfl
theorem turn_ended_ok {w : Down} (h : DownOk w) {cs : List Int} {side : Nat} (hl : cs.length = w.sides) (M : Mem) : m_turn_ended [w.toD, .tup (cs.map D.int), .int (side : Nat)] M = .ok (nextS' w cs side).toD M := by
  show endS (b_turn_ended [some w.toD, some (.tup (cs.map D.int)), some (.int (side : Nat)), none] M) = _
  unfold b_turn_ended
  have s0 := h.s0
  have e0 : ((side : Int) + 1) % (w.sides : Int) = (((side + 1) % w.sides : Nat) : Int) := by simp
  have e1 := at_ints (cs := cs) (k := (side + 1) % w.sides) (by rw [hl]; exact Nat.mod_lt _ (by omega))
  rw [← e0] at e1
  have c0 : 0 < w.sides := s0
  simp [Down.toD, e1, c0, nextS', DSt.toD]
theorem down_thrown_ok {w : Down} (h : DownOk w) {s : DSt} (o : DStOk w s) {x : D} {M : Mem} (hx : Held' M x) : m_down_thrown [w.toD, s.toD, x] M = match w.throws.find? (isName x) with
    | some t => .ok (.tup [(thrownS w s t).1.toD, .bl (thrownS w s t).2]) M
    | none => .exc ⟨"NoThrow", none⟩ M := by
  show endS (b_down_thrown [some w.toD, some s.toD, some x, none, none, none, none, none, none] M) = _
  unfold b_down_thrown
  have e1 := throw_named_ok h hx
  have s3 := h.s1
  have hlt : s.side < s.counts.length := by rw [o.len]; exact o.side
  have hl : s.counts.length ≤ 1000 := by rw [o.len]; omega
  have ha := at_ints hlt
  cases q : w.throws.find? (isName x) with
  | none =>
    rw [q] at e1
    simp [DSt.toD, e1]
  | some t =>
    rw [q] at e1
    have wc := fun c => with_count_ok hlt hl c M
    have te := fun c => turn_ended_ok h (cs := s.counts.set s.side c) (side := s.side) (by rw [List.length_set]; exact o.len) M
    unfold thrownS
    dsimp only
    generalize s.counts.getD s.side 0 = cnt at *
    have e1 : m_throw_named [w.toD, x] M = .ok (.tup [.str t.name, .int t.worth, .bl t.ends]) M := e1
    by_cases c1 : cnt - t.worth = 0
    · cases c0 : t.ends with
      | true =>
        simp [DSt.toD, e1, ha, c1, c0, wc]
      | false =>
        have te' := te s.held
        simp [DSt.toD] at te'
        simp [DSt.toD, e1, ha, c1, c0, wc, te']
    · by_cases c2 : cnt - t.worth ≤ 0
      · have te' := te s.held
        simp [DSt.toD] at te'
        simp [DSt.toD, e1, ha, c1, c2, wc, te']
      · have c2' : cnt - t.worth > 0 := by omega
        by_cases c3 : s.thrown + 1 = w.turn
        · have te' := te (cnt - t.worth)
          simp [DSt.toD, Down.toD] at te'
          have c3' : (s.thrown : Int) + 1 = (w.turn : Int) := by omega
          simp [DSt.toD, Down.toD] at e1
          simp [DSt.toD, Down.toD, e1, ha, c1, c2, c3, c3', wc, te']
        · have c3' : ¬ ((s.thrown : Int) + 1 = (w.turn : Int)) := by omega
          simp [DSt.toD, Down.toD] at e1
          simp [DSt.toD, Down.toD, e1, ha, c1, c2, c3, c3', wc]
end CM
end
section
set_option maxHeartbeats 4000000
namespace CM
open PySem PySem.Spec PyProof.Rows L2 TL TLQ
/-- a thing whose kind is known, and those in it -/
def Kinds (M : Mem) : D → Prop
  | .tup xs => ∀ x ∈ xs, (tyName M x).isSome = true
  | d => (tyName M d).isSome = true
theorem tyName_keep {M M' : Mem} (k : Keep M M') {d : D} (h : (tyName M d).isSome = true) : (tyName M' d).isSome = true := by
  cases d with
  | ref n =>
    cases q : seqAt M n with
    | none => simp [tyName, q] at h
    | some xs => simp [tyName, k.seq q]
  | _ => exact h
theorem Kinds.keep {M M' : Mem} (k : Keep M M') {d : D} (h : Kinds M d) : Kinds M' d := by
  cases d with
  | tup xs => exact fun x hx => tyName_keep k (h x hx)
  | _ => exact tyName_keep k h
theorem small_sh {M : Mem} {n : Nat} {i : Int} (h0 : -100 ≤ i) (h1 : i ≤ 100) : Sh M (n + 1) 201 (.int i) := Sh.int (by omega)
theorem str_sh {M : Mem} {n : Nat} (s : String) (h : (Str.ofString s).cps.size ≤ 10) : TL.Sh M (n + 1) 10 (.str (Str.ofString s)) := Sh.le (Sh.str (strOk_of s)) h
end CM
end
section
set_option maxHeartbeats 4000000
namespace CM
open PySem PySem.Spec PyProof.Rows L2 TL RL RB TLQ
theorem rows_at {rows : List LRow} {side : Nat} (h : side < rows.length) : atI (rows.map LRow.toD) (side : Int) = some rows[side].toD :=
  atI_nat (by rw [List.getElem?_map, List.getElem?_eq_getElem h]; rfl)
theorem cutL_from {α : Type} {xs : List α} {k : Nat} (h : k ≤ xs.length) : cutL xs (some (k : Int)) none = xs.drop k := by
  unfold cutL
  rw [HT.sIx_nat, HT.sIx_none, Nat.min_eq_left h]
  exact List.take_of_length_le (by simp)
theorem set_split {α : Type} {xs : List α} {k : Nat} {y : α} (h : k < xs.length) : xs.take k ++ [y] ++ xs.drop (k + 1) = xs.set k y := by
  rw [List.set_eq_take_append_cons_drop, if_pos h]; simp
/-- all sides through -/
def overR (n : Nat) (rows : List LRow) : Bool := rows.all fun r => decide (r.done = (n : Int))
/-- a number of pins -/
def pinsB (up : Int) : D → Bool
  | .int i => decide (0 ≤ i) && decide (i ≤ up)
  | _ => false
theorem between_D {d : D} {lo hi : Int} {M : Mem} (h : (tyName M d).isSome = true) : m_is_between [d, .int lo, .int hi] M = .ok (.bl (match d with | .int i => decide (lo ≤ i) && decide (i ≤ hi) | _ => false)) M := by
  show endS (b_is_between [some d, some (.int lo), some (.int hi)] M) = _
  unfold b_is_between
  cases d with
  | int i => by_cases c : lo ≤ i <;> simp [c]
  | ref n =>
    cases q : seqAt M n with
    | none => simp [tyName, q] at h
    | some xs => simp [mIsi_ref q]
  | err x => simp [tyName] at h
  | _ => simp
theorem bowled_ok {k : Nat} {P : Int} {n : Nat} (l : Lane k P n) {rows : List LRow} {side : Nat} {p : Int} (hk : rows.length = k) (hs : side < k) (h0 : 0 ≤ p) (hp : p ≤ (rows[side]'(by omega)).up) (h1 : p ≤ 100) (M : Mem) :
    Ret (m_lane_bowled [laneD k P n, standD rows side, .int p] M) (TL.Gives M (.tup [standD (rows.set side (stepR P n (rows[side]'(by omega)) p).1) (if (stepR P n (rows[side]'(by omega)) p).2 then (side + 1) % k else side), .bl (overR n (rows.set side (stepR P n (rows[side]'(by omega)) p).1))])) := by
  have hsl : side < rows.length := by omega
  generalize hr : rows[side] = r at *
  have hrb := row_behind_ok (k := k) (P := P) (n := n) r h0 (by omega) M
  obtain ⟨r', ended, hq⟩ : ∃ a b, stepR P n r p = (a, b) := ⟨_, _, rfl⟩
  rw [hq] at hrb ⊢
  simp only at hrb ⊢
  have hat := rows_at hsl
  rw [hr] at hat
  have hb := between_ok p 0 r.up M
  have hcut1 : cutL (rows.map LRow.toD) none (some (side : Int)) = (rows.map LRow.toD).take side := cutL_to (by simp; omega)
  have hcut2 : cutL (rows.map LRow.toD) (some ((side : Int) + 1)) none = (rows.map LRow.toD).drop (side + 1) := by
    rw [show ((side : Int) + 1) = ((side + 1 : Nat) : Int) by omega, cutL_from (by simp; omega)]
  have hset : (rows.map LRow.toD).take side ++ [r'.toD] ++ (rows.map LRow.toD).drop (side + 1) = (rows.set side r').map LRow.toD := by
    rw [set_split (by simpa using hsl), List.map_set]
  have hrl : (rows.set side r').length ≤ 3 := by rw [List.length_set]; have := l.k1; omega
  generalize rows.set side r' = rows' at *
  have hup : mIdx r.toD (.int 2) M = some (.int r.up, M) := by simp [LRow.toD]
  have hk0 := l.k0
  have hkn : mIdx (laneD k P n) (.int 0) M = some (.int (k : Nat), M) := by simp [laneD]
  have hsum : mAdd (.tup ((rows.map LRow.toD).take side)) (.tup [r'.toD]) M = some (.tup ((rows.map LRow.toD).take side ++ [r'.toD]), M) := by
    rw [mAdd_tup, if_pos (by rw [sizeLine_eq]; simp; have := l.k1; omega)]
  have hsum2 : mAdd (.tup ((rows.map LRow.toD).take side ++ [r'.toD])) (.tup ((rows.map LRow.toD).drop (side + 1))) M = some (.tup (rows'.map LRow.toD), M) := by
    rw [mAdd_tup, if_pos (by rw [sizeLine_eq]; simp; have := l.k1; omega), hset]
  have hmod : ((side : Int) + 1) % (k : Int) = (((side + 1) % k : Nat) : Int) := by rw [Int.natCast_emod]; rfl
  have hk' : (0 : Int) < (k : Int) := by omega
  show Ret (endS (b_lane_bowled [some (laneD k P n), some (standD rows side), some (.int p), none, none, none, none, none] M)) _
  unfold b_lane_bowled standD
  have fin : ∀ env : TL.Env, env[0]? = some (some (laneD k P n)) → env.length = 8 → Ret (compL (fun _ => True) 7 tYesD (eBin mEq (eBin mIdx (eVar 7) (eC (.int 0))) (eBin mIdx (eVar 0) (eC (.int 2)))) M.length env (rows'.map LRow.toD) (M ++ [.lst []]))
      (fun _ M2 => Keep M M2 ∧ nAll [.ref M.length] M2 = some (.bl (overR n rows'), M2)) := by
    intro env h0 hl
    refine Ret.comp (fun d => match d with | D.tup (D.int x :: _) => D.bl (decide (x = (n : Int))) | _ => D.non) (fun _ _ => trivial) (by simp; omega) (fun d hd M' _ => ?_) fun M2 k2 a2 => ⟨k2, ?_⟩
    · obtain ⟨x, _, rfl⟩ := List.mem_map.mp hd
      have e7 : (env.set 7 (some x.toD))[7]? = some (some x.toD) := List.getElem?_set_self (by omega)
      have e0 : (env.set 7 (some x.toD))[0]? = some (some (laneD k P n)) := by rw [List.getElem?_set_ne (by decide)]; exact h0
      simp [e7, e0, h0]
      simp [LRow.toD, h0]; simp [laneD]
      exact .ok ⟨rfl, Keep.refl _⟩
    · have := nAll_bls (M := M2) (n := M.length) (bs := rows'.map fun r => decide (r.done = (n : Int))) (seqAt_lst (by rw [a2]; congr 2; rw [List.map_map, List.map_map]; exact List.map_congr_left fun r _ => rfl))
      rw [this, List.all_map]; rfl
  cases ended with
  | false =>
    simp [-mAdd_tup, hat, hup, hb, h0, hp, hrb, hcut1, hcut2, hsum, hsum2]
    refine Ret.bindQ (fin _ rfl rfl) ?_
    rintro _ M2 ⟨k2, e2⟩
    simp [e2]
    exact .ok ⟨rfl, k2⟩
  | true =>
    have hk2 : 0 < k := by omega
    simp [-mAdd_tup, hat, hup, hb, h0, hp, hrb, hcut1, hcut2, hsum, hsum2, hkn, hk2]
    refine Ret.bindQ (fin _ rfl rfl) ?_
    rintro _ M2 ⟨k2, e2⟩
    simp [e2]
    exact .ok ⟨rfl, k2⟩
/-- what is no number of pins that are up -/
theorem bowled_no {k : Nat} {P : Int} {n : Nat} {rows : List LRow} {side : Nat} (hs : side < rows.length) {d : D} {M : Mem} (hd : (tyName M d).isSome = true) (hn : pinsB (rows[side]).up d = false) :
    m_lane_bowled [laneD k P n, standD rows side, d] M = .exc ⟨"NoPins", none⟩ M := by
  have hat := rows_at hs
  have hb := between_D (lo := 0) (hi := (rows[side]).up) hd
  generalize rows[side] = r at *
  have hup : mIdx r.toD (.int 2) M = some (.int r.up, M) := by simp [LRow.toD]
  have hb2 : m_is_between [d, .int 0, .int r.up] M = .ok (.bl false) M := by
    rw [hb]
    cases d <;> first | rfl | (simp [pinsB] at hn ⊢; exact hn)
  show endS (b_lane_bowled [some (laneD k P n), some (standD rows side), some d, none, none, none, none, none] M) = _
  unfold b_lane_bowled standD
  simp [hat, hup, hb2]
@[simp] theorem stand_idx0 {rows : List LRow} {side : Nat} {M : Mem} : mIdx (standD rows side) (.int 0) M = some (.tup (rows.map LRow.toD), M) := by simp [standD]
@[simp] theorem stand_idx1 {rows : List LRow} {side : Nat} {M : Mem} : mIdx (standD rows side) (.int 1) M = some (.int (side : Nat), M) := by simp [standD]
def UpOk (P : Int) (r : LRow) : Prop := 0 ≤ r.up ∧ r.up ≤ P
theorem step_up {P n : Int} {r : LRow} {p : Int} (hP : 1 ≤ P) (h : UpOk P r) (h0 : 0 ≤ p) (hp : p ≤ r.up) : UpOk P (stepR P n r p).1 := by
  obtain ⟨h1, h2⟩ := h
  unfold stepR extraB frameB
  split
  · simp only
    split
    · exact ⟨by show 0 ≤ P; omega, Int.le_refl _⟩
    · show 0 ≤ (if r.up - p = 0 then P else r.up - p) ∧ (if r.up - p = 0 then P else r.up - p) ≤ P
      split <;> omega
  · split
    · split
      · exact ⟨by show 0 ≤ P; omega, Int.le_refl _⟩
      · exact ⟨by show 0 ≤ P; omega, Int.le_refl _⟩
    · split
      · split
        · exact ⟨by show 0 ≤ P; omega, Int.le_refl _⟩
        · exact ⟨by show 0 ≤ P; omega, Int.le_refl _⟩
      · split
        · split
          · exact ⟨by show 0 ≤ P; omega, Int.le_refl _⟩
          · exact ⟨by show 0 ≤ P; omega, Int.le_refl _⟩
        · exact ⟨by show 0 ≤ r.up - p; omega, by show r.up - p ≤ P; omega⟩
theorem best_ints (ts : List Int) : ∃ bs : List Int, bestD ts = bs.map D.int ∧ bs.length ≤ ts.length := by
  unfold bestD
  have h : ∀ l : List D, (∀ d ∈ l, ∃ i : Int, d = .int i) → ∃ bs : List Int, l = bs.map D.int := by
    intro l
    induction l with
    | nil => exact fun _ => ⟨[], rfl⟩
    | cons d l ih =>
      intro h
      obtain ⟨i, rfl⟩ := h d List.mem_cons_self
      obtain ⟨bs, e⟩ := ih fun x hx => h x (List.mem_cons_of_mem _ hx)
      exact ⟨i :: bs, by rw [e]; rfl⟩
  obtain ⟨bs, e⟩ := h ((rngItems 0 ts.length).filter (isBest ts)) (fun d hd => by
    obtain ⟨k, _, rfl⟩ := mem_rng (List.mem_filter.mp hd).1
    exact ⟨_, rfl⟩)
  refine ⟨bs, e, ?_⟩
  have h1 : bs.length = ((rngItems 0 ts.length).filter (isBest ts)).length := by rw [e]; simp
  have h2 := List.length_filter_le (isBest ts) (rngItems 0 ts.length)
  rw [rng_length] at h2
  omega
end CM
namespace CF
open PySem PySem.Spec PyProof.Rows L2 TL
end CF
namespace TL
open PySem PySem.Spec PyProof.Rows L2
theorem mNe_refl {d : D} {n : Nat} {M : Mem} (h : pureD d n = true) (hn : n ≤ 63) : mNe d d M = some (.bl false, M) := by
  rw [mNe_eq, eqD_pure h h hn hn, SeqAt.eqv_refl _ (lay_pure d n h).1]; rfl
end TL
end
section
set_option maxHeartbeats 4000000
namespace CM
open PySem PySem.Spec PyProof.Rows L2 TL TLQ RD
noncomputable section
def b_is_throw_name : MS := (sSeq (sIf (tOr (tNot (tTru (eIsi "str" (eVar 0)))) (tOr (tB (eBin mLt (eCallO nLen (aCons (eVar 0) aNil)) (eC (.int 1)))) (tOr (tB (eBin mGt (eCallO nLen (aCons (eVar 0) aNil)) (eC (.int 8)))) (tB (eBin mNotIn (eBin mIdx (eVar 0) (eC (.int 0))) (eC (.str "abcdefghijklmnopqrstuvwxyz"))))))) (sRet (eC (.bl false))) sNil)
    (sRet (eCallO nAll (aCons (eComp 1 (iAny (eVar 0)) tYesD (eOr (eBin mIn (eVar 1) (eC (.str "abcdefghijklmnopqrstuvwxyz"))) (eBin mIn (eVar 1) (eC (.str "0123456789"))))) aNil))))
def m_is_throw_name : Fn := fnD 1 2 b_is_throw_name
def b_is_throw : MS := (sSeq (sIf (tOr (tNot (tTru (eIsi "tuple" (eVar 0)))) (tOr (tB (eBin mNe (eCallO nLen (aCons (eVar 0) aNil)) (eC (.int 3)))) (tNot (tTru (eCall m_is_throw_name (aCons (eBin mIdx (eVar 0) (eC (.int 0))) aNil)))))) (sRet (eC (.bl false))) sNil)
    (sRet (eAnd (eCall m_is_between (aCons (eBin mIdx (eVar 0) (eC (.int 1))) (aCons (eC (.int 0)) (aCons (eC (.int 1000000)) aNil)))) (eIsi "bool" (eBin mIdx (eVar 0) (eC (.int 2)))))))
def m_is_throw : Fn := fnD 1 1 b_is_throw
def b_is_down : MS := (sSeq (sIf (tOr (tNot (tTru (eIsi "tuple" (eVar 0)))) (tOr (tB (eBin mNe (eCallO nLen (aCons (eVar 0) aNil)) (eC (.int 4)))) (tNot (tTru (eIsi "tuple" (eBin mIdx (eVar 0) (eC (.int 3)))))))) (sRet (eC (.bl false))) sNil)
    (sSeq (sIf (tOr (tNot (tTru (eCall m_is_between (aCons (eBin mIdx (eVar 0) (eC (.int 0))) (aCons (eC (.int 1)) (aCons (eC (.int 3)) aNil)))))) (tOr (tNot (tTru (eCall m_is_between (aCons (eBin mIdx (eVar 0) (eC (.int 1))) (aCons (eC (.int 1)) (aCons (eC (.int 1000000)) aNil)))))) (tNot (tTru (eCall m_is_between (aCons (eBin mIdx (eVar 0) (eC (.int 2))) (aCons (eC (.int 1)) (aCons (eC (.int 3)) aNil)))))))) (sRet (eC (.bl false))) sNil)
    (sSeq (sIf (tOr (tB (eBin mLt (eCallO nLen (aCons (eBin mIdx (eVar 0) (eC (.int 3))) aNil)) (eC (.int 1)))) (tOr (tB (eBin mGt (eCallO nLen (aCons (eBin mIdx (eVar 0) (eC (.int 3))) aNil)) (eC (.int 30)))) (tNot (tTru (eCallO nAll (aCons (eComp 1 (iAny (eBin mIdx (eVar 0) (eC (.int 3)))) tYesD (eCall m_is_throw (aCons (eVar 1) aNil))) aNil)))))) (sRet (eC (.bl false))) sNil)
    (sRet (eBin mEq (eLenSet (eComp 1 (iAny (eBin mIdx (eVar 0) (eC (.int 3)))) tYesD (eBin mIdx (eVar 1) (eC (.int 0))))) (eCallO nLen (aCons (eBin mIdx (eVar 0) (eC (.int 3))) aNil)))))))
def m_is_down : Fn := fnD 1 2 b_is_down
end
theorem Sh.ty {M : Mem} {n w : Nat} {d : D} (h : TL.Sh M (n + 1) w d) : (tyName M d).isSome = true := by
  obtain ⟨x, e, _⟩ := h
  cases d with
  | ref m =>
    have e' : (match seqAt M m with | some xs => (datL (dat n M) xs).map PyData.list | none => none) = some x := e
    cases q : seqAt M m with
    | none => rw [q] at e'; cases e'
    | some xs => simp [tyName, q]
  | err y => cases e
  | _ => rfl
theorem Sh.elems {M : Mem} {n w : Nat} {xs : List D} (h : TL.Sh M (n + 1) w (.tup xs)) : ShL M n w xs := by
  obtain ⟨x, e, ⟨b, g⟩, c, l⟩ := h
  obtain ⟨ps, e1, rfl⟩ := Option.map_eq_some_iff.mp (show (datL (dat n M) xs).map PyData.tuple = some x from e)
  exact ⟨ps, e1, ⟨b, g⟩, c, l⟩
theorem Sh.text {M : Mem} {n w : Nat} {x : Str} (h : TL.Sh M (n + 1) w (.str x)) : x.length ≤ w := by
  obtain ⟨p, e, _, _, l⟩ := h
  cases e
  exact l
/-- a whole number between -/
def inB (lo hi : Int) : D → Bool
  | .int i => decide (lo ≤ i) && decide (i ≤ hi)
  | _ => false
theorem between_B {d : D} {lo hi : Int} {M : Mem} (h : (tyName M d).isSome = true) : m_is_between [d, .int lo, .int hi] M = .ok (.bl (inB lo hi d)) M := by
  rw [between_D h]
  cases d <;> rfl
theorem letters_mem {c : Nat} : decide (c ∈ lettersS.cps.toList) = letter c := by
  rw [letters_tl]
  unfold letter
  rw [Bool.eq_iff_iff, decide_eq_true_iff, Bool.and_eq_true_iff, decide_eq_true_iff, decide_eq_true_iff, List.mem_map]
  exact ⟨fun ⟨a, h, e⟩ => by have := List.mem_range.mp h; omega, fun h => ⟨c - 97, List.mem_range.mpr (by omega), by omega⟩⟩
theorem figs_mem {c : Nat} : decide (c ∈ (Str.ofString "0123456789").cps.toList) = figure c := by
  rw [figs_tl]
  unfold figure
  rw [Bool.eq_iff_iff, decide_eq_true_iff, Bool.and_eq_true_iff, decide_eq_true_iff, decide_eq_true_iff, List.mem_map]
  exact ⟨fun ⟨a, h, e⟩ => by have := List.mem_range.mp h; omega, fun h => ⟨c - 48, List.mem_range.mpr (by omega), by omega⟩⟩
theorem in_sign {c : Nat} {z : Str} {M : Mem} : mIn (.str ⟨#[c]⟩) (.str z) M = some (.bl (decide (c ∈ z.cps.toList)), M) := by
  unfold mIn inD
  simp
theorem notIn_sign {c : Nat} {z : Str} {M : Mem} : mNotIn (.str ⟨#[c]⟩) (.str z) M = some (.bl (!decide (c ∈ z.cps.toList)), M) := by
  unfold mNotIn inD
  simp
theorem in_letters {c : Nat} {M : Mem} : mIn (.str ⟨#[c]⟩) (.str (Str.ofString "abcdefghijklmnopqrstuvwxyz")) M = some (.bl (letter c), M) := by
  rw [in_sign, ← letters_mem]; rfl
theorem notIn_letters {c : Nat} {M : Mem} : mNotIn (.str ⟨#[c]⟩) (.str (Str.ofString "abcdefghijklmnopqrstuvwxyz")) M = some (.bl (!letter c), M) := by
  rw [notIn_sign, ← letters_mem]; rfl
theorem in_figs {c : Nat} {M : Mem} : mIn (.str ⟨#[c]⟩) (.str (Str.ofString "0123456789")) M = some (.bl (figure c), M) := by
  rw [in_sign, ← figs_mem]
/-- may it be a name -/
def nameD : D → Bool
  | .str x => nameB x
  | _ => false
theorem str_at0 {x : Str} {c : Nat} {r : List Nat} (h : x.cps.toList = c :: r) (hl : x.length ≤ 10000) (M : Mem) : mIdx (.str x) (.int 0) M = some (.str ⟨#[c]⟩, M) := by
  show (if x.length ≤ sizeLine then (atI x.cps.toList 0).map fun c => (D.str ⟨#[c]⟩, M) else none) = _
  rw [if_pos (by rw [sizeLine_eq]; omega), h, atI_0]
  rfl
theorem is_throw_name_ok {M : Mem} {n w : Nat} {d : D} (h : TL.Sh M (n + 1) w d) (hw : w ≤ 10000) : Ret (m_is_throw_name [d] M) (TL.Gives M (.bl (nameD d))) := by
  show Ret (endS (b_is_throw_name [some d, none] M)) _
  unfold b_is_throw_name
  have ty := Sh.ty h
  cases d with
  | str x =>
    have hl := Sh.text h
    have hls : x.length ≤ 16777216 := by omega
    have hx : x.length = x.cps.toList.length := by show x.cps.size = _; simp
    cases e : x.cps.toList with
    | nil =>
      rw [e] at hx
      simp [hls, hx]
      exact TL.Ret.ok (P := TL.Gives M _) ⟨by simp [nameD, nameB, nameL, e], Keep.refl _⟩
    | cons c r =>
      have l0 : ¬ ((x.length : Nat) : Int) < 1 := by rw [hx, e]; simp; omega
      by_cases l8 : (8 : Int) < ((x.length : Nat) : Int)
      · simp [hls, l0, l8]
        have : ¬ (x.cps.toList.length ≤ 8) := by omega
        rw [e, List.length_cons] at this
        exact TL.Ret.ok (P := TL.Gives M _) ⟨by simp [nameD, nameB, nameL, e]; intros; omega, Keep.refl _⟩
      · have i0 := str_at0 e (by omega) M
        cases hc : letter c with
        | false =>
          simp [hls, l0, l8, i0, notIn_letters, hc]
          exact TL.Ret.ok (P := TL.Gives M _) ⟨by simp [nameD, nameB, nameL, e, hc], Keep.refl _⟩
        | true =>
          simp [hls, l0, l8, i0, notIn_letters, hc]
          refine Ret.bindQ (P := fun _ M1 => Keep M M1 ∧ seqAt M1 M.length = some ((x.cps.toList.map sign).map D.bl)) ?_ ?_
          · refine Ret.comp (fun d => match d with | .str y => .bl (y.cps.toList.all sign) | _ => .non) (fun _ _ => trivial) (by show (x.cps.toList.map _).length ≤ _; rw [List.length_map, ← hx]; omega) (fun d hd M' k => ?_) fun M2 k a => ⟨k, ?_⟩
            · obtain ⟨c2, hc2, rfl⟩ := List.mem_map.mp hd
              cases q : letter c2 with
              | true =>
                simp [in_letters, in_figs, q]
                exact TL.Ret.ok (P := TL.Gives M' _) ⟨by simp [sign, q], Keep.refl _⟩
              | false =>
                simp [in_letters, in_figs, q]
                exact TL.Ret.ok (P := TL.Gives M' _) ⟨by simp [sign, q], Keep.refl _⟩
            · rw [seqAt_lst a]
              simp [strItems, List.map_map, Function.comp_def]
          rintro _ M1 ⟨k1, a1⟩
          have na := nAll_bls (M := M1) a1
          simp [na]
          refine .ok ⟨?_, k1⟩
          have l8' : x.cps.toList.length ≤ 8 := by omega
          rw [e, List.length_cons] at l8'
          simp [nameD, nameB, nameL, e, hc, List.all_map, Function.comp_def]
          rw [← Array.all_toList, e, List.all_cons, decide_eq_true (by omega : r.length ≤ 7), Bool.true_and]
  | ref m =>
    cases q : seqAt M m with
    | none => simp [tyName, q] at ty
    | some xs => simp [mIsi_ref q]; exact TL.Ret.ok (P := TL.Gives M _) ⟨rfl, Keep.refl _⟩
  | err y => exact absurd ty (by simp [tyName])
  | _ => simp; exact TL.Ret.ok (P := TL.Gives M _) ⟨rfl, Keep.refl _⟩
def isBl : D → Bool
  | .bl _ => true
  | _ => false
def throwB : D → Bool
  | .tup [a, b, c] => nameD a && (inB 0 1000000 b && isBl c)
  | _ => false
theorem mIsi_bool {M : Mem} {d : D} (h : (tyName M d).isSome = true) : mIsi "bool" d M = some (.bl (isBl d), M) := by
  cases d with
  | ref n =>
    cases q : seqAt M n with
    | none => simp [tyName, q] at h
    | some xs => simp [mIsi_ref q, isBl]
  | err x => exact absurd h (by simp [tyName])
  | _ => simp [isBl]
theorem mIsi_tuple {M : Mem} {d : D} (h : (tyName M d).isSome = true) : mIsi "tuple" d M = some (.bl (match d with | .tup _ => true | _ => false), M) := by
  cases d with
  | ref n =>
    cases q : seqAt M n with
    | none => simp [tyName, q] at h
    | some xs => simp [mIsi_ref q]
  | err x => exact absurd h (by simp [tyName])
  | _ => simp
theorem is_throw_ok {M : Mem} {n w : Nat} {d : D} (h : TL.Sh M (n + 2) w d) (hw : w ≤ 10000) : Ret (m_is_throw [d] M) (TL.Gives M (.bl (throwB d))) := by
  show Ret (endS (b_is_throw [some d] M)) _
  unfold b_is_throw
  have ty := Sh.ty h
  cases d with
  | tup xs =>
    match xs, h with
    | [a, b, c], h =>
      have el := (Sh.elems h).of_all
      obtain ⟨va, la, sa⟩ := el a (by simp)
      obtain ⟨vb, lb, sb⟩ := el b (by simp)
      obtain ⟨vc, lc, sc⟩ := el c (by simp)
      obtain ⟨M1, e1, k1⟩ := gives_of (is_throw_name_ok sa (by omega))
      have e2 := between_B (lo := 0) (hi := 1000000) (Sh.ty (sb.keep k1))
      have e3 := mIsi_bool (Sh.ty (sc.keep k1))
      cases q1 : nameD a <;> cases q2 : inB 0 1000000 b <;> rw [q1] at e1 <;> rw [q2] at e2 <;> simp [e1, e2, e3] <;> exact TL.Ret.ok (P := TL.Gives M _) ⟨by simp [throwB, q1, q2], k1⟩
    | [], h => simp; exact TL.Ret.ok (P := TL.Gives M _) ⟨rfl, Keep.refl _⟩
    | [a], h => simp; exact TL.Ret.ok (P := TL.Gives M _) ⟨rfl, Keep.refl _⟩
    | [a, b], h => simp; exact TL.Ret.ok (P := TL.Gives M _) ⟨rfl, Keep.refl _⟩
    | a :: b :: c :: e :: xs, h =>
      have hl : ¬ ((xs.length : Int) + 1 + 1 + 1 + 1 = 3) := by omega
      simp [hl]
      exact TL.Ret.ok (P := TL.Gives M _) ⟨rfl, Keep.refl _⟩
  | ref m =>
    cases q : seqAt M m with
    | none => simp [tyName, q] at ty
    | some xs => simp [mIsi_ref q]; exact TL.Ret.ok (P := TL.Gives M _) ⟨rfl, Keep.refl _⟩
  | err y => exact absurd ty (by simp [tyName])
  | _ => simp; exact TL.Ret.ok (P := TL.Gives M _) ⟨rfl, Keep.refl _⟩
def nmOf : D → Str
  | .tup (.str x :: _) => x
  | _ => ⟨#[]⟩
def throwsB (ts : List D) : Bool := ts.all throwB && decide (fresh (fun _ => false) (ts.map nmOf) = ts.length)
def downB : D → Bool
  | .tup [a, b, c, .tup ts] => (inB 1 3 a && (inB 1 1000000 b && inB 1 3 c)) && (decide (1 ≤ ts.length) && (decide (ts.length ≤ 30) && throwsB ts))
  | _ => false
theorem throwB_str {d : D} (h : throwB d = true) : ∃ r, d = .tup (.str (nmOf d) :: r) := by
  match d, h with
  | .tup [a, b, c], h =>
    cases a with
    | str x => exact ⟨_, rfl⟩
    | _ => simp [throwB, nameD] at h
/-- names of what are throws -/
theorem names_of {i : Nat} {ts : List D} {env : TL.Env} {M : Mem} (hi : i < env.length) (hl : ts.length ≤ 1000) (ht : ∀ t ∈ ts, throwB t = true) :
    Ret (compL (fun _ => True) i tYesD (eBin mIdx (eVar i) (eC (.int 0))) M.length env ts (M ++ [.lst []])) (fun _ M1 => Keep M M1 ∧ seqAt M1 M.length = some ((ts.map nmOf).map D.str)) := by
  refine Ret.comp (fun d => .str (nmOf d)) (fun _ _ => trivial) (by omega) (fun d hd M' k => ?_) fun M2 k a => ⟨k, ?_⟩
  · have e : (env.set i (some d))[i]? = some (some d) := List.getElem?_set_self hi
    generalize env.set i (some d) = env' at *
    obtain ⟨r, hr⟩ := throwB_str (ht d hd)
    have e0 : mIdx d (.int 0) M' = some (.str (nmOf d), M') := by
      rw [hr]
      simp [nmOf]
    simp [e, e0]
    exact TL.Ret.ok (P := TL.Gives M' _) ⟨rfl, Keep.refl _⟩
  · rw [seqAt_lst a, List.map_map]
    rfl
theorem is_down_ok {M : Mem} {n w : Nat} {d : D} (h : TL.Sh M (n + 4) w d) (hw : w ≤ 10000) : Ret (m_is_down [d] M) (TL.Gives M (.bl (downB d))) := by
  show Ret (endS (b_is_down [some d, none] M)) _
  unfold b_is_down
  have ty := Sh.ty h
  cases d with
  | tup xs =>
    match xs, h with
    | [a, b, c, d], h =>
      have el := (Sh.elems h).of_all
      obtain ⟨va, la, sa⟩ := el a (by simp)
      obtain ⟨vb, lb, sb⟩ := el b (by simp)
      obtain ⟨vc, lc, sc⟩ := el c (by simp)
      obtain ⟨vd, ld, sd⟩ := el d (by simp)
      have td := mIsi_tuple (Sh.ty sd)
      cases d with
      | tup ts =>
        have ea := between_B (lo := 1) (hi := 3) (M := M) (Sh.ty sa)
        have eb := between_B (lo := 1) (hi := 1000000) (M := M) (Sh.ty sb)
        have ec := between_B (lo := 1) (hi := 3) (M := M) (Sh.ty sc)
        by_cases qn : (inB 1 3 a && (inB 1 1000000 b && inB 1 3 c)) = true
        · obtain ⟨qa, qn⟩ := Bool.and_eq_true_iff.mp qn
          obtain ⟨qb, qc⟩ := Bool.and_eq_true_iff.mp qn
          rw [qa] at ea
          rw [qb] at eb
          rw [qc] at ec
          by_cases l1 : ((ts.length : Nat) : Int) < 1
          · have : ¬ 1 ≤ ts.length := by omega
            simp [ea, eb, ec, l1]
            exact TL.Ret.ok (P := TL.Gives M _) ⟨by simp [downB, this], Keep.refl _⟩
          · by_cases l2 : (30 : Int) < ((ts.length : Nat) : Int)
            · have : ¬ ts.length ≤ 30 := by omega
              simp [ea, eb, ec, l1, l2]
              exact TL.Ret.ok (P := TL.Gives M _) ⟨by simp [downB, this], Keep.refl _⟩
            · have l1' : 1 ≤ ts.length := by omega
              have l2' : ts.length ≤ 30 := by omega
              simp [ea, eb, ec, l1, l2]
              refine Ret.bindQ (P := fun _ M1 => Keep M M1 ∧ seqAt M1 M.length = some ((ts.map throwB).map D.bl)) ?_ ?_
              · have elt := (Sh.elems sd).of_all
                refine Ret.comp (fun d => .bl (throwB d)) (fun _ _ => trivial) (by omega) (fun d hd M' k => ?_) fun M2 k a => ⟨k, by rw [seqAt_lst a, List.map_map]; rfl⟩
                obtain ⟨v, lv, sv⟩ := elt d hd
                have := is_throw_ok (sv.keep k) (by omega)
                simpa using this
              rintro _ M1 ⟨k1, a1⟩
              have na := nAll_bls (M := M1) a1
              have all : (ts.map throwB).all id = ts.all throwB := by rw [List.all_map]; rfl
              rw [all] at na
              cases qt : ts.all throwB with
              | false =>
                rw [qt] at na
                simp [na]
                exact TL.Ret.ok (P := TL.Gives M _) ⟨by simp [downB, throwsB, qt], k1⟩
              | true =>
                rw [qt] at na
                simp [na]
                refine Ret.bindQ (names_of (by simp) (by omega) (List.all_eq_true.mp qt)) ?_
                rintro _ M2 ⟨k2, a2⟩
                have ls := mLenSet_ok a2 (by rw [List.length_map]; omega)
                simp [ls]
                refine TL.Ret.ok (P := TL.Gives M _) ⟨?_, k1.trans k2⟩
                have e : (decide ((fresh (fun _ => false) (ts.map nmOf) : Int) = (ts.length : Nat))) = decide (fresh (fun _ => false) (ts.map nmOf) = ts.length) := decide_eq_decide.mpr (by omega)
                simp only [downB, throwsB, qa, qb, qc, qt, l1', l2', decide_true, Bool.true_and]
                rw [e]
        · have dn : downB (.tup [a, b, c, .tup ts]) = false := by
            simp only [Bool.not_eq_true] at qn
            simp only [downB, qn, Bool.false_and]
          cases qa : inB 1 3 a <;> cases qb : inB 1 1000000 b <;> cases qc : inB 1 3 c <;> rw [qa] at ea <;> rw [qb] at eb <;> rw [qc] at ec <;> first
            | (simp [qa, qb, qc] at qn; done)
            | (simp [ea, eb, ec]; exact TL.Ret.ok (P := TL.Gives M _) ⟨by rw [dn], Keep.refl _⟩)
      | _ =>
        simp at td
        simp [td]
        exact TL.Ret.ok (P := TL.Gives M _) ⟨rfl, Keep.refl _⟩
    | [], h => simp; exact TL.Ret.ok (P := TL.Gives M _) ⟨rfl, Keep.refl _⟩
    | [a], h => simp; exact TL.Ret.ok (P := TL.Gives M _) ⟨rfl, Keep.refl _⟩
    | [a, b], h => simp; exact TL.Ret.ok (P := TL.Gives M _) ⟨rfl, Keep.refl _⟩
    | [a, b, c], h => simp; exact TL.Ret.ok (P := TL.Gives M _) ⟨rfl, Keep.refl _⟩
    | a :: b :: c :: d :: e :: xs, h =>
      have hl : ¬ ((xs.length : Int) + 1 + 1 + 1 + 1 + 1 = 4) := by omega
      simp [hl]
      exact TL.Ret.ok (P := TL.Gives M _) ⟨by cases d <;> rfl, Keep.refl _⟩
  | ref m =>
    cases q : seqAt M m with
    | none => simp [tyName, q] at ty
    | some xs => simp [mIsi_ref q]; exact TL.Ret.ok (P := TL.Gives M _) ⟨rfl, Keep.refl _⟩
  | err y => exact absurd ty (by simp [tyName])
  | _ => simp; exact TL.Ret.ok (P := TL.Gives M _) ⟨rfl, Keep.refl _⟩
end CM
end
section
set_option maxHeartbeats 4000000
namespace CG
open PySem PySem.Spec PyProof.Rows L2 TL
open CM hiding b_l_alike m_l_alike b_l_unit m_l_unit g_l_unit b_l_rule m_l_rule b_l_any_rule m_l_any_rule unit_ok rule_step rule_ok any_rule
open CF
noncomputable section
def b_first : MS := (sSeq (sIf (tB (eBin mEq (eBin mIdx (eVar 0) (eC (.int 0))) (eC (.str "rally")))) (sRet (eTup (aCons (eCall (m_begun 14) (aCons (eBin mIdx (eVar 0) (eC (.int 1))) aNil)) (aCons (eC .non) aNil)))) sNil)
    (sSeq (sIf (tB (eBin mEq (eBin mIdx (eVar 0) (eC (.int 0))) (eC (.str "down")))) (sRet (eTup (aCons (eCall m_down_begun (aCons (eBin mIdx (eVar 0) (eC (.int 1))) aNil)) (aCons (eC .non) aNil)))) sNil)
    (sRet (eTup (aCons (eCall m_lane_begun (aCons (eBin mIdx (eVar 0) (eC (.int 1))) aNil)) (aCons (eC .non) aNil))))))
def m_first : Fn := fnD 1 1 b_first
def b_deeds_at : MS := (sSeq (sIf (tB (eBin mIsNot (eBin mIdx (eVar 1) (eC (.int 1))) (eC .non))) (sRet (eLst aNil)) sNil)
    (sSeq (sIf (tB (eBin mEq (eBin mIdx (eVar 0) (eC (.int 0))) (eC (.str "rally")))) (sRet (eLst (aCons (eC (.int 0)) (aCons (eC (.int 1)) aNil)))) sNil)
    (sSeq (sIf (tB (eBin mEq (eBin mIdx (eVar 0) (eC (.int 0))) (eC (.str "down")))) (sRet (eComp 4 (iAny (eBin mIdx (eBin mIdx (eVar 0) (eC (.int 1))) (eC (.int 3)))) tYesD (eBin mIdx (eVar 4) (eC (.int 0))))) sNil)
    (sSeq (sAsg (gTupD [2, 3]) (eBin mIdx (eVar 1) (eC (.int 0))))
    (sRet (eLstRg1 (eBin mAdd (eBin mIdx (eBin mIdx (eVar 2) (eVar 3)) (eC (.int 2))) (eC (.int 1)))))))))
def m_deeds_at : Fn := fnD 2 5 b_deeds_at
def b_rally_played : MS := (sSeq (sIf (tNot (tTru (eCall m_is_between (aCons (eVar 2) (aCons (eC (.int 0)) (aCons (eC (.int 1)) aNil)))))) (sRaise "NoSide") sNil)
    (sSeq (sAsg (gTupD [3, 4]) (eCall (m_rallied 14) (aCons (eVar 0) (aCons (eVar 1) (aCons (eVar 2) aNil)))))
    (sSeq (sIf (tTru (eVar 4)) (sRet (eTup (aCons (eVar 3) (aCons (eTup (aCons (eVar 2) aNil)) aNil)))) sNil)
    (sRet (eTup (aCons (eVar 3) (aCons (eC .non) aNil)))))))
def m_rally_played : Fn := fnD 3 5 b_rally_played
def b_down_played : MS := (sSeq (sAsg (gTupD [3, 4]) (eCall m_down_thrown (aCons (eVar 0) (aCons (eVar 1) (aCons (eVar 2) aNil)))))
    (sSeq (sIf (tTru (eVar 4)) (sRet (eTup (aCons (eVar 3) (aCons (eTup (aCons (eBin mIdx (eVar 3) (eC (.int 1))) aNil)) aNil)))) sNil)
    (sRet (eTup (aCons (eVar 3) (aCons (eC .non) aNil))))))
def m_down_played : Fn := fnD 3 5 b_down_played
def b_lane_played : MS := (sSeq (sAsg (gTupD [3, 4]) (eCall m_lane_bowled (aCons (eVar 0) (aCons (eVar 1) (aCons (eVar 2) aNil)))))
    (sSeq (sIf (tTru (eVar 4)) (sRet (eTup (aCons (eVar 3) (aCons (eCall m_best_of (aCons (eVar 3) aNil)) aNil)))) sNil)
    (sRet (eTup (aCons (eVar 3) (aCons (eC .non) aNil))))))
def m_lane_played : Fn := fnD 3 5 b_lane_played
def b_played : MS := (sSeq (sIf (tB (eBin mIsNot (eBin mIdx (eVar 1) (eC (.int 1))) (eC .non))) (sRaise "Over") sNil)
    (sSeq (sIf (tB (eBin mEq (eBin mIdx (eVar 0) (eC (.int 0))) (eC (.str "rally")))) (sRet (eCall m_rally_played (aCons (eBin mIdx (eVar 0) (eC (.int 1))) (aCons (eBin mIdx (eVar 1) (eC (.int 0))) (aCons (eVar 2) aNil))))) sNil)
    (sSeq (sIf (tB (eBin mEq (eBin mIdx (eVar 0) (eC (.int 0))) (eC (.str "down")))) (sRet (eCall m_down_played (aCons (eBin mIdx (eVar 0) (eC (.int 1))) (aCons (eBin mIdx (eVar 1) (eC (.int 0))) (aCons (eVar 2) aNil))))) sNil)
    (sRet (eCall m_lane_played (aCons (eBin mIdx (eVar 0) (eC (.int 1))) (aCons (eBin mIdx (eVar 1) (eC (.int 0))) (aCons (eVar 2) aNil))))))))
def m_played : Fn := fnD 3 3 b_played
def b_l_unit (r_l_unit : Fn) (r_l_rule : Fn) : MS := (sSeq (sAsg (gOne 3) (eBin mAdd (eC (.int 1)) (eCall m_l_draw (aCons (eVar 0) (aCons (eBin mIdx (eLst (aCons (eC (.int 3)) (aCons (eC (.int 5)) (aCons (eC (.int 99)) aNil)))) (eBin mFdiv (eCall m_l_draw (aCons (eVar 0) (aCons (eC (.int 20)) aNil))) (eC (.int 8)))) aNil)))))
    (sSeq (sAsg (gOne 4) (eBin mAdd (eC (.int 1)) (eCall m_l_draw (aCons (eVar 0) (aCons (eBin mIdx (eLst (aCons (eC (.int 2)) (aCons (eC (.int 3)) (aCons (eC (.int 99)) aNil)))) (eBin mFdiv (eCall m_l_draw (aCons (eVar 0) (aCons (eC (.int 20)) aNil))) (eC (.int 9)))) aNil)))))
    (sSeq (sAsg (gOne 5) (eC .non))
    (sSeq (sAsg (gOne 6) (eC .non))
    (sSeq (sIf (tB (eBin mEq (eCall m_l_draw (aCons (eVar 0) (aCons (eC (.int 2)) aNil))) (eC (.int 1)))) (sAsg (gOne 5) (eCallO nMin2 (aCons (eC (.int 99)) (aCons (eBin mAdd (eVar 3) (eCall m_l_draw (aCons (eVar 0) (aCons (eC (.int 4)) aNil)))) aNil)))) sNil)
    (sSeq (sAsg (gOne 7) (eCall r_l_rule (aCons (eVar 0) (aCons (eBin mSub (eVar 1) (eC (.int 1))) (aCons (eVar 2) aNil)))))
    (sSeq (sIf (tAnd (tB (eBin mIsNot (eVar 5) (eC .non))) (tB (eBin mGt (eCall m_l_draw (aCons (eVar 0) (aCons (eC (.int 3)) aNil))) (eC (.int 0))))) (sAsg (gOne 6) (eCall r_l_rule (aCons (eVar 0) (aCons (eCallO nMin2 (aCons (eBin mSub (eVar 1) (eC (.int 1))) (aCons (eVar 2) aNil))) (aCons (eVar 2) aNil))))) sNil)
    (sRet (eTup (aCons (eC (.str "unit")) (aCons (eVar 3) (aCons (eVar 4) (aCons (eVar 5) (aCons (eVar 7) (aCons (eVar 6) aNil)))))))))))))))
def b_l_rule (r_l_unit : Fn) (r_l_rule : Fn) : MS := (sSeq (sIf (tOr (tB (eBin mEq (eVar 1) (eC (.int 0)))) (tB (eBin mEq (eCall m_l_draw (aCons (eVar 0) (aCons (eC (.int 7)) aNil))) (eC (.int 6))))) (sRet (eTup (aCons (eC (.str "point")) aNil))) sNil)
    (sRet (eCall r_l_unit (aCons (eVar 0) (aCons (eVar 1) (aCons (eVar 2) aNil))))))
def g_l_unit : Nat → Fn × Fn
  | 0 => (noFn, noFn)
  | n + 1 => (fnD 3 8 (b_l_unit ((g_l_unit n).1) ((g_l_unit n).2)), fnD 3 3 (b_l_rule ((g_l_unit n).1) ((g_l_unit n).2)))
def m_l_unit (n : Nat) : Fn := (g_l_unit n).1
def m_l_rule (n : Nat) : Fn := (g_l_unit n).2
def b_l_any_rule : MS := (sSeq (sAsg (gOne 1) (eCall m_l_draw (aCons (eVar 0) (aCons (eC (.int 6)) aNil))))
    (sRet (eCall (m_l_rule 14) (aCons (eVar 0) (aCons (eBin mIdx (eLst (aCons (eC (.int 2)) (aCons (eC (.int 1)) (aCons (eC (.int 2)) (aCons (eC (.int 3)) (aCons (eC (.int 3)) (aCons (eC (.int 4)) aNil))))))) (eVar 1)) (aCons (eBin mIdx (eLst (aCons (eC (.int 3)) (aCons (eC (.int 3)) (aCons (eC (.int 3)) (aCons (eC (.int 3)) (aCons (eC (.int 1)) (aCons (eC (.int 1)) aNil))))))) (eVar 1)) aNil))))))
def m_l_any_rule : Fn := fnD 1 2 b_l_any_rule
def b_l_game : MS := (sSeq (sAsg (gOne 1) (eCall m_l_draw (aCons (eVar 0) (aCons (eC (.int 3)) aNil))))
    (sSeq (sIf (tB (eBin mEq (eVar 1) (eC (.int 0)))) (sRet (eTup (aCons (eC (.str "rally")) (aCons (eCall m_l_any_rule (aCons (eVar 0) aNil)) aNil)))) sNil)
    (sSeq (sIf (tB (eBin mEq (eVar 1) (eC (.int 1)))) (sRet (eTup (aCons (eC (.str "down")) (aCons (eCall m_l_down (aCons (eVar 0) aNil)) aNil)))) sNil)
    (sRet (eTup (aCons (eC (.str "lane")) (aCons (eCall m_l_lane (aCons (eVar 0) aNil)) aNil)))))))
def m_l_game : Fn := fnD 1 2 b_l_game
end
open RL RB TLQ RD
theorem unit_ok {ru rr : Fn} {deep : Nat} (ih : ∀ d ≤ deep, RuleOk rr d) : RuleOk (fnD 3 8 (b_l_unit ru rr)) (deep + 1) := CM.unit_ok (ru := ru) ih
theorem rule_step {ru rr : Fn} {deep : Nat} (ih : ∀ d, deep = d + 1 → RuleOk ru deep) : RuleOk (fnD 3 3 (b_l_rule ru rr)) deep := by
  intro M t thin T
  show Ret (endS (b_l_rule ru rr [some (.ref t), some (.int (deep : Nat)), some (.int (thin : Nat))] M)) _
  unfold b_l_rule
  cases deep with
  | zero =>
    simp
    exact .ok ⟨.point, rfl, trivial, Nat.le_refl _, Nat.zero_le _, .refl T⟩
  | succ deep =>
    have ne : ¬ ((deep : Int) + 1 = 0) := by omega
    simp [ne]
    refine Ret.bindQ (draw T (by decide) (by decide)) ?_
    rintro _ M1 ⟨r1, rfl, h0, h1, A1⟩
    by_cases c : r1 = 6
    · simp [c]
      exact .ok ⟨.point, rfl, trivial, Nat.zero_le _, Nat.zero_le _, A1⟩
    · simp [c]
      obtain ⟨d, M2, e, r, h1, h2, h3, h4, A2⟩ := ih deep rfl M1 t thin A1.tape
      rw [show ((deep + 1 : Nat) : Int) = (deep : Int) + 1 from by omega] at e
      rw [e]
      simp
      exact .ok ⟨r, h1, h2, h3, h4, A1.trans A2⟩
theorem rule_ok : ∀ (n deep : Nat), 2 * deep + 1 ≤ n → RuleOk (m_l_rule n) deep
  | 0, deep, h => by omega
  | n + 1, deep, h => by
    refine rule_step fun d hd => ?_
    match n, h with
    | 0, h => omega
    | n + 1, h =>
      subst hd
      exact unit_ok fun d' hd' => rule_ok n d' (by omega)
theorem any_rule {M : Mem} {t : Nat} (T : Tape M t) : Ret (m_l_any_rule [.ref t] M) (AnyRuleQ t M) := by
  show Ret (endS (b_l_any_rule [some (.ref t), none] M)) _
  unfold b_l_any_rule
  simp
  refine Ret.bindQ (draw T (by decide) (by decide)) ?_
  rintro _ M1 ⟨r1, rfl, h0, h1, A1⟩
  obtain ⟨dp, th, e1, e2, hdp, hub⟩ : ∃ dp th : Nat, atI [D.int 2, D.int 1, D.int 2, D.int 3, D.int 3, D.int 4] r1 = some (.int dp) ∧ atI [D.int 3, D.int 3, D.int 3, D.int 3, D.int 1, D.int 1] r1 = some (.int th) ∧ dp ≤ 4 ∧ ub dp th ≤ 7 := by
    rcases (show r1 = 0 ∨ r1 = 1 ∨ r1 = 2 ∨ r1 = 3 ∨ r1 = 4 ∨ r1 = 5 by omega) with rfl | rfl | rfl | rfl | rfl | rfl
    · exact ⟨2, 3, by simp, by simp, by decide, by simp [ub]⟩
    · exact ⟨1, 3, by simp, by simp, by decide, by simp [ub]⟩
    · exact ⟨2, 3, by simp, by simp, by decide, by simp [ub]⟩
    · exact ⟨3, 3, by simp, by simp, by decide, by simp [ub]⟩
    · exact ⟨3, 1, by simp, by simp, by decide, by simp [ub]⟩
    · exact ⟨4, 1, by simp, by simp, by decide, by simp [ub]⟩
  simp [seqAt, e1, e2]
  refine Ret.bindQ (rule_ok 14 dp (by omega) _ t th (A1.tape.keep (Keep.more _ _))) ?_
  rintro _ M2 ⟨r, rfl, g1, g2, g3, A2⟩
  exact .ok ⟨r, rfl, g1, by omega, by omega, A1.trans ((Adv.of A1.tape (Keep.more _ _)).trans A2)⟩
inductive Gm where
  | rally (r : Rule)
  | down (w : Down)
  | lane (k : Nat) (P : Int) (n : Nat)
def Gm.toD : Gm → D
  | .rally r => .tup [.str (Str.ofString "rally"), r.toD]
  | .down w => .tup [.str (Str.ofString "down"), w.toD]
  | .lane k P n => .tup [.str (Str.ofString "lane"), laneD k P n]
def Gm.Ok : Gm → Prop
  | .rally r => r.good ∧ r.depth ≤ 4
  | .down w => DownOk w
  | .lane k P n => Lane k P n
def GameQ (t : Nat) (M : Mem) (d : D) (M' : Mem) : Prop := ∃ g : Gm, d = g.toD ∧ g.Ok ∧ Adv t M M'
def tS (i : Int) : Str := Str.ofString (toString i)
def SmI (i : Int) : Prop := i.natAbs < 10 ^ 60
theorem tS_len {i : Int} (h : SmI i) : (tS i).length ≤ 200 := of_decide_eq_true (int_short h)
theorem nS {i : Int} (h : SmI i) (M : Mem) : nStr [.int i] M = some (.str (tS i), M) := by
  rw [nStr_int, if_pos]
  · rfl
  · by_cases z : i.natAbs = 0
    · rw [z]; decide
    · exact Nat.lt_trans ((Nat.log2_lt z).mpr (Nat.lt_trans h (by decide : 10 ^ 60 < 2 ^ 200))) (by decide)
def wonD : Option (List Int) → D
  | none => .non
  | some bs => .tup (bs.map D.int)
def wonW : Option (List Int) → List Str
  | none => []
  | some bs => Str.ofString "won" :: bs.map tS
def textOf (ws : List Str) (won : Option (List Int)) : Str := Txt.join (Str.ofString " ") (ws ++ wonW won)
structure WordsOk (ws : List Str) : Prop where
  n : ws.length ≤ 100
  l : ∀ x ∈ ws, x.length ≤ 1000
def WonOk (won : Option (List Int)) : Prop := ∀ bs, won = some bs → bs.length ≤ 100 ∧ ∀ i ∈ bs, SmI i
theorem sum_le : ∀ {ws : List Str}, (∀ x ∈ ws, x.length ≤ 1000) → (ws.map (·.length)).sum ≤ 1000 * ws.length
  | [], _ => Nat.le_refl _
  | x :: ws, h => by
    have := sum_le (ws := ws) fun y hy => h y (List.mem_cons_of_mem _ hy)
    have := h x List.mem_cons_self
    rw [List.map_cons, List.sum_cons, List.length_cons]
    omega
theorem join_ok {M : Mem} {n : Nat} {ws : List Str} (hn : seqAt M n = some (ws.map D.str)) (hl : ws.length ≤ 300) (h : ∀ x ∈ ws, x.length ≤ 1000) : mJoin (.str (Str.ofString " ")) [.ref n] M = some (.str (Txt.join (Str.ofString " ") ws), M) := by
  have := sum_le h
  have e0 : (Str.ofString " ").length = 1 := by decide +kernel
  rw [mJoin_ref, hn]
  simp only
  rw [joinO_strs (by rw [e0]; omega)]
  rfl
theorem ints_comp {i : Nat} {bs : List Int} {env : TL.Env} {M : Mem} (hi : i < env.length) (hl : bs.length ≤ 1000) (hb : ∀ b ∈ bs, SmI b) :
    Ret (compL (fun _ => True) i tYesD (eCallO nStr (aCons (eVar i) aNil)) M.length env (bs.map D.int) (M ++ [.lst []])) (fun _ M1 => Keep M M1 ∧ M1[M.length]? = some (.lst ((bs.map tS).map D.str))) := by
  refine Ret.comp (fun d => match d with | .int b => .str (tS b) | _ => .non) (fun _ _ => trivial) (by rw [List.length_map]; omega) (fun d hd M' k => ?_) fun M2 k a => ⟨k, ?_⟩
  · obtain ⟨b, hb', rfl⟩ := List.mem_map.mp hd
    have e : (env.set i (some (.int b)))[i]? = some (some (.int b)) := List.getElem?_set_self hi
    generalize env.set i (some (.int b)) = env' at *
    simp [-nStr_int, e, nS (hb b hb')]
    exact TL.Ret.ok (P := TL.Gives M' _) ⟨rfl, Keep.refl _⟩
  · rw [a, List.map_map, List.map_map]
    rfl
noncomputable def tailS (i : Nat) : MS := (sSeq (sIf (TL.tB (eBin mIsNot (eBin mIdx (eVar 1) (eC (.int 1))) (eC .non))) (sAsg (gOne 2) (eBin mAdd (eBin mAdd (eVar 2) (eLst (aCons (eC (.str (Str.ofString "won"))) aNil))) (eComp i (iAny (eBin mIdx (eVar 1) (eC (.int 1)))) tYesD (eCallO nStr (aCons (eVar i) aNil))))) sNil)
    (sRet (eMeth "str" mJoin (eC (.str (Str.ofString " "))) (aCons (eVar 2) aNil))))
theorem tail_ok {i n : Nat} {env : TL.Env} {M : Mem} {x : D} {ws : List Str} {won : Option (List Int)} (h1 : env[1]? = some (some (.tup [x, wonD won]))) (h2 : env[2]? = some (some (.ref n))) (hi : i < env.length) (i3 : 3 ≤ i)
    (hn : M[n]? = some (.lst (ws.map D.str))) (hw : WordsOk ws) (ho : WonOk won) : Ret (endS (tailS i env M)) (TL.Gives M (.str (textOf ws won))) := by
  unfold tailS
  cases won with
  | none =>
    have j := join_ok (seqAt_lst hn) (by have := hw.n; omega) hw.l
    simp [h1, h2, wonD, j]
    exact TL.Ret.ok (P := TL.Gives M _) ⟨by simp [textOf, wonW], Keep.refl _⟩
  | some bs =>
    obtain ⟨hb, hs⟩ := ho bs rfl
    have a1 : mAdd (.ref n) (.ref M.length) (M ++ [.lst [.str (Str.ofString "won")]]) = some (.ref (M ++ [MO.lst [.str (Str.ofString "won")]]).length, M ++ [.lst [.str (Str.ofString "won")]] ++ [.lst (ws.map D.str ++ [.str (Str.ofString "won")])]) :=
      mAdd_lists ((Keep.more _ _).at hn) (at_len _ _) (by rw [List.length_map]; have := hw.n; simp; omega)
    simp [-mAdd_ref, h1, h2, wonD, a1]
    have hlt2 : 2 < env.length := by omega
    obtain ⟨L, hL⟩ : ∃ L, L = ws.map D.str ++ [.str (Str.ofString "won")] := ⟨_, rfl⟩
    have lL : L.length ≤ 200 := by rw [hL]; have := hw.n; simp; omega
    rw [← hL]
    have hc := ints_comp (i := i) (bs := bs) (env := env) (M := M ++ [.lst [.str (Str.ofString "won")], .lst L]) hi (by omega) hs
    have e2 : (M ++ [MO.lst [.str (Str.ofString "won")], .lst L]).length = M.length + 2 := by simp
    rw [e2, List.append_assoc] at hc
    refine Ret.bindQ hc ?_
    rintro _ M2 ⟨k2, a2⟩
    have b2 : M2[M.length + 1]? = some (.lst L) := k2.at (by rw [at_newK]; rfl)
    have a3 := mAdd_lists b2 a2 (by rw [List.length_map, List.length_map]; omega)
    have e3 : L ++ (bs.map tS).map D.str = (ws ++ wonW (some bs)).map D.str := by rw [hL]; simp [wonW]
    rw [e3] at a3
    have j := join_ok (M := M2 ++ [.lst ((ws ++ wonW (some bs)).map D.str)]) (n := M2.length) (seqAt_lst (at_len _ _)) (by have := hw.n; simp [wonW]; omega) (fun x hx => by
      rcases List.mem_append.mp hx with hx | hx
      · exact hw.l x hx
      · rcases List.mem_cons.mp hx with rfl | hx
        · decide +kernel
        · obtain ⟨b, hb', rfl⟩ := List.mem_map.mp hx
          have := tS_len (hs b hb')
          omega)
    simp [-mAdd_ref, -List.map_append, a3, hlt2, j]
    exact TL.Ret.ok (P := TL.Gives M _) ⟨rfl, ((Keep.more _ _).trans k2).trans (Keep.more _ _)⟩
def SmS : Stand → Prop
  | .nil => True
  | .st z o w => SmI z ∧ SmI o ∧ SmS w
theorem ints_pureK : ∀ (bs : List Int) (k : Nat), pureL (bs.map D.int) k = true
  | [], _ => by simp [pureL]
  | b :: bs, k => by simp [pureL, pureD, ints_pureK bs k]
theorem won_pure (won : Option (List Int)) (k : Nat) : pureD (wonD won) (k + 1) = true := by
  cases won with
  | none => simp [wonD, pureD]
  | some bs => simp [wonD, pureD, ints_pureK]
theorem sides_pure {s : Stand} {won : Option (List Int)} : pureD (.tup [s.toD, wonD won]) (s.depth + 2) = true := by
  have h1 := Stand.pure_toD s
  have h2 := won_pure won s.depth
  simp [pureD, pureL, h1, h2]
structure ROk (r : Rule) (s : Stand) (won : Option (List Int)) : Prop where
  d : r.depth ≤ 4
  f : Fits r s
  p : r = .point ↔ s = .nil
  m : SmS s
  w : WonOk won
  e : won.isSome = true → s.depth ≤ 1
def SB (B : Int) : Stand → Prop
  | .nil => True
  | .st z o w => (0 ≤ z ∧ z ≤ B) ∧ (0 ≤ o ∧ o ≤ B) ∧ SB B w
theorem SB.le {B C : Int} (h : B ≤ C) : ∀ {s : Stand}, SB B s → SB C s
  | .nil, _ => trivial
  | .st z o w, ⟨h1, h2, h3⟩ => ⟨⟨h1.1, by omega⟩, ⟨h2.1, by omega⟩, SB.le h h3⟩
theorem smI_of {B i : Int} (hB : B ≤ 1000000) (h0 : 0 ≤ i) (h1 : i ≤ B) : SmI i := by
  have : i.natAbs ≤ 1000000 := by omega
  exact Nat.lt_of_le_of_lt this (by decide)
theorem SB.sm {B : Int} (hB : B ≤ 1000000) : ∀ {s : Stand}, SB B s → SmS s
  | .nil, _ => trivial
  | .st z o w, ⟨h1, h2, h3⟩ => ⟨smI_of hB h1.1 h1.2, smI_of hB h2.1 h2.2, SB.sm hB h3⟩
theorem sb_begun {B : Int} (hB : 0 ≤ B) : ∀ (n : Nat) (r : Rule), r.depth ≤ n → SB B (begunR r)
  | n, r, hn => by
    by_cases h : r = .point
    · subst h; rw [begunR_point]; trivial
    · have hd := depth_within h 0 0
      match n with
      | 0 => omega
      | n + 1 =>
        rw [begunR_unit h]
        exact ⟨⟨Int.le_refl _, hB⟩, ⟨Int.le_refl _, hB⟩, sb_begun hB n _ (by omega)⟩
theorem sb_rallied {B : Int} (hB : 0 ≤ B) : ∀ {s : Stand} {r : Rule} {side : Bool}, SB B s → SB (B + 1) (ralliedR r s side).1
  | .nil, r, side, h => trivial
  | .st z o w, r, side, ⟨h1, h2, h3⟩ => by
    have ih := sb_rallied (r := within r z o) (side := side) hB h3
    simp only [ralliedR]
    have p1 : 0 ≤ (RL.bump z o side).1 ∧ (RL.bump z o side).1 ≤ B + 1 := by unfold RL.bump; cases side <;> simp <;> omega
    have p2 : 0 ≤ (RL.bump z o side).2 ∧ (RL.bump z o side).2 ≤ B + 1 := by unfold RL.bump; cases side <;> simp <;> omega
    split
    · split
      · exact ⟨p1, p2, trivial⟩
      · exact ⟨p1, p2, sb_begun (by omega) _ _ (Nat.le_refl _)⟩
    · exact ⟨⟨h1.1, by show z ≤ B + 1; omega⟩, ⟨h2.1, by show o ≤ B + 1; omega⟩, ih⟩
theorem won_shape : ∀ {s : Stand} {r : Rule} {side : Bool}, Open r s → (ralliedR r s side).2 = true → Fits r (ralliedR r s side).1 ∧ (r = .point ↔ (ralliedR r s side).1 = .nil) ∧ (ralliedR r s side).1.depth ≤ 1
  | .nil, r, side, h, _ => by
    have h : r = .point := h
    subst h
    exact ⟨trivial, by simp [ralliedR], by simp [ralliedR, Stand.depth]⟩
  | .st z o w, r, side, h, e => by
    simp only [ralliedR] at e ⊢
    split at e
    · rename_i hq
      split at e
      · rename_i hw
        rw [if_pos hq, if_pos hw]
        exact ⟨⟨h.1, trivial⟩, by simp [h.1], by simp [Stand.depth]⟩
      · cases e
    · cases e
theorem open_nil {r : Rule} {s : Stand} (h : Open r s) : r = .point ↔ s = .nil := by
  cases s with
  | nil => exact ⟨fun _ => rfl, fun _ => h⟩
  | st z o w => exact ⟨fun e => absurd e h.1, fun e => by cases e⟩
def RGo (r : Rule) (B : Int) (s : Stand) (won : Option (List Int)) : Prop := ROk r s won ∧ SB B s ∧ (won = none → Open r s)
theorem deeds_won (g x : D) (bs : List Int) (M : Mem) : m_deeds_at [g, .tup [x, wonD (some bs)]] M = .ok (.ref M.length) (M ++ [.lst []]) := by
  show endS (b_deeds_at [some g, some (.tup [x, wonD (some bs)]), none, none, none] M) = _
  unfold b_deeds_at
  simp [wonD]
theorem deeds_rally (r x : D) (M : Mem) : m_deeds_at [.tup [.str (Str.ofString "rally"), r], .tup [x, wonD none]] M = .ok (.ref M.length) (M ++ [.lst [.int 0, .int 1]]) := by
  show endS (b_deeds_at [some (.tup [.str (Str.ofString "rally"), r]), some (.tup [x, wonD none]), none, none, none] M) = _
  unfold b_deeds_at
  simp [wonD]
theorem RGo.le {r : Rule} {B C : Int} {s : Stand} {won : Option (List Int)} (h : B ≤ C) (g : RGo r B s won) : RGo r C s won := ⟨g.1, SB.le h g.2.1, g.2.2⟩
theorem played_rally {r x d : D} {M : Mem} {y : D} (h : Ret (m_rally_played [r, x, d] M) (TL.Gives M y)) : Ret (m_played [.tup [.str (Str.ofString "rally"), r], .tup [x, wonD none], d] M) (TL.Gives M y) := by
  obtain ⟨M1, e1, k1⟩ := gives_of h
  show Ret (endS (b_played [some (.tup [.str (Str.ofString "rally"), r]), some (.tup [x, wonD none]), some d] M)) _
  unfold b_played
  simp [wonD, e1]
  exact TL.Ret.ok (P := TL.Gives M _) ⟨rfl, k1⟩
structure DB (s : DSt) : Prop where
  c : ∀ x ∈ s.counts, 0 ≤ x ∧ x ≤ 1000000
  h : 0 ≤ s.held ∧ s.held ≤ 1000000
theorem getD_mem {α : Type} {P : α → Prop} {xs : List α} {k : Nat} {d : α} (h : ∀ x ∈ xs, P x) (hd : P d) : P (xs.getD k d) := by
  rw [List.getD_eq_getElem?_getD]
  cases q : xs[k]? with
  | none => exact hd
  | some x => exact h x (List.mem_of_getElem? q)
theorem set_mem {α : Type} {P : α → Prop} {xs : List α} {k : Nat} {y : α} (h : ∀ x ∈ xs, P x) (hy : P y) : ∀ x ∈ xs.set k y, P x := fun x hx => by
  rcases List.mem_or_eq_of_mem_set hx with hx | rfl
  · exact h x hx
  · exact hy
theorem db_first {w : Down} (h : DownOk w) : DB (firstS w) := ⟨fun x hx => by
  obtain ⟨_, rfl⟩ := List.mem_replicate.mp hx
  exact ⟨by have := h.b0; omega, h.b1⟩, ⟨by have := h.b0; show 0 ≤ w.start; omega, h.b1⟩⟩
theorem db_next {w : Down} {cs : List Int} {side : Nat} (h : ∀ x ∈ cs, 0 ≤ x ∧ x ≤ 1000000) : DB (nextS' w cs side) := ⟨h, getD_mem (P := fun x : Int => 0 ≤ x ∧ x ≤ 1000000) h ⟨by decide, by decide⟩⟩
theorem db_thrown {w : Down} {s : DSt} {t : Thr} (h : DB s) (hw : 0 ≤ t.worth) : DB (thrownS w s t).1 := by
  have hc := getD_mem (P := fun x : Int => 0 ≤ x ∧ x ≤ 1000000) (k := s.side) (d := 0) h.c ⟨by decide, by decide⟩
  unfold thrownS
  simp only
  split
  · exact ⟨set_mem h.c ⟨by decide, by decide⟩, h.h⟩
  · split
    · exact db_next (set_mem h.c h.h)
    · rename_i hl
      have hl2 : 0 ≤ s.counts.getD s.side 0 - t.worth ∧ s.counts.getD s.side 0 - t.worth ≤ 1000000 := by omega
      split
      · exact db_next (set_mem h.c hl2)
      · exact ⟨set_mem h.c hl2, h.h⟩
theorem thrown_len {w : Down} {s : DSt} {t : Thr} : (thrownS w s t).1.counts.length = s.counts.length := by
  unfold thrownS
  simp only
  split
  · simp
  · split
    · simp [nextS']
    · split <;> simp [nextS']
theorem dst_pure (s : DSt) (won : Option (List Int)) : pureD (.tup [s.toD, wonD won]) 4 = true := by
  have := won_pure won 2
  simp [DSt.toD, pureD, pureL, ints_pureK, this]
structure DGo (w : Down) (s : DSt) (won : Option (List Int)) : Prop where
  l : s.counts.length = w.sides
  b : DB s
  v : WonOk won
  o : won = none → DStOk w s
theorem deeds_down {w : Down} (h : DownOk w) (x : D) (M : Mem) : Ret (m_deeds_at [.tup [.str (Str.ofString "down"), w.toD], .tup [x, wonD none]] M) (fun d M1 => d = .ref M.length ∧ Keep M M1 ∧ seqAt M1 M.length = some (w.throws.map fun t => .str t.name)) := by
  show Ret (endS (b_deeds_at [some (.tup [.str (Str.ofString "down"), w.toD]), some (.tup [x, wonD none]), none, none, none] M)) _
  unfold b_deeds_at
  have e3 : ∀ M, mIdx w.toD (.int 3) M = some (.tup (w.throws.map Thr.toD), M) := fun M => rfl
  simp [wonD, e3]
  refine Ret.bindQ (P := fun _ M1 => Keep M M1 ∧ seqAt M1 M.length = some (w.throws.map fun t => .str t.name)) ?_ ?_
  · refine Ret.comp (fun d => match d with | .tup (y :: _) => y | _ => .non) (fun _ _ => trivial) (by have := h.n1; rw [List.length_map]; omega) (fun d hd M' k => ?_) fun M2 k a => ⟨k, ?_⟩
    · obtain ⟨u, hu, rfl⟩ := List.mem_map.mp hd
      have e0 : mIdx u.toD (.int 0) M' = some (.str u.name, M') := rfl
      simp [e0]
      exact TL.Ret.ok (P := TL.Gives M' _) ⟨rfl, Keep.refl _⟩
    · rw [seqAt_lst a, List.map_map]
      rfl
  · rintro _ M1 ⟨k1, a1⟩
    exact .ok ⟨rfl, k1, a1⟩
structure RowB (B : Int) (r : LRow) : Prop where
  n : 0 ≤ r.near ∧ r.near ≤ 2
  f : 0 ≤ r.far ∧ r.far ≤ 1
  t : 0 ≤ r.total ∧ r.total ≤ B
theorem RowB.le {B C : Int} (h : B ≤ C) {r : LRow} (g : RowB B r) : RowB C r := ⟨g.n, g.f, g.t.1, by have := g.t.2; omega⟩
theorem mul_near {p n : Int} (h0 : 0 ≤ p) (h1 : p ≤ 20) (n0 : 0 ≤ n) (n2 : n ≤ 2) : 0 ≤ p * n ∧ p * n ≤ 40 := by
  rcases (show n = 0 ∨ n = 1 ∨ n = 2 by omega) with rfl | rfl | rfl <;> omega
theorem frameB_ok {P n B : Int} {r : LRow} {near far earned : Int} (h1 : 0 ≤ near ∧ near ≤ 2) (h2 : 0 ≤ far ∧ far ≤ 1) (h3 : 0 ≤ r.total ∧ r.total ≤ B) : RowB B (frameB P n r near far earned).1 := by
  unfold frameB
  split
  · exact ⟨h1, h2, h3⟩
  · exact ⟨h1, h2, h3⟩
theorem step_row {P n B : Int} {r : LRow} {p : Int} (g : RowB B r) (h0 : 0 ≤ p) (h1 : p ≤ 20) : RowB (B + 100) (stepR P n r p).1 := by
  obtain ⟨gn, gf, gt⟩ := g
  have m := mul_near h0 h1 gn.1 gn.2
  have t1 : 0 ≤ r.total + p * r.near ∧ r.total + p * r.near ≤ B + 100 := by omega
  have t2 : 0 ≤ r.total + p * r.near + p ∧ r.total + p * r.near + p ≤ B + 100 := by omega
  unfold stepR
  split
  · unfold extraB
    simp only
    split
    · exact ⟨by show 0 ≤ r.far ∧ r.far ≤ 2; omega, by show (0 : Int) ≤ 0 ∧ (0 : Int) ≤ 1; omega, t1⟩
    · exact ⟨by show 0 ≤ r.far ∧ r.far ≤ 2; omega, by show (0 : Int) ≤ 0 ∧ (0 : Int) ≤ 1; omega, t1⟩
  · split
    · exact frameB_ok (by omega) (by decide) t2
    · split
      · exact frameB_ok (by omega) (by decide) t2
      · split
        · exact frameB_ok (by omega) (by decide) t2
        · exact ⟨by show 0 ≤ r.far ∧ r.far ≤ 2; omega, by show (0 : Int) ≤ 0 ∧ (0 : Int) ≤ 1; omega, t2⟩
structure LGo (k : Nat) (P : Int) (B : Int) (rows : List LRow) (side : Nat) (won : Option (List Int)) : Prop where
  l : rows.length = k
  s : side < k
  u : ∀ r ∈ rows, UpOk P r
  b : ∀ r ∈ rows, RowB B r
  v : WonOk won
theorem LGo.le {k : Nat} {P B C : Int} {rows : List LRow} {side : Nat} {won : Option (List Int)} (h : B ≤ C) (g : LGo k P B rows side won) : LGo k P C rows side won := ⟨g.l, g.s, g.u, fun r hr => (g.b r hr).le h, g.v⟩
theorem rows_pureK : ∀ (rows : List LRow) (j : Nat), pureL (rows.map LRow.toD) (j + 1) = true
  | [], _ => by simp [pureL]
  | r :: rows, j => by simp [pureL, pureD, LRow.toD, rows_pureK rows j]
theorem lst_pure (rows : List LRow) (side : Nat) (won : Option (List Int)) : pureD (.tup [standD rows side, wonD won]) 4 = true := by
  have h1 := won_pure won 2
  have h2 := rows_pureK rows 0
  simp [standD, pureD, pureL, h1, h2]
theorem best_won {ts : List Int} (hl : ts.length ≤ 100) : ∃ bs : List Int, bestD ts = bs.map D.int ∧ WonOk (some bs) := by
  obtain ⟨bs, e, l⟩ := best_ints ts
  refine ⟨bs, e, fun cs hc => ?_⟩
  cases hc
  refine ⟨by omega, fun i hi => ?_⟩
  have hm : D.int i ∈ bestD ts := by rw [e]; exact List.mem_map_of_mem hi
  obtain ⟨j, hj, ej⟩ := mem_rng (List.mem_filter.mp hm).1
  cases ej
  exact smI_of (B := 100) (by decide) (by omega) (by omega)
theorem deeds_lane {rows : List LRow} {side : Nat} (hs : side < rows.length) {u : Nat} (hu : rows[side].up = (u : Int)) (h1 : u ≤ 1000) (g : D) (M : Mem) : m_deeds_at [.tup [.str (Str.ofString "lane"), g], .tup [standD rows side, wonD none]] M = .ok (.ref M.length) (M ++ [.lst (rngItems 0 (u + 1))]) := by
  show endS (b_deeds_at [some (.tup [.str (Str.ofString "lane"), g]), some (.tup [standD rows side, wonD none]), none, none, none] M) = _
  unfold b_deeds_at
  have ha := rows_at hs
  have e2 : mIdx rows[side].toD (.int 2) M = some (.int (u : Nat), M) := by rw [← hu]; rfl
  have rg : RgOk (0 : Int) ((u : Int) + 1) := by have := rgOk_nat (i := 0) (j := u + 1) (by omega) (by omega); simpa using this
  have tn : ((u : Int) + 1).toNat = u + 1 := by omega
  simp [wonD, standD, ha, e2, rg, tn]
theorem atI_last {α : Type} {xs : List α} {x : α} : atI (xs ++ [x]) (-1) = some x := by
  have h : ixN (xs ++ [x]).length (-1) = some xs.length := by
    unfold ixN
    rw [if_neg (by decide), if_pos (by simp; omega)]
    simp
    omega
  unfold atI
  rw [h]
  simp
end CG
end
section
set_option maxHeartbeats 4000000
namespace CI
open PySem PySem.Spec PyProof.Rows L2 TL
open CM hiding b_l_alike m_l_alike b_l_unit m_l_unit g_l_unit b_l_rule m_l_rule b_l_any_rule m_l_any_rule unit_ok rule_step rule_ok any_rule
noncomputable section
def b_is_lane : MS := (sSeq (sIf (tOr (tNot (tTru (eIsi "tuple" (eVar 0)))) (tB (eBin mNe (eCallO nLen (aCons (eVar 0) aNil)) (eC (.int 3))))) (sRet (eC (.bl false))) sNil)
    (sRet (eAnd (eCall m_is_between (aCons (eBin mIdx (eVar 0) (eC (.int 0))) (aCons (eC (.int 1)) (aCons (eC (.int 3)) aNil)))) (eAnd (eCall m_is_between (aCons (eBin mIdx (eVar 0) (eC (.int 1))) (aCons (eC (.int 1)) (aCons (eC (.int 20)) aNil)))) (eCall m_is_between (aCons (eBin mIdx (eVar 0) (eC (.int 2))) (aCons (eC (.int 1)) (aCons (eC (.int 12)) aNil))))))))
def m_is_lane : Fn := fnD 1 1 b_is_lane
def b_is_count : MS := (sRet (eAnd (eIsi "int" (eVar 0)) (eAnd (eNot (eIsi "bool" (eVar 0))) (eChain mLe mLe (eVar 1) (eVar 0) (eC (.int 99))))))
def m_is_count : Fn := fnD 2 2 b_is_count
def b_has_numbers : MS := (sSeq (sIf (tOr (tNot (tTru (eCall m_is_count (aCons (eBin mIdx (eVar 0) (eC (.int 1))) (aCons (eC (.int 1)) aNil))))) (tNot (tTru (eCall m_is_count (aCons (eBin mIdx (eVar 0) (eC (.int 2))) (aCons (eC (.int 1)) aNil)))))) (sRet (eC (.bl false))) sNil)
    (sSeq (sIf (tB (eBin mIs (eBin mIdx (eVar 0) (eC (.int 3))) (eC .non))) (sRet (eBin mIs (eBin mIdx (eVar 0) (eC (.int 5))) (eC .non))) sNil)
    (sRet (eCall m_is_count (aCons (eBin mIdx (eVar 0) (eC (.int 3))) (aCons (eBin mIdx (eVar 0) (eC (.int 1))) aNil))))))
def m_has_numbers : Fn := fnD 1 1 b_has_numbers
def lp_units_in_0 (r_units_in : Fn) : MS := (sSeq (sAsg (gOne 5) (eCall r_units_in (aCons (eVar 4) (aCons (eBin mAdd (eVar 1) (eC (.int 1))) aNil))))
    (sSeq (sIf (tB (eBin mIs (eVar 5) (eC .non))) (sRet (eC .non)) sNil)
    (sAsg (gOne 2) (eBin mAdd (eVar 2) (eVar 5)))))
def b_units_in (r_units_in : Fn) : MS := (sSeq (sIf (tB (eBin mEq (eVar 0) (eC (.tup [(.str "point")])))) (sRet (eC (.int 0))) sNil)
    (sSeq (sIf (tOr (tNot (tTru (eIsi "tuple" (eVar 0)))) (tOr (tB (eBin mNe (eCallO nLen (aCons (eVar 0) aNil)) (eC (.int 6)))) (tB (eBin mEq (eVar 1) (eC (.int 4)))))) (sRet (eC .non)) sNil)
    (sSeq (sIf (tOr (tB (eBin mNe (eBin mIdx (eVar 0) (eC (.int 0))) (eC (.str "unit")))) (tNot (tTru (eCall m_has_numbers (aCons (eVar 0) aNil))))) (sRet (eC .non)) sNil)
    (sSeq (sAsg (gOne 2) (eC (.int 1)))
    (sSeq (sAsg (gOne 3) (eLst (aCons (eBin mIdx (eVar 0) (eC (.int 4))) aNil)))
    (sSeq (sIf (tB (eBin mIsNot (eBin mIdx (eVar 0) (eC (.int 5))) (eC .non))) (sExpr (eMeth "list" mAppend (eVar 3) (aCons (eBin mIdx (eVar 0) (eC (.int 5))) aNil))) sNil)
    (sSeq (sFor (iAny (eVar 3)) (gOne 4) (lp_units_in_0 r_units_in))
    (sRet (eVar 2)))))))))
def m_units_in : Nat → Fn
  | 0 => noFn
  | n + 1 => fnD 2 6 (b_units_in (m_units_in n))
def b_is_rule : MS := (sSeq (sAsg (gOne 1) (eCall (m_units_in 14) (aCons (eVar 0) (aCons (eC (.int 0)) aNil))))
    (sRet (eAnd (eBin mIsNot (eVar 1) (eC .non)) (eBin mLe (eVar 1) (eC (.int 10))))))
def m_is_rule : Fn := fnD 1 2 b_is_rule
def b_is_game : MS := (sSeq (sIf (tOr (tNot (tTru (eIsi "tuple" (eVar 0)))) (tB (eBin mNe (eCallO nLen (aCons (eVar 0) aNil)) (eC (.int 2))))) (sRet (eC (.bl false))) sNil)
    (sSeq (sIf (tB (eBin mEq (eBin mIdx (eVar 0) (eC (.int 0))) (eC (.str "rally")))) (sRet (eCall m_is_rule (aCons (eBin mIdx (eVar 0) (eC (.int 1))) aNil))) sNil)
    (sSeq (sIf (tB (eBin mEq (eBin mIdx (eVar 0) (eC (.int 0))) (eC (.str "down")))) (sRet (eCall m_is_down (aCons (eBin mIdx (eVar 0) (eC (.int 1))) aNil))) sNil)
    (sRet (eAnd (eBin mEq (eBin mIdx (eVar 0) (eC (.int 0))) (eC (.str "lane"))) (eCall m_is_lane (aCons (eBin mIdx (eVar 0) (eC (.int 1))) aNil)))))))
def m_is_game : Fn := fnD 1 1 b_is_game
end
open RL RB TLQ RD CG
def isPoint : D → Bool
  | .tup [d] => isText (Str.ofString "point") d
  | _ => false
theorem dat_tup {M : Mem} {n : Nat} {xs : List D} {p : PyData} (h : dat (n + 1) M (.tup xs) = some p) : ∃ ps, datL (dat n M) xs = some ps ∧ p = .tuple ps := by
  obtain ⟨ps, e1, rfl⟩ := Option.map_eq_some_iff.mp (show (datL (dat n M) xs).map PyData.tuple = some p from h)
  exact ⟨ps, e1, rfl⟩
theorem eqv_point' {M : Mem} {n : Nat} {d : D} {p : PyData} (h : dat (n + 2) M d = some p) : PyData.eqv p (.tuple [.str (Str.ofString "point")]) = isPoint d := by
  cases d with
  | non => cases h; simp [PyData.eqv, isPoint]
  | bl b => cases h; simp [PyData.eqv, isPoint]
  | int i => cases h; simp [PyData.eqv, isPoint]
  | str y => cases h; simp [PyData.eqv, isPoint]
  | tup xs =>
    obtain ⟨ps, e1, rfl⟩ := dat_tup h
    match xs, e1 with
    | [], e1 => cases e1; simp [PyData.eqv, PyData.eqvAll, isPoint]
    | [a], e1 =>
      unfold datL at e1
      cases q : dat (n + 1) M a with
      | none => rw [q] at e1; cases e1
      | some y =>
        rw [q] at e1
        cases e1
        simp [PyData.eqv, PyData.eqvAll, isPoint, eqv_text q]
    | a :: b :: xs, e1 =>
      unfold datL at e1
      cases q : dat (n + 1) M a with
      | none => rw [q] at e1; cases e1
      | some y =>
        cases q2 : datL (dat (n + 1) M) (b :: xs) with
        | none => rw [q, q2] at e1; cases e1
        | some ys =>
          rw [q, q2] at e1
          cases e1
          unfold datL at q2
          cases q3 : dat (n + 1) M b with
          | none => rw [q3] at q2; cases q2
          | some z =>
            cases q4 : datL (dat (n + 1) M) xs with
            | none => rw [q3, q4] at q2; cases q2
            | some zs =>
              rw [q3, q4] at q2
              cases q2
              simp [PyData.eqv, PyData.eqvAll, isPoint]
  | ref m =>
    have e' : (match seqAt M m with | some xs => (datL (dat (n + 1) M) xs).map PyData.list | none => none) = some p := h
    cases q : seqAt M m with
    | none => rw [q] at e'; cases e'
    | some xs =>
      rw [q] at e'
      obtain ⟨ps, e1, rfl⟩ := Option.map_eq_some_iff.mp e'
      simp [PyData.eqv, isPoint]
  | err y => cases h
theorem mEq_point_sh {M : Mem} {n w : Nat} {d : D} (h : TL.Sh M (n + 2) w d) (hn : n + 2 ≤ 40) : mEq d (.tup [.str (Str.ofString "point")]) M = some (.bl (isPoint d), M) := by
  obtain ⟨p, a, e, s⟩ := h.shapedN hn
  have e2 : toP 64 M (.tup [.str (Str.ofString "point")]) = some (.tuple [.str (Str.ofString "point")]) := rfl
  have s2 : SeqAt.shaped (.tuple [.str (Str.ofString "point")]) = true := by decide +kernel
  unfold mEq eqD
  rw [e, e2]
  simp only [s, s2, and_self, if_true]
  rw [eqv_point' a]
  rfl
theorem unit_strOk : PyData.strOk (Str.ofString "unit") = true := by decide +kernel
/-- how many units; none where it is no rule -/
def okNums (t l c la : D) : Bool := inB 1 99 t && (inB 1 99 l && (match c with
  | .non => isNon la
  | .int i => (match t with | .int j => decide (j ≤ i) && decide (i ≤ 99) | _ => false)
  | _ => false))
def unitsD : Nat → D → Nat → Option Nat
  | 0, _, _ => none
  | n + 1, d, a => if isPoint d = true then some 0 else match d with
    | .tup [u, t, l, c, i, la] => if a = 4 then none else if isText (Str.ofString "unit") u = true ∧ okNums t l c la = true then
        match unitsD n i (a + 1), (if isNon la = true then some 0 else unitsD n la (a + 1)) with
        | some x, some y => some (1 + x + y)
        | _, _ => none
      else none
    | _ => none
theorem is_count_ok {d : D} {lo : Int} {M : Mem} (h : (tyName M d).isSome = true) : m_is_count [d, .int lo] M = .ok (.bl (inB lo 99 d)) M := by
  show endS (b_is_count [some d, some (.int lo)] M) = _
  unfold b_is_count
  cases d with
  | int i => by_cases c : lo ≤ i <;> simp [inB, c]
  | ref m =>
    cases q : seqAt M m with
    | none => simp [tyName, q] at h
    | some xs => simp [mIsi_ref q, inB]
  | err y => exact absurd h (by simp [tyName])
  | _ => simp [inB]
theorem has_numbers_ok {u t l c i la : D} {M : Mem} (ht : (tyName M t).isSome = true) (hl : (tyName M l).isSome = true) (hc : (tyName M c).isSome = true) (hla : (tyName M la).isSome = true) : m_has_numbers [.tup [u, t, l, c, i, la]] M = .ok (.bl (okNums t l c la)) M := by
  show endS (b_has_numbers [some (.tup [u, t, l, c, i, la])] M) = _
  unfold b_has_numbers
  have e1 := is_count_ok (lo := 1) ht
  have e2 := is_count_ok (lo := 1) hl
  cases q1 : inB 1 99 t with
  | false => rw [q1] at e1; simp [e1, okNums, q1]
  | true =>
    cases q2 : inB 1 99 l with
    | false => rw [q1] at e1; rw [q2] at e2; simp [e1, e2, okNums, q1, q2]
    | true =>
      rw [q1] at e1
      rw [q2] at e2
      obtain ⟨j, rfl⟩ : ∃ j, t = .int j := by
        cases t with
        | int j => exact ⟨j, rfl⟩
        | _ => simp [inB] at q1
      have e5 := is_count_ok (lo := j) hc
      cases c with
      | non => simp [e1, e2, okNums, q1, q2]
      | int k => simp [e1, e2, e5, okNums, q1, q2]; simp [inB]
      | ref m => simp [e1, e2, e5, okNums, q1, q2]; simp [inB]
      | _ => simp [e1, e2, e5, okNums, q1, q2]; try simp [inB]
def optN : Option Nat → D
  | none => .non
  | some x => .int (x : Nat)
def UnitsOk (f : Fn) (a : Nat) : Prop := ∀ (n w : Nat) (d : D) (M : Mem) (fu : Nat), TL.Sh M n w d → n ≤ 40 → 7 ≤ n + a → 5 ≤ fu + a → Ret (f [d, .int (a : Nat)] M) (TL.Gives M (optN (unitsD fu d a)))
theorem notTup {d : D} (h : ∀ xs, d ≠ .tup xs) (n a : Nat) : unitsD n d a = none ∧ isPoint d = false := by
  have p : isPoint d = false := by cases d with | tup xs => exact absurd rfl (h xs) | _ => rfl
  refine ⟨?_, p⟩
  cases n with
  | zero => rfl
  | succ n =>
    unfold unitsD
    rw [p]
    cases d with | tup xs => exact absurd rfl (h xs) | _ => rfl
def sumU (fu a : Nat) : List D → Option Nat
  | [] => some 0
  | x :: xs => match unitsD fu x (a + 1), sumU fu a xs with
    | some p, some q => some (p + q)
    | _, _ => none
def UInv (E : Option Nat) (fu a : Nat) (d : D) (M : Mem) (N : Nat) (ps : List D) : List D → TL.Env → Mem → Prop := fun ds env M' => ∃ (m : Nat) (e4 e5 : Option D), env = [some d, some (.int (a : Nat)), some (.int (m : Nat)), some (.ref N), e4, e5] ∧ Keep M M' ∧ seqAt M' N = some ps ∧ E = (sumU fu a ds).map (m + ·) ∧ ∀ x ∈ ds, x ∈ ps
theorem int_ne4 {a : Nat} (h : a ≠ 4) : ¬ ((a : Int) = 4) := by omega
theorem units_in_ok : ∀ (f a : Nat), a ≤ 4 → 5 ≤ f + a → UnitsOk (m_units_in f) a
  | 0, a, ha, hf => by omega
  | f + 1, a, ha, hf => by
    intro n w d M fu h hn h7 hfu
    obtain ⟨n, rfl⟩ : ∃ k, n = k + 3 := ⟨n - 3, by omega⟩
    obtain ⟨fu, rfl⟩ : ∃ k, fu = k + 1 := ⟨fu - 1, by omega⟩
    show Ret (endS (b_units_in (m_units_in f) [some d, some (.int (a : Nat)), none, none, none, none] M)) _
    unfold b_units_in
    have ep := mEq_point_sh (n := n + 1) h hn
    have ty := Sh.ty h
    have et := mIsi_tuple ty
    cases hp : isPoint d with
    | true =>
      rw [hp] at ep
      simp [ep]
      exact TL.Ret.ok (P := TL.Gives M _) ⟨by simp [unitsD, hp, optN], Keep.refl _⟩
    | false =>
      rw [hp] at ep
      have out : ∀ xs, d = .tup xs → xs.length ≠ 6 → unitsD (fu + 1) d a = none := by
        rintro xs rfl hl
        unfold unitsD
        rw [hp]
        match xs, hl with
        | [], _ => rfl
        | [_], _ => rfl
        | [_, _], _ => rfl
        | [_, _, _], _ => rfl
        | [_, _, _, _], _ => rfl
        | [_, _, _, _, _], _ => rfl
        | [_, _, _, _, _, _], hl => exact absurd rfl hl
        | _ :: _ :: _ :: _ :: _ :: _ :: _ :: _, _ => rfl
      by_cases it : ∃ xs, d = .tup xs
      · obtain ⟨xs, rfl⟩ := it
        by_cases h6 : xs.length = 6
        · obtain ⟨u, t, l, c, i, la, rfl⟩ : ∃ u t l c i la, xs = [u, t, l, c, i, la] := by
            match xs, h6 with
            | [u, t, l, c, i, la], _ => exact ⟨u, t, l, c, i, la, rfl⟩
          have el := (Sh.elems h).of_all
          obtain ⟨vu, _, su⟩ := el u (by simp)
          obtain ⟨vt, _, st⟩ := el t (by simp)
          obtain ⟨vl, _, sl⟩ := el l (by simp)
          obtain ⟨vc, _, sc⟩ := el c (by simp)
          obtain ⟨vi, _, si⟩ := el i (by simp)
          obtain ⟨vla, _, sla⟩ := el la (by simp)
          have eu := mNe_text_sh su (by omega) unit_strOk
          have en := has_numbers_ok (u := u) (i := i) (Sh.ty st) (Sh.ty sl) (Sh.ty sc) (Sh.ty sla)
          by_cases h4 : a = 4
          · have h4' : (a : Int) = 4 := by omega
            simp [ep, h4']
            exact TL.Ret.ok (P := TL.Gives M _) ⟨by simp [unitsD, hp, h4, optN], Keep.refl _⟩
          · have h4' := int_ne4 h4
            cases q1 : isText (Str.ofString "unit") u with
            | false =>
              rw [q1] at eu
              simp [ep, h4', eu]
              exact TL.Ret.ok (P := TL.Gives M _) ⟨by simp [unitsD, hp, h4, q1, optN], Keep.refl _⟩
            | true =>
              rw [q1] at eu
              cases q2 : okNums t l c la with
              | false =>
                rw [q2] at en
                simp [ep, h4', eu, en]
                exact TL.Ret.ok (P := TL.Gives M _) ⟨by simp [unitsD, hp, h4, q1, q2, optN], Keep.refl _⟩
              | true =>
                rw [q2] at en
                simp [ep, h4', eu, en]
                have loop : ∀ (ps : List D) (Mx : Mem), Keep M Mx → seqAt Mx M.length = some ps → (∀ x ∈ ps, ∃ v, TL.Sh M (n + 2) v x) → unitsD (fu + 1) (.tup [u, t, l, c, i, la]) a = (sumU fu a ps).map (1 + ·) →
                    SRet (forL (fun M' => seqAt M' M.length = some ps) (gOne 4) (lp_units_in_0 (m_units_in f)) ps [some (.tup [u, t, l, c, i, la]), some (.int (a : Nat)), some (.int 1), some (.ref M.length), none, none] Mx)
                      (fun env M' => ∃ m : Nat, env[2]? = some (some (.int (m : Nat))) ∧ Keep M M' ∧ unitsD (fu + 1) (.tup [u, t, l, c, i, la]) a = some m) (TL.Gives M (optN (unitsD (fu + 1) (.tup [u, t, l, c, i, la]) a))) := by
                  intro ps Mx kx hx hs hE
                  generalize unitsD (fu + 1) (.tup [u, t, l, c, i, la]) a = E at *
                  refine SRet.for_ (UInv E fu a (.tup [u, t, l, c, i, la]) M M.length ps) ⟨1, none, none, rfl, kx, hx, hE, fun _ h => h⟩ (fun _ _ _ h => by
                    obtain ⟨_, _, _, _, _, h, _⟩ := h
                    exact h) ?_ ?_
                  · rintro x ds env M' ⟨m, e4, e5, rfl, k, hq, hEm, hin⟩
                    obtain ⟨v, sx⟩ := hs x (hin x List.mem_cons_self)
                    obtain ⟨M2, e2, k2⟩ := gives_of (units_in_ok f (a + 1) (by omega) (by omega) (n + 2) v x M' fu (sx.keep k) (by omega) (by omega) (by omega))
                    have e2' : m_units_in f [x, .int ((a : Int) + 1)] M' = .ok (optN (unitsD fu x (a + 1))) M2 := by rw [← e2]; congr 1
                    refine ⟨_, rfl, ?_⟩
                    unfold lp_units_in_0
                    cases q : unitsD fu x (a + 1) with
                    | none =>
                      rw [q] at e2'
                      have : E = none := by rw [hEm]; simp [sumU, q]
                      simp [e2', optN]
                      exact SRet.ret ⟨by rw [this], k.trans k2⟩
                    | some y =>
                      rw [q] at e2'
                      simp [e2', optN]
                      refine SRet.next ⟨m + y, some x, some (.int (y : Nat)), by simp, k.trans k2, k2.seq hq, ?_, fun z hz => hin z (List.mem_cons_of_mem _ hz)⟩
                      rw [hEm]
                      cases q2 : sumU fu a ds with
                      | none => simp [sumU, q, q2]
                      | some z => simp [sumU, q, q2]; omega
                  · rintro env M' ⟨m, e4, e5, rfl, k, _, hEm, _⟩
                    exact ⟨m, rfl, k, by rw [hEm]; simp [sumU]⟩
                have fin : ∀ (env : TL.Env) (M' : Mem), (∃ m : Nat, env[2]? = some (some (.int (m : Nat))) ∧ Keep M M' ∧ unitsD (fu + 1) (.tup [u, t, l, c, i, la]) a = some m) → SRet (sRet (eVar 2) env M') (fun _ M1 => TL.Gives M (optN (unitsD (fu + 1) (.tup [u, t, l, c, i, la]) a)) .non M1) (TL.Gives M (optN (unitsD (fu + 1) (.tup [u, t, l, c, i, la]) a))) := by
                  rintro env M' ⟨m, hv, k, hEm⟩
                  simp [hv]
                  exact SRet.ret ⟨by rw [hEm]; rfl, k⟩
                cases q3 : isNon la with
                | true =>
                  have hE : unitsD (fu + 1) (.tup [u, t, l, c, i, la]) a = (sumU fu a [i]).map (1 + ·) := by
                    conv => lhs; unfold unitsD
                    simp only [hp, h4, q1, q2, q3, if_true, if_false, and_self, Bool.false_eq_true, sumU]
                    cases unitsD fu i (a + 1) <;> simp
                  have sq : seqAt (M ++ [MO.lst [i]]) M.length = some [i] := seqAt_lst (at_len _ _)
                  simp [srcOf_ref sq]
                  exact Ret.endS (SRet.nextQ (SRet.imp (loop [i] (M ++ [.lst [i]]) (Keep.more _ _) sq (fun x hx => by
                    cases List.mem_singleton.mp hx
                    exact ⟨vi, si⟩) hE) fin (fun _ _ h => h)))
                | false =>
                  have hE : unitsD (fu + 1) (.tup [u, t, l, c, i, la]) a = (sumU fu a [i, la]).map (1 + ·) := by
                    conv => lhs; unfold unitsD
                    simp only [hp, h4, q1, q2, q3, if_true, if_false, and_self, Bool.false_eq_true, sumU]
                    cases unitsD fu i (a + 1) <;> cases unitsD fu la (a + 1) <;> simp
                    omega
                  have sq : seqAt (M ++ [MO.lst [i]]) M.length = some [i] := seqAt_lst (at_len _ _)
                  have happ : mAppend (.ref M.length) [la] (M ++ [MO.lst [i]]) = some (.non, (M ++ [MO.lst [i]]).set M.length (.lst ([i] ++ [la]))) := mAppend_ok (at_len _ _) (by simp)
                  have es : (M ++ [MO.lst [i]]).set M.length (.lst ([i] ++ [la])) = M ++ [MO.lst [i, la]] := by simp
                  rw [es] at happ
                  have sq2 : seqAt (M ++ [MO.lst [i, la]]) M.length = some [i, la] := seqAt_lst (at_len _ _)
                  simp [sq, happ, srcOf_ref sq2]
                  exact Ret.endS (SRet.nextQ (SRet.imp (loop [i, la] (M ++ [.lst [i, la]]) (Keep.more _ _) sq2 (fun x hx => by
                    rcases List.mem_cons.mp hx with rfl | hx
                    · exact ⟨vi, si⟩
                    · cases List.mem_singleton.mp hx
                      exact ⟨vla, sla⟩) hE) fin (fun _ _ h => h)))
        · have h6' : ¬ ((xs.length : Nat) : Int) = 6 := by omega
          simp [ep, h6']
          exact TL.Ret.ok (P := TL.Gives M _) ⟨by rw [out xs rfl h6]; rfl, Keep.refl _⟩
      · have nt := fun xs e => it ⟨xs, e⟩
        have e1 := (notTup nt (fu + 1) a).1
        have et' : mIsi "tuple" d M = some (.bl false, M) := by
          rw [et]
          cases d with | tup xs => exact absurd rfl (nt xs) | _ => rfl
        simp [ep, et']
        exact TL.Ret.ok (P := TL.Gives M _) ⟨by rw [e1]; rfl, Keep.refl _⟩
def laneB : D → Bool
  | .tup [a, b, c] => inB 1 3 a && (inB 1 20 b && inB 1 12 c)
  | _ => false
theorem is_lane_ok {d : D} {M : Mem} {n w : Nat} (h : TL.Sh M (n + 2) w d) : m_is_lane [d] M = .ok (.bl (laneB d)) M := by
  show endS (b_is_lane [some d] M) = _
  unfold b_is_lane
  have ty := Sh.ty h
  cases d with
  | tup xs =>
    match xs, h with
    | [a, b, c], h =>
      have el := (Sh.elems h).of_all
      obtain ⟨va, _, sa⟩ := el a (by simp)
      obtain ⟨vb, _, sb⟩ := el b (by simp)
      obtain ⟨vc, _, sc⟩ := el c (by simp)
      have ha := between_B (lo := 1) (hi := 3) (M := M) (Sh.ty sa)
      have hb := between_B (lo := 1) (hi := 20) (M := M) (Sh.ty sb)
      have hc := between_B (lo := 1) (hi := 12) (M := M) (Sh.ty sc)
      cases e1 : inB 1 3 a <;> cases e2 : inB 1 20 b <;> cases e3 : inB 1 12 c <;> rw [e1] at ha <;> rw [e2] at hb <;> rw [e3] at hc <;> simp [ha, hb, hc, laneB, e1, e2, e3]
    | [], h => simp [laneB]
    | [a], h => simp [laneB]
    | [a, b], h => simp [laneB]
    | a :: b :: c :: e :: xs, h =>
      have hl : ¬ ((xs.length : Int) + 1 + 1 + 1 + 1 = 3) := by omega
      simp [laneB, hl]
  | ref n =>
    cases q : seqAt M n with
    | none => simp [tyName, q] at ty
    | some xs => simp [mIsi_ref q, laneB]
  | err x => exact absurd ty (by simp [tyName])
  | _ => simp [laneB]
def ruleB (d : D) : Bool := match unitsD 5 d 0 with
  | some y => decide (y ≤ 10)
  | none => false
theorem is_rule_ok {d : D} {M : Mem} {n w : Nat} (h : TL.Sh M n w d) (h7 : 7 ≤ n) (hn : n ≤ 40) : Ret (m_is_rule [d] M) (TL.Gives M (.bl (ruleB d))) := by
  show Ret (endS (b_is_rule [some d, none] M)) _
  unfold b_is_rule
  obtain ⟨M1, e1, k1⟩ := gives_of (units_in_ok 14 0 (by decide) (by decide) n w d M 5 h hn (by omega) (by decide))
  have e1' : m_units_in 14 [d, .int 0] M = .ok (optN (unitsD 5 d 0)) M1 := e1
  cases q : unitsD 5 d 0 with
  | none =>
    rw [q] at e1'
    simp [e1', optN]
    exact TL.Ret.ok (P := TL.Gives M _) ⟨by simp [ruleB, q], k1⟩
  | some y =>
    rw [q] at e1'
    simp [e1', optN]
    exact TL.Ret.ok (P := TL.Gives M _) ⟨by simp [ruleB, q]; omega, k1⟩
def gameB : D → Bool
  | .tup [k, r] => if isText (Str.ofString "rally") k = true then ruleB r else if isText (Str.ofString "down") k = true then downB r else isText (Str.ofString "lane") k && laneB r
  | _ => false
theorem rally_strOk : PyData.strOk (Str.ofString "rally") = true := by decide +kernel
theorem down_strOk : PyData.strOk (Str.ofString "down") = true := by decide +kernel
theorem lane_strOk : PyData.strOk (Str.ofString "lane") = true := by decide +kernel
theorem is_game_ok {d : D} {M : Mem} {w : Nat} (h : TL.Sh M 40 w d) (hw : w ≤ 10000) : Ret (m_is_game [d] M) (TL.Gives M (.bl (gameB d))) := by
  show Ret (endS (b_is_game [some d] M)) _
  unfold b_is_game
  have ty := Sh.ty h
  cases d with
  | tup xs =>
    match xs, h with
    | [a, b], h =>
      have el := (Sh.elems h).of_all
      obtain ⟨va, la, sa⟩ := el a (by simp)
      obtain ⟨vb, lb, sb⟩ := el b (by simp)
      have t1 := mEq_text_sh sa (by omega) rally_strOk
      have t2 := mEq_text_sh sa (by omega) down_strOk
      have t3 := mEq_text_sh sa (by omega) lane_strOk
      cases q1 : isText (Str.ofString "rally") a with
      | true =>
        rw [q1] at t1
        obtain ⟨M1, e1, k1⟩ := gives_of (is_rule_ok sb (by omega) (by omega))
        simp [t1, e1]
        exact TL.Ret.ok (P := TL.Gives M _) ⟨by simp [gameB, q1], k1⟩
      | false =>
        rw [q1] at t1
        cases q2 : isText (Str.ofString "down") a with
        | true =>
          rw [q2] at t2
          obtain ⟨M1, e1, k1⟩ := gives_of (is_down_ok (n := 35) sb (by omega))
          simp [t1, t2, e1]
          exact TL.Ret.ok (P := TL.Gives M _) ⟨by simp [gameB, q1, q2], k1⟩
        | false =>
          rw [q2] at t2
          have e1 := is_lane_ok (n := 37) sb
          cases q3 : isText (Str.ofString "lane") a <;> rw [q3] at t3 <;> simp [t1, t2, t3, e1] <;> exact TL.Ret.ok (P := TL.Gives M _) ⟨by simp [gameB, q1, q2, q3], Keep.refl _⟩
    | [], h => simp; exact TL.Ret.ok (P := TL.Gives M _) ⟨rfl, Keep.refl _⟩
    | [a], h => simp; exact TL.Ret.ok (P := TL.Gives M _) ⟨rfl, Keep.refl _⟩
    | a :: b :: c :: xs, h =>
      have hl : ¬ ((xs.length : Int) + 1 + 1 + 1 = 2) := by omega
      simp [hl]
      exact TL.Ret.ok (P := TL.Gives M _) ⟨rfl, Keep.refl _⟩
  | ref m =>
    cases q : seqAt M m with
    | none => simp [tyName, q] at ty
    | some xs => simp [mIsi_ref q]; exact TL.Ret.ok (P := TL.Gives M _) ⟨rfl, Keep.refl _⟩
  | err y => exact absurd ty (by simp [tyName])
  | _ => simp; exact TL.Ret.ok (P := TL.Gives M _) ⟨rfl, Keep.refl _⟩
theorem Sh.int20 {M : Mem} {n : Nat} {i : Int} (h : i.natAbs < 2 ^ 20) : TL.Sh M (n + 1) 20 (.int i) := by
  obtain ⟨x, e, b, c, _⟩ := Sh.int (M := M) (n := n) (i := i) (Nat.lt_trans h (by decide))
  cases e
  refine ⟨.int i, rfl, b, c, ?_⟩
  show (if i == 0 then 0 else i.natAbs.log2 + 1) ≤ 20
  split
  · omega
  · rename_i z
    have : i.natAbs ≠ 0 := by simpa using z
    have := (Nat.log2_lt this).mpr h
    omega
/-- what a game's word goes with -/
structure GL (xs : List D) : Prop where
  n0 : 1 ≤ xs.length
  n1 : xs.length ≤ 6
  s : ∀ M n, ShL M (n + 8) 2000 xs
theorem unit_sh {M : Mem} {n : Nat} : TL.Sh M (n + 1) 10 (.str ("unit" : Str)) := str_sh "unit" (by decide +kernel)
theorem point_sh {M : Mem} {n : Nat} : TL.Sh M (n + 1) 10 (.str ("point" : Str)) := str_sh "point" (by decide +kernel)
theorem cap_sh {M : Mem} {n : Nat} {c : Option Int} (h : ∀ i, c = some i → 1 ≤ i ∧ i ≤ 99) : TL.Sh M (n + 1) 20 (capD c) := by
  cases c with
  | none => exact Sh.non.le (by decide)
  | some i => exact Sh.int20 (by have := h i rfl; omega)
theorem rule_sh : ∀ (r : Rule), r.good → ∀ (M : Mem) (n : Nat), TL.Sh M (n + r.depth + 2) (110 * r.units + 12) r.toD
  | .point, _, M, n => (Sh.tup (.cons point_sh .nil)).le (by omega)
  | .unit to lead cap inner, h, M, n => by
    obtain ⟨h1, h2, h3, h4, h5, h6⟩ := h
    have ih := rule_sh inner h6 M n
    have e : n + (Rule.unit to lead cap inner).depth + 2 = (n + inner.depth + 2) + 1 := by simp [Rule.depth]; omega
    rw [e]
    refine (Sh.tup (.cons unit_sh (.cons (Sh.int20 (by omega)) (.cons (Sh.int20 (by omega)) (.cons (cap_sh fun i e => ?_) (.cons ih (.cons Sh.non .nil))))))).le ?_
    · have := h5 i e; omega
    · simp only [Rule.units]; omega
  | .unitL to lead cap inner last, h, M, n => by
    obtain ⟨h1, h2, h3, h4, h5, h6, h7, h8⟩ := h
    have i1 := rule_sh inner h7 M (n + (max inner.depth last.depth - inner.depth))
    have i2 := rule_sh last h8 M (n + (max inner.depth last.depth - last.depth))
    have m1 : inner.depth ≤ max inner.depth last.depth := Nat.le_max_left _ _
    have m2 : last.depth ≤ max inner.depth last.depth := Nat.le_max_right _ _
    rw [show n + (max inner.depth last.depth - inner.depth) + inner.depth + 2 = n + max inner.depth last.depth + 2 from by omega] at i1
    rw [show n + (max inner.depth last.depth - last.depth) + last.depth + 2 = n + max inner.depth last.depth + 2 from by omega] at i2
    have e : n + (Rule.unitL to lead cap inner last).depth + 2 = (n + max inner.depth last.depth + 2) + 1 := by simp [Rule.depth]; omega
    rw [e]
    refine (Sh.tup (.cons unit_sh (.cons (Sh.int20 (by omega)) (.cons (Sh.int20 (by omega)) (.cons (Sh.int20 (by omega)) (.cons i1 (.cons i2 .nil))))))).le ?_
    simp only [Rule.units]; omega
def partL : Rule → List D
  | .point => [.str "point"]
  | .unit to lead cap inner => [.str "unit", .int to, .int lead, capD cap, inner.toD, .non]
  | .unitL to lead cap inner last => [.str "unit", .int to, .int lead, .int cap, inner.toD, last.toD]
theorem rule_GL {r : Rule} (h : r.good) (hd : r.depth ≤ 4) (hu : r.units ≤ 7) : ∃ xs, r.toD = .tup xs ∧ GL xs := by
  have all := rule_sh r h
  have l : r.toD = .tup (partL r) := by cases r <;> rfl
  refine ⟨partL r, l, by cases r <;> simp [partL], by cases r <;> simp [partL], fun M n => ?_⟩
  have := all M (n + 7 - r.depth)
  rw [l, show n + 7 - r.depth + r.depth + 2 = (n + 8) + 1 from by omega] at this
  exact (Sh.elems this).le (by omega)
theorem name_sh {x : Str} (h : nameB x = true) {M : Mem} {n : Nat} : TL.Sh M (n + 1) 8 (.str x) := by
  have h1 := name_len h
  refine (Sh.str (name_strOk h)).le ?_
  exact h1.2
theorem thr_sh {M : Mem} {n : Nat} {t : Thr} (hn : nameB t.name = true) (hw : 0 ≤ t.worth ∧ t.worth ≤ 1000000) : TL.Sh M (n + 2) 31 t.toD :=
  (Sh.tup (.cons (name_sh hn) (.cons (Sh.int20 (by omega)) (.cons Sh.bl .nil)))).le (by decide)
theorem thsL {M : Mem} {n : Nat} {ts : List Thr} (hl : ts.length ≤ 30) (nm : ∀ t ∈ ts, nameB t.name = true) (w0 : ∀ t ∈ ts, 0 ≤ t.worth ∧ t.worth ≤ 1000000) : ShL M (n + 2) 960 (ts.map Thr.toD) := by
  refine (ShL.all (w := 31) fun d hd => ?_).le (by rw [List.length_map]; omega)
  obtain ⟨t, ht, rfl⟩ := List.mem_map.mp hd
  exact thr_sh (nm t ht) (w0 t ht)
theorem down_GL {w : Down} (h : DownOk w) : ∃ xs, w.toD = .tup xs ∧ GL xs := by
  refine ⟨_, rfl, by simp, by simp, fun M n => ?_⟩
  have := h.s0; have := h.s1; have := h.b0; have := h.b1; have := h.t0; have := h.t1
  exact (ShL.cons (small_sh (by omega) (by omega)) (.cons (Sh.int20 (by omega)) (.cons (small_sh (by omega) (by omega)) (.cons (Sh.tup (thsL h.n1 h.good.nm h.good.w0)) .nil)))).le (by decide)
theorem lane_GL {k n : Nat} {P : Int} (l : Lane k P n) : ∃ xs, laneD k P n = .tup xs ∧ GL xs := by
  refine ⟨_, rfl, by simp, by simp, fun M m => ?_⟩
  have := l.k0; have := l.k1; have := l.p0; have := l.p1; have := l.n0; have := l.n1
  exact (ShL.cons (small_sh (by omega) (by omega)) (.cons (small_sh (by omega) (by omega)) (.cons (small_sh (by omega) (by omega)) .nil))).le (by decide)
/-- a game as the law draws it -/
def Gd : Gm → Prop
  | .rally r => r.good ∧ r.depth ≤ 4 ∧ r.units ≤ 7
  | .down w => DownOk w
  | .lane k P n => Lane k P n
theorem gd_form {g : Gm} (h : Gd g) : ∃ (k : String) (xs : List D), g.toD = .tup [.str (Str.ofString k), .tup xs] ∧ k ∈ ["rally", "down", "lane"] ∧ GL xs := by
  cases g with
  | rally r =>
    obtain ⟨h1, h2, h3⟩ := h
    obtain ⟨xs, e, g⟩ := rule_GL h1 h2 h3
    exact ⟨"rally", xs, by rw [← e]; rfl, by simp, g⟩
  | down w =>
    obtain ⟨xs, e, g⟩ := down_GL h
    exact ⟨"down", xs, by rw [← e]; rfl, by simp, g⟩
  | lane k P n =>
    obtain ⟨xs, e, g⟩ := lane_GL h
    exact ⟨"lane", xs, by rw [← e]; rfl, by simp, g⟩
theorem kind_sh {k : String} (h : k ∈ ["rally", "down", "lane"]) {M : Mem} {n : Nat} : TL.Sh M (n + 1) 10 (.str (Str.ofString k)) := by
  simp only [List.mem_cons, List.not_mem_nil, or_false] at h
  rcases h with rfl | rfl | rfl
  · exact str_sh "rally" (by decide +kernel)
  · exact str_sh "down" (by decide +kernel)
  · exact str_sh "lane" (by decide +kernel)
def firstD : Gm → D
  | .rally r => .tup [(begunR r).toD, .non]
  | .down w => .tup [(firstS w).toD, .non]
  | .lane k P n => .tup [standD (List.replicate k (freshR P)) 0, .non]
theorem first_ok {g : Gm} (h : Gd g) (M : Mem) : m_first [g.toD] M = .ok (firstD g) M := by
  show endS (b_first [some g.toD] M) = _
  unfold b_first
  cases g with
  | rally r =>
    obtain ⟨h1, h2, h3⟩ := h
    have e := begun_ok 14 r M (by omega) (by omega)
    simp [Gm.toD, e, firstD]
  | down w =>
    have e := down_begun_ok h M
    simp [Gm.toD, e, firstD]
  | lane k P n =>
    have e := lane_begun_ok h M
    simp [Gm.toD, e, firstD]
theorem isPoint_toD : ∀ r : Rule, isPoint r.toD = decide (r = .point)
  | .point => by simp [Rule.toD, isPoint, isText]
  | .unit .. => by simp [Rule.toD, isPoint]
  | .unitL .. => by simp [Rule.toD, isPoint]
theorem units_right : ∀ (r : Rule) (f a : Nat), r.good → r.depth < f → r.depth + a ≤ 4 → unitsD f r.toD a = some r.units
  | _, 0, _, _, h, _ => by omega
  | .point, f + 1, a, _, _, _ => by simp [unitsD, isPoint_toD, Rule.units]
  | .unit to lead cap inner, f + 1, a, h, hf, ha => by
    obtain ⟨h1, h2, h3, h4, h5, h6⟩ := h
    have d : (Rule.unit to lead cap inner).depth = inner.depth + 1 := rfl
    have ih := units_right inner f (a + 1) h6 (by omega) (by omega)
    have hp := isPoint_toD (.unit to lead cap inner)
    simp only [reduceCtorEq, decide_false] at hp
    have ok : okNums (.int to) (.int lead) (capD cap) .non = true := by
      cases cap with
      | none => simp [okNums, inB, capD, TL.isNon]; omega
      | some c =>
        have := h5 c rfl
        simp [okNums, inB, capD]; omega
    have tx : isText (Str.ofString "unit") (.str "unit") = true := by decide +kernel
    simp only [Rule.toD] at hp
    simp only [unitsD, Rule.toD, hp, Bool.false_eq_true, if_false, show a ≠ 4 from by omega, tx, ok, and_self, if_true, ih, TL.isNon, Rule.units]
    congr 1; omega
  | .unitL to lead cap inner last, f + 1, a, h, hf, ha => by
    obtain ⟨h1, h2, h3, h4, h5, h6, h7, h8⟩ := h
    have d : (Rule.unitL to lead cap inner last).depth = max inner.depth last.depth + 1 := rfl
    have ih := units_right inner f (a + 1) h7 (by omega) (by omega)
    have il := units_right last f (a + 1) h8 (by omega) (by omega)
    have hp := isPoint_toD (.unitL to lead cap inner last)
    simp only [reduceCtorEq, decide_false] at hp
    have ok : okNums (.int to) (.int lead) (.int cap) last.toD = true := by
      simp [okNums, inB]; omega
    have tx : isText (Str.ofString "unit") (.str "unit") = true := by decide +kernel
    have nn : isNon last.toD = false := isNon_toD
    simp only [Rule.toD] at hp
    simp only [unitsD, Rule.toD, hp, Bool.false_eq_true, if_false, show a ≠ 4 from by omega, tx, ok, and_self, if_true, ih, il, nn, Rule.units]
    congr 1; omega
theorem throwB_true {t : Thr} (hn : nameB t.name = true) (hw : 0 ≤ t.worth ∧ t.worth ≤ 1000000) : throwB t.toD = true := by
  simp [throwB, Thr.toD, nameD, hn, inB, isBl, hw.1, hw.2]
theorem downB_true {w : Down} (h : DownOk w) : downB w.toD = true := by
  have h1 : (w.throws.map Thr.toD).all throwB = true := by
    rw [List.all_eq_true]
    intro d hd
    obtain ⟨t, ht, rfl⟩ := List.mem_map.mp hd
    exact throwB_true (h.good.nm t ht) (h.good.w0 t ht)
  have h2 : (w.throws.map Thr.toD).map nmOf = w.throws.map (·.name) := by rw [List.map_map]; rfl
  have h3 : fresh (fun _ => false) (w.throws.map (·.name)) = (w.throws.map (·.name)).length := fresh_nodup _ _ h.good.nd fun _ _ => rfl
  have := h.s0; have := h.s1; have := h.b0; have := h.b1; have := h.t0; have := h.t1; have := h.n0; have := h.n1
  simp only [downB, Down.toD, throwsB, h1, h2, h3, inB, List.length_map, decide_true, Bool.and_true, Bool.true_and, Bool.and_eq_true, decide_eq_true_eq]
  omega
theorem game_right {g : Gm} (h : Gd g) : gameB g.toD = true := by
  have r1 : isText (Str.ofString "rally") (.str (Str.ofString "rally")) = true := by decide +kernel
  have r2 : isText (Str.ofString "rally") (.str (Str.ofString "down")) = false := by decide +kernel
  have r3 : isText (Str.ofString "down") (.str (Str.ofString "down")) = true := by decide +kernel
  have r4 : isText (Str.ofString "rally") (.str (Str.ofString "lane")) = false := by decide +kernel
  have r5 : isText (Str.ofString "down") (.str (Str.ofString "lane")) = false := by decide +kernel
  have r6 : isText (Str.ofString "lane") (.str (Str.ofString "lane")) = true := by decide +kernel
  cases g with
  | rally r =>
    obtain ⟨h1, h2, h3⟩ := h
    have u := units_right r 5 0 h1 (by omega) (by omega)
    simp only [Gm.toD, gameB, r1, if_true, ruleB, u]
    exact decide_eq_true (by omega)
  | down w => simp [Gm.toD, gameB, r2, r3, downB_true h]
  | lane k P n =>
    have h : Lane k P n := h
    have := h.k0; have := h.k1; have := h.p0; have := h.p1; have := h.n0; have := h.n1
    simp [Gm.toD, gameB, r4, r5, r6, laneD, laneB, inB]
    omega
theorem game_sh {g : Gm} (h : Gd g) (M : Mem) (n : Nat) : TL.Sh M (n + 10) 2100 g.toD := by
  obtain ⟨k, xs, e, hk, gl⟩ := gd_form h
  rw [e]
  exact (Sh.tup (.cons (kind_sh hk) (.cons (Sh.tup (gl.s M n)) .nil))).le (by decide)
end CI
end
section
set_option maxHeartbeats 4000000
namespace CE
open PySem PySem.Spec PyProof.Rows L2 TL
noncomputable section
def b_l_cell_at : MS := (sSeq (sIf (tB (eBin mLt (eVar 1) (eCallO nLen (aCons (eVar 0) aNil)))) (sRet (eBin mIdx (eVar 0) (eVar 1))) sNil)
    (sRet (eC (.int 0))))
def m_l_cell_at : Fn := fnD 2 2 b_l_cell_at
def lp_l_draws_0 : MS := (sSeq (sExpr (eMeth "list" mAppend (eVar 2) (aCons (eBin mMod (eVar 3) (eC (.int 720720))) aNil)))
    (sAsg (gOne 3) (eBin mFdiv (eVar 3) (eC (.int 720720)))))
def lp_l_draws_1 : MS := (sSeq (sAsg (gOne 3) (eBin mMod (eBin mAdd (eBin mAdd (eBin mMul (eVar 3) (eVar 3)) (eBin mMul (eC (.int 48271)) (eVar 3))) (eVar 4)) (eC (.int 2147483647))))
    (sExpr (eMeth "list" mAppend (eVar 2) (aCons (eBin mMod (eBin mAdd (eBin mMul (eVar 3) (eC (.int 69621))) (eBin mMul (eC (.int 7)) (eVar 4))) (eC (.int 2147483629))) aNil))))
def b_l_draws : MS := (sSeq (sAsg (gOne 2) (eLst aNil))
    (sSeq (sIf (tB (eBin mEq (eBin mMod (eVar 0) (eC (.int 2))) (eC (.int 1)))) (sSeq (sAsg (gOne 3) (eBin mFdiv (eVar 0) (eC (.int 2))))
    (sSeq (sFor (iRange1 (eVar 1)) (gOne 4) lp_l_draws_0)
    (sRet (eVar 2)))) sNil)
    (sSeq (sAsg (gOne 3) (eBin mAdd (eBin mMod (eBin mFdiv (eVar 0) (eC (.int 2))) (eC (.int 2147483647))) (eC (.int 48271))))
    (sSeq (sFor (iRange1 (eBin mAdd (eVar 1) (eC (.int 1)))) (gOne 4) lp_l_draws_1)
    (sRet (eSl (eVar 2) (oSome (eC (.int 1))) oNone))))))
def m_l_draws : Fn := fnD 2 5 b_l_draws
def b_l_unit (r_l_unit : Fn) : MS := (sSeq (sIf (tOr (tB (eBin mEq (eVar 2) (eVar 3))) (tAnd (tB (eBin mGt (eVar 1) (eC (.int 0)))) (tB (eBin mEq (eBin mMod (eBin mIdx (eVar 0) (eBin mMul (eC (.int 4)) (eVar 1))) (eC (.int 7))) (eC (.int 0)))))) (sRet (eTup (aCons (eC (.str "point")) aNil))) sNil)
    (sSeq (sAsg (gOne 4) (eBin mAdd (eC (.int 1)) (eBin mMod (eBin mIdx (eVar 0) (eBin mAdd (eBin mMul (eC (.int 4)) (eVar 1)) (eC (.int 1)))) (eBin mIdx (eLst (aCons (eC (.int 3)) (aCons (eC (.int 5)) (aCons (eC (.int 99)) aNil)))) (eBin mMod (eBin mFdiv (eBin mIdx (eVar 0) (eBin mAdd (eBin mMul (eC (.int 4)) (eVar 1)) (eC (.int 1)))) (eC (.int 99))) (eC (.int 3)))))))
    (sSeq (sAsg (gOne 5) (eBin mAdd (eC (.int 1)) (eBin mMod (eBin mIdx (eVar 0) (eBin mAdd (eBin mMul (eC (.int 4)) (eVar 1)) (eC (.int 2)))) (eBin mIdx (eLst (aCons (eC (.int 2)) (aCons (eC (.int 3)) (aCons (eC (.int 99)) aNil)))) (eBin mMod (eBin mFdiv (eBin mIdx (eVar 0) (eBin mAdd (eBin mMul (eC (.int 4)) (eVar 1)) (eC (.int 2)))) (eC (.int 99))) (eC (.int 3)))))))
    (sSeq (sAsg (gOne 6) (eC .non))
    (sSeq (sAsg (gOne 7) (eC .non))
    (sSeq (sIf (tB (eBin mEq (eBin mMod (eBin mIdx (eVar 0) (eBin mAdd (eBin mMul (eC (.int 4)) (eVar 1)) (eC (.int 3)))) (eC (.int 2))) (eC (.int 1)))) (sSeq (sAsg (gOne 6) (eCallO nMin2 (aCons (eC (.int 99)) (aCons (eBin mAdd (eVar 4) (eBin mMod (eBin mFdiv (eBin mIdx (eVar 0) (eBin mAdd (eBin mMul (eC (.int 4)) (eVar 1)) (eC (.int 3)))) (eC (.int 2))) (eC (.int 4)))) aNil))))
    (sIf (tAnd (tB (eBin mEq (eBin mMod (eBin mFdiv (eBin mIdx (eVar 0) (eBin mAdd (eBin mMul (eC (.int 4)) (eVar 1)) (eC (.int 3)))) (eC (.int 8))) (eC (.int 2))) (eC (.int 1)))) (tB (eBin mLt (eVar 3) (eC (.int 4))))) (sAsg (gOne 7) (eCall r_l_unit (aCons (eVar 0) (aCons (eBin mAdd (eBin mMul (eC (.int 2)) (eVar 1)) (eC (.int 2))) (aCons (eBin mAdd (eVar 2) (eC (.int 1))) (aCons (eVar 3) aNil)))))) sNil)) sNil)
    (sRet (eTup (aCons (eC (.str "unit")) (aCons (eVar 4) (aCons (eVar 5) (aCons (eVar 6) (aCons (eCall r_l_unit (aCons (eVar 0) (aCons (eBin mAdd (eBin mMul (eC (.int 2)) (eVar 1)) (eC (.int 1))) (aCons (eBin mAdd (eVar 2) (eC (.int 1))) (aCons (eVar 3) aNil))))) (aCons (eVar 7) aNil))))))))))))))
def m_l_unit : Nat → Fn
  | 0 => noFn
  | n + 1 => fnD 4 8 (b_l_unit (m_l_unit n))
def lp_l_throws_0 : MS := (sExpr (eMeth "list" mAppend (eVar 3) (aCons (eTup (aCons (eBin mIdx (eVar 2) (eVar 4)) (aCons (eBin mMod (eBin mIdx (eVar 0) (eBin mAdd (eC (.int 3)) (eBin mMul (eC (.int 2)) (eVar 4)))) (eBin mIdx (eLst (aCons (eC (.int 4)) (aCons (eC (.int 21)) (aCons (eC (.int 1000001)) aNil)))) (eBin mMod (eBin mFdiv (eBin mIdx (eVar 0) (eBin mAdd (eC (.int 4)) (eBin mMul (eC (.int 2)) (eVar 4)))) (eC (.int 2))) (eC (.int 3))))) (aCons (eBin mEq (eBin mMod (eBin mIdx (eVar 0) (eBin mAdd (eC (.int 4)) (eBin mMul (eC (.int 2)) (eVar 4)))) (eC (.int 2))) (eC (.int 1))) aNil)))) aNil)))
def b_l_throws : MS := (sSeq (sAsg (gOne 1) (eLst (aCons (eLst (aCons (eC (.str "a")) (aCons (eC (.str "ab")) (aCons (eC (.str "abc")) (aCons (eC (.str "abcd")) (aCons (eC (.str "b")) aNil)))))) (aCons (eLst (aCons (eC (.str "z9")) (aCons (eC (.str "z")) (aCons (eC (.str "z90")) (aCons (eC (.str "y")) (aCons (eC (.str "zz")) aNil)))))) (aCons (eLst (aCons (eC (.str "t20")) (aCons (eC (.str "d20")) (aCons (eC (.str "t2")) (aCons (eC (.str "d")) (aCons (eC (.str "x0000000")) aNil)))))) aNil)))))
    (sSeq (sAsg (gOne 2) (eBin mIdx (eVar 1) (eBin mMod (eBin mIdx (eVar 0) (eC (.int 1))) (eC (.int 3)))))
    (sSeq (sAsg (gOne 3) (eLst aNil))
    (sSeq (sFor (iRange1 (eBin mAdd (eC (.int 1)) (eBin mMod (eBin mIdx (eVar 0) (eC (.int 2))) (eC (.int 5))))) (gOne 4) lp_l_throws_0)
    (sRet (eCallO nTuple (aCons (eVar 3) aNil)))))))
def m_l_throws : Fn := fnD 1 5 b_l_throws
def b_l_game : MS := (sSeq (sAsg (gOne 1) (eCall m_l_draws (aCons (eVar 0) (aCons (eC (.int 34)) aNil))))
    (sSeq (sIf (tB (eBin mEq (eBin mMod (eBin mIdx (eVar 1) (eC (.int 33))) (eC (.int 3))) (eC (.int 0)))) (sRet (eTup (aCons (eC (.str "rally")) (aCons (eCall (m_l_unit 14) (aCons (eVar 1) (aCons (eC (.int 0)) (aCons (eC (.int 0)) (aCons (eBin mMod (eBin mIdx (eVar 1) (eC (.int 32))) (eC (.int 5))) aNil))))) aNil)))) sNil)
    (sSeq (sIf (tB (eBin mEq (eBin mMod (eBin mIdx (eVar 1) (eC (.int 33))) (eC (.int 3))) (eC (.int 1)))) (sSeq (sAsg (gOne 2) (eBin mAdd (eC (.int 1)) (eBin mMod (eBin mIdx (eVar 1) (eC (.int 11))) (eBin mIdx (eLst (aCons (eC (.int 9)) (aCons (eC (.int 60)) (aCons (eC (.int 1000000)) aNil)))) (eBin mMod (eBin mIdx (eVar 1) (eC (.int 13))) (eC (.int 3)))))))
    (sRet (eTup (aCons (eC (.str "down")) (aCons (eTup (aCons (eBin mAdd (eC (.int 1)) (eBin mMod (eBin mIdx (eVar 1) (eC (.int 0))) (eC (.int 3)))) (aCons (eVar 2) (aCons (eBin mAdd (eC (.int 1)) (eBin mMod (eBin mIdx (eVar 1) (eC (.int 12))) (eC (.int 3)))) (aCons (eCall m_l_throws (aCons (eVar 1) aNil)) aNil))))) aNil))))) sNil)
    (sRet (eTup (aCons (eC (.str "lane")) (aCons (eTup (aCons (eBin mAdd (eC (.int 1)) (eBin mMod (eBin mIdx (eVar 1) (eC (.int 0))) (eC (.int 3)))) (aCons (eBin mAdd (eC (.int 1)) (eBin mMod (eBin mIdx (eVar 1) (eC (.int 1))) (eBin mIdx (eLst (aCons (eC (.int 3)) (aCons (eC (.int 10)) (aCons (eC (.int 20)) aNil)))) (eBin mMod (eBin mIdx (eVar 1) (eC (.int 3))) (eC (.int 3)))))) (aCons (eBin mAdd (eC (.int 1)) (eBin mMod (eBin mIdx (eVar 1) (eC (.int 2))) (eBin mIdx (eLst (aCons (eC (.int 2)) (aCons (eC (.int 3)) (aCons (eC (.int 12)) aNil)))) (eBin mMod (eBin mIdx (eVar 1) (eC (.int 4))) (eC (.int 3)))))) aNil)))) aNil)))))))
def m_l_game : Fn := fnD 1 3 b_l_game
end
open RL RB TLQ RD CI
open CM hiding b_l_alike m_l_alike b_l_unit m_l_unit g_l_unit b_l_rule m_l_rule b_l_any_rule m_l_any_rule unit_ok rule_step rule_ok any_rule
open CG (Gm)
theorem asg_step {i : Nat} {e : ME} {env : TL.Env} {M M' : Mem} {v : D} {rest : MS} (h : e env M = .ok v M') : (sSeq (sAsg (gOne i) e) rest) env M = rest (env.set i (some v)) M' := by
  show nextS (thenS env (e env M) fun d M1 => match gOne i d env with | some env' => .next env' M1 | none => .stuck) rest = _
  rw [h]
  rfl
theorem cell_at_ok {ns : List Int} {S : Nat} {M : Mem} {k : Nat} (hS : seqAt M S = some (ns.map D.int)) : m_l_cell_at [.ref S, .int (k : Nat)] M = .ok (.int (ns.getD k 0)) M := by
  show endS (b_l_cell_at [some (.ref S), some (.int (k : Nat))] M) = _
  unfold b_l_cell_at
  by_cases c : k < ns.length
  · have c' : (k : Int) < (ns.length : Nat) := by omega
    have i1 : atI (ns.map D.int) (k : Int) = some (.int (ns.getD k 0)) := atI_nat (by rw [List.getElem?_map, List.getD_eq_getElem?_getD, List.getElem?_eq_getElem c]; rfl)
    simp [hS, c', i1, c]
  · have c' : ¬ ((k : Int) < (ns.length : Nat)) := by omega
    have d0 : ns.getD k 0 = 0 := by rw [List.getD_eq_getElem?_getD, List.getElem?_eq_none (by omega)]; rfl
    simp [hS, c', d0, c]
theorem mul_in {M : Mem} {i j : Int} (h0 : -100000000000 ≤ i) (h1 : i ≤ 100000000000) : mMul (.int i) (.int j) M = some (.int (i * j), M) := by
  rw [mMul_int, if_pos]; omega
/-- a list of numbers, drawn -/
def DrawsQ (many : Nat) (M : Mem) (d : D) (M' : Mem) : Prop := ∃ (n : Nat) (xs : List Nat), d = .ref n ∧ M.length ≤ n ∧ Keep M M' ∧ M'[n]? = some (.lst (xs.map fun x => D.int (x : Nat))) ∧ xs.length = many
def OInv (M : Mem) (many : Nat) : List D → TL.Env → Mem → Prop := fun ds env M' => ∃ (e0 e1 e4 : Option D) (num : Int) (xs : List Nat), env = [e0, e1, some (.ref M.length), some (.int num), e4] ∧ Keep M M' ∧ M'[M.length]? = some (.lst (xs.map fun x => D.int (x : Nat))) ∧ xs.length + ds.length = many
def EvInv (M : Mem) (many : Nat) : List D → TL.Env → Mem → Prop := fun ds env M' => ∃ (e0 e1 e4 : Option D) (num : Int) (xs : List Nat), env = [e0, e1, some (.ref M.length), some (.int num), e4] ∧ Keep M M' ∧ M'[M.length]? = some (.lst (xs.map fun x => D.int (x : Nat))) ∧ xs.length + ds.length = many ∧ 0 ≤ num ∧ num ≤ 3000000000 ∧ ∀ d ∈ ds, ∃ i : Int, d = .int i ∧ 0 ≤ i
theorem draws_ok {c : Int} {many : Nat} (hm : many ≤ 1000) (M : Mem) : Ret (m_l_draws [.int c, .int (many : Nat)] M) (DrawsQ many M) := by
  show Ret (endS (b_l_draws [some (.int c), some (.int (many : Nat)), none, none, none] M)) _
  unfold b_l_draws
  have ro : RngOk (many : Int) := rngOk_nat (by omega)
  have ro1 : RngOk ((many : Int) + 1) := rngOk_nat (n := many + 1) (by omega)
  have tn : ((many : Int) + 1).toNat = many + 1 := by omega
  by_cases q : c % 2 = 1
  · simp [q, ro]
    refine Ret.endS ?_
    refine SRet.forQ (OInv M many) ⟨_, _, _, c / 2, [], rfl, Keep.more _ _, at_len _ _, by simp [rng_length]⟩ (fun _ _ _ _ => trivial) ?_ ?_
    · rintro d ds env M' ⟨e0, e1, e4, num, xs, rfl, k, h, hl⟩
      refine ⟨_, rfl, ?_⟩
      unfold lp_l_draws_0
      obtain ⟨y, hy⟩ : ∃ y : Nat, num % 720720 = (y : Int) := ⟨(num % 720720).toNat, by omega⟩
      have ap := mAppend_ok (y := .int (y : Nat)) h (by rw [List.length_map]; rw [List.length_cons] at hl; omega)
      have sq := seqAt_lst h
      have lt := lt_of_at h
      simp [sq, hy, ap]
      refine SRet.next ⟨_, _, _, num / 720720, xs ++ [y], rfl, k.setNew (Nat.le_refl _), ?_, ?_⟩
      · rw [List.getElem?_set_self lt]; simp
      · rw [List.length_append, List.length_singleton]; rw [List.length_cons] at hl; omega
    · rintro env M' ⟨e0, e1, e4, num, xs, rfl, k, h, hl⟩
      simp
      exact SRet.ret ⟨M.length, xs, rfl, Nat.le_refl _, k, h, by simpa using hl⟩
  · have q' : ¬ (c % 2 = 1) := q
    simp [q', ro1, tn]
    refine Ret.endS ?_
    refine SRet.forQ (EvInv M (many + 1)) ⟨_, _, _, c / 2 % 2147483647 + 48271, [], rfl, Keep.more _ _, at_len _ _, by simp [rng_length], by omega, by omega, fun d hd => ?_⟩ (fun _ _ _ _ => trivial) ?_ ?_
    · obtain ⟨i, hi, rfl⟩ := mem_rng hd
      exact ⟨_, rfl, by omega⟩
    · rintro d ds env M' ⟨e0, e1, e4, num, xs, rfl, k, h, hl, n0, n1, hd⟩
      obtain ⟨i, rfl, i0⟩ := hd d List.mem_cons_self
      refine ⟨_, rfl, ?_⟩
      unfold lp_l_draws_1
      have m1 := mul_in (M := M') (i := num) (j := num) (by omega) (by omega)
      have m2 := mul_in (M := M') (i := 48271) (j := num) (by omega) (by omega)
      obtain ⟨nu, hnu⟩ : ∃ nu, nu = (num * num + 48271 * num + i) % 2147483647 := ⟨_, rfl⟩
      have b0 : 0 ≤ nu ∧ nu < 2147483647 := by rw [hnu]; omega
      have m3 := mul_in (M := M') (i := nu) (j := 69621) (by omega) (by omega)
      have m4 := mul_in (M := M') (i := 7) (j := i) (by omega) (by omega)
      obtain ⟨y, hy⟩ : ∃ y : Nat, (nu * 69621 + 7 * i) % 2147483629 = (y : Int) := ⟨((nu * 69621 + 7 * i) % 2147483629).toNat, by omega⟩
      have ap := mAppend_ok (y := .int (y : Nat)) h (by rw [List.length_map]; rw [List.length_cons] at hl; omega)
      have sq := seqAt_lst h
      have lt := lt_of_at h
      simp [-mMul_int, m1, m2, ← hnu, m3, m4, sq, hy, ap]
      refine SRet.next ⟨_, _, _, nu, xs ++ [y], rfl, k.setNew (Nat.le_refl _), ?_, ?_, b0.1, by omega, fun d hd' => hd d (List.mem_cons_of_mem _ hd')⟩
      · rw [List.getElem?_set_self lt]; simp
      · rw [List.length_append, List.length_singleton]; rw [List.length_cons] at hl; omega
    · rintro env M' ⟨e0, e1, e4, num, xs, rfl, k, h, hl, _⟩
      have sl : mSl (.ref M.length) (some 1) none M' = some (.ref M'.length, M' ++ [.lst ((xs.drop 1).map fun x => D.int (x : Nat))]) := by
        rw [show (1 : Int) = ((1 : Nat) : Int) from rfl, mSl_fr (seqAt_lst h) (by rw [List.length_map]; simp at hl; omega), List.map_drop]
      simp [-List.drop_one, sl]
      exact SRet.ret ⟨M'.length, xs.drop 1, rfl, k.1, k.trans (Keep.more _ _), by rw [← List.map_drop]; exact at_len _ _, by rw [List.length_drop]; simp at hl; omega⟩
structure Xs (M : Mem) (X : Nat) (xs : List Nat) : Prop where
  s : seqAt M X = some (xs.map fun x => D.int (x : Nat))
  l : xs.length = 34
theorem Xs.at_ {M : Mem} {X : Nat} {xs : List Nat} (h : Xs M X xs) {i : Nat} (hi : i < 34) : ∃ v : Nat, ∀ M', Keep M M' → mIdx (.ref X) (.int (i : Nat)) M' = some (.int (v : Nat), M') := by
  obtain ⟨v, hv⟩ : ∃ v, xs[i]? = some v := ⟨xs[i]'(by rw [h.l]; exact hi), List.getElem?_eq_getElem _⟩
  refine ⟨v, fun M' k => ?_⟩
  have := atI_nat (xs := xs.map fun x => D.int (x : Nat)) (j := i) (v := .int (v : Nat)) (by rw [List.getElem?_map, hv]; rfl)
  show (match seqAt M' X with | some xs => (atI xs (i : Int)).map fun d => (d, M') | none => none) = _
  rw [k.seq h.s]
  simp only [this]
  rfl
theorem Xs.keep {M M' : Mem} {X : Nat} {xs : List Nat} (h : Xs M X xs) (k : Keep M M') : Xs M' X xs := ⟨k.seq h.s, h.l⟩
theorem pick3 {a b c : Int} {i : Int} (h0 : 0 ≤ i) (h1 : i < 3) (P : Int → Prop) (pa : P a) (pb : P b) (pc : P c) : ∃ v, atI [D.int a, .int b, .int c] i = some (.int v) ∧ P v := by
  rcases (show i = 0 ∨ i = 1 ∨ i = 2 by omega) with rfl | rfl | rfl
  · exact ⟨a, by simp, pa⟩
  · exact ⟨b, by simp, pb⟩
  · exact ⟨c, by simp, pc⟩
/-- a number drawn below one of three -/
def e3 (ix : ME) (dv : ME → ME) (a b c : Int) : ME := (eBin mAdd (eC (.int 1)) (eBin mMod (eBin mIdx (eVar 0) ix) (eBin mIdx (eLst (aCons (eC (.int a)) (aCons (eC (.int b)) (aCons (eC (.int c)) aNil)))) (eBin mMod (dv (eBin mIdx (eVar 0) ix)) (eC (.int 3))))))
theorem e3_ok {ix : ME} {a b c : Int} {X i v : Nat} {env : TL.Env} {M : Mem} (h0 : env[0]? = some (some (.ref X))) (hi : ∀ M', ix env M' = .ok (.int (i : Nat)) M') (hv : ∀ M', Keep M M' → mIdx (.ref X) (.int (i : Nat)) M' = some (.int (v : Nat), M'))
    (ha : 1 ≤ a ∧ a ≤ 99) (hb : 1 ≤ b ∧ b ≤ 99) (hc : 1 ≤ c ∧ c ≤ 99) : ∃ r : Int, 1 ≤ r ∧ r ≤ 99 ∧ e3 ix (fun e => eBin mFdiv e (eC (.int 99))) a b c env M = .ok (.int r) (M ++ [.lst [.int a, .int b, .int c]]) := by
  obtain ⟨m, e1, g1, g2⟩ := pick3 (a := a) (b := b) (c := c) (i := (v : Int) / 99 % 3) (by omega) (by omega) (fun m => 1 ≤ m ∧ m ≤ 99) ha hb hc
  have v1 := hv M (Keep.refl _)
  have v2 := hv (M ++ [.lst [.int a, .int b, .int c]]) (Keep.more _ _)
  have sq : seqAt (M ++ [MO.lst [D.int a, .int b, .int c]]) M.length = some [.int a, .int b, .int c] := seqAt_lst (at_len _ _)
  have p0 : 0 < m := by omega
  have ix2 : mIdx (.ref M.length) (.int ((v : Int) / 99 % 3)) (M ++ [MO.lst [D.int a, .int b, .int c]]) = some (.int m, M ++ [MO.lst [D.int a, .int b, .int c]]) := by
    show (match seqAt (M ++ [MO.lst [D.int a, .int b, .int c]]) M.length with | some xs => (atI xs ((v : Int) / 99 % 3)).map fun d => (d, M ++ [MO.lst [D.int a, .int b, .int c]]) | none => none) = _
    rw [sq]; simp only [e1]; rfl
  refine ⟨1 + (v : Int) % m, ?_, ?_, ?_⟩
  · have := Int.emod_nonneg (v : Int) (show m ≠ 0 by omega); omega
  · have := Int.emod_lt_of_pos (v : Int) p0; omega
  · unfold e3
    simp [-mIdx_ref, h0, hi, v1, v2, ix2, p0]
def uLim (levels level at_ : Nat) : Prop := level ≤ levels ∧ levels ≤ 4 ∧ (levels = 4 → at_ + 1 = 2 ^ level) ∧ (levels ≤ 3 → at_ + 2 ≤ 2 ^ (level + 1))
def ubL (levels level : Nat) : Nat := if levels = 4 then 4 - level else 2 ^ (levels - level) - 1
theorem uLim.seven {levels level at_ : Nat} (h : uLim levels level at_) (hl : level < levels) : at_ ≤ 7 := by
  obtain ⟨h1, h2, h3, h4⟩ := h
  rcases (show levels = 4 ∨ levels ≤ 3 by omega) with c | c
  · have := h3 c
    have : level = 0 ∨ level = 1 ∨ level = 2 ∨ level = 3 := by omega
    rcases this with rfl | rfl | rfl | rfl <;> simp at * <;> omega
  · have := h4 c
    have : level = 0 ∨ level = 1 ∨ level = 2 := by omega
    rcases this with rfl | rfl | rfl <;> simp at * <;> omega
theorem uLim.next {levels level at_ : Nat} (h : uLim levels level at_) (hl : level < levels) : uLim levels (level + 1) (2 * at_ + 1) := by
  obtain ⟨h1, h2, h3, h4⟩ := h
  refine ⟨by omega, h2, fun c => ?_, fun c => ?_⟩
  · have := h3 c; rw [Nat.pow_succ]; omega
  · have := h4 c; rw [Nat.pow_succ]; omega
theorem uLim.nextL {levels level at_ : Nat} (h : uLim levels level at_) (hl : level < levels) (h3 : levels ≤ 3) : uLim levels (level + 1) (2 * at_ + 2) := by
  obtain ⟨h1, h2, _, h4⟩ := h
  refine ⟨by omega, h2, fun c => by omega, fun c => ?_⟩
  have := h4 c; rw [Nat.pow_succ]; omega
def UnitQ (levels level : Nat) (M : Mem) (d : D) (M' : Mem) : Prop := ∃ r : Rule, d = r.toD ∧ r.good ∧ r.depth ≤ levels - level ∧ r.units ≤ ubL levels level ∧ Keep M M'
theorem unit_ok {X : Nat} {xs : List Nat} : ∀ (n levels level at_ : Nat) (M : Mem), levels - level < n → uLim levels level at_ → Xs M X xs → Ret (m_l_unit n [.ref X, .int (at_ : Nat), .int (level : Nat), .int (levels : Nat)] M) (UnitQ levels level M)
  | 0, _, _, _, _, h, _, _ => by omega
  | n + 1, levels, level, at_, M, hn, lim, hx => by
    show Ret (endS (b_l_unit (m_l_unit n) [some (.ref X), some (.int (at_ : Nat)), some (.int (level : Nat)), some (.int (levels : Nat)), none, none, none, none] M)) _
    have eb : b_l_unit (m_l_unit n) = sSeq (sIf (tOr (TL.tB (eBin mEq (eVar 2) (eVar 3))) (tAnd (TL.tB (eBin mGt (eVar 1) (eC (.int 0)))) (TL.tB (eBin mEq (eBin mMod (eBin mIdx (eVar 0) (eBin mMul (eC (.int 4)) (eVar 1))) (eC (.int 7))) (eC (.int 0)))))) (sRet (eTup (aCons (eC (.str "point")) aNil))) sNil)
      (sSeq (sAsg (gOne 4) (e3 (eBin mAdd (eBin mMul (eC (.int 4)) (eVar 1)) (eC (.int 1))) (fun e => eBin mFdiv e (eC (.int 99))) 3 5 99))
      (sSeq (sAsg (gOne 5) (e3 (eBin mAdd (eBin mMul (eC (.int 4)) (eVar 1)) (eC (.int 2))) (fun e => eBin mFdiv e (eC (.int 99))) 2 3 99)) _)) := rfl
    rw [eb]
    have le := lim.1
    by_cases c0 : level = levels
    · subst c0
      simp
      exact TL.Ret.ok (P := UnitQ level level M) ⟨.point, rfl, trivial, Nat.zero_le _, Nat.zero_le _, Keep.refl _⟩
    · have c0' : ¬ ((level : Int) = (levels : Nat)) := by omega
      have a7 := lim.seven (by omega)
      have m4 : ∀ M', mMul (.int 4) (.int (at_ : Nat)) M' = some (.int (4 * (at_ : Int)), M') := fun M' => mul_in (by decide) (by decide)
      have m2 : ∀ M', mMul (.int 2) (.int (at_ : Nat)) M' = some (.int (2 * (at_ : Int)), M') := fun M' => mul_in (by decide) (by decide)
      obtain ⟨v0, h0⟩ := hx.at_ (i := 4 * at_) (by omega)
      have v0' : mIdx (.ref X) (.int (4 * (at_ : Int))) M = some (.int (v0 : Nat), M) := by have := h0 M (Keep.refl _); rwa [show ((4 * at_ : Nat) : Int) = 4 * (at_ : Int) from by omega] at this
      have isP : Ret (.ok (.tup [.str (Str.ofString "point")]) M) (UnitQ levels level M) := .ok ⟨.point, rfl, trivial, Nat.zero_le _, Nat.zero_le _, Keep.refl _⟩
      by_cases cP : 0 < at_ ∧ (v0 : Int) % 7 = 0
      · have cp1 : 0 < (at_ : Int) := by omega
        simp [-mIdx_ref, -mMul_int, c0', cp1, m4, v0', cP.1, cP.2]
        exact isP
      · have first : ∀ rest : MS, (sSeq (sIf (tOr (TL.tB (eBin mEq (eVar 2) (eVar 3))) (tAnd (TL.tB (eBin mGt (eVar 1) (eC (.int 0)))) (TL.tB (eBin mEq (eBin mMod (eBin mIdx (eVar 0) (eBin mMul (eC (.int 4)) (eVar 1))) (eC (.int 7))) (eC (.int 0)))))) (sRet (eTup (aCons (eC (.str "point")) aNil))) sNil) rest) [some (.ref X), some (.int (at_ : Nat)), some (.int (level : Nat)), some (.int (levels : Nat)), none, none, none, none] M = rest [some (.ref X), some (.int (at_ : Nat)), some (.int (level : Nat)), some (.int (levels : Nat)), none, none, none, none] M := by
          intro rest
          by_cases c1 : 0 < at_
          · have c1' : 0 < (at_ : Int) := by omega
            have c2 : ¬ ((v0 : Int) % 7 = 0) := fun e => cP ⟨c1, e⟩
            simp [-mIdx_ref, -mMul_int, c0', c1, c1', m4, v0', c2]
          · have c1' : ¬ 0 < (at_ : Int) := by omega
            simp [c0', c1, c1']
        rw [first]
        obtain ⟨v1, h1⟩ := hx.at_ (i := 4 * at_ + 1) (by omega)
        obtain ⟨to, t0, t1, et⟩ := e3_ok (ix := eBin mAdd (eBin mMul (eC (.int 4)) (eVar 1)) (eC (.int 1))) (a := 3) (b := 5) (c := 99) (env := [some (.ref X), some (.int (at_ : Nat)), some (.int (level : Nat)), some (.int (levels : Nat)), none, none, none, none]) (i := 4 * at_ + 1) (M := M) rfl (fun M' => by simp [-mMul_int, m4]) h1 (by decide) (by decide) (by decide)
        rw [asg_step et]
        have k1 := Keep.more M [MO.lst [.int 3, .int 5, .int 99]]
        have hx1 := hx.keep k1
        obtain ⟨v2, h2⟩ := hx1.at_ (i := 4 * at_ + 2) (by omega)
        generalize M ++ [MO.lst [.int 3, .int 5, .int 99]] = M1 at *
        obtain ⟨lead, l0, l1, el⟩ := e3_ok (ix := eBin mAdd (eBin mMul (eC (.int 4)) (eVar 1)) (eC (.int 2))) (a := 2) (b := 3) (c := 99) (env := [some (.ref X), some (.int (at_ : Nat)), some (.int (level : Nat)), some (.int (levels : Nat)), some (.int to), none, none, none]) (i := 4 * at_ + 2) (M := M1) rfl (fun M' => by simp [-mMul_int, m4]) h2 (by decide) (by decide) (by decide)
        have el' : e3 (eBin mAdd (eBin mMul (eC (.int 4)) (eVar 1)) (eC (.int 2))) (fun e => eBin mFdiv e (eC (.int 99))) 2 3 99 ([some (.ref X), some (.int (at_ : Nat)), some (.int (level : Nat)), some (.int (levels : Nat)), none, none, none, none].set 4 (some (.int to))) M1 = .ok (.int lead) (M1 ++ [.lst [.int 2, .int 3, .int 99]]) := el
        rw [asg_step el']
        have k2 := k1.trans (Keep.more M1 [MO.lst [.int 2, .int 3, .int 99]])
        have hx2 := hx.keep k2
        generalize M1 ++ [MO.lst [.int 2, .int 3, .int 99]] = M2 at *
        obtain ⟨v3, h3⟩ := hx2.at_ (i := 4 * at_ + 3) (by omega)
        have v3' : mIdx (.ref X) (.int (4 * (at_ : Int) + 3)) M2 = some (.int (v3 : Nat), M2) := by have := h3 M2 (Keep.refl _); rwa [show ((4 * at_ + 3 : Nat) : Int) = 4 * (at_ : Int) + 3 from by omega] at this
        have lt : level < levels := by omega
        have c1 : ((2 * at_ + 1 : Nat) : Int) = 2 * (at_ : Int) + 1 := by omega
        have c2 : ((2 * at_ + 2 : Nat) : Int) = 2 * (at_ : Int) + 2 := by omega
        have c3 : ((level + 1 : Nat) : Int) = (level : Int) + 1 := by omega
        have inner : ∀ M', Keep M M' → Ret (m_l_unit n [.ref X, .int (2 * (at_ : Int) + 1), .int ((level : Int) + 1), .int (levels : Nat)] M') (UnitQ levels (level + 1) M') := by
          intro M' k'
          have := unit_ok n levels (level + 1) (2 * at_ + 1) M' (by omega) (lim.next lt) (hx.keep k')
          rwa [c1, c3] at this
        have done0 : ∀ (cap : Option Int) (inn : Rule) (M' : Mem), (∀ c, cap = some c → to ≤ c ∧ c ≤ 99) → inn.good → inn.depth ≤ levels - (level + 1) → inn.units ≤ ubL levels (level + 1) → Keep M M' → Ret (.ok (Rule.unit to lead cap inn).toD M') (UnitQ levels level M) := by
          intro cap inn M' hc hg hd hu k'
          refine .ok ⟨_, rfl, ⟨t0, t1, l0, l1, hc, hg⟩, by simp only [Rule.depth]; omega, ?_, k'⟩
          simp only [Rule.units, ubL] at hu ⊢
          split at hu
          · rename_i e; rw [if_pos e]; omega
          · rename_i e
            rw [if_neg e]
            have : 2 ^ (levels - level) = 2 * 2 ^ (levels - (level + 1)) := by rw [show levels - level = (levels - (level + 1)) + 1 from by omega, Nat.pow_succ]; omega
            have := Nat.one_le_two_pow (n := levels - (level + 1))
            omega
        have done1 : ∀ (cap : Int) (inn la : Rule) (M' : Mem), (to ≤ cap ∧ cap ≤ 99) → inn.good → la.good → inn.depth ≤ levels - (level + 1) → la.depth ≤ levels - (level + 1) → levels ≤ 3 → inn.units ≤ ubL levels (level + 1) → la.units ≤ ubL levels (level + 1) → Keep M M' → Ret (.ok (Rule.unitL to lead cap inn la).toD M') (UnitQ levels level M) := by
          intro cap inn la M' hc hg hg2 hd hd2 h3 hu hu2 k'
          refine .ok ⟨_, rfl, ⟨t0, t1, l0, l1, hc.1, hc.2, hg, hg2⟩, by simp only [Rule.depth]; omega, ?_, k'⟩
          have e : levels ≠ 4 := by omega
          simp only [Rule.units, ubL, if_neg e] at hu hu2 ⊢
          have : 2 ^ (levels - level) = 2 * 2 ^ (levels - (level + 1)) := by rw [show levels - level = (levels - (level + 1)) + 1 from by omega, Nat.pow_succ]; omega
          have := Nat.one_le_two_pow (n := levels - (level + 1))
          omega
        by_cases q1 : (v3 : Int) % 2 = 1
        · obtain ⟨cap, hcap⟩ : ∃ cap : Int, cap = (if to + (v3 : Int) / 2 % 4 < 99 then to + (v3 : Int) / 2 % 4 else 99) := ⟨_, rfl⟩
          have hc : to ≤ cap ∧ cap ≤ 99 := by rw [hcap]; split <;> omega
          by_cases q2 : (v3 : Int) / 8 % 2 = 1 ∧ (levels : Int) < 4
          · have l3 : levels ≤ 3 := by omega
            have lastR : Ret (m_l_unit n [.ref X, .int (2 * (at_ : Int) + 2), .int ((level : Int) + 1), .int (levels : Nat)] M2) (UnitQ levels (level + 1) M2) := by
              have := unit_ok n levels (level + 1) (2 * at_ + 2) M2 (by omega) (lim.nextL lt l3) hx2
              rwa [c2, c3] at this
            simp [-mIdx_ref, -mMul_int, m4, m2, v3', q1, q2.1, q2.2, ← hcap, l3]
            refine Ret.bindQ lastR ?_
            rintro _ M3 ⟨la, rfl, ga, da, ua, k3⟩
            simp [-mMul_int, m2]
            refine Ret.bindQ (inner M3 (k2.trans k3)) ?_
            rintro _ M4 ⟨inn, rfl, gi, di, ui, k4⟩
            simp
            exact done1 cap inn la M4 hc gi ga di da l3 ui ua ((k2.trans k3).trans k4)
          · have fin : Ret (m_l_unit n [.ref X, .int (2 * (at_ : Int) + 1), .int ((level : Int) + 1), .int (levels : Nat)] M2) (UnitQ levels (level + 1) M2) := inner M2 k2
            by_cases q3 : (v3 : Int) / 8 % 2 = 1
            · have q4 : ¬ (levels : Int) < 4 := fun e => q2 ⟨q3, e⟩
              have q5 : ¬ levels ≤ 3 := by omega
              have q6 : ¬ levels < 4 := by omega
              simp [-mIdx_ref, -mMul_int, m4, m2, v3', q1, q3, q4, q6, ← hcap]
              refine Ret.bindQ fin ?_
              rintro _ M4 ⟨inn, rfl, gi, di, ui, k4⟩
              simp
              exact done0 (some cap) inn M4 (fun c e => by cases e; exact hc) gi di ui (k2.trans k4)
            · simp [-mIdx_ref, -mMul_int, m4, m2, v3', q1, q3, ← hcap]
              refine Ret.bindQ fin ?_
              rintro _ M4 ⟨inn, rfl, gi, di, ui, k4⟩
              simp
              exact done0 (some cap) inn M4 (fun c e => by cases e; exact hc) gi di ui (k2.trans k4)
        · have fin : Ret (m_l_unit n [.ref X, .int (2 * (at_ : Int) + 1), .int ((level : Int) + 1), .int (levels : Nat)] M2) (UnitQ levels (level + 1) M2) := inner M2 k2
          simp [-mIdx_ref, -mMul_int, m4, m2, v3', q1]
          refine Ret.bindQ fin ?_
          rintro _ M4 ⟨inn, rfl, gi, di, ui, k4⟩
          simp
          exact done0 none inn M4 (fun c e => by cases e) gi di ui (k2.trans k4)
/-- the rule of a game by a cell -/
theorem rule_ok {X : Nat} {xs : List Nat} {M : Mem} (hx : Xs M X xs) {levels : Nat} (hl : levels ≤ 4) : Ret (m_l_unit 14 [.ref X, .int 0, .int 0, .int (levels : Nat)] M) (fun d M' => ∃ r : Rule, d = r.toD ∧ (r.good ∧ r.depth ≤ 4 ∧ r.units ≤ 7) ∧ Keep M M') := by
  refine (unit_ok 14 levels 0 0 M (by omega) ⟨Nat.zero_le _, hl, fun _ => rfl, fun _ => by decide⟩ hx).imp ?_
  rintro d M' ⟨r, e, g, dd, u, k⟩
  refine ⟨r, e, ⟨g, by omega, ?_⟩, k⟩
  unfold ubL at u
  split at u
  · omega
  · have : levels = 0 ∨ levels = 1 ∨ levels = 2 ∨ levels = 3 := by omega
    rcases this with rfl | rfl | rfl | rfl <;> simp at u <;> omega
end CE
end
section
set_option maxHeartbeats 4000000
namespace CE
open PySem PySem.Spec PyProof.Rows L2 TL
open RL RB TLQ RD CI
open CM hiding b_l_alike m_l_alike b_l_unit m_l_unit g_l_unit b_l_rule m_l_rule b_l_any_rule m_l_any_rule unit_ok rule_step rule_ok any_rule
open CG (Gm)
def nameLs : List (List Str) := [[Str.ofString "a", Str.ofString "ab", Str.ofString "abc", Str.ofString "abcd", Str.ofString "b"], [Str.ofString "z9", Str.ofString "z", Str.ofString "z90", Str.ofString "y", Str.ofString "zz"], [Str.ofString "t20", Str.ofString "d20", Str.ofString "t2", Str.ofString "d", Str.ofString "x0000000"]]
theorem names_good : ∀ ns ∈ nameLs, ns.length = 5 ∧ ns.Nodup ∧ ∀ x ∈ ns, nameB x = true := by decide +kernel
def ThsQ (M : Mem) (d : D) (M' : Mem) : Prop := ∃ ts : List Thr, d = .tup (ts.map Thr.toD) ∧ 1 ≤ ts.length ∧ ts.length ≤ 5 ∧ (ts.map (·.name)).Nodup ∧ (∀ t ∈ ts, nameB t.name = true ∧ 0 ≤ t.worth ∧ t.worth ≤ 1000000) ∧ Keep M M'
theorem rng_cons (lo : Int) (n : Nat) : rngItems lo (n + 1) = .int lo :: rngItems (lo + 1) n := by
  unfold rngItems
  rw [List.range_succ_eq_map]
  simp [List.map_map, Function.comp_def]
  intro a _
  omega
theorem idx_of {M : Mem} {n : Nat} {xs : List D} {i : Int} {v : D} (h : seqAt M n = some xs) (e : atI xs i = some v) : mIdx (.ref n) (.int i) M = some (v, M) := by
  show (match seqAt M n with | some xs => (atI xs i).map fun d => (d, M) | none => none) = _
  rw [h]; simp only [e]; rfl
structure ThB (t : Thr) : Prop where
  nm : nameB t.name = true
  w0 : 0 ≤ t.worth
  w1 : t.worth ≤ 1000000
def ThInv (M : Mem) (X S NM T : Nat) (ns : List Str) (many : Nat) : List D → TL.Env → Mem → Prop := fun ds env M' => ∃ (e4 : Option D) (ts : List Thr) (left : Nat), env = [some (.ref X), some (.ref S), some (.ref NM), some (.ref T), e4] ∧ ds = rngItems (ts.length : Nat) left ∧ ts.length + left = many ∧ Keep M M' ∧ M'[T]? = some (.lst (ts.map Thr.toD)) ∧ seqAt M' NM = some (ns.map D.str) ∧ ts.map (·.name) = ns.take ts.length ∧ ∀ t ∈ ts, ThB t
theorem throw_step {M : Mem} {X S NM T many : Nat} {xs : List Nat} {ns : List Str} (hx : Xs M X xs) (hT : M.length ≤ T) (hNM : NM ≠ T) (hm : many ≤ 5) (hn : ns.length = 5 ∧ ns.Nodup ∧ ∀ x ∈ ns, nameB x = true) {d : D} {ds : List D} {env : TL.Env} {M' : Mem} (h : ThInv M X S NM T ns many (d :: ds) env M') :
    ∃ env1, gOne 4 d env = some env1 ∧ SRet (lp_l_throws_0 env1 M') (ThInv M X S NM T ns many ds) (fun _ _ => False) := by
  obtain ⟨e4, ts, left, rfl, hds, hl, k, hT', hN, hnm, hts⟩ := h
  cases left with
  | zero => cases hds
  | succ left =>
    rw [rng_cons] at hds
    cases hds
    refine ⟨_, rfl, ?_⟩
    unfold lp_l_throws_0
    have l5 : ts.length < 5 := by omega
    obtain ⟨v1, h1⟩ := hx.at_ (i := 3 + 2 * ts.length) (by omega)
    obtain ⟨v2, h2⟩ := hx.at_ (i := 4 + 2 * ts.length) (by omega)
    have K2 := Keep.more M' [MO.lst [.int 4, .int 21, .int 1000001]]
    have c1 : ((3 + 2 * ts.length : Nat) : Int) = 3 + 2 * (ts.length : Int) := by omega
    have c2 : ((4 + 2 * ts.length : Nat) : Int) = 4 + 2 * (ts.length : Int) := by omega
    have x1 := h1 M' k
    have x2 := h2 _ (k.trans K2)
    rw [c1] at x1
    rw [c2] at x2
    obtain ⟨m, e1, g1, g2⟩ := pick3 (a := 4) (b := 21) (c := 1000001) (i := (v2 : Int) / 2 % 3) (by omega) (by omega) (fun m => 1 ≤ m ∧ m ≤ 1000001) (by decide) (by decide) (by decide)
    have p3 := idx_of (seqAt_lst (at_len M' (.lst [.int 4, .int 21, .int 1000001]))) e1
    have gm : 0 < m := by omega
    have n1 : mIdx (.ref NM) (.int (ts.length : Nat)) M' = some (.str (ns[ts.length]'(by omega)), M') := idx_of hN (atI_nat (by rw [List.getElem?_map, List.getElem?_eq_getElem (by omega)]; rfl))
    have nmB : nameB (ns[ts.length]'(by omega)) = true := hn.2.2 _ (List.getElem_mem _)
    have tk : ns.take (ts.length + 1) = ns.take ts.length ++ [ns[ts.length]'(by omega)] := by rw [List.take_succ, List.getElem?_eq_getElem (by omega)]; rfl
    generalize ns[ts.length]'(by omega) = nm at *
    have m2 : ∀ M', mMul (.int 2) (.int (ts.length : Nat)) M' = some (.int (2 * (ts.length : Int)), M') := fun M' => mul_in (by decide) (by decide)
    have ap := mAppend_ok (y := .tup [.str nm, .int ((v1 : Int) % m), .bl (decide ((v2 : Int) % 2 = 1))]) (K2.at hT') (by rw [List.length_map]; omega)
    have sT := seqAt_lst hT'
    have lt := lt_of_at (K2.at hT')
    simp [-mIdx_ref, -mMul_int, sT, n1, x1, m2, x2, p3, gm, ap]
    refine SRet.next ⟨_, ts ++ [⟨nm, (v1 : Int) % m, decide ((v2 : Int) % 2 = 1)⟩], left, rfl, ?_, by simp; omega, (k.trans K2).setNew hT, ?_, ?_, ?_, ?_⟩
    · simp
    · rw [List.getElem?_set_self lt]; simp [Thr.toD]
    · have := K2.seq hN
      unfold seqAt at this ⊢
      rw [List.getElem?_set_ne (Ne.symm hNM)]
      exact this
    · rw [List.length_append, List.length_singleton, tk, List.map_append, hnm]; rfl
    · intro t ht
      rcases List.mem_append.mp ht with ht | ht
      · exact hts t ht
      · cases List.mem_singleton.mp ht
        have := Int.emod_nonneg (v1 : Int) (show m ≠ 0 by omega)
        have := Int.emod_lt_of_pos (v1 : Int) gm
        exact ⟨nmB, by show 0 ≤ (v1 : Int) % m; omega, by show (v1 : Int) % m ≤ 1000000; omega⟩
theorem throws_ok {X : Nat} {xs : List Nat} {M : Mem} (hx : Xs M X xs) : Ret (m_l_throws [.ref X] M) (ThsQ M) := by
  show Ret (endS (b_l_throws [some (.ref X), none, none, none, none] M)) _
  unfold b_l_throws
  obtain ⟨v1, h1⟩ := hx.at_ (i := 1) (by omega)
  obtain ⟨v2, h2⟩ := hx.at_ (i := 2) (by omega)
  obtain ⟨j, hj, hj3⟩ : ∃ j : Nat, (v1 : Int) % 3 = (j : Int) ∧ j < 3 := ⟨v1 % 3, by omega, by omega⟩
  obtain ⟨many, hmany, hm0, hm1⟩ : ∃ many : Nat, (1 + (v2 : Int) % 5) = (many : Int) ∧ 1 ≤ many ∧ many ≤ 5 := ⟨1 + v2 % 5, by omega, by omega, by omega⟩
  obtain ⟨G, hG⟩ : ∃ G : Mem, G = [.lst ([Str.ofString "a", Str.ofString "ab", Str.ofString "abc", Str.ofString "abcd", Str.ofString "b"].map D.str), .lst ([Str.ofString "z9", Str.ofString "z", Str.ofString "z90", Str.ofString "y", Str.ofString "zz"].map D.str), .lst ([Str.ofString "t20", Str.ofString "d20", Str.ofString "t2", Str.ofString "d", Str.ofString "x0000000"].map D.str), .lst [.ref M.length, .ref (M.length + 1), .ref (M.length + 2)]] := ⟨_, rfl⟩
  have hG' := hG
  simp only [List.map_cons, List.map_nil] at hG'
  have KG := Keep.more M G
  have x1 : mIdx (.ref X) (.int 1) (M ++ G) = some (.int (v1 : Nat), M ++ G) := h1 _ KG
  have s3 : seqAt (M ++ G) (M.length + 3) = some [.ref M.length, .ref (M.length + 1), .ref (M.length + 2)] := seqAt_lst (by rw [at_newK, hG]; rfl)
  have p3 : mIdx (.ref (M.length + 3)) (.int (j : Nat)) (M ++ G) = some (.ref (M.length + j), M ++ G) := idx_of s3 (atI_nat (by
    match j, hj3 with
    | 0, _ => rfl
    | 1, _ => rfl
    | 2, _ => rfl))
  obtain ⟨ns, hns, hnl⟩ : ∃ ns, ns ∈ nameLs ∧ seqAt (M ++ G ++ [.lst []]) (M.length + j) = some (ns.map D.str) := by
    have kk := Keep.more (M ++ G) [MO.lst []]
    match j, hj3 with
    | 0, _ => exact ⟨_, by simp [nameLs], kk.seq (seqAt_lst (xs := [Str.ofString "a", Str.ofString "ab", Str.ofString "abc", Str.ofString "abcd", Str.ofString "b"].map D.str) (by rw [at_newK, hG]; rfl))⟩
    | 1, _ => exact ⟨_, by simp [nameLs], kk.seq (seqAt_lst (xs := [Str.ofString "z9", Str.ofString "z", Str.ofString "z90", Str.ofString "y", Str.ofString "zz"].map D.str) (by rw [at_newK, hG]; rfl))⟩
    | 2, _ => exact ⟨_, by simp [nameLs], kk.seq (seqAt_lst (xs := [Str.ofString "t20", Str.ofString "d20", Str.ofString "t2", Str.ofString "d", Str.ofString "x0000000"].map D.str) (by rw [at_newK, hG]; rfl))⟩
  have x2 : mIdx (.ref X) (.int 2) (M ++ G ++ [.lst []]) = some (.int (v2 : Nat), M ++ G ++ [.lst []]) := h2 _ (KG.trans (Keep.more _ _))
  have lG : (M ++ G).length = M.length + 4 := by rw [hG]; simp
  have ro : RngOk (many : Int) := rngOk_nat (by omega)
  have hT0 := at_len (M ++ G) (.lst [])
  rw [lG] at hT0
  have KT : Keep M (M ++ G ++ [.lst []]) := KG.trans (Keep.more _ _)
  have lS : (M ++ G).length = M.length + G.length := List.length_append
  have lG4 : G.length = 4 := by rw [hG]; rfl
  rw [List.append_assoc] at x2 hnl hT0 KT
  have lp := SRet.for_ (g := gOne 4) (good := fun _ => True) (R := fun _ _ => False) (ThInv M X (M.length + 3) (M.length + j) (M.length + 4) ns many) (b := lp_l_throws_0) (ds := rngItems 0 many) (env := [some (.ref X), some (.ref (M.length + 3)), some (.ref (M.length + j)), some (.ref (M.length + 4)), none]) (M := M ++ (G ++ [.lst []]))
    (N := fun env M' => ∃ (e4 : Option D) (ts : List Thr), env = [some (.ref X), some (.ref (M.length + 3)), some (.ref (M.length + j)), some (.ref (M.length + 4)), e4] ∧ Keep M M' ∧ M'[M.length + 4]? = some (.lst (ts.map Thr.toD)) ∧ ts.length = many ∧ ts.map (·.name) = ns.take ts.length ∧ ∀ t ∈ ts, ThB t)
    ⟨none, [], many, rfl, rfl, by simp, KT, hT0, hnl, by simp, fun t ht => by cases ht⟩ (fun _ _ _ _ => trivial) (fun d ds env M' h => throw_step hx (by omega) (by omega) hm1 (names_good ns hns) h) (fun env M' h => by
      obtain ⟨e4, ts, left, rfl, hds, hl, k, hT', hN, hnm, hts⟩ := h
      cases left with
      | succ left => rw [rng_cons] at hds; cases hds
      | zero => exact ⟨e4, ts, rfl, k, hT', by omega, hnm, hts⟩)
  simp [-mIdx_ref, ← hG', x1, hj, p3, lG4, x2, hmany, ro]
  refine Ret.endS (SRet.nextQ (SRet.imp lp ?_ (fun _ _ z => z.elim)))
  rintro env M2 ⟨e4, ts, rfl, k2, h2', hl, hnm, hts⟩
  have nt : nTuple [.ref (M.length + 4)] M2 = some (.tup (ts.map Thr.toD), M2) := by
    show (seqAt M2 (M.length + 4)).map _ = _
    rw [seqAt_lst h2']; rfl
  simp [nt]
  refine ⟨ts, rfl, by omega, by omega, ?_, fun t ht => ⟨(hts t ht).nm, (hts t ht).w0, (hts t ht).w1⟩, k2⟩
  rw [hnm]
  exact ((names_good ns hns).2.1).sublist (List.take_sublist _ _)
/-- a number drawn below one of three, by another number -/
def g3 (i j a b c : Int) : ME := (eBin mAdd (eC (.int 1)) (eBin mMod (eBin mIdx (eVar 1) (eC (.int i))) (eBin mIdx (eLst (aCons (eC (.int a)) (aCons (eC (.int b)) (aCons (eC (.int c)) aNil)))) (eBin mMod (eBin mIdx (eVar 1) (eC (.int j))) (eC (.int 3))))))
theorem g3_ok {a b c m : Int} {X i j v w : Nat} {env : TL.Env} {M : Mem} (h0 : env[1]? = some (some (.ref X))) (hv : ∀ M', Keep M M' → mIdx (.ref X) (.int (i : Nat)) M' = some (.int (v : Nat), M')) (hw : ∀ M', Keep M M' → mIdx (.ref X) (.int (j : Nat)) M' = some (.int (w : Nat), M'))
    (ha : 1 ≤ a ∧ a ≤ m) (hb : 1 ≤ b ∧ b ≤ m) (hc : 1 ≤ c ∧ c ≤ m) : ∃ r : Int, 1 ≤ r ∧ r ≤ m ∧ g3 i j a b c env M = .ok (.int r) (M ++ [.lst [.int a, .int b, .int c]]) := by
  obtain ⟨q, e1, g1, g2⟩ := pick3 (a := a) (b := b) (c := c) (i := (w : Int) % 3) (by omega) (by omega) (fun q => 1 ≤ q ∧ q ≤ m) ha hb hc
  have v1 := hv M (Keep.refl _)
  have w2 := hw (M ++ [.lst [.int a, .int b, .int c]]) (Keep.more _ _)
  have ix2 := idx_of (seqAt_lst (at_len M (.lst [D.int a, .int b, .int c]))) e1
  have p0 : 0 < q := by omega
  refine ⟨1 + (v : Int) % q, ?_, ?_, ?_⟩
  · have := Int.emod_nonneg (v : Int) (show q ≠ 0 by omega); omega
  · have := Int.emod_lt_of_pos (v : Int) p0; omega
  · unfold g3
    simp [-mIdx_ref, h0, v1, w2, ix2, p0]
def GameQ (M : Mem) (d : D) (M' : Mem) : Prop := ∃ g : Gm, d = g.toD ∧ Gd g ∧ Keep M M'
theorem game_ok {cell : Int} (M : Mem) : Ret (m_l_game [.int cell] M) (GameQ M) := by
  show Ret (endS (b_l_game [some (.int cell), none, none] M)) _
  have eb : b_l_game = sSeq (sAsg (gOne 1) (eCall m_l_draws (aCons (eVar 0) (aCons (eC (.int 34)) aNil))))
    (sSeq (sIf (TL.tB (eBin mEq (eBin mMod (eBin mIdx (eVar 1) (eC (.int 33))) (eC (.int 3))) (eC (.int 0)))) (sRet (eTup (aCons (eC (.str (Str.ofString "rally"))) (aCons (eCall (m_l_unit 14) (aCons (eVar 1) (aCons (eC (.int 0)) (aCons (eC (.int 0)) (aCons (eBin mMod (eBin mIdx (eVar 1) (eC (.int 32))) (eC (.int 5))) aNil))))) aNil)))) sNil)
    (sSeq (sIf (TL.tB (eBin mEq (eBin mMod (eBin mIdx (eVar 1) (eC (.int 33))) (eC (.int 3))) (eC (.int 1)))) (sSeq (sAsg (gOne 2) (g3 11 13 9 60 1000000))
    (sRet (eTup (aCons (eC (.str (Str.ofString "down"))) (aCons (eTup (aCons (eBin mAdd (eC (.int 1)) (eBin mMod (eBin mIdx (eVar 1) (eC (.int 0))) (eC (.int 3)))) (aCons (eVar 2) (aCons (eBin mAdd (eC (.int 1)) (eBin mMod (eBin mIdx (eVar 1) (eC (.int 12))) (eC (.int 3)))) (aCons (eCall m_l_throws (aCons (eVar 1) aNil)) aNil))))) aNil))))) sNil)
    (sRet (eTup (aCons (eC (.str (Str.ofString "lane"))) (aCons (eTup (aCons (eBin mAdd (eC (.int 1)) (eBin mMod (eBin mIdx (eVar 1) (eC (.int 0))) (eC (.int 3)))) (aCons (g3 1 3 3 10 20) (aCons (g3 2 4 2 3 12) aNil)))) aNil)))))) := rfl
  rw [eb]
  obtain ⟨_, M1, e1, n, xs, rfl, hn, k1, h1, hl⟩ := draws_ok (c := cell) (many := 34) (by decide) M
  have e1' : m_l_draws [.int cell, .int 34] M = .ok (.ref n) M1 := e1
  have hx : Xs M1 n xs := ⟨seqAt_lst h1, hl⟩
  have fx : ∀ i : Nat, i < 34 → ∃ v : Nat, ∀ M', Keep M1 M' → mIdx (.ref n) (.int (i : Nat)) M' = some (.int (v : Nat), M') := fun i hi => hx.at_ hi
  obtain ⟨v33, h33⟩ := fx 33 (by decide)
  have x33 : mIdx (.ref n) (.int 33) M1 = some (.int (v33 : Nat), M1) := h33 M1 (Keep.refl _)
  have hr : (v33 : Int) % 3 = 0 ∨ (v33 : Int) % 3 = 1 ∨ (v33 : Int) % 3 = 2 := by omega
  obtain ⟨v0, h0⟩ := fx 0 (by decide)
  rcases hr with hr | hr | hr
  · obtain ⟨v32, h32⟩ := fx 32 (by decide)
    have x32 : mIdx (.ref n) (.int 32) M1 = some (.int (v32 : Nat), M1) := h32 M1 (Keep.refl _)
    obtain ⟨lv, hlv, hl4⟩ : ∃ lv : Nat, (v32 : Int) % 5 = (lv : Int) ∧ lv ≤ 4 := ⟨v32 % 5, by omega, by omega⟩
    simp [-mIdx_ref, e1', x33, hr, x32, hlv]
    refine Ret.bindQ (rule_ok hx hl4) ?_
    rintro _ M2 ⟨r, rfl, g, k2⟩
    exact .ok ⟨.rally r, rfl, g, k1.trans k2⟩
  · obtain ⟨v11, h11⟩ := fx 11 (by decide)
    obtain ⟨v13, h13⟩ := fx 13 (by decide)
    obtain ⟨v12, h12⟩ := fx 12 (by decide)
    obtain ⟨bg, b0, b1, eg⟩ := g3_ok (a := 9) (b := 60) (c := 1000000) (m := 1000000) (env := [some (.int cell), some (.ref n), none]) (M := M1) rfl h11 h13 (by decide) (by decide) (by decide)
    have eg' : g3 11 13 9 60 1000000 [some (.int cell), some (.ref n), none] M1 = .ok (.int bg) (M1 ++ [.lst [.int 9, .int 60, .int 1000000]]) := eg
    have K2 := Keep.more M1 [MO.lst [.int 9, .int 60, .int 1000000]]
    have x0 : mIdx (.ref n) (.int 0) (M1 ++ [MO.lst [.int 9, .int 60, .int 1000000]]) = some (.int (v0 : Nat), _) := h0 _ K2
    have x12 : mIdx (.ref n) (.int 12) (M1 ++ [MO.lst [.int 9, .int 60, .int 1000000]]) = some (.int (v12 : Nat), _) := h12 _ K2
    have th := throws_ok (hx.keep K2)
    generalize M1 ++ [MO.lst [.int 9, .int 60, .int 1000000]] = M2 at *
    generalize g3 11 13 9 60 1000000 = G at *
    simp [-mIdx_ref, e1', x33, hr, eg', x0, x12]
    refine Ret.bindQ th ?_
    rintro _ M3 ⟨ts, rfl, t0, t1, nd, good, k3⟩
    obtain ⟨a, ha, a0, a1⟩ : ∃ a : Nat, 1 + (v0 : Int) % 3 = (a : Int) ∧ 1 ≤ a ∧ a ≤ 3 := ⟨1 + v0 % 3, by omega, by omega, by omega⟩
    obtain ⟨c, hc, c0, c1⟩ : ∃ c : Nat, 1 + (v12 : Int) % 3 = (c : Int) ∧ 1 ≤ c ∧ c ≤ 3 := ⟨1 + v12 % 3, by omega, by omega, by omega⟩
    rw [ha, hc]
    refine .ok ⟨.down ⟨a, bg, c, ts⟩, rfl, ?_, (k1.trans K2).trans k3⟩
    exact ⟨a0, a1, b0, b1, c0, c1, t0, Nat.le_trans t1 (by decide), ⟨nd, fun t ht => (good t ht).1, fun t ht => ⟨(good t ht).2.1, (good t ht).2.2⟩⟩⟩
  · obtain ⟨v1, h1'⟩ := fx 1 (by decide)
    obtain ⟨v2, h2⟩ := fx 2 (by decide)
    obtain ⟨v3, h3⟩ := fx 3 (by decide)
    obtain ⟨v4, h4⟩ := fx 4 (by decide)
    obtain ⟨p, p0, p1, eg⟩ := g3_ok (a := 3) (b := 10) (c := 20) (m := 20) (env := [some (.int cell), some (.ref n), none]) (M := M1) rfl h1' h3 (by decide) (by decide) (by decide)
    have eg' : g3 1 3 3 10 20 [some (.int cell), some (.ref n), none] M1 = .ok (.int p) (M1 ++ [.lst [.int 3, .int 10, .int 20]]) := eg
    have K2 := Keep.more M1 [MO.lst [.int 3, .int 10, .int 20]]
    have x0 : mIdx (.ref n) (.int 0) M1 = some (.int (v0 : Nat), M1) := h0 _ (Keep.refl _)
    generalize M1 ++ [MO.lst [.int 3, .int 10, .int 20]] = M2 at *
    obtain ⟨f, f0, f1, ef⟩ := g3_ok (a := 2) (b := 3) (c := 12) (m := 12) (env := [some (.int cell), some (.ref n), none]) (M := M2) rfl (fun M' k => h2 M' (K2.trans k)) (fun M' k => h4 M' (K2.trans k)) (by decide) (by decide) (by decide)
    have ef' : g3 2 4 2 3 12 [some (.int cell), some (.ref n), none] M2 = .ok (.int f) (M2 ++ [.lst [.int 2, .int 3, .int 12]]) := ef
    have K3 := Keep.more M2 [MO.lst [.int 2, .int 3, .int 12]]
    generalize M2 ++ [MO.lst [.int 2, .int 3, .int 12]] = M3 at *
    generalize g3 1 3 3 10 20 = G1 at *
    generalize g3 2 4 2 3 12 = G2 at *
    simp [-mIdx_ref, e1', x33, hr, x0, eg', ef']
    obtain ⟨a, ha, a0, a1⟩ : ∃ a : Nat, 1 + (v0 : Int) % 3 = (a : Int) ∧ 1 ≤ a ∧ a ≤ 3 := ⟨1 + v0 % 3, by omega, by omega, by omega⟩
    obtain ⟨f', hf⟩ : ∃ k : Nat, f = (k : Int) := ⟨f.toNat, by omega⟩
    subst hf
    rw [ha]
    exact .ok ⟨.lane a p f', rfl, ⟨a0, a1, p0, p1, by omega, by omega⟩, (k1.trans K2).trans K3⟩
end CE
end
section
set_option maxHeartbeats 4000000
namespace CP
open PySem PySem.Spec PyProof.Rows L2 TL
open RL RB TLQ RD CI CG
open CM hiding b_l_alike m_l_alike b_l_unit m_l_unit g_l_unit b_l_rule m_l_rule b_l_any_rule m_l_any_rule unit_ok rule_step rule_ok any_rule
abbrev Won := Option (List Int)
/-- what a rally tells -/
def rWon (q : Stand × Bool) (b : Bool) : Won := if q.2 = true then some [if b then 1 else 0] else none
theorem rally_next {r : Rule} {s : Stand} {B : Int} (hB : 0 ≤ B) (hB1 : B < 1000000) (hd : r.depth ≤ 4) (ho : Open r s) (hs : SB B s) (b : Bool) :
    RGo r (B + 1) (ralliedR r s b).1 (rWon (ralliedR r s b) b) ∧ ∀ M, Ret (m_rally_played [r.toD, s.toD, sideD b] M) (TL.Gives M (.tup [(ralliedR r s b).1.toD, wonD (rWon (ralliedR r s b) b)])) := by
  have sb := sb_rallied (r := r) (side := b) hB hs
  have sm := SB.sm (by omega) sb
  refine ⟨?_, fun M => ?_⟩
  · cases hw : (ralliedR r s b).2 with
    | true =>
      obtain ⟨f, p, d1⟩ := won_shape (side := b) ho hw
      refine ⟨⟨hd, f, p, sm, fun bs e => ?_, fun _ => d1⟩, sb, fun e => ?_⟩
      · simp only [rWon, hw, if_true] at e
        cases e
        exact ⟨by simp, fun i hi => by
          cases List.mem_singleton.mp hi
          cases b <;> exact smI_of (B := 1) (by decide) (by decide) (by decide)⟩
      · simp [rWon, hw] at e
    | false =>
      have op := open_rallied (side := b) ho hw
      exact ⟨⟨hd, Open.fits op, CG.open_nil op, sm, fun bs e => (by simp [rWon, hw] at e), fun e => (by simp [rWon, hw] at e)⟩, sb, fun _ => op⟩
  · obtain ⟨M1, e1, k1⟩ := rallied_ok 14 r s b M (by omega) (by omega) ho
    show Ret (endS (b_rally_played [some r.toD, some s.toD, some (sideD b), none, none] M)) _
    unfold b_rally_played
    have hb : ∀ M, m_is_between [sideD b, .int 0, .int 1] M = .ok (.bl true) M := fun M => by
      unfold sideD
      rw [between_ok]
      cases b <;> rfl
    unfold rWon
    generalize ralliedR r s b = q at *
    cases hw : q.2 with
    | true =>
      rw [hw] at e1
      simp [hb, e1]
      exact TL.Ret.ok (P := TL.Gives M _) ⟨by simp [wonD, sideD], k1⟩
    | false =>
      rw [hw] at e1
      simp [hb, e1]
      exact TL.Ret.ok (P := TL.Gives M _) ⟨by simp [wonD], k1⟩
theorem down_next {w : Down} (h : DownOk w) {s : DSt} (g : DGo w s none) {t : Thr} (ht : t ∈ w.throws) :
    ∃ s' won', DGo w s' won' ∧ ∀ M, Ret (m_played [.tup [.str (Str.ofString "down"), w.toD], .tup [s.toD, wonD none], .str t.name] M) (TL.Gives M (.tup [s'.toD, wonD won'])) := by
  obtain ⟨u, hu⟩ : ∃ u, w.throws.find? (isName (.str t.name)) = some u := by
    cases q : w.throws.find? (isName (.str t.name)) with
    | some u => exact ⟨u, rfl⟩
    | none => exact absurd (List.find?_eq_none.mp q t ht) (by simp [isName])
  have hum := List.mem_of_find?_eq_some hu
  have e1 := fun M => down_thrown_ok h (g.o rfl) (x := .str t.name) (M := M) (.inl ⟨_, rfl⟩)
  simp only [hu] at e1
  have s3 := h.s1
  have ss := (g.o rfl).side
  have db := db_thrown (w := w) (t := u) g.b (h.good.w0 u hum).1
  have tl := thrown_len (w := w) (s := s) (t := u)
  have ok := fun hw => thrownS_ok h (g.o rfl) u hw
  have sid : (thrownS w s u).2 = true → (thrownS w s u).1.side = s.side := by
    unfold thrownS
    simp only
    split
    · exact fun _ => rfl
    · split
      · exact fun h => by cases h
      · split <;> exact fun h => by cases h
  generalize thrownS w s u = q at *
  have pl : ∀ y M, m_down_played [w.toD, s.toD, .str t.name] M = .ok y M → Ret (m_played [.tup [.str (Str.ofString "down"), w.toD], .tup [s.toD, wonD none], .str t.name] M) (TL.Gives M y) := fun y M hy => by
    show Ret (endS (b_played [some (.tup [.str (Str.ofString "down"), w.toD]), some (.tup [s.toD, wonD none]), some (.str t.name)] M)) _
    unfold b_played
    simp [wonD, hy]
    exact TL.Ret.ok (P := TL.Gives M _) ⟨rfl, Keep.refl _⟩
  cases hw : q.2 with
  | true =>
    refine ⟨q.1, some [(s.side : Int)], ⟨by rw [tl]; exact g.l, db, fun bs e => (by
      cases e
      exact ⟨by simp, fun i hi => by
        cases List.mem_singleton.mp hi
        exact smI_of (B := 100) (by decide) (by omega) (by omega)⟩), fun e => (by cases e)⟩, fun M => pl _ M ?_⟩
    show endS (b_down_played [some w.toD, some s.toD, some (.str t.name), none, none] M) = _
    unfold b_down_played
    have e1 := e1 M
    rw [hw] at e1
    have e2 : mIdx q.1.toD (.int 1) M = some (.int (q.1.side : Nat), M) := rfl
    rw [sid hw] at e2
    simp [e1, e2, wonD]
  | false =>
    refine ⟨q.1, none, ⟨by rw [tl]; exact g.l, db, fun bs e => (by cases e), fun _ => ok hw⟩, fun M => pl _ M ?_⟩
    show endS (b_down_played [some w.toD, some s.toD, some (.str t.name), none, none] M) = _
    unfold b_down_played
    have e1 := e1 M
    rw [hw] at e1
    simp [e1, wonD]
theorem lane_next {k : Nat} {P : Int} {n : Nat} (h : Lane k P n) {B : Int} {rows : List LRow} {side : Nat} (g : LGo k P B rows side none) {p : Int} (h0 : 0 ≤ p) (hp : p ≤ (rows[side]'(by rw [g.l]; exact g.s)).up) :
    ∃ rows' side' won', LGo k P (B + 100) rows' side' won' ∧ ∀ M, Ret (m_played [.tup [.str (Str.ofString "lane"), laneD k P n], .tup [standD rows side, wonD none], .int p] M) (TL.Gives M (.tup [standD rows' side', wonD won'])) := by
  have hs : side < rows.length := by rw [g.l]; exact g.s
  have k1 := h.k1
  have hup := g.u _ (List.getElem_mem hs)
  have p1 := h.p1
  have hu2 := hup.2
  have e1 := fun M => bowled_ok h g.l g.s h0 hp (by omega) M
  have hrow := step_row (P := P) (n := n) (p := p) (g.b _ (List.getElem_mem hs)) h0 (by omega)
  have hupn := step_up (n := n) h.p0 hup h0 hp
  generalize stepR P n rows[side] p = q at *
  obtain ⟨rows', hr'⟩ : ∃ z, z = rows.set side q.1 := ⟨_, rfl⟩
  obtain ⟨side', hs'⟩ : ∃ z : Nat, z = (if q.2 then (side + 1) % k else side) := ⟨_, rfl⟩
  rw [← hr', ← hs'] at e1
  have gl : rows'.length = k := by rw [hr', List.length_set]; exact g.l
  have gs : side' < k := by
    rw [hs']
    split
    · exact Nat.mod_lt _ (by have := h.k0; omega)
    · exact g.s
  have gu : ∀ r ∈ rows', UpOk P r := by rw [hr']; exact set_mem g.u hupn
  have gb : ∀ r ∈ rows', RowB (B + 100) r := by rw [hr']; exact set_mem (fun r hr => (g.b r hr).le (by omega)) hrow
  have pl : ∀ y M, Ret (m_lane_played [laneD k P n, standD rows side, .int p] M) (TL.Gives M y) → Ret (m_played [.tup [.str (Str.ofString "lane"), laneD k P n], .tup [standD rows side, wonD none], .int p] M) (TL.Gives M y) := fun y M hy => by
    obtain ⟨M9, e9, k9⟩ := gives_of hy
    show Ret (endS (b_played [some (.tup [.str (Str.ofString "lane"), laneD k P n]), some (.tup [standD rows side, wonD none]), some (.int p)] M)) _
    unfold b_played
    simp [wonD, e9]
    exact TL.Ret.ok (P := TL.Gives M _) ⟨rfl, k9⟩
  cases ho : overR n rows' with
  | true =>
    rw [ho] at e1
    obtain ⟨bs, eb, wb⟩ := best_won (ts := rows'.map LRow.total) (by rw [List.length_map]; omega)
    refine ⟨rows', side', some bs, ⟨gl, gs, gu, gb, wb⟩, fun M => pl _ M ?_⟩
    obtain ⟨M1, e1, kk1⟩ := gives_of (e1 M)
    obtain ⟨M2, e2, k2⟩ := best_of_ok (rows := rows') (by intro e; rw [e] at gl; have := h.k0; simp at gl; omega) (by omega) side' M1
    rw [eb] at e2
    show Ret (endS (b_lane_played [some (laneD k P n), some (standD rows side), some (.int p), none, none] M)) _
    unfold b_lane_played
    simp [e1, e2]
    exact TL.Ret.ok (P := TL.Gives M _) ⟨by simp [wonD], kk1.trans k2⟩
  | false =>
    rw [ho] at e1
    refine ⟨rows', side', none, ⟨gl, gs, gu, gb, fun bs e => (by cases e)⟩, fun M => pl _ M ?_⟩
    obtain ⟨M1, e1, kk1⟩ := gives_of (e1 M)
    show Ret (endS (b_lane_played [some (laneD k P n), some (standD rows side), some (.int p), none, none] M)) _
    unfold b_lane_played
    simp [e1]
    exact TL.Ret.ok (P := TL.Gives M _) ⟨by simp [wonD], kk1⟩
def Sd (B : Int) : Gm → D → Won → Prop
  | .rally r, st, won => ∃ s : Stand, st = .tup [s.toD, wonD won] ∧ RGo r B s won
  | .down w, st, won => ∃ s : DSt, st = .tup [s.toD, wonD won] ∧ DGo w s won
  | .lane k P n, st, won => ∃ (rows : List LRow) (side : Nat), st = .tup [standD rows side, wonD won] ∧ LGo k P B rows side won
theorem Sd.form {B : Int} {g : Gm} {st : D} {won : Won} (h : Sd B g st won) : ∃ x, st = .tup [x, wonD won] := by
  cases g with
  | rally r => obtain ⟨s, e, _⟩ := h; exact ⟨_, e⟩
  | down w => obtain ⟨s, e, _⟩ := h; exact ⟨_, e⟩
  | lane k P n => obtain ⟨rows, side, e, _⟩ := h; exact ⟨_, e⟩
theorem Sd.le {B C : Int} (hl : B ≤ C) {g : Gm} {st : D} {won : Won} (h : Sd B g st won) : Sd C g st won := by
  cases g with
  | rally r => obtain ⟨s, e, g⟩ := h; exact ⟨s, e, g.le hl⟩
  | down w => exact h
  | lane k P n => obtain ⟨rows, side, e, g⟩ := h; exact ⟨rows, side, e, g.le hl⟩
/-- a deed that is let -/
def LetD : Gm → D → D → Prop
  | .rally _, _, d => ∃ b : Bool, d = sideD b
  | .down w, _, d => ∃ t ∈ w.throws, d = .str t.name
  | .lane _ _ _, st, d => ∃ (rows : List LRow) (side : Nat) (p : Int) (hs : side < rows.length), st = .tup [standD rows side, wonD none] ∧ d = .int p ∧ 0 ≤ p ∧ p ≤ (rows[side]).up
/-- from a stand to the one behind a deed -/
structure Stp (g : Gm) (B : Int) (a d b : D) : Prop where
  sa : Sd B g a none
  sd : LetD g a d
  sb : ∃ won, Sd (B + 100) g b won
  run : ∀ M, Ret (m_played [g.toD, a, d] M) (TL.Gives M b)
theorem standD_inj {rows rows' : List LRow} {side side' : Nat} (h : standD rows side = standD rows' side') : rows = rows' ∧ side = side' := by
  simp only [standD, D.tup.injEq, List.cons.injEq, D.int.injEq, and_true] at h
  refine ⟨?_, by have := h.2; omega⟩
  have inj : ∀ a b : LRow, a.toD = b.toD → a = b := fun a b e => by
    cases a; cases b
    simp [LRow.toD] at e
    simp [e]
  exact (List.map_inj_right inj).mp h.1
theorem step_ok {g : Gm} (hg : Gd g) {B : Int} (h0 : 0 ≤ B) (h1 : B < 1000000) {a d : D} (ha : Sd B g a none) (hd : LetD g a d) : ∃ b, Stp g B a d b := by
  cases g with
  | rally r =>
    obtain ⟨s, rfl, go⟩ := ha
    obtain ⟨b, rfl⟩ := hd
    obtain ⟨go', run⟩ := rally_next h0 h1 hg.2.1 (go.2.2 rfl) go.2.1 b
    exact ⟨_, ⟨s, rfl, go⟩, ⟨b, rfl⟩, ⟨_, _, rfl, go'.le (by omega)⟩, fun M => played_rally (run M)⟩
  | down w =>
    obtain ⟨s, rfl, go⟩ := ha
    obtain ⟨t, ht, rfl⟩ := hd
    obtain ⟨s', won', go', run⟩ := down_next hg go ht
    exact ⟨_, ⟨s, rfl, go⟩, ⟨t, ht, rfl⟩, ⟨_, s', rfl, go'⟩, run⟩
  | lane k P n =>
    obtain ⟨rows, side, rfl, go⟩ := ha
    obtain ⟨rows', side', p, hs, e, rfl, p0, p1⟩ := hd
    have e' : standD rows side = standD rows' side' := by simpa using e
    obtain ⟨rfl, rfl⟩ := standD_inj e'
    obtain ⟨r2, s2, won2, go2, run⟩ := lane_next hg go p0 p1
    exact ⟨_, ⟨rows, side, rfl, go⟩, ⟨rows, side, p, hs, rfl, rfl, p0, p1⟩, ⟨_, r2, s2, rfl, go2⟩, run⟩
theorem first_sd {g : Gm} (hg : Gd g) : Sd 0 g (firstD g) none := by
  cases g with
  | rally r =>
    obtain ⟨h1, h2, h3⟩ := hg
    have op := open_begun _ r (Nat.le_refl _)
    have sb := sb_begun (B := 0) (Int.le_refl 0) _ r (Nat.le_refl _)
    exact ⟨begunR r, rfl, ⟨h2, Open.fits op, CG.open_nil op, SB.sm (by decide) sb, fun bs e => (by cases e), fun e => (by cases e)⟩, sb, fun _ => op⟩
  | down w =>
    have h : DownOk w := hg
    exact ⟨firstS w, rfl, (firstS_ok h).len, db_first h, fun bs e => (by cases e), fun _ => firstS_ok h⟩
  | lane k P n =>
    have h : Lane k P n := hg
    have p0 := h.p0
    refine ⟨_, 0, rfl, List.length_replicate, by have := h.k0; omega, fun r hr => ?_, fun r hr => ?_, fun bs e => (by cases e)⟩
    · obtain ⟨_, rfl⟩ := List.mem_replicate.mp hr
      exact ⟨by show 0 ≤ P; omega, Int.le_refl _⟩
    · obtain ⟨_, rfl⟩ := List.mem_replicate.mp hr
      exact ⟨by show (0 : Int) ≤ 0 ∧ (0 : Int) ≤ 2; decide, by show (0 : Int) ≤ 0 ∧ (0 : Int) ≤ 1; decide, by show (0 : Int) ≤ 0 ∧ (0 : Int) ≤ 0; decide⟩
def DeedsQ (M : Mem) (xs : List D) (d : D) (M' : Mem) : Prop := ∃ n, d = .ref n ∧ M.length ≤ n ∧ Keep M M' ∧ seqAt M' n = some xs
theorem deeds_ok {g : Gm} (hg : Gd g) {B : Int} {st : D} {won : Won} (h : Sd B g st won) : ∃ xs : List D, xs.length ≤ 1000 ∧ (won = none → xs ≠ [] ∧ ∀ x ∈ xs, LetD g st x) ∧ (won ≠ none → xs = []) ∧ ∀ M, Ret (m_deeds_at [g.toD, st] M) (DeedsQ M xs) := by
  cases won with
  | some bs =>
    obtain ⟨x, rfl⟩ := h.form
    exact ⟨[], by simp, fun e => (by cases e), fun _ => rfl, fun M => by rw [deeds_won]; exact .ok ⟨_, rfl, Nat.le_refl _, Keep.more _ _, seqAt_lst (at_len _ _)⟩⟩
  | none =>
    cases g with
    | rally r =>
      obtain ⟨s, rfl, go⟩ := h
      refine ⟨[.int 0, .int 1], by simp, fun _ => ⟨by simp, fun x hx => ?_⟩, fun e => absurd rfl e, fun M => by rw [Gm.toD, deeds_rally]; exact .ok ⟨_, rfl, Nat.le_refl _, Keep.more _ _, seqAt_lst (at_len _ _)⟩⟩
      simp only [List.mem_cons, List.not_mem_nil, or_false] at hx
      rcases hx with rfl | rfl
      · exact ⟨false, rfl⟩
      · exact ⟨true, rfl⟩
    | down w =>
      obtain ⟨s, rfl, go⟩ := h
      have hw : DownOk w := hg
      refine ⟨w.throws.map fun t => .str t.name, by rw [List.length_map]; have := hw.n1; omega, fun _ => ⟨by intro e; have := hw.n0; have e2 := congrArg List.length e; simp at e2; rw [e2] at this; simp at this, fun x hx => ?_⟩, fun e => absurd rfl e, fun M => ?_⟩
      · obtain ⟨t, ht, rfl⟩ := List.mem_map.mp hx
        exact ⟨t, ht, rfl⟩
      · refine (deeds_down hw s.toD M).imp ?_
        rintro d M1 ⟨rfl, k1, a1⟩
        exact ⟨_, rfl, Nat.le_refl _, k1, a1⟩
    | lane k P n =>
      obtain ⟨rows, side, rfl, go⟩ := h
      have hw : Lane k P n := hg
      have hs : side < rows.length := by rw [go.l]; exact go.s
      have hup := go.u _ (List.getElem_mem hs)
      have p1 := hw.p1
      obtain ⟨u, hu⟩ : ∃ u : Nat, rows[side].up = (u : Int) := ⟨rows[side].up.toNat, by have := hup.1; omega⟩
      have hu2 := hup.2
      refine ⟨rngItems 0 (u + 1), by rw [rng_length]; omega, fun _ => ⟨by intro e; have := congrArg List.length e; rw [rng_length] at this; simp at this, fun x hx => ?_⟩, fun e => absurd rfl e, fun M => by rw [Gm.toD, deeds_lane hs hu (by omega)]; exact .ok ⟨_, rfl, Nat.le_refl _, Keep.more _ _, seqAt_lst (at_len _ _)⟩⟩
      obtain ⟨j, hj, rfl⟩ := mem_rng hx
      exact ⟨rows, side, _, hs, rfl, rfl, by omega, by rw [hu]; omega⟩
end CP
end
section
set_option maxHeartbeats 4000000
namespace CQ
open PySem PySem.Spec PyProof.Rows L2 TL
open CM hiding b_l_alike m_l_alike b_l_unit m_l_unit g_l_unit b_l_rule m_l_rule b_l_any_rule m_l_any_rule unit_ok rule_step rule_ok any_rule
open CG CI
noncomputable section
def lp_stands_of_0 : MS := (sTry ["NoThrow", "NoPins", "NoSide", "Over", "NoGame", "NoDeed", "Falls"] (sExpr (eMeth "list" mAppend (eVar 2) (aCons (eCall m_played (aCons (eVar 0) (aCons (eBin mIdx (eVar 2) (eVar 3)) (aCons (eVar 4) aNil)))) aNil))) [⟨"ScoreError", (some 5), sStk⟩])
def b_stands_of : MS := (sSeq (sAsg (gOne 2) (eLst (aCons (eCall m_first (aCons (eVar 0) aNil)) aNil)))
    (sSeq (sFor (iEnumD (eVar 1)) (gTupD [3, 4]) lp_stands_of_0)
    (sRet (eVar 2))))
def m_stands_of : Fn := fnD 2 6 b_stands_of
def b_Book_new : MS := (sSeq (sIf (tNot (tTru (eCall m_is_game (aCons (eVar 1) aNil)))) (sRaise "NoGame") sNil)
    (sSeq (sFldD "Book" "kept_game" (eVar 0) (eVar 1))
    (sSeq (sFldD "Book" "kept_deeds" (eVar 0) (eLst aNil))
    (sFldD "Book" "kept_stands" (eVar 0) (eLst (aCons (eCall m_first (aCons (eVar 1) aNil)) aNil))))))
def m_Book_new : Fn := fnD 2 2 b_Book_new
def b_Book_add : MS := (sSeq (sExpr (eMeth "list" mAppend (eFld "Book" "kept_stands" (eVar 0)) (aCons (eCall m_played (aCons (eFld "Book" "kept_game" (eVar 0)) (aCons (eBin mIdx (eFld "Book" "kept_stands" (eVar 0)) (eUn mNeg (eC (.int 1)))) (aCons (eVar 1) aNil)))) aNil)))
    (sSeq (sExpr (eMeth "list" mAppend (eFld "Book" "kept_deeds" (eVar 0)) (aCons (eVar 1) aNil)))
    (sRet (eCallO nLen (aCons (eFld "Book" "kept_deeds" (eVar 0)) aNil)))))
def m_Book_add : Fn := fnD 2 2 b_Book_add
def b_Book_back : MS := (sSeq (sIf (tB (eBin mEq (eCallO nLen (aCons (eFld "Book" "kept_deeds" (eVar 0)) aNil)) (eC (.int 0)))) (sRaise "NoDeed") sNil)
    (sSeq (sExpr (eMeth "list" mPop (eFld "Book" "kept_stands" (eVar 0)) aNil))
    (sRet (eMeth "list" mPop (eFld "Book" "kept_deeds" (eVar 0)) aNil))))
def m_Book_back : Fn := fnD 1 1 b_Book_back
def b_Book_hold_number : MS := (sIf (tOr (tB (eBin mLt (eVar 1) (eC (.int 1)))) (tB (eBin mGt (eVar 1) (eVar 2)))) (sRaise "NoDeed") sNil)
def m_Book_hold_number : Fn := fnD 3 3 b_Book_hold_number
def b_Book_written_anew : MS := (sSeq (sFldD "Book" "kept_stands" (eVar 0) (eCall m_stands_of (aCons (eFld "Book" "kept_game" (eVar 0)) (aCons (eVar 1) aNil))))
    (sFldD "Book" "kept_deeds" (eVar 0) (eVar 1)))
def m_Book_written_anew : Fn := fnD 2 2 b_Book_written_anew
def b_Book_put_right : MS := (sSeq (sExpr (eMeM "Book" "hold_number" [] m_Book_hold_number (eVar 0) (aCons (eVar 1) (aCons (eCallO nLen (aCons (eFld "Book" "kept_deeds" (eVar 0)) aNil)) aNil))))
    (sExpr (eMeM "Book" "written_anew" [] m_Book_written_anew (eVar 0) (aCons (eBin mAdd (eBin mAdd (eSl (eFld "Book" "kept_deeds" (eVar 0)) oNone (oSome (eBin mSub (eVar 1) (eC (.int 1))))) (eLst (aCons (eVar 2) aNil))) (eSl (eFld "Book" "kept_deeds" (eVar 0)) (oSome (eVar 1)) oNone)) aNil))))
def m_Book_put_right : Fn := fnD 3 3 b_Book_put_right
def b_Book_put_in : MS := (sSeq (sExpr (eMeM "Book" "hold_number" [] m_Book_hold_number (eVar 0) (aCons (eVar 1) (aCons (eBin mAdd (eCallO nLen (aCons (eFld "Book" "kept_deeds" (eVar 0)) aNil)) (eC (.int 1))) aNil))))
    (sExpr (eMeM "Book" "written_anew" [] m_Book_written_anew (eVar 0) (aCons (eBin mAdd (eBin mAdd (eSl (eFld "Book" "kept_deeds" (eVar 0)) oNone (oSome (eBin mSub (eVar 1) (eC (.int 1))))) (eLst (aCons (eVar 2) aNil))) (eSl (eFld "Book" "kept_deeds" (eVar 0)) (oSome (eBin mSub (eVar 1) (eC (.int 1)))) oNone)) aNil))))
def m_Book_put_in : Fn := fnD 3 3 b_Book_put_in
def b_Book_leave_out : MS := (sSeq (sExpr (eMeM "Book" "hold_number" [] m_Book_hold_number (eVar 0) (aCons (eVar 1) (aCons (eCallO nLen (aCons (eFld "Book" "kept_deeds" (eVar 0)) aNil)) aNil))))
    (sExpr (eMeM "Book" "written_anew" [] m_Book_written_anew (eVar 0) (aCons (eBin mAdd (eSl (eFld "Book" "kept_deeds" (eVar 0)) oNone (oSome (eBin mSub (eVar 1) (eC (.int 1))))) (eSl (eFld "Book" "kept_deeds" (eVar 0)) (oSome (eVar 1)) oNone)) aNil))))
def m_Book_leave_out : Fn := fnD 2 2 b_Book_leave_out
def b_Book_stand : MS := (sSeq (sIf (tB (eBin mIs (eVar 1) (eC .non))) (sRet (eBin mIdx (eFld "Book" "kept_stands" (eVar 0)) (eUn mNeg (eC (.int 1))))) sNil)
    (sSeq (sIf (tOr (tB (eBin mLt (eVar 1) (eC (.int 0)))) (tB (eBin mGt (eVar 1) (eCallO nLen (aCons (eFld "Book" "kept_deeds" (eVar 0)) aNil))))) (sRaise "NoDeed") sNil)
    (sRet (eBin mIdx (eFld "Book" "kept_stands" (eVar 0)) (eVar 1)))))
def m_Book_stand : Fn := fnD 2 2 b_Book_stand
def b_Book_game : MS := (sRet (eFld "Book" "kept_game" (eVar 0)))
def m_Book_game : Fn := fnD 1 1 b_Book_game
def b_Book_deeds : MS := (sRet (eCallO nList (aCons (eFld "Book" "kept_deeds" (eVar 0)) aNil)))
def m_Book_deeds : Fn := fnD 1 1 b_Book_deeds
end
open RL RB TLQ RD CP
structure Run (g : Gm) (ds sts : List D) : Prop where
  len : sts.length = ds.length + 1
  first : sts[0]? = some (firstD g)
  step : ∀ (i : Nat) (d : D), ds[i]? = some d → ∃ a b, sts[i]? = some a ∧ sts[i + 1]? = some b ∧ Stp g (100 * (i : Int)) a d b
theorem Run.nil {g : Gm} : Run g [] [firstD g] := ⟨rfl, rfl, fun i d h => by simp at h⟩
theorem Run.at_ {g : Gm} {ds sts : List D} (hg : Gd g) (h : Run g ds sts) {i : Nat} (hi : i ≤ ds.length) : ∃ st won, sts[i]? = some st ∧ Sd (100 * (i : Int)) g st won ∧ (i < ds.length → won = none) := by
  by_cases c : i < ds.length
  · obtain ⟨a, b, h1, h2, h3⟩ := h.step i ds[i] (List.getElem?_eq_getElem c)
    exact ⟨a, none, h1, h3.sa, fun _ => rfl⟩
  · have e : i = ds.length := by omega
    subst e
    cases hl : ds.length with
    | zero => exact ⟨firstD g, none, h.first, first_sd hg, fun e => absurd e (by omega)⟩
    | succ n =>
      obtain ⟨a, b, h1, h2, h3⟩ := h.step n ds[n] (List.getElem?_eq_getElem (by omega))
      obtain ⟨won, hw⟩ := h3.sb
      exact ⟨b, won, h2, by have e : 100 * ((n + 1 : Nat) : Int) = 100 * (n : Int) + 100 := by omega
                            rw [e]; exact hw, fun e => absurd e (by omega)⟩
theorem Run.snoc {g : Gm} {ds sts : List D} (h : Run g ds sts) {a d b : D} (ha : sts[ds.length]? = some a) (st : Stp g (100 * (ds.length : Int)) a d b) : Run g (ds ++ [d]) (sts ++ [b]) := by
  have hl := h.len
  refine ⟨by simp [hl], by rw [List.getElem?_append_left (by omega)]; exact h.first, fun i x hx => ?_⟩
  by_cases c : i < ds.length
  · rw [List.getElem?_append_left c] at hx
    obtain ⟨p, q, h1, h2, h3⟩ := h.step i x hx
    exact ⟨p, q, by rw [List.getElem?_append_left (by omega)]; exact h1, by rw [List.getElem?_append_left (by omega)]; exact h2, h3⟩
  · have e : i = ds.length := by
      have := (List.getElem?_eq_some_iff.mp hx).1
      simp at this; omega
    subst e
    have hx' : d = x := by simpa using hx
    subst hx'
    refine ⟨a, b, by rw [List.getElem?_append_left (by omega)]; exact ha, ?_, st⟩
    rw [List.getElem?_append_right (by omega), hl]
    simp
theorem Run.pre {g : Gm} {ds sts : List D} (h : Run g ds sts) (n : Nat) (hn : n ≤ ds.length) : Run g (ds.take n) (sts.take (n + 1)) := by
  have hl := h.len
  refine ⟨by rw [List.length_take, List.length_take]; omega, by rw [List.getElem?_take, if_pos (by omega)]; exact h.first, fun i d hd => ?_⟩
  rw [List.getElem?_take] at hd
  split at hd
  · rename_i c
    obtain ⟨p, q, h1, h2, h3⟩ := h.step i d hd
    exact ⟨p, q, by rw [List.getElem?_take, if_pos (by omega)]; exact h1, by rw [List.getElem?_take, if_pos (by omega)]; exact h2, h3⟩
  · cases hd
theorem drop_cons {α : Type} {xs : List α} {i : Nat} {x : α} (h : xs[i]? = some x) : xs.drop i = x :: xs.drop (i + 1) := by
  obtain ⟨hl, e⟩ := List.getElem?_eq_some_iff.mp h
  rw [List.drop_eq_getElem_cons hl, e]
theorem take_snoc {α : Type} {xs : List α} {i : Nat} {x : α} (h : xs[i]? = some x) : xs.take (i + 1) = xs.take i ++ [x] := by
  rw [List.take_succ, h]; rfl
def bF (g : Gm) (Dn S : Nat) : List (Str × D) := [(Str.ofString "kept_game", g.toD), (Str.ofString "kept_deeds", .ref Dn), (Str.ofString "kept_stands", .ref S)]
abbrev bS : Str := Str.ofString "Book"
structure BookAt (M : Mem) (b Dn S : Nat) (g : Gm) (ds sts : List D) : Prop where
  o : M[b]? = some (.ins bS (bF g Dn S))
  d : M[Dn]? = some (.lst ds)
  s : M[S]? = some (.lst sts)
/-- but for these, what stood stands -/
structure Fr (L : List Nat) (M M' : Mem) : Prop where
  len : M.length ≤ M'.length
  at_ : ∀ n, n < M.length → n ∉ L → M'[n]? = M[n]?
theorem Fr.of {L : List Nat} {M M' : Mem} (k : Keep M M') : Fr L M M' := ⟨k.1, fun n h _ => k.2 n h⟩
theorem Fr.trans {L : List Nat} {M M1 M2 : Mem} (a : Fr L M M1) (b : Fr L M1 M2) : Fr L M M2 := ⟨Nat.le_trans a.len b.len, fun n h hn => (b.at_ n (Nat.lt_of_lt_of_le h a.len) hn).trans (a.at_ n h hn)⟩
theorem Fr.mono {L L' : List Nat} {M M' : Mem} (h : ∀ n ∈ L, n ∈ L' ∨ M.length ≤ n) (a : Fr L M M') : Fr L' M M' := ⟨a.len, fun n hl hn => a.at_ n hl fun hm => by
  rcases h n hm with h | h
  · exact hn h
  · omega⟩
theorem Fr.set {L : List Nat} {M M' : Mem} {n : Nat} {o : MO} (a : Fr L M M') (h : n ∈ L ∨ M.length ≤ n) : Fr L M (M'.set n o) := ⟨by rw [List.length_set]; exact a.len, fun m hm hn => by
  rw [List.getElem?_set_ne (fun e => by subst e; rcases h with h | h; exact hn h; omega)]
  exact a.at_ m hm hn⟩
theorem Fr.get {L : List Nat} {M M' : Mem} (a : Fr L M M') {n : Nat} {o : MO} (h : M[n]? = some o) (hn : n ∉ L) : M'[n]? = some o := (a.at_ n (lt_of_at h) hn).trans h
theorem Fr.seq {L : List Nat} {M M' : Mem} (a : Fr L M M') {n : Nat} {xs : List D} (h : seqAt M n = some xs) (hn : n ∉ L) : seqAt M' n = some xs := by
  have lt := lt_of_seq h
  unfold seqAt at h ⊢
  rw [a.at_ n lt hn]
  exact h
section
variable {M M' : Mem} {b Dn S : Nat} {g : Gm} {ds sts : List D}
theorem BookAt.keep (h : BookAt M b Dn S g ds sts) (k : Keep M M') : BookAt M' b Dn S g ds sts := ⟨k.at h.o, k.at h.d, k.at h.s⟩
theorem BookAt.fr {L : List Nat} (h : BookAt M b Dn S g ds sts) (f : Fr L M M') (h1 : b ∉ L) (h2 : Dn ∉ L) (h3 : S ∉ L) : BookAt M' b Dn S g ds sts := ⟨f.get h.o h1, f.get h.d h2, f.get h.s h3⟩
theorem BookAt.bd (h : BookAt M b Dn S g ds sts) : b ≠ Dn := fun e => by have := h.o; rw [e, h.d] at this; cases this
theorem BookAt.bs (h : BookAt M b Dn S g ds sts) : b ≠ S := fun e => by have := h.o; rw [e, h.s] at this; cases this
theorem BookAt.ds_ (h : BookAt M b Dn S g ds sts) (r : Run g ds sts) : Dn ≠ S := fun e => by
  have := h.d
  rw [e, h.s] at this
  have e2 : sts = ds := by injection this with this; injection this
  have := r.len
  rw [e2] at this
  omega
theorem BookAt.fg (h : BookAt M b Dn S g ds sts) : mFld bS (Str.ofString "kept_game") (.ref b) M = some (g.toD, M) := mFld_at h.o rfl
theorem BookAt.fd (h : BookAt M b Dn S g ds sts) : mFld bS (Str.ofString "kept_deeds") (.ref b) M = some (.ref Dn, M) := mFld_at h.o (by simp [bF, List.lookup])
theorem BookAt.fs (h : BookAt M b Dn S g ds sts) : mFld bS (Str.ofString "kept_stands") (.ref b) M = some (.ref S, M) := mFld_at h.o (by simp [bF, List.lookup])
theorem BookAt.me (h : BookAt M b Dn S g ds sts) {m : String} (hm : m ∉ ["kept_game", "kept_deeds", "kept_stands"]) {dd : List D} {fn : Fn} {mas : MA} {env : TL.Env} :
    meR bS (Str.ofString m) dd fn mas env (.ref b) M = (mas env M).bind fun ds M2 => fn (.ref b :: (ds ++ dd)) M2 := by
  refine meR_at h.o ?_
  simp only [List.mem_cons, List.not_mem_nil, or_false, not_or] at hm
  simp [bF, List.lookup, hm.1, hm.2.1, hm.2.2]
theorem atI_last {α : Type} {xs : List α} {x : α} {n : Nat} (hl : xs.length = n + 1) (h : xs[n]? = some x) : atI xs (-1) = some x := by
  have e : ixN xs.length (-1) = some n := by
    unfold ixN
    rw [if_neg (by decide), if_pos (by omega)]
    congr 1
    omega
  unfold atI
  rw [e]
  exact h
theorem mPop_ok {n : Nat} {xs : List D} {y : D} (h : M[n]? = some (.lst (xs ++ [y]))) : mPop (.ref n) [] M = some (y, M.set n (.lst xs)) := by
  show (match M[n]? with | some (.lst xs) => (xs[xs.length - 1]?).map fun y => (y, M.set n (.lst xs.dropLast)) | _ => none) = _
  rw [h]
  simp
end
end CQ
end
section
set_option maxHeartbeats 4000000
namespace CQ
open PySem PySem.Spec PyProof.Rows L2 TL
open CM hiding b_l_alike m_l_alike b_l_unit m_l_unit g_l_unit b_l_rule m_l_rule b_l_any_rule m_l_any_rule unit_ok rule_step rule_ok any_rule
open CG CI
open RL RB TLQ RD CP
theorem idx_neg {M : Mem} {n : Nat} {xs : List D} {i : Int} {v : D} (h : seqAt M n = some xs) (e : atI xs i = some v) : mIdx (.ref n) (.int i) M = some (v, M) := by
  show (match seqAt M n with | some xs => (atI xs i).map fun d => (d, M) | none => none) = _
  rw [h]; simp only [e]; rfl
def NewQ (M : Mem) (b : Nat) (g : Gm) (d : D) (M' : Mem) : Prop := d = .non ∧ ∃ Dn S, M.length ≤ Dn ∧ M.length ≤ S ∧ BookAt M' b Dn S g [] [firstD g] ∧ Fr [b] M M'
theorem book_new_ok {g : Gm} (hg : Gd g) {M : Mem} {b : Nat} (hb : M[b]? = some (.ins bS [])) : Ret (m_Book_new [.ref b, g.toD] M) (NewQ M b g) := by
  show Ret (endS (b_Book_new [some (.ref b), some g.toD] M)) _
  unfold b_Book_new
  obtain ⟨M1, e1, k1⟩ := gives_of (is_game_ok (game_sh hg M 30) (by decide))
  rw [game_right hg] at e1
  have b1 := k1.at hb
  have lt1 := lt_of_at b1
  have p1 := putO_at (f := Str.ofString "kept_game") (v := g.toD) b1 (by simp)
  have q1 : (M1.set b (.ins bS [(Str.ofString "kept_game", g.toD)]))[b]? = some (.ins bS [(Str.ofString "kept_game", g.toD)]) := List.getElem?_set_self lt1
  have f1 : Fr [b] M (M1.set b (.ins bS [(Str.ofString "kept_game", g.toD)])) := (Fr.of k1).set (.inl (by simp))
  have len1 : M.length ≤ (M1.set b (.ins bS [(Str.ofString "kept_game", g.toD)])).length := f1.len
  simp only [putD] at p1
  generalize M1.set b (.ins bS [(Str.ofString "kept_game", g.toD)]) = M2 at *
  have K2 := Keep.more M2 [MO.lst []]
  have p2 := putO_at (f := Str.ofString "kept_deeds") (v := .ref M2.length) (K2.at q1) (by simp)
  have lt2 := lt_of_at (K2.at q1)
  have bl : b < M2.length := lt_of_at q1
  have q2 : ((M2 ++ [MO.lst []]).set b (.ins bS [(Str.ofString "kept_game", g.toD), (Str.ofString "kept_deeds", .ref M2.length)]))[b]? = some (.ins bS [(Str.ofString "kept_game", g.toD), (Str.ofString "kept_deeds", .ref M2.length)]) := List.getElem?_set_self lt2
  have d2 : ((M2 ++ [MO.lst []]).set b (.ins bS [(Str.ofString "kept_game", g.toD), (Str.ofString "kept_deeds", .ref M2.length)]))[M2.length]? = some (.lst []) := by rw [List.getElem?_set_ne (by omega)]; exact at_len _ _
  have f2 : Fr [b] M ((M2 ++ [MO.lst []]).set b (.ins bS [(Str.ofString "kept_game", g.toD), (Str.ofString "kept_deeds", .ref M2.length)])) := (f1.trans (Fr.of K2)).set (.inl (by simp))
  have len2 : ((M2 ++ [MO.lst []]).set b (.ins bS [(Str.ofString "kept_game", g.toD), (Str.ofString "kept_deeds", .ref M2.length)])).length = M2.length + 1 := by simp
  simp [putD] at p2
  generalize (M2 ++ [MO.lst []]).set b (.ins bS [(Str.ofString "kept_game", g.toD), (Str.ofString "kept_deeds", .ref M2.length)]) = M3 at *
  have e3 := first_ok hg M3
  have K3 := Keep.more M3 [MO.lst [firstD g]]
  have p3 := putO_at (f := Str.ofString "kept_stands") (v := .ref M3.length) (K3.at q2) (by simp)
  have lt3 := lt_of_at (K3.at q2)
  simp [putD] at p3
  have d3 := K3.at d2
  simp [e1, p1, p2, e3, p3]
  refine .ok ⟨rfl, M2.length, M3.length, len1, by omega, ⟨?_, ?_, ?_⟩, (f2.trans (Fr.of K3)).set (.inl (by simp))⟩
  · rw [List.getElem?_set_self lt3]; rfl
  · rw [List.getElem?_set_ne (by omega)]; exact d3
  · rw [List.getElem?_set_ne (by omega)]; exact at_len _ _
section
variable {M : Mem} {b Dn S : Nat} {g : Gm} {ds sts : List D}
theorem add_ok (h : BookAt M b Dn S g ds sts) (r : Run g ds sts) (hn : ds.length ≤ 900) {a d x : D} (ha : sts[ds.length]? = some a) (hs : Stp g (100 * (ds.length : Int)) a d x) :
    Ret (m_Book_add [.ref b, d] M) (fun v M' => v = .int ((ds.length + 1 : Nat) : Int) ∧ BookAt M' b Dn S g (ds ++ [d]) (sts ++ [x]) ∧ Fr [Dn, S] M M') := by
  show Ret (endS (b_Book_add [some (.ref b), some d] M)) _
  unfold b_Book_add
  have hl := r.len
  obtain ⟨M1, e1, k1⟩ := gives_of (hs.run M)
  have h1 := h.keep k1
  have ne := h.ds_ r
  have sS := seqAt_lst h.s
  have ix := idx_neg (xs := sts) sS (atI_last (n := ds.length) hl ha)
  have ap := mAppend_ok (y := x) h1.s (by omega)
  have ltS := lt_of_at h1.s
  have h2 : BookAt (M1.set S (.lst (sts ++ [x]))) b Dn S g ds (sts ++ [x]) := ⟨by rw [List.getElem?_set_ne (Ne.symm h.bs)]; exact h1.o, by rw [List.getElem?_set_ne (Ne.symm ne)]; exact h1.d, List.getElem?_set_self ltS⟩
  have f2 : Fr [Dn, S] M (M1.set S (.lst (sts ++ [x]))) := (Fr.of k1).set (.inl (by simp))
  have l2 : (M1.set S (.lst (sts ++ [x]))).length = M1.length := List.length_set ..
  generalize M1.set S (.lst (sts ++ [x])) = M2 at *
  have ap2 := mAppend_ok (y := d) h2.d (by omega)
  have ltD := lt_of_at h2.d
  have h3 : BookAt (M2.set Dn (.lst (ds ++ [d]))) b Dn S g (ds ++ [d]) (sts ++ [x]) := ⟨by rw [List.getElem?_set_ne (Ne.symm h.bd)]; exact h2.o, List.getElem?_set_self ltD, by rw [List.getElem?_set_ne ne]; exact h2.s⟩
  have f3 : Fr [Dn, S] M (M2.set Dn (.lst (ds ++ [d]))) := f2.set (.inl (by simp))
  have sD2 := seqAt_lst h2.d
  generalize M2.set Dn (.lst (ds ++ [d])) = M3 at *
  have sD := seqAt_lst h3.d
  have s1 := seqAt_lst h.s
  simp [-mIdx_ref, h.fs, h.fg, ix, e1, ap, s1, h2.fd, ap2, sD2, h3.fd, sD]
  exact .ok ⟨by simp, h3, f3⟩
theorem back_ok {d x : D} (h : BookAt M b Dn S g (ds ++ [d]) (sts ++ [x])) (r : Run g (ds ++ [d]) (sts ++ [x])) :
    Ret (m_Book_back [.ref b] M) (fun v M' => v = d ∧ BookAt M' b Dn S g ds sts ∧ Fr [Dn, S] M M') := by
  show Ret (endS (b_Book_back [some (.ref b)] M)) _
  unfold b_Book_back
  have ne := h.ds_ r
  have sD := seqAt_lst h.d
  have sS := seqAt_lst h.s
  have pS := mPop_ok h.s
  have ltS := lt_of_at h.s
  have h2 : BookAt (M.set S (.lst sts)) b Dn S g (ds ++ [d]) sts := ⟨by rw [List.getElem?_set_ne (Ne.symm h.bs)]; exact h.o, by rw [List.getElem?_set_ne (Ne.symm ne)]; exact h.d, List.getElem?_set_self ltS⟩
  have f2 : Fr [Dn, S] M (M.set S (.lst sts)) := (Fr.of (Keep.refl M)).set (.inl (by simp))
  generalize M.set S (.lst sts) = M2 at *
  have pD := mPop_ok h2.d
  have ltD := lt_of_at h2.d
  have sD2 := seqAt_lst h2.d
  have nz : ¬ ((ds.length : Int) + 1 = 0) := by omega
  simp [-List.map_append, h.fd, sD, h.fs, sS, pS, h2.fd, sD2, pD, nz]
  exact .ok ⟨rfl, ⟨by rw [List.getElem?_set_ne (Ne.symm h.bd)]; exact h2.o, List.getElem?_set_self ltD, by rw [List.getElem?_set_ne ne]; exact h2.s⟩, f2.set (.inl (by simp))⟩
theorem stand_last (h : BookAt M b Dn S g ds sts) (r : Run g ds sts) {a : D} (ha : sts[ds.length]? = some a) : m_Book_stand [.ref b, .non] M = .ok a M := by
  show endS (b_Book_stand [some (.ref b), some .non] M) = _
  unfold b_Book_stand
  have ix := idx_neg (xs := sts) (seqAt_lst h.s) (atI_last (n := ds.length) r.len ha)
  simp [-mIdx_ref, h.fs, ix]
theorem stand_at (h : BookAt M b Dn S g ds sts) {k : Nat} (hk : k ≤ ds.length) {a : D} (ha : sts[k]? = some a) : m_Book_stand [.ref b, .int (k : Nat)] M = .ok a M := by
  show endS (b_Book_stand [some (.ref b), some (.int (k : Nat))] M) = _
  unfold b_Book_stand
  have sD := seqAt_lst h.d
  have ix := idx_neg (xs := sts) (seqAt_lst h.s) (atI_nat ha)
  have c1 : ¬ ((k : Int) < 0) := by omega
  have c2 : ¬ ((ds.length : Int) < (k : Nat)) := by omega
  have c3 : ¬ (ds.length < k) := by omega
  simp [-mIdx_ref, h.fs, h.fd, sD, ix, c1, c2, c3]
end
end CQ
end
section
set_option maxHeartbeats 4000000
namespace CQ
open PySem PySem.Spec PyProof.Rows L2 TL
open CM hiding b_l_alike m_l_alike b_l_unit m_l_unit g_l_unit b_l_rule m_l_rule b_l_any_rule m_l_any_rule unit_ok rule_step rule_ok any_rule
open CG CI
open RL RB TLQ RD CP
section
variable {M : Mem} {b Dn S : Nat} {g : Gm} {ds sts : List D}
theorem hold_ok' {i m : Int} {M : Mem} {b : D} (h1 : 1 ≤ i) (h2 : i ≤ m) : m_Book_hold_number [b, .int i, .int m] M = .ok .non M := by
  show endS (b_Book_hold_number [some b, some (.int i), some (.int m)] M) = _
  unfold b_Book_hold_number
  have c1 : ¬ (i < 1) := by omega
  have c2 : ¬ (m < i) := by omega
  simp [c1, c2]
/-- a row written anew, for the book -/
def AnewQ (M : Mem) (b : Nat) (g : Gm) (ds sts : List D) (d : D) (M' : Mem) : Prop := d = .non ∧ ∃ R S', M.length ≤ R ∧ M.length ≤ S' ∧ BookAt M' b R S' g ds sts ∧ Fr [b] M M'
theorem AnewQ.of {M M1 : Mem} {R : Nat} {d : D} {M' : Mem} (k : Keep M M1) (hR : M.length ≤ R) (h : d = .non ∧ ∃ S', M1.length ≤ S' ∧ BookAt M' b R S' g ds sts ∧ Fr [b] M1 M') : AnewQ M b g ds sts d M' := by
  obtain ⟨rfl, S', h1, h2, h3⟩ := h
  exact ⟨rfl, R, S', hR, Nat.le_trans k.1 h1, h2, (Fr.of k).trans h3⟩
theorem slTo_ex {n k : Nat} {xs : List D} (h : seqAt M n = some xs) (hk : k ≤ xs.length) : ∃ R M', mSl (.ref n) none (some (k : Int)) M = some (.ref R, M') ∧ Keep M M' ∧ M'[R]? = some (.lst (xs.take k)) ∧ M.length ≤ R :=
  ⟨M.length, _, mSl_to h hk, Keep.more _ _, at_len _ _, Nat.le_refl _⟩
theorem slFr_ex {n k : Nat} {xs : List D} (h : seqAt M n = some xs) (hk : k ≤ xs.length) : ∃ R M', mSl (.ref n) (some (k : Int)) none M = some (.ref R, M') ∧ Keep M M' ∧ M'[R]? = some (.lst (xs.drop k)) ∧ M.length ≤ R :=
  ⟨M.length, _, mSl_fr h hk, Keep.more _ _, at_len _ _, Nat.le_refl _⟩
theorem add_ex {n m : Nat} {xs ys : List D} (h1 : M[n]? = some (.lst xs)) (h2 : M[m]? = some (.lst ys)) (hl : xs.length + ys.length ≤ 1000000) : ∃ R M', mAdd (.ref n) (.ref m) M = some (.ref R, M') ∧ Keep M M' ∧ M'[R]? = some (.lst (xs ++ ys)) ∧ M.length ≤ R :=
  ⟨M.length, _, mAdd_lists h1 h2 hl, Keep.more _ _, at_len _ _, Nat.le_refl _⟩
end
end CQ
end
section
set_option maxHeartbeats 4000000
namespace CQ
open PySem PySem.Spec PyProof.Rows L2 TL
open CM hiding b_l_alike m_l_alike b_l_unit m_l_unit g_l_unit b_l_rule m_l_rule b_l_any_rule m_l_any_rule unit_ok rule_step rule_ok any_rule
open CG CI
open RL RB TLQ RD CP
/-- the stand of a rule behind some rallies -/
def stAt (r : Rule) (s : Stand) (bs : List Bool) : Stand := bs.foldl (fun s b => (ralliedR r s b).1) s
theorem stAt_snoc {r : Rule} {s : Stand} {bs : List Bool} {b : Bool} : stAt r s (bs ++ [b]) = (ralliedR r (stAt r s bs) b).1 := by simp [stAt]
/-- a row of rallies, its stands -/
theorem Run.rally {r : Rule} (hg : Gd (.rally r)) {ds sts : List D} (h : Run (.rally r) ds sts) (hn : ds.length ≤ 1000) : ∃ bs : List Bool, ds = bs.map sideD ∧
    ∀ i (hi : i < bs.length), sts[i]? = some (.tup [(stAt r (begunR r) (bs.take i)).toD, .non]) ∧ RGo r (100 * (i : Int)) (stAt r (begunR r) (bs.take i)) none ∧
      sts[i + 1]? = some (.tup [(stAt r (begunR r) (bs.take (i + 1))).toD, wonD (rWon (ralliedR r (stAt r (begunR r) (bs.take i)) bs[i]) bs[i])]) := by
  have hb : ∃ bs : List Bool, ds = bs.map sideD := by
    have hall : ∀ d ∈ ds, ∃ b : Bool, d = sideD b := fun d hd => by
      obtain ⟨i, hi, e⟩ := List.mem_iff_getElem.mp hd
      obtain ⟨a, b, _, _, st⟩ := h.step i d (by rw [List.getElem?_eq_getElem hi, e])
      exact st.sd
    clear h hn
    induction ds with
    | nil => exact ⟨[], rfl⟩
    | cons d ds ih =>
      obtain ⟨bs, e⟩ := ih fun x hx => hall x (List.mem_cons_of_mem _ hx)
      obtain ⟨b, e2⟩ := hall d List.mem_cons_self
      exact ⟨b :: bs, by rw [e, e2]; rfl⟩
  obtain ⟨bs, rfl⟩ := hb
  refine ⟨bs, rfl, ?_⟩
  have key : ∀ i, i < bs.length → sts[i]? = some (.tup [(stAt r (begunR r) (bs.take i)).toD, .non]) → RGo r (100 * (i : Int)) (stAt r (begunR r) (bs.take i)) none → 
      ∀ hi : i < bs.length, sts[i + 1]? = some (.tup [(stAt r (begunR r) (bs.take (i + 1))).toD, wonD (rWon (ralliedR r (stAt r (begunR r) (bs.take i)) bs[i]) bs[i])]) ∧ RGo r (100 * (i : Int) + 1) (stAt r (begunR r) (bs.take (i + 1))) (rWon (ralliedR r (stAt r (begunR r) (bs.take i)) bs[i]) bs[i]) := by
    intro i hi e1 go _
    have hlen : bs.length ≤ 1000 := by simpa using hn
    obtain ⟨a, b, h1, h2, st⟩ := h.step i (sideD bs[i]) (by simp [hi])
    rw [e1] at h1
    cases h1
    obtain ⟨go', run⟩ := rally_next (B := 100 * (i : Int)) (by omega) (by omega) hg.2.1 (go.2.2 rfl) go.2.1 bs[i]
    have e3 : bs.take (i + 1) = bs.take i ++ [bs[i]] := by rw [List.take_succ, List.getElem?_eq_getElem hi]; rfl
    rw [e3, stAt_snoc]
    obtain ⟨M1, q1, _⟩ := gives_of (st.run [])
    obtain ⟨M2, q2, _⟩ := gives_of (played_rally (run []))
    have q1' : m_played [.tup [.str (Str.ofString "rally"), r.toD], .tup [(stAt r (begunR r) (bs.take i)).toD, .non], sideD bs[i]] [] = .ok b M1 := q1
    have q2' : m_played [.tup [.str (Str.ofString "rally"), r.toD], .tup [(stAt r (begunR r) (bs.take i)).toD, .non], sideD bs[i]] [] = .ok _ M2 := q2
    rw [q1'] at q2'
    cases q2'
    exact ⟨h2, go'⟩
  have all : ∀ i, i < bs.length → sts[i]? = some (.tup [(stAt r (begunR r) (bs.take i)).toD, .non]) ∧ RGo r (100 * (i : Int)) (stAt r (begunR r) (bs.take i)) none := by
    intro i
    induction i with
    | zero =>
      intro _
      obtain ⟨h1, h2, h3⟩ := hg
      have op := open_begun _ r (Nat.le_refl _)
      have sb := sb_begun (B := 0) (Int.le_refl 0) _ r (Nat.le_refl _)
      exact ⟨h.first, ⟨h2, Open.fits op, CG.open_nil op, SB.sm (by decide) sb, fun bs e => (by cases e), fun e => (by cases e)⟩, sb, fun _ => op⟩
    | succ i ih =>
      intro hi
      obtain ⟨e1, go⟩ := ih (by omega)
      obtain ⟨e2, go2⟩ := key i (by omega) e1 go (by omega)
      obtain ⟨a, b, h1, _, st⟩ := h.step (i + 1) (sideD bs[i + 1]) (by simp [hi])
      rw [e2] at h1
      cases h1
      obtain ⟨x, fx⟩ := st.sa.form
      have w0 : rWon (ralliedR r (stAt r (begunR r) (bs.take i)) bs[i]) bs[i] = none := by
        cases hw : rWon (ralliedR r (stAt r (begunR r) (bs.take i)) bs[i]) bs[i] with
        | none => rfl
        | some q => rw [hw] at fx; simp [wonD] at fx
      rw [w0] at e2 go2
      refine ⟨e2, go2.le (by omega)⟩
  exact fun i hi => ⟨(all i hi).1, (all i hi).2, (key i hi (all i hi).1 (all i hi).2 hi).1⟩
/-- which deeds won units -/
def unF (r : Rule) : Stand → List Bool → Nat → List D
  | _, [], _ => []
  | s, b :: bs, i => (if 0 < stakesR r s b then [.tup [.int ((i + 1 : Nat) : Int), sideD b, .int (stakesR r s b : Nat)]] else []) ++ unF r (ralliedR r s b).1 bs (i + 1)
def UInv (M : Mem) (b Dn S : Nat) (r : Rule) (bs : List Bool) (sts : List D) : List D → TL.Env → Mem → Prop := fun rest env M' => ∃ (e2 e3 e4 : Option D) (i : Nat) (us : List D), env = [some (.ref b), some (.ref M.length), e2, e3, e4] ∧ i ≤ bs.length ∧ rest = enumItems i ((bs.map sideD).drop i) ∧ Keep M M' ∧ M'[M.length]? = some (.lst us) ∧ us.length ≤ i ∧ us ++ unF r (stAt r (begunR r) (bs.take i)) (bs.drop i) i = unF r (begunR r) bs 0
section
variable {M : Mem} {b Dn S : Nat} {ds sts : List D}
theorem deeds_of {g : Gm} (h : BookAt M b Dn S g ds sts) : m_Book_deeds [.ref b] M = .ok (.ref M.length) (M ++ [.lst ds]) := by
  show endS (b_Book_deeds [some (.ref b)] M) = _
  unfold b_Book_deeds
  have sD := seqAt_lst h.d
  simp [h.fd, sD]
theorem game_of {g : Gm} (h : BookAt M b Dn S g ds sts) : m_Book_game [.ref b] M = .ok g.toD M := by
  show endS (b_Book_game [some (.ref b)] M) = _
  unfold b_Book_game
  simp [h.fg]
end
end CQ
end
section
set_option maxHeartbeats 4000000
namespace CQ
open PySem PySem.Spec PyProof.Rows L2 TL
open CM hiding b_l_alike m_l_alike b_l_unit m_l_unit g_l_unit b_l_rule m_l_rule b_l_any_rule m_l_any_rule unit_ok rule_step rule_ok any_rule
open CG CI
open RL RB TLQ RD CP
/-- by which class a deed that is none is refused -/
def refCls : Gm → Str
  | .rally _ => "NoSide"
  | .down _ => "NoThrow"
  | .lane _ _ _ => "NoPins"
def WrongD : Gm → D → D → Prop
  | .rally _, _, d => inB 0 1 d = false
  | .down w, _, d => w.throws.find? (isName d) = none
  | .lane _ _ _, st, d => ∃ (rows : List LRow) (side : Nat) (hs : side < rows.length), st = .tup [standD rows side, wonD none] ∧ pinsB (rows[side]).up d = false
theorem wrong_ok {g : Gm} (hg : Gd g) {B : Int} {a d : D} {M : Mem} (ha : Sd B g a none) (hw : WrongD g a d) (h1 : (tyName M d).isSome = true) (h2 : Held' M d) : m_played [g.toD, a, d] M = .exc ⟨refCls g, none⟩ M := by
  show endS (b_played [some g.toD, some a, some d] M) = _
  unfold b_played
  cases g with
  | rally r =>
    obtain ⟨s, rfl, go⟩ := ha
    have e : m_rally_played [r.toD, s.toD, d] M = .exc ⟨"NoSide", none⟩ M := by
      show endS (b_rally_played [some r.toD, some s.toD, some d, none, none] M) = _
      unfold b_rally_played
      have hb := between_B (lo := 0) (hi := 1) h1
      rw [show inB 0 1 d = false from hw] at hb
      simp [hb]
    simp [Gm.toD, wonD, e, refCls]
  | down w =>
    obtain ⟨s, rfl, go⟩ := ha
    have e : m_down_played [w.toD, s.toD, d] M = .exc ⟨"NoThrow", none⟩ M := by
      show endS (b_down_played [some w.toD, some s.toD, some d, none, none] M) = _
      unfold b_down_played
      have e1 := down_thrown_ok (w := w) hg (go.o rfl) (x := d) (M := M) h2
      rw [show w.throws.find? (isName d) = none from hw] at e1
      simp [e1]
    simp [Gm.toD, wonD, e, refCls]
  | lane k P n =>
    obtain ⟨rows, side, hs, rfl, hn⟩ := hw
    have e : m_lane_played [laneD k P n, standD rows side, d] M = .exc ⟨"NoPins", none⟩ M := by
      show endS (b_lane_played [some (laneD k P n), some (standD rows side), some d, none, none] M) = _
      unfold b_lane_played
      simp [bowled_no (k := k) (P := P) (n := n) hs h1 hn]
    simp [Gm.toD, wonD, e, refCls]
theorem over_ok {g : Gm} {B : Int} {a d : D} {M : Mem} {ws : List Int} (ha : Sd B g a (some ws)) : m_played [g.toD, a, d] M = .exc ⟨"Over", none⟩ M := by
  show endS (b_played [some g.toD, some a, some d] M) = _
  unfold b_played
  obtain ⟨x, rfl⟩ := ha.form
  simp [wonD]
section
variable {M : Mem} {b Dn S : Nat} {g : Gm} {ds sts : List D}
theorem hold_no {i m : Int} {M : Mem} {b : D} (h : i < 1 ∨ m < i) : m_Book_hold_number [b, .int i, .int m] M = .exc ⟨"NoDeed", none⟩ M := by
  show endS (b_Book_hold_number [some b, some (.int i), some (.int m)] M) = _
  unfold b_Book_hold_number
  by_cases c : i < 1
  · simp [c]
  · have c2 : m < i := by omega
    simp [c, c2]
end
end CQ
end
section
set_option maxHeartbeats 4000000
namespace CQ
open PySem PySem.Spec PyProof.Rows L2 TL
open CM hiding b_l_alike m_l_alike b_l_unit m_l_unit g_l_unit b_l_rule m_l_rule b_l_any_rule m_l_any_rule unit_ok rule_step rule_ok any_rule
open CG CI
open RL RB TLQ RD CP
structure ThOk' (t : Thr) : Prop where
  nm : nameB t.name = true
theorem th_of' {w : Down} (h : DownOk w) : ∀ t ∈ w.throws, ThOk' t := fun t ht => ⟨h.good.nm t ht⟩
theorem rule_small : ∀ r : Rule, CF.smallD r.toD = true
  | .point => by simp [Rule.toD, CF.smallD, CF.smallL]
  | .unit to lead cap inner => by
    have := rule_small inner
    cases cap <;> simp [Rule.toD, CF.smallD, CF.smallL, capD, this]
  | .unitL to lead cap inner last => by
    have := rule_small inner
    have := rule_small last
    simp [Rule.toD, CF.smallD, CF.smallL, *]
theorem thr_pure : ∀ ts : List Thr, (∀ t ∈ ts, ThOk' t) → pureL (ts.map Thr.toD) 1 = true ∧ CF.smallL (ts.map Thr.toD) = true
  | [], _ => ⟨by simp [pureL], rfl⟩
  | t :: ts, h => by
    obtain ⟨a, b⟩ := thr_pure ts fun x hx => h x (List.mem_cons_of_mem _ hx)
    have s := name_strOk (h t List.mem_cons_self).nm
    exact ⟨by simp [pureL, pureD, Thr.toD, s, a], by simp [CF.smallL, CF.smallD, Thr.toD, b]⟩
theorem game_pure {g : Gm} (h : Gd g) : ∃ n, n < 14 ∧ pureD g.toD n = true ∧ CF.smallD g.toD = true := by
  have k1 : PyData.strOk (Str.ofString "rally") = true := by decide +kernel
  have k2 : PyData.strOk (Str.ofString "down") = true := by decide +kernel
  have k3 : PyData.strOk (Str.ofString "lane") = true := by decide +kernel
  cases g with
  | rally r =>
    obtain ⟨h1, h2, h3⟩ := h
    have p := Rule.pure_toD r
    have s := rule_small r
    exact ⟨r.depth + 2, by omega, by simp [Gm.toD, pureD, pureL, k1, p], by simp [Gm.toD, CF.smallD, CF.smallL, s]⟩
  | down w =>
    have h : DownOk w := h
    obtain ⟨a, b⟩ := thr_pure w.throws (th_of' h)
    have := h.n1
    exact ⟨4, by decide, by simp [Gm.toD, Down.toD, pureD, pureL, k2, a], by simp [Gm.toD, Down.toD, CF.smallD, CF.smallL, b]; omega⟩
  | lane k P n => exact ⟨4, by decide, by simp [Gm.toD, laneD, pureD, pureL, k3], by simp [Gm.toD, laneD, CF.smallD, CF.smallL]⟩
theorem int_sh {M : Mem} {n : Nat} {i : Int} (h : i.natAbs < 1024) : Sh M (n + 1) 11 (.int i) := by
  obtain ⟨x, e, a, b, w⟩ := Sh.int (M := M) (n := n) (i := i) (Nat.lt_trans h (by decide))
  cases e
  refine ⟨_, rfl, a, b, ?_⟩
  show (if i == 0 then 0 else i.natAbs.log2 + 1) ≤ 11
  by_cases z : i.natAbs = 0
  · have : i = 0 := by omega
    subst this
    decide
  · have : i.natAbs.log2 < 10 := (Nat.log2_lt z).mpr h
    split <;> omega
theorem repr_same {M : Mem} {a b : Nat} {us : List D} {w : Nat} (ha : seqAt M a = some us) (hb : seqAt M b = some us) (h : ShL M 39 w us) (hw : w ≤ 10000) : ∃ t, nRepr [.ref a] M = some (.str t, M) ∧ nRepr [.ref b] M = some (.str t, M) := by
  obtain ⟨t, st⟩ := (Sh.ref ha h).shows hw
  have st' : Shows M (.ref b) t := by
    obtain ⟨x, e, r⟩ := st
    refine ⟨x, ?_, r⟩
    have e' : (match seqAt M a with | some xs => (datL (dat 39 M) xs).map PyData.list | none => none) = some x := e
    show (match seqAt M b with | some xs => (datL (dat 39 M) xs).map PyData.list | none => none) = some x
    rw [hb]
    rw [ha] at e'
    exact e'
  exact ⟨t, nRepr_ok st, nRepr_ok st'⟩
theorem let_pure {g : Gm} (hg : Gd g) {st d : D} (h : LetD g st d) : pureD d 1 = true := by
  cases g with
  | rally r =>
    obtain ⟨b, rfl⟩ := h
    cases b <;> rfl
  | down w =>
    obtain ⟨t, ht, rfl⟩ := h
    have hw : DownOk w := hg
    have := name_strOk (hw.good.nm t ht)
    simp [pureD, this]
  | lane k P n =>
    obtain ⟨rows, side, p, hs, _, rfl, _⟩ := h
    rfl
theorem let_sh {g : Gm} (hg : Gd g) {st d : D} (h : LetD g st d) {M : Mem} {n : Nat} (hs : ∃ B, Sd B g st none) : Sh M (n + 1) 20 d := by
  cases g with
  | rally r =>
    obtain ⟨b, rfl⟩ := h
    cases b
    · exact (int_sh (i := 0) (by decide)).le (by decide)
    · exact (int_sh (i := 1) (by decide)).le (by decide)
  | down w =>
    obtain ⟨t, ht, rfl⟩ := h
    have hw : DownOk w := hg
    exact (name_sh (hw.good.nm t ht)).le (by decide)
  | lane k P n =>
    obtain ⟨rows, side, p, hs', e, rfl, h0, h1⟩ := h
    obtain ⟨B, rows', side', e', go⟩ := hs
    rw [e] at e'
    have e2 : standD rows side = standD rows' side' := by simpa using e'
    obtain ⟨rfl, rfl⟩ := standD_inj e2
    have hup := go.u _ (List.getElem_mem hs')
    have hw : Lane k P n := hg
    have p1 := hw.p1
    have := hup.2
    exact (int_sh (by omega)).le (by decide)
theorem Sd.pure {g : Gm} (hg : Gd g) {B : Int} {st : D} {won : Won} (h : Sd B g st won) : ∃ n, n ≤ 30 ∧ pureD st n = true := by
  cases g with
  | rally r =>
    obtain ⟨s, rfl, go⟩ := h
    have d := fits_depth go.1.f
    have := hg.2.1
    exact ⟨_, by omega, sides_pure⟩
  | down w =>
    obtain ⟨s, rfl, go⟩ := h
    exact ⟨4, by decide, dst_pure _ _⟩
  | lane k P n =>
    obtain ⟨rows, side, rfl, go⟩ := h
    exact ⟨4, by decide, lst_pure _ _ _⟩
end CQ
end
section
set_option maxHeartbeats 4000000
namespace CB
open PySem PySem.Spec PyProof.Rows L2 TL
open CM hiding b_l_alike m_l_alike b_l_unit m_l_unit g_l_unit b_l_rule m_l_rule b_l_any_rule m_l_any_rule unit_ok rule_step rule_ok any_rule
open CG CI
open CQ hiding m_stands_of b_stands_of lp_stands_of_0 m_Book_written_anew b_Book_written_anew m_Book_put_right b_Book_put_right m_Book_put_in b_Book_put_in m_Book_leave_out b_Book_leave_out
noncomputable section
def lp_stands_of_0 : MS := (sTryFrom ["NoThrow", "NoPins", "NoSide", "Over", "NoGame", "NoDeed", "TooMany", "NoLine", "BadWord", "Falls"] "ScoreError" 5 "Falls" (eBin mAdd (eVar 3) (eC (.int 1))) (sExpr (eMeth "list" mAppend (eVar 2) (aCons (eCall m_played (aCons (eVar 0) (aCons (eBin mIdx (eVar 2) (eVar 3)) (aCons (eVar 4) aNil)))) aNil))))
def b_stands_of : MS := (sSeq (sAsg (gOne 2) (eLst (aCons (eCall m_first (aCons (eVar 0) aNil)) aNil)))
    (sSeq (sFor (iEnumD (eVar 1)) (gTupD [3, 4]) lp_stands_of_0)
    (sRet (eVar 2))))
def m_stands_of : Fn := fnD 2 6 b_stands_of
def b_Book_written_anew : MS := (sSeq (sFldD "Book" "kept_stands" (eVar 0) (eCall m_stands_of (aCons (eFld "Book" "kept_game" (eVar 0)) (aCons (eVar 1) aNil))))
    (sFldD "Book" "kept_deeds" (eVar 0) (eVar 1)))
def m_Book_written_anew : Fn := fnD 2 2 b_Book_written_anew
def b_Book_put_right : MS := (sSeq (sExpr (eMeM "Book" "hold_number" [] m_Book_hold_number (eVar 0) (aCons (eVar 1) (aCons (eCallO nLen (aCons (eFld "Book" "kept_deeds" (eVar 0)) aNil)) aNil))))
    (sExpr (eMeM "Book" "written_anew" [] m_Book_written_anew (eVar 0) (aCons (eBin mAdd (eBin mAdd (eSl (eFld "Book" "kept_deeds" (eVar 0)) oNone (oSome (eBin mSub (eVar 1) (eC (.int 1))))) (eLst (aCons (eVar 2) aNil))) (eSl (eFld "Book" "kept_deeds" (eVar 0)) (oSome (eVar 1)) oNone)) aNil))))
def m_Book_put_right : Fn := fnD 3 3 b_Book_put_right
def b_Book_put_in : MS := (sSeq (sExpr (eMeM "Book" "hold_number" [] m_Book_hold_number (eVar 0) (aCons (eVar 1) (aCons (eBin mAdd (eCallO nLen (aCons (eFld "Book" "kept_deeds" (eVar 0)) aNil)) (eC (.int 1))) aNil))))
    (sExpr (eMeM "Book" "written_anew" [] m_Book_written_anew (eVar 0) (aCons (eBin mAdd (eBin mAdd (eSl (eFld "Book" "kept_deeds" (eVar 0)) oNone (oSome (eBin mSub (eVar 1) (eC (.int 1))))) (eLst (aCons (eVar 2) aNil))) (eSl (eFld "Book" "kept_deeds" (eVar 0)) (oSome (eBin mSub (eVar 1) (eC (.int 1)))) oNone)) aNil))))
def m_Book_put_in : Fn := fnD 3 3 b_Book_put_in
def b_Book_leave_out : MS := (sSeq (sExpr (eMeM "Book" "hold_number" [] m_Book_hold_number (eVar 0) (aCons (eVar 1) (aCons (eCallO nLen (aCons (eFld "Book" "kept_deeds" (eVar 0)) aNil)) aNil))))
    (sExpr (eMeM "Book" "written_anew" [] m_Book_written_anew (eVar 0) (aCons (eBin mAdd (eSl (eFld "Book" "kept_deeds" (eVar 0)) oNone (oSome (eBin mSub (eVar 1) (eC (.int 1))))) (eSl (eFld "Book" "kept_deeds" (eVar 0)) (oSome (eVar 1)) oNone)) aNil))))
def m_Book_leave_out : Fn := fnD 2 2 b_Book_leave_out
end
open RL RB TLQ RD CP
/-- refused at each stand -/
def WrongA (g : Gm) (d : D) : Prop := ∀ (B : Int) (st : D), Sd B g st none → WrongD g st d
/-- a deed of the game at some stand -/
def FlatD (g : Gm) (d : D) : Prop := ∃ B st, Sd B g st none ∧ LetD g st d
theorem FlatD.verdict {g : Gm} {d : D} (h : FlatD g d) {B : Int} {st : D} (hs : Sd B g st none) : LetD g st d ∨ WrongD g st d := by
  obtain ⟨B0, st0, h0, hl⟩ := h
  cases g with
  | rally r => exact .inl hl
  | down w => exact .inl hl
  | lane k P n =>
    obtain ⟨rows', side', p, hs', e', rfl, p0, p1⟩ := hl
    obtain ⟨rows, side, rfl, go⟩ := hs
    have hsd : side < rows.length := by rw [go.l]; exact go.s
    by_cases c : p ≤ (rows[side]).up
    · exact .inl ⟨rows, side, p, hsd, rfl, rfl, p0, c⟩
    · exact .inr ⟨rows, side, hsd, rfl, by simp [pinsB]; omega⟩
/-- a deed is refused at a stand -/
inductive No (g : Gm) (a d : D) : Str → Prop
  | over {B : Int} {ws : List Int} : Sd B g a (some ws) → No g a d "Over"
  | wrong {B : Int} : Sd B g a none → WrongD g a d → No g a d (refCls g)
def Tg (g : Gm) (d : D) : Prop := FlatD g d ∨ WrongA g d
theorem Tg.verdict {g : Gm} {d : D} (h : Tg g d) {B : Int} {st : D} {won : Won} (hs : Sd B g st won) : (won = none ∧ LetD g st d) ∨ ∃ c, No g st d c := by
  cases won with
  | some ws => exact .inr ⟨_, .over hs⟩
  | none =>
    rcases h with h | h
    · rcases h.verdict hs with h | h
      · exact .inl ⟨rfl, h⟩
      · exact .inr ⟨_, .wrong hs h⟩
    · exact .inr ⟨_, .wrong hs (h _ _ hs)⟩
/-- how far a row is let -/
structure Cut (g : Gm) (ds : List D) (k : Nat) (sts : List D) : Prop where
  le : k ≤ ds.length
  run : Run g (ds.take k) sts
  no : ∀ d, ds[k]? = some d → ∃ a c, sts[k]? = some a ∧ No g a d c
theorem cut_ex {g : Gm} (hg : Gd g) {ds : List D} (hn : ds.length ≤ 1000) (h : ∀ d ∈ ds, Tg g d) : ∃ k sts, Cut g ds k sts := by
  suffices hh : ∀ j, j ≤ ds.length → (∃ sts, Run g (ds.take j) sts) ∨ ∃ k sts, Cut g ds k sts by
    rcases hh ds.length (Nat.le_refl _) with ⟨sts, r⟩ | h
    · exact ⟨ds.length, sts, Nat.le_refl _, r, fun d e => by rw [List.getElem?_eq_none (Nat.le_refl _)] at e; cases e⟩
    · exact h
  intro j
  induction j with
  | zero => exact fun _ => .inl ⟨[firstD g], by rw [List.take_zero]; exact Run.nil⟩
  | succ j ih =>
    intro hj
    rcases ih (by omega) with ⟨sts, r⟩ | h
    · have tl : (ds.take j).length = j := by rw [List.length_take]; omega
      obtain ⟨a, won, e, sd, _⟩ := r.at_ hg (i := j) (by omega)
      have hd := List.getElem?_eq_getElem (l := ds) (i := j) (by omega)
      rcases (h ds[j] (List.getElem_mem _)).verdict sd with ⟨rfl, hl⟩ | ⟨c, no⟩
      · obtain ⟨b, st⟩ := step_ok hg (by omega) (by omega) sd hl
        refine .inl ⟨sts ++ [b], ?_⟩
        have := r.snoc (a := a) (d := ds[j]) (b := b) (by rw [tl]; exact e) (by rw [tl]; exact st)
        rw [← take_snoc hd] at this
        exact this
      · exact .inr ⟨j, sts, by omega, r, fun d e' => by
          rw [hd] at e'
          cases e'
          exact ⟨a, c, e, no⟩⟩
    · exact .inr h
theorem Cut.all {g : Gm} {ds sts : List D} {k : Nat} (c : Cut g ds k sts) (h : k = ds.length) : Run g ds sts := by
  have := c.run
  rw [h, List.take_length] at this
  exact this
/-- what such things are, for the machine -/
def MT' (M : Mem) (d : D) : Prop := (tyName M d).isSome = true ∧ Held' M d
theorem no_played {g : Gm} (hg : Gd g) {a d : D} {c : Str} {M : Mem} (h : No g a d c) (m : MT' M d) : m_played [g.toD, a, d] M = .exc ⟨c, none⟩ M := by
  cases h with
  | over s => exact over_ok s
  | wrong s w => exact wrong_ok hg s w m.1 m.2
theorem No.mem {g : Gm} {a d : D} {c : Str} (h : No g a d c) : c ∈ (["NoThrow", "NoPins", "NoSide", "Over", "NoGame", "NoDeed", "TooMany", "NoLine", "BadWord", "Falls"] : List Str) := by
  cases h with
  | over => decide
  | wrong =>
    cases g with
    | rally r => show ("NoSide" : Str) ∈ _; decide
    | down w => show ("NoThrow" : Str) ∈ _; decide
    | lane k P n => show ("NoPins" : Str) ∈ _; decide
theorem sub_base (c : Str) : subX c "ScoreError" = true := by simp [subX]
section
variable {M : Mem} {g : Gm} {ds sts : List D} {k R : Nat}
theorem stands_loop (hg : Gd g) (c : Cut g ds k sts) (hn : ds.length ≤ 1000) (hR : seqAt M R = some ds) (hm : ∀ d ∈ ds, ∀ M', Keep M M' → MT' M' d) : ∀ (j i : Nat) (M' : Mem) (e3 e4 e5 : Option D), i + j = k → Keep M M' → M'[M.length]? = some (.lst (sts.take (i + 1))) →
    (k = ds.length → ∃ e3' e4' e5' M'', forL (fun M' => seqAt M' R = some ds) (gTupD [3, 4]) lp_stands_of_0 (enumItems i (ds.drop i)) [some g.toD, some (.ref R), some (.ref M.length), e3, e4, e5] M' = .next [some g.toD, some (.ref R), some (.ref M.length), e3', e4', e5'] M'' ∧ Keep M M'' ∧ M''[M.length]? = some (.lst sts)) ∧
    (k < ds.length → ∃ env' M'', forL (fun M' => seqAt M' R = some ds) (gTupD [3, 4]) lp_stands_of_0 (enumItems i (ds.drop i)) [some g.toD, some (.ref R), some (.ref M.length), e3, e4, e5] M' = .exc ⟨"Falls", some ((k : Int) + 1)⟩ env' M'' ∧ Keep M M'')
  | 0, i, M', e3, e4, e5, hi, kp, hS => by
    have hi' : i = k := by omega
    subst hi'
    have hl := c.run.len
    have tl : (ds.take i).length = i := by rw [List.length_take]; have := c.le; omega
    rw [tl] at hl
    refine ⟨fun e => ?_, fun e => ?_⟩
    · rw [List.drop_eq_nil_of_le (by omega)]
      exact ⟨_, _, _, _, forL_nil (kp.seq hR), kp, by rw [hS, List.take_of_length_le (by omega)]⟩
    · have hd := List.getElem?_eq_getElem (l := ds) (i := i) e
      obtain ⟨a, x, ea, no⟩ := c.no _ hd
      rw [drop_cons hd]
      simp only [enumItems]
      have mt := hm _ (List.getElem_mem e) M' kp
      generalize ds[i] = d at *
      have pl := no_played hg no mt
      have sS := seqAt_lst hS
      have ix : mIdx (.ref M.length) (.int (i : Nat)) M' = some (a, M') := idx_neg sS (atI_nat (by rw [List.getElem?_take, if_pos (by omega)]; exact ea))
      refine ⟨[some g.toD, some (.ref R), some (.ref M.length), some (.int (i : Nat)), some d, none], M', ?_, kp⟩
      rw [forL_cons (kp.seq hR) (env1 := [some g.toD, some (.ref R), some (.ref M.length), some (.int (i : Nat)), some d, e5]) rfl]
      have body : (sExpr (eMeth "list" mAppend (eVar 2) (aCons (eCall m_played (aCons (eVar 0) (aCons (eBin mIdx (eVar 2) (eVar 3)) (aCons (eVar 4) aNil)))) aNil))) [some g.toD, some (.ref R), some (.ref M.length), some (.int (i : Nat)), some d, e5] M' = .exc ⟨x, none⟩ [some g.toD, some (.ref R), some (.ref M.length), some (.int (i : Nat)), some d, e5] M' := by
        simp [-mIdx_ref, sS, ix, pl]
      have st : lp_stands_of_0 [some g.toD, some (.ref R), some (.ref M.length), some (.int (i : Nat)), some d, e5] M' = .exc ⟨"Falls", some ((i : Int) + 1)⟩ [some g.toD, some (.ref R), some (.ref M.length), some (.int (i : Nat)), some d, none] M' :=
        sTryFrom_exc body no.mem (sub_base _) (by simp)
      rw [st]
      rfl
  | j + 1, i, M', e3, e4, e5, hi, kp, hS => by
    have hlt : i < ds.length := by have := c.le; omega
    have hd := List.getElem?_eq_getElem (l := ds) (i := i) hlt
    obtain ⟨a, b, h1, h2, h3⟩ := c.run.step i ds[i] (by rw [List.getElem?_take, if_pos (by omega)]; exact hd)
    have hl := c.run.len
    have tl : (ds.take k).length = k := by rw [List.length_take]; have := c.le; omega
    rw [tl] at hl
    rw [drop_cons hd]
    simp only [enumItems]
    generalize ds[i] = d at *
    obtain ⟨M1, e2, k1⟩ := gives_of (h3.run M')
    have sS := seqAt_lst hS
    have ix : mIdx (.ref M.length) (.int (i : Nat)) M' = some (a, M') := idx_neg sS (atI_nat (by rw [List.getElem?_take, if_pos (by omega)]; exact h1))
    have ap := mAppend_ok (y := b) (k1.at hS) (by rw [List.length_take]; omega)
    have lt := lt_of_at (k1.at hS)
    have s1 := k1.seq sS
    have body : (sExpr (eMeth "list" mAppend (eVar 2) (aCons (eCall m_played (aCons (eVar 0) (aCons (eBin mIdx (eVar 2) (eVar 3)) (aCons (eVar 4) aNil)))) aNil))) [some g.toD, some (.ref R), some (.ref M.length), some (.int (i : Nat)), some d, e5] M' = .next [some g.toD, some (.ref R), some (.ref M.length), some (.int (i : Nat)), some d, e5] (M1.set M.length (.lst (sts.take (i + 1) ++ [b]))) := by
      simp [-mIdx_ref, sS, ix, e2, ap]
    have st : lp_stands_of_0 [some g.toD, some (.ref R), some (.ref M.length), some (.int (i : Nat)), some d, e5] M' = .next [some g.toD, some (.ref R), some (.ref M.length), some (.int (i : Nat)), some d, e5] (M1.set M.length (.lst (sts.take (i + 1) ++ [b]))) := sTryFrom_next body
    have ih := stands_loop hg c hn hR hm j (i + 1) (M1.set M.length (.lst (sts.take (i + 1) ++ [b]))) (some (.int (i : Nat))) (some d) e5 (by omega) ((kp.trans k1).setNew (Nat.le_refl _)) (by rw [List.getElem?_set_self lt, take_snoc (i := i + 1) h2])
    have fl : forL (fun M' => seqAt M' R = some ds) (gTupD [3, 4]) lp_stands_of_0 (.tup [.int (i : Nat), d] :: enumItems (i + 1) (ds.drop (i + 1))) [some g.toD, some (.ref R), some (.ref M.length), e3, e4, e5] M' = forL (fun M' => seqAt M' R = some ds) (gTupD [3, 4]) lp_stands_of_0 (enumItems (i + 1) (ds.drop (i + 1))) [some g.toD, some (.ref R), some (.ref M.length), some (.int (i : Nat)), some d, e5] (M1.set M.length (.lst (sts.take (i + 1) ++ [b]))) := by
      rw [forL_cons (kp.seq hR) (env1 := [some g.toD, some (.ref R), some (.ref M.length), some (.int (i : Nat)), some d, e5]) rfl, st]
      rfl
    rw [fl]
    exact ih
/-- what the stands of a row are: all of them, or it falls -/
theorem stands_all (hg : Gd g) (c : Cut g ds k sts) (hn : ds.length ≤ 1000) (hR : seqAt M R = some ds) (hm : ∀ d ∈ ds, ∀ M', Keep M M' → MT' M' d) :
    (k = ds.length → ∃ M', m_stands_of [g.toD, .ref R] M = .ok (.ref M.length) M' ∧ Keep M M' ∧ M'[M.length]? = some (.lst sts)) ∧
    (k < ds.length → Throws (m_stands_of [g.toD, .ref R] M) M ⟨"Falls", some ((k : Int) + 1)⟩) := by
  have e1 := first_ok hg M
  have K0 := Keep.more M [MO.lst [firstD g]]
  have h0 : sts.take 1 = [firstD g] := by
    have := take_snoc (i := 0) c.run.first
    simpa using this
  have lp := stands_loop hg c hn hR hm k 0 (M ++ [.lst [firstD g]]) none none none (by omega) K0 (by rw [h0]; exact at_len _ _)
  rw [List.drop_zero] at lp
  have pre : ∀ o, endS (nextS (forL (fun M' => seqAt M' R = some ds) (gTupD [3, 4]) lp_stands_of_0 (enumItems 0 ds) [some g.toD, some (.ref R), some (.ref M.length), none, none, none] (M ++ [.lst [firstD g]])) (sRet (eVar 2))) = o → m_stands_of [g.toD, .ref R] M = o := fun o ho => by
    show endS (b_stands_of [some g.toD, some (.ref R), none, none, none, none] M) = o
    unfold b_stands_of
    rw [TLP.asg (v := .ref M.length) (M' := M ++ [.lst [firstD g]]) (by simp [e1])]
    simp only [List.set]
    rw [← ho]
    generalize lp_stands_of_0 = lp at *
    simp [enumOf_ref (K0.seq hR)]
  refine ⟨fun e => ?_, fun e => ?_⟩
  · obtain ⟨e3', e4', e5', M', h1, h2, h3⟩ := lp.1 e
    refine ⟨M', pre _ ?_, h2, h3⟩
    rw [h1]
    simp
  · obtain ⟨env', M', h1, h2⟩ := lp.2 e
    refine ⟨M', pre _ ?_, h2⟩
    rw [h1]
    rfl
end
section
variable {M : Mem} {b Dn S : Nat} {g : Gm} {ds sts ds' sts' : List D} {k R : Nat}
theorem anew_all (h : BookAt M b Dn S g ds sts) (hg : Gd g) (hR : M[R]? = some (.lst ds')) (c : Cut g ds' k sts') (hn : ds'.length ≤ 900) (hm : ∀ d ∈ ds', ∀ M', Keep M M' → MT' M' d) :
    (k = ds'.length → ∃ M' S', m_Book_written_anew [.ref b, .ref R] M = .ok .non M' ∧ M.length ≤ S' ∧ BookAt M' b R S' g ds' sts' ∧ Fr [b] M M') ∧
    (k < ds'.length → Throws (m_Book_written_anew [.ref b, .ref R] M) M ⟨"Falls", some ((k : Int) + 1)⟩) := by
  obtain ⟨s1, s2⟩ := stands_all hg c (by omega) (seqAt_lst hR) hm
  refine ⟨fun e => ?_, fun e => ?_⟩
  · obtain ⟨M1, e1, k1, a1⟩ := s1 e
    have h1 := h.keep k1
    have lt1 := lt_of_at h1.o
    have p1 := putO_at (f := Str.ofString "kept_stands") (v := .ref M.length) h1.o (by simp [bF])
    simp [bF, putD] at p1
    have q1 : (M1.set b (.ins bS [(Str.ofString "kept_game", g.toD), (Str.ofString "kept_deeds", .ref Dn), (Str.ofString "kept_stands", .ref M.length)]))[b]? = some (.ins bS [(Str.ofString "kept_game", g.toD), (Str.ofString "kept_deeds", .ref Dn), (Str.ofString "kept_stands", .ref M.length)]) := List.getElem?_set_self lt1
    have f1 : Fr [b] M (M1.set b (.ins bS [(Str.ofString "kept_game", g.toD), (Str.ofString "kept_deeds", .ref Dn), (Str.ofString "kept_stands", .ref M.length)])) := (Fr.of k1).set (.inl (by simp))
    have bR : b ≠ R := fun e => by have := h.o; rw [e, hR] at this; cases this
    have bl : b < M.length := lt_of_at h.o
    have a2 : (M1.set b (.ins bS [(Str.ofString "kept_game", g.toD), (Str.ofString "kept_deeds", .ref Dn), (Str.ofString "kept_stands", .ref M.length)]))[M.length]? = some (.lst sts') := by rw [List.getElem?_set_ne (by omega)]; exact a1
    have r2 : (M1.set b (.ins bS [(Str.ofString "kept_game", g.toD), (Str.ofString "kept_deeds", .ref Dn), (Str.ofString "kept_stands", .ref M.length)]))[R]? = some (.lst ds') := by rw [List.getElem?_set_ne bR]; exact k1.at hR
    generalize M1.set b (.ins bS [(Str.ofString "kept_game", g.toD), (Str.ofString "kept_deeds", .ref Dn), (Str.ofString "kept_stands", .ref M.length)]) = M2 at *
    have p2 := putO_at (f := Str.ofString "kept_deeds") (v := .ref R) q1 (by simp)
    have lt2 := lt_of_at q1
    simp [putD] at p2
    refine ⟨_, M.length, ?_, Nat.le_refl _, ⟨?_, ?_, ?_⟩, f1.set (n := b) (o := .ins bS [(Str.ofString "kept_game", g.toD), (Str.ofString "kept_deeds", .ref R), (Str.ofString "kept_stands", .ref M.length)]) (.inl (by simp))⟩
    · show endS (b_Book_written_anew [some (.ref b), some (.ref R)] M) = _
      unfold b_Book_written_anew
      simp [h.fg, e1, p1, p2]
    · rw [List.getElem?_set_self lt2]; rfl
    · rw [List.getElem?_set_ne bR]; exact r2
    · rw [List.getElem?_set_ne (by omega)]; exact a2
  · obtain ⟨M1, e1, k1⟩ := s2 e
    refine ⟨M1, ?_, k1⟩
    show endS (b_Book_written_anew [some (.ref b), some (.ref R)] M) = _
    unfold b_Book_written_anew
    rw [TLP.anyX (x := ⟨"Falls", some ((k : Int) + 1)⟩) (env' := [some (.ref b), some (.ref R)]) (M' := M1) (by simp [h.fg, e1])]
    rfl
/-- the row as it would be -/
def rowR (ds : List D) (n : Nat) (d : D) : List D := ds.take n ++ [d] ++ ds.drop (n + 1)
def rowI (ds : List D) (n : Nat) (d : D) : List D := ds.take n ++ [d] ++ ds.drop n
def rowO (ds : List D) (n : Nat) : List D := ds.take n ++ ds.drop (n + 1)
/-- what a correction is, with the row at hand -/
def Corr (M : Mem) (b : Nat) (ds' : List D) (o : Out D) : Prop := ∃ R M1, Keep M M1 ∧ M1[R]? = some (.lst ds') ∧ M.length ≤ R ∧ (∀ M2, m_Book_written_anew [.ref b, .ref R] M1 = .ok .non M2 → o = .ok .non M2) ∧ (∀ x M2, m_Book_written_anew [.ref b, .ref R] M1 = .exc x M2 → o = .exc x M2)
theorem corr_all {o : Out D} (h : BookAt M b Dn S g ds sts) (hg : Gd g) (q : Corr M b ds' o) (c : Cut g ds' k sts') (hn : ds'.length ≤ 900) (hm : ∀ d ∈ ds', ∀ M', Keep M M' → MT' M' d) :
    (k = ds'.length → ∃ M', o = .ok .non M' ∧ AnewQ M b g ds' sts' .non M') ∧ (k < ds'.length → Throws o M ⟨"Falls", some ((k : Int) + 1)⟩) := by
  obtain ⟨R, M1, k1, hR, lR, o1, o2⟩ := q
  obtain ⟨a1, a2⟩ := anew_all (h.keep k1) hg hR c hn (fun d hd M' k' => hm d hd M' (k1.trans k'))
  refine ⟨fun e => ?_, fun e => ?_⟩
  · obtain ⟨M2, S', e2, l2, b2, f2⟩ := a1 e
    exact ⟨M2, o1 _ e2, AnewQ.of k1 lR ⟨rfl, S', l2, b2, f2⟩⟩
  · obtain ⟨M2, e2, k2⟩ := a2 e
    exact ⟨M2, o2 _ _ e2, k1.trans k2⟩
theorem put_in_c (h : BookAt M b Dn S g ds sts) {n : Nat} (hn : n ≤ ds.length) {d : D} (hl : ds.length ≤ 800) : Corr M b (rowI ds n d) (m_Book_put_in [.ref b, .int ((n : Int) + 1), d] M) := by
  have eh := hold_ok' (i := (n : Int) + 1) (m := (ds.length : Int) + 1) (M := M) (b := .ref b) (by omega) (by omega)
  have me1 := fun fn mas env => h.me (m := "hold_number") (dd := []) (fn := fn) (mas := mas) (env := env) (by decide)
  have me2 := fun fn mas env => h.me (m := "written_anew") (dd := []) (fn := fn) (mas := mas) (env := env) (by decide)
  obtain ⟨R1, M1, e1, k1, a1, l1⟩ := slTo_ex (seqAt_lst h.d) hn
  have k2 := Keep.more M1 [MO.lst [d]]
  obtain ⟨R3, M3, e3, k3, a3, l3⟩ := add_ex (k2.at a1) (at_len M1 (MO.lst [d])) (by rw [List.length_take]; simp; omega)
  have h3 := ((h.keep k1).keep k2).keep k3
  obtain ⟨R4, M4, e4, k4, a4, l4⟩ := slFr_ex (seqAt_lst h3.d) hn
  obtain ⟨R5, M5, e5, k5, a5, l5⟩ := add_ex (k4.at a3) a4 (by simp; omega)
  have l2 := k2.1
  have k9 := (((k1.trans k2).trans k3).trans k4).trans k5
  have sD := seqAt_lst h.d
  have f3 := h3.fd
  refine ⟨R5, M5, k9, a5, by have := k1.1; have := k3.1; have := k4.1; omega, fun M6 e6 => ?_, fun x M6 e6 => ?_⟩
  · show endS (b_Book_put_in [some (.ref b), some (.int ((n : Int) + 1)), some d] M) = _
    unfold b_Book_put_in
    rw [TLP.expr (v := .non) (M' := M) (by simp [h.fd, sD, me1, eh])]
    simp [-mAdd_ref, -mSl_ref, -List.append_assoc, h.fd, me2, e1, e3, f3, e4, e5, e6]
  · show endS (b_Book_put_in [some (.ref b), some (.int ((n : Int) + 1)), some d] M) = _
    unfold b_Book_put_in
    rw [TLP.expr (v := .non) (M' := M) (by simp [h.fd, sD, me1, eh])]
    simp [-mAdd_ref, -mSl_ref, -List.append_assoc, h.fd, me2, e1, e3, f3, e4, e5, e6]
theorem put_right_c (h : BookAt M b Dn S g ds sts) {n : Nat} (hn : n < ds.length) {d : D} (hl : ds.length ≤ 800) : Corr M b (rowR ds n d) (m_Book_put_right [.ref b, .int ((n : Int) + 1), d] M) := by
  have eh := hold_ok' (i := (n : Int) + 1) (m := (ds.length : Int)) (M := M) (b := .ref b) (by omega) (by omega)
  have me1 := fun fn mas env => h.me (m := "hold_number") (dd := []) (fn := fn) (mas := mas) (env := env) (by decide)
  have me2 := fun fn mas env => h.me (m := "written_anew") (dd := []) (fn := fn) (mas := mas) (env := env) (by decide)
  obtain ⟨R1, M1, e1, k1, a1, l1⟩ := slTo_ex (k := n) (seqAt_lst h.d) (by omega)
  have k2 := Keep.more M1 [MO.lst [d]]
  obtain ⟨R3, M3, e3, k3, a3, l3⟩ := add_ex (k2.at a1) (at_len M1 (MO.lst [d])) (by rw [List.length_take]; simp; omega)
  have h3 := ((h.keep k1).keep k2).keep k3
  obtain ⟨R4, M4, e4, k4, a4, l4⟩ := slFr_ex (k := n + 1) (seqAt_lst h3.d) hn
  obtain ⟨R5, M5, e5, k5, a5, l5⟩ := add_ex (k4.at a3) a4 (by simp; omega)
  have l2 := k2.1
  have k9 := (((k1.trans k2).trans k3).trans k4).trans k5
  have sD := seqAt_lst h.d
  have f3 := h3.fd
  have c4 : ((n + 1 : Nat) : Int) = (n : Int) + 1 := rfl
  rw [c4] at e4
  refine ⟨R5, M5, k9, a5, by have := k1.1; have := k3.1; have := k4.1; omega, fun M6 e6 => ?_, fun x M6 e6 => ?_⟩
  · show endS (b_Book_put_right [some (.ref b), some (.int ((n : Int) + 1)), some d] M) = _
    unfold b_Book_put_right
    rw [TLP.expr (v := .non) (M' := M) (by simp [h.fd, sD, me1, eh])]
    simp [-mAdd_ref, -mSl_ref, -List.append_assoc, h.fd, me2, e1, e3, f3, e4, e5, e6]
  · show endS (b_Book_put_right [some (.ref b), some (.int ((n : Int) + 1)), some d] M) = _
    unfold b_Book_put_right
    rw [TLP.expr (v := .non) (M' := M) (by simp [h.fd, sD, me1, eh])]
    simp [-mAdd_ref, -mSl_ref, -List.append_assoc, h.fd, me2, e1, e3, f3, e4, e5, e6]
theorem leave_out_c (h : BookAt M b Dn S g ds sts) {n : Nat} (hn : n < ds.length) (hl : ds.length ≤ 800) : Corr M b (rowO ds n) (m_Book_leave_out [.ref b, .int ((n : Int) + 1)] M) := by
  have eh := hold_ok' (i := (n : Int) + 1) (m := (ds.length : Int)) (M := M) (b := .ref b) (by omega) (by omega)
  have me1 := fun fn mas env => h.me (m := "hold_number") (dd := []) (fn := fn) (mas := mas) (env := env) (by decide)
  have me2 := fun fn mas env => h.me (m := "written_anew") (dd := []) (fn := fn) (mas := mas) (env := env) (by decide)
  obtain ⟨R1, M1, e1, k1, a1, l1⟩ := slTo_ex (k := n) (seqAt_lst h.d) (by omega)
  have h3 := h.keep k1
  obtain ⟨R4, M4, e4, k4, a4, l4⟩ := slFr_ex (k := n + 1) (seqAt_lst h3.d) hn
  obtain ⟨R5, M5, e5, k5, a5, l5⟩ := add_ex (k4.at a1) a4 (by simp; omega)
  have k9 := (k1.trans k4).trans k5
  have sD := seqAt_lst h.d
  have f3 := h3.fd
  have c4 : ((n + 1 : Nat) : Int) = (n : Int) + 1 := rfl
  rw [c4] at e4
  refine ⟨R5, M5, k9, a5, by have := k1.1; have := k4.1; omega, fun M6 e6 => ?_, fun x M6 e6 => ?_⟩
  · show endS (b_Book_leave_out [some (.ref b), some (.int ((n : Int) + 1))] M) = _
    unfold b_Book_leave_out
    rw [TLP.expr (v := .non) (M' := M) (by simp [h.fd, sD, me1, eh])]
    simp [-mAdd_ref, -mSl_ref, -List.append_assoc, h.fd, me2, e1, f3, e4, e5, e6]
  · show endS (b_Book_leave_out [some (.ref b), some (.int ((n : Int) + 1))] M) = _
    unfold b_Book_leave_out
    rw [TLP.expr (v := .non) (M' := M) (by simp [h.fd, sD, me1, eh])]
    simp [-mAdd_ref, -mSl_ref, -List.append_assoc, h.fd, me2, e1, f3, e4, e5, e6]
theorem put_in_no (h : BookAt M b Dn S g ds sts) {i : Int} (hi : i < 1 ∨ (ds.length : Int) + 1 < i) {d : D} : m_Book_put_in [.ref b, .int i, d] M = .exc ⟨"NoDeed", none⟩ M := by
  have eh := hold_no (i := i) (m := (ds.length : Int) + 1) (M := M) (b := .ref b) hi
  have me1 := fun fn mas env => h.me (m := "hold_number") (dd := []) (fn := fn) (mas := mas) (env := env) (by decide)
  have sD := seqAt_lst h.d
  show endS (b_Book_put_in [some (.ref b), some (.int i), some d] M) = _
  unfold b_Book_put_in
  rw [TLP.anyX (x := ⟨"NoDeed", none⟩) (env' := [some (.ref b), some (.int i), some d]) (M' := M) (by simp [h.fd, sD, me1, eh])]
  rfl
theorem put_right_no (h : BookAt M b Dn S g ds sts) {i : Int} (hi : i < 1 ∨ (ds.length : Int) < i) {d : D} : m_Book_put_right [.ref b, .int i, d] M = .exc ⟨"NoDeed", none⟩ M := by
  have eh := hold_no (i := i) (m := (ds.length : Int)) (M := M) (b := .ref b) hi
  have me1 := fun fn mas env => h.me (m := "hold_number") (dd := []) (fn := fn) (mas := mas) (env := env) (by decide)
  have sD := seqAt_lst h.d
  show endS (b_Book_put_right [some (.ref b), some (.int i), some d] M) = _
  unfold b_Book_put_right
  rw [TLP.anyX (x := ⟨"NoDeed", none⟩) (env' := [some (.ref b), some (.int i), some d]) (M' := M) (by simp [h.fd, sD, me1, eh])]
  rfl
theorem leave_out_no (h : BookAt M b Dn S g ds sts) {i : Int} (hi : i < 1 ∨ (ds.length : Int) < i) : m_Book_leave_out [.ref b, .int i] M = .exc ⟨"NoDeed", none⟩ M := by
  have eh := hold_no (i := i) (m := (ds.length : Int)) (M := M) (b := .ref b) hi
  have me1 := fun fn mas env => h.me (m := "hold_number") (dd := []) (fn := fn) (mas := mas) (env := env) (by decide)
  have sD := seqAt_lst h.d
  show endS (b_Book_leave_out [some (.ref b), some (.int i)] M) = _
  unfold b_Book_leave_out
  rw [TLP.anyX (x := ⟨"NoDeed", none⟩) (env' := [some (.ref b), some (.int i)]) (M' := M) (by simp [h.fd, sD, me1, eh])]
  rfl
end
end CB
end
section
set_option maxHeartbeats 4000000
namespace LW
open PySem PySem.Spec PyProof.Rows L2 TL
open CM hiding any_rule b_l_any_rule b_l_rule b_l_throws b_l_unit g_l_unit lp_l_throws_0 m_l_any_rule m_l_rule m_l_throws m_l_unit pick3 rng_cons rule_ok rule_step unit_ok
open CG hiding m_l_game b_l_game m_l_unit b_l_unit GameQ rule_ok unit_ok atI_last
open CI
open CE
open CQ hiding m_stands_of b_stands_of lp_stands_of_0 m_Book_written_anew b_Book_written_anew m_Book_put_right b_Book_put_right m_Book_put_in b_Book_put_in m_Book_leave_out b_Book_leave_out
open CB
noncomputable section
def b_l_bad : MS := (sSeq (sAsg (gOne 2) (eLst (aCons (eC .non) (aCons (eC (.bl true)) (aCons (eC (.bl false)) (aCons (eC (.str "")) (aCons (eBin mMulS (eC (.str "q")) (eC (.int 9))) (aCons (eUn mNeg (eC (.int 1))) (aCons (eBin mAdd (eC (.int 21)) (eBin mMod (eBin mIdx (eVar 1) (eC (.int 0))) (eBin mPow (eC (.int 10)) (eC (.int 6))))) (aCons (eLst (aCons (eC (.int 0)) aNil)) (aCons (eTup (aCons (eC (.int 0)) aNil)) (aCons (eC (.str "0")) aNil))))))))))))
    (sSeq (sIf (tB (eBin mEq (eBin mIdx (eVar 0) (eC (.int 0))) (eC (.str "down")))) (sAsg (gOne 2) (eBin mAdd (eVar 2) (eLst (aCons (eC (.int 0)) (aCons (eC (.int 1)) (aCons (eBin mAdd (eBin mIdx (eBin mIdx (eBin mIdx (eBin mIdx (eVar 0) (eC (.int 1))) (eC (.int 3))) (eC (.int 0))) (eC (.int 0))) (eC (.str "!"))) (aCons (eC (.str "A")) aNil))))))) sNil)
    (sSeq (sIf (tB (eBin mEq (eBin mIdx (eVar 0) (eC (.int 0))) (eC (.str "rally")))) (sAsg (gOne 2) (eBin mAdd (eVar 2) (eLst (aCons (eC (.int 2)) (aCons (eC (.str "1")) aNil))))) sNil)
    (sRet (eBin mIdx (eVar 2) (eBin mMod (eBin mIdx (eVar 1) (eC (.int 1))) (eCallO nLen (aCons (eVar 2) aNil))))))))
def m_l_bad : Fn := fnD 2 3 b_l_bad
def b_l_deed : MS := (sSeq (sAsg (gOne 3) (eCall m_deeds_at (aCons (eVar 0) (aCons (eVar 1) aNil))))
    (sSeq (sIf (tOr (tB (eBin mEq (eVar 3) (eLst aNil))) (tB (eBin mEq (eBin mMod (eBin mIdx (eVar 2) (eC (.int 2))) (eC (.int 9))) (eC (.int 8))))) (sRet (eCall m_l_bad (aCons (eVar 0) (aCons (eVar 2) aNil)))) sNil)
    (sRet (eBin mIdx (eVar 3) (eBin mMod (eBin mIdx (eVar 2) (eC (.int 3))) (eCallO nLen (aCons (eVar 3) aNil)))))))
def m_l_deed : Fn := fnD 3 4 b_l_deed
def b_l_kinds : MS := (sRet (eLst (aCons (eIsE ["NoThrow", "NoPins", "NoSide", "Over", "NoGame", "NoDeed", "TooMany", "NoLine", "BadWord", "Falls"] "Over" (eVar 0)) (aCons (eIsE ["NoThrow", "NoPins", "NoSide", "Over", "NoGame", "NoDeed", "TooMany", "NoLine", "BadWord", "Falls"] "NoSide" (eVar 0)) (aCons (eIsE ["NoThrow", "NoPins", "NoSide", "Over", "NoGame", "NoDeed", "TooMany", "NoLine", "BadWord", "Falls"] "NoThrow" (eVar 0)) (aCons (eIsE ["NoThrow", "NoPins", "NoSide", "Over", "NoGame", "NoDeed", "TooMany", "NoLine", "BadWord", "Falls"] "NoPins" (eVar 0)) (aCons (eIsE ["NoThrow", "NoPins", "NoSide", "Over", "NoGame", "NoDeed", "TooMany", "NoLine", "BadWord", "Falls"] "NoDeed" (eVar 0)) (aCons (eIsE ["NoThrow", "NoPins", "NoSide", "Over", "NoGame", "NoDeed", "TooMany", "NoLine", "BadWord", "Falls"] "Falls" (eVar 0)) (aCons (eIsEs ["NoThrow", "NoPins", "NoSide", "Over", "NoGame", "NoDeed", "TooMany", "NoLine", "BadWord", "Falls"] ["NoGame", "TooMany", "NoLine", "BadWord"] (eVar 0)) (aCons (eIsE ["NoThrow", "NoPins", "NoSide", "Over", "NoGame", "NoDeed", "TooMany", "NoLine", "BadWord", "Falls"] "ValueError" (eVar 0)) aNil))))))))))
def m_l_kinds : Fn := fnD 1 1 b_l_kinds
def b_l_due : MS := (sSeq (sAsg (gOne 3) (eLst (aCons (eC (.bl false)) (aCons (eC (.bl false)) (aCons (eC (.bl false)) (aCons (eC (.bl false)) (aCons (eC (.bl false)) (aCons (eC (.bl false)) (aCons (eC (.bl false)) (aCons (eC (.bl true)) aNil))))))))))
    (sSeq (sIf (tB (eBin mIsNot (eBin mIdx (eVar 1) (eC (.int 1))) (eC .non))) (sSeq (sSub (eVar 3) (eC (.int 0)) (eC (.bl true)))
    (sRet (eVar 3))) sNil)
    (sSeq (sIf (tAnd (tNot (tTru (eIsiT ["bool", "list", "tuple"] (eVar 2)))) (tB (eBin mIn (eVar 2) (eCall m_deeds_at (aCons (eVar 0) (aCons (eVar 1) aNil)))))) (sRet (eLst aNil)) sNil)
    (sSeq (sSub (eVar 3) (eBin mAdd (eC (.int 1)) (eMeth "list" mIndex (eLst (aCons (eC (.str "rally")) (aCons (eC (.str "down")) (aCons (eC (.str "lane")) aNil)))) (aCons (eBin mIdx (eVar 0) (eC (.int 0))) aNil))) (eC (.bl true)))
    (sRet (eVar 3))))))
def m_l_due : Fn := fnD 3 4 b_l_due
def b_l_right : MS := (sSeq (sIf (tOr (tNot (tTru (eIsi "list" (eMeM "Book" "deeds" [] m_Book_deeds (eVar 0) aNil)))) (tOr (tB (eBin mNe (eCallO nRepr (aCons (eMeM "Book" "deeds" [] m_Book_deeds (eVar 0) aNil) aNil)) (eCallO nRepr (aCons (eVar 2) aNil)))) (tB (eBin mNe (eMeM "Book" "game" [] m_Book_game (eVar 0) aNil) (eVar 1))))) (sRet (eC (.bl false))) sNil)
    (sSeq (sIf (tOr (tB (eBin mNe (eMeM "Book" "stand" [.non] m_Book_stand (eVar 0) aNil) (eBin mIdx (eVar 3) (eUn mNeg (eC (.int 1)))))) (tB (eBin mNe (eMeM "Book" "stand" [] m_Book_stand (eVar 0) (aCons (eC .non) aNil)) (eBin mIdx (eVar 3) (eUn mNeg (eC (.int 1))))))) (sRet (eC (.bl false))) sNil)
    (sSeq (sAsg (gOne 5) (eBin mMod (eVar 4) (eCallO nLen (aCons (eVar 3) aNil))))
    (sSeq (sIf (tOr (tB (eBin mNe (eMeM "Book" "stand" [] m_Book_stand (eVar 0) (aCons (eVar 5) aNil)) (eBin mIdx (eVar 3) (eVar 5)))) (tB (eBin mNe (eMeM "Book" "stand" [] m_Book_stand (eVar 0) (aCons (eC (.int 0)) aNil)) (eCall m_first (aCons (eVar 1) aNil))))) (sRet (eC (.bl false))) sNil)
    (sSeq (sExpr (eMeth "list" mAppend (eMeM "Book" "deeds" [] m_Book_deeds (eVar 0) aNil) (aCons (eC (.str "x")) aNil)))
    (sRet (eBin mEq (eCallO nRepr (aCons (eMeM "Book" "deeds" [] m_Book_deeds (eVar 0) aNil) aNil)) (eCallO nRepr (aCons (eVar 2) aNil)))))))))
def m_l_right : Fn := fnD 5 6 b_l_right
def lp_l_stands_0 : MS := (sSeq (sIf (tB (eBin mNe (eCall m_l_due (aCons (eVar 0) (aCons (eBin mIdx (eVar 2) (eUn mNeg (eC (.int 1)))) (aCons (eVar 3) aNil)))) (eLst aNil))) (sRet (eVar 2)) sNil)
    (sExpr (eMeth "list" mAppend (eVar 2) (aCons (eCall m_played (aCons (eVar 0) (aCons (eBin mIdx (eVar 2) (eUn mNeg (eC (.int 1)))) (aCons (eVar 3) aNil)))) aNil))))
def b_l_stands : MS := (sSeq (sAsg (gOne 2) (eLst (aCons (eCall m_first (aCons (eVar 0) aNil)) aNil)))
    (sSeq (sFor (iAny (eVar 1)) (gOne 3) lp_l_stands_0)
    (sRet (eVar 2))))
def m_l_stands : Fn := fnD 2 4 b_l_stands
def b_l_told : MS := (sTryA ["NoThrow", "NoPins", "NoSide", "Over", "NoGame", "NoDeed", "TooMany", "NoLine", "BadWord", "Falls"] (sSeq (sIf (tB (eBin mEq (eVar 1) (eC (.int 0)))) (sRet (eLst (aCons (eMeM "Book" "put_right" [] m_Book_put_right (eVar 0) (aCons (eVar 2) (aCons (eVar 3) aNil))) aNil))) sNil)
    (sSeq (sIf (tB (eBin mEq (eVar 1) (eC (.int 1)))) (sRet (eLst (aCons (eMeM "Book" "put_in" [] m_Book_put_in (eVar 0) (aCons (eVar 2) (aCons (eVar 3) aNil))) aNil))) sNil)
    (sRet (eLst (aCons (eMeM "Book" "leave_out" [] m_Book_leave_out (eVar 0) (aCons (eVar 2) aNil)) aNil))))) [⟨"Falls", (some 4), (sRet (eLst (aCons (eC (.str "falls")) (aCons (eAt ["BadWord", "Falls"] (eVar 4)) (aCons (eIsE ["NoThrow", "NoPins", "NoSide", "Over", "NoGame", "NoDeed", "TooMany", "NoLine", "BadWord", "Falls"] "NoDeed" (eVar 4)) (aCons (eIsE ["NoThrow", "NoPins", "NoSide", "Over", "NoGame", "NoDeed", "TooMany", "NoLine", "BadWord", "Falls"] "ValueError" (eVar 4)) aNil))))))⟩, ⟨"ScoreError", (some 4), (sRet (eCall m_l_kinds (aCons (eVar 4) aNil)))⟩])
def m_l_told : Fn := fnD 4 5 b_l_told
def b_l_row_then : MS := (sSeq (sIf (tB (eBin mEq (eVar 1) (eC (.int 0)))) (sRet (eBin mAdd (eBin mAdd (eSl (eVar 0) oNone (oSome (eBin mSub (eVar 2) (eC (.int 1))))) (eLst (aCons (eVar 3) aNil))) (eSl (eVar 0) (oSome (eVar 2)) oNone))) sNil)
    (sSeq (sIf (tB (eBin mEq (eVar 1) (eC (.int 1)))) (sRet (eBin mAdd (eBin mAdd (eSl (eVar 0) oNone (oSome (eBin mSub (eVar 2) (eC (.int 1))))) (eLst (aCons (eVar 3) aNil))) (eSl (eVar 0) (oSome (eBin mSub (eVar 2) (eC (.int 1)))) oNone))) sNil)
    (sRet (eBin mAdd (eSl (eVar 0) oNone (oSome (eBin mSub (eVar 2) (eC (.int 1))))) (eSl (eVar 0) (oSome (eVar 2)) oNone)))))
def m_l_row_then : Fn := fnD 4 4 b_l_row_then
def b_l_anew : MS := (sSeq (sAsg (gOne 4) (eCall m_l_draws (aCons (eVar 3) (aCons (eC (.int 7)) aNil))))
    (sSeq (sAsg (gOne 5) (eBin mMod (eBin mIdx (eVar 4) (eC (.int 4))) (eC (.int 3))))
    (sSeq (sAsg (gOne 6) (eBin mMod (eBin mIdx (eVar 4) (eC (.int 5))) (eBin mAdd (eCallO nLen (aCons (eVar 2) aNil)) (eC (.int 3)))))
    (sSeq (sAsg (gOne 7) (eCall m_l_stands (aCons (eVar 1) (aCons (eVar 2) aNil))))
    (sSeq (sAsg (gOne 8) (eCall m_l_deed (aCons (eVar 1) (aCons (eBin mIdx (eVar 7) (eCallO nMin2 (aCons (eCallO nMax2 (aCons (eBin mSub (eVar 6) (eC (.int 1))) (aCons (eC (.int 0)) aNil))) (aCons (eCallO nLen (aCons (eVar 2) aNil)) aNil)))) (aCons (eVar 4) aNil)))))
    (sSeq (sAsg (gOne 9) (eCall m_l_told (aCons (eVar 0) (aCons (eVar 5) (aCons (eVar 6) (aCons (eVar 8) aNil))))))
    (sSeq (sIf (tOr (tB (eBin mLt (eVar 6) (eC (.int 1)))) (tB (eBin mGt (eVar 6) (eBin mAdd (eCallO nLen (aCons (eVar 2) aNil)) (eCallO nInt (aCons (eBin mEq (eVar 5) (eC (.int 1))) aNil)))))) (sRet (eLst (aCons (eVar 2) (aCons (eBin mEq (eCallO nRepr (aCons (eVar 9) aNil)) (eCallO nRepr (aCons (eLst (aCons (eC (.bl false)) (aCons (eC (.bl false)) (aCons (eC (.bl false)) (aCons (eC (.bl false)) (aCons (eC (.bl true)) (aCons (eC (.bl false)) (aCons (eC (.bl false)) (aCons (eC (.bl true)) aNil))))))))) aNil))) aNil)))) sNil)
    (sSeq (sAsg (gOne 10) (eCall m_l_row_then (aCons (eVar 2) (aCons (eVar 5) (aCons (eVar 6) (aCons (eVar 8) aNil))))))
    (sSeq (sAsg (gOne 7) (eCall m_l_stands (aCons (eVar 1) (aCons (eVar 10) aNil))))
    (sSeq (sIf (tB (eBin mLe (eCallO nLen (aCons (eVar 7) aNil)) (eCallO nLen (aCons (eVar 10) aNil)))) (sRet (eLst (aCons (eVar 2) (aCons (eBin mEq (eCallO nRepr (aCons (eVar 9) aNil)) (eCallO nRepr (aCons (eLst (aCons (eC (.str "falls")) (aCons (eCallO nLen (aCons (eVar 7) aNil)) (aCons (eC (.bl false)) (aCons (eC (.bl true)) aNil))))) aNil))) aNil)))) sNil)
    (sRet (eLst (aCons (eVar 10) (aCons (eBin mEq (eCallO nRepr (aCons (eVar 9) aNil)) (eCallO nRepr (aCons (eLst (aCons (eC .non) aNil)) aNil))) aNil))))))))))))))
def m_l_anew : Fn := fnD 4 11 b_l_anew
def lp_law_0 : MS := (sSeq (sAsg (gOne 8) (eCall m_deeds_at (aCons (eVar 1) (aCons (eVar 4) aNil))))
    (sIf (tB (eBin mNe (eVar 8) (eLst aNil))) (sSeq (sExpr (eMeth "list" mAppend (eVar 3) (aCons (eBin mIdx (eVar 8) (eBin mMod (eVar 6) (eCallO nLen (aCons (eVar 8) aNil)))) aNil)))
    (sSeq (sAsg (gOne 4) (eCall m_played (aCons (eVar 1) (aCons (eVar 4) (aCons (eBin mIdx (eVar 3) (eUn mNeg (eC (.int 1)))) aNil)))))
    (sExpr (eMeM "Book" "add" [] m_Book_add (eVar 2) (aCons (eBin mIdx (eVar 3) (eUn mNeg (eC (.int 1)))) aNil))))) sNil))
def lp_law_1 : MS := (sSeq (sAsgL [3, 9] (eCall m_l_anew (aCons (eVar 2) (aCons (eVar 1) (aCons (eVar 3) (aCons (eVar 6) aNil))))))
    (sSeq (sAsg (gOne 7) (eCall m_l_stands (aCons (eVar 1) (aCons (eVar 3) aNil))))
    (sIf (tOr (tNot (tTru (eVar 9))) (tNot (tTru (eCall m_l_right (aCons (eVar 2) (aCons (eVar 1) (aCons (eVar 3) (aCons (eVar 7) (aCons (eVar 6) aNil))))))))) (sRet (eC (.bl false))) sNil)))
def b_law : MS := (sSeq (sAsg (gOne 1) (eCall m_l_game (aCons (eCall m_l_cell_at (aCons (eVar 0) (aCons (eC (.int 0)) aNil))) aNil)))
    (sSeq (sAsg (gOne 2) (eMake "Book" [] m_Book_new (aCons (eVar 1) aNil)))
    (sSeq (sAsg (gOne 3) (eLst aNil))
    (sSeq (sAsg (gOne 4) (eCall m_first (aCons (eVar 1) aNil)))
    (sSeq (sAsg (gOne 5) (eCall m_l_cell_at (aCons (eVar 0) (aCons (eC (.int 1)) aNil))))
    (sSeq (sFor (iAny (eBin mAdd (eCall m_l_draws (aCons (eVar 5) (aCons (eC (.int 6)) aNil))) (eSl (eVar 0) (oSome (eC (.int 2))) (oSome (eC (.int 20)))))) (gOne 6) lp_law_0)
    (sSeq (sFor (iAny (eBin mAdd (eCall m_l_draws (aCons (eBin mFdiv (eVar 5) (eC (.int 3))) (aCons (eC (.int 6)) aNil))) (eSl (eVar 0) (oSome (eC (.int 20))) (oSome (eC (.int 38)))))) (gOne 6) lp_law_1)
    (sSeq (sAsg (gOne 7) (eCall m_l_stands (aCons (eVar 1) (aCons (eVar 3) aNil))))
    (sSeq (sAsg (gOne 8) (eCall m_deeds_at (aCons (eVar 1) (aCons (eBin mIdx (eVar 7) (eUn mNeg (eC (.int 1)))) aNil))))
    (sSeq (sIf (tB (eBin mNe (eVar 8) (eLst aNil))) (sIf (tOr (tB (eBin mNe (eMeM "Book" "add" [] m_Book_add (eVar 2) (aCons (eBin mIdx (eVar 8) (eUn mNeg (eC (.int 1)))) aNil)) (eBin mAdd (eCallO nLen (aCons (eVar 3) aNil)) (eC (.int 1))))) (tB (eBin mNe (eMeM "Book" "back" [] m_Book_back (eVar 2) aNil) (eBin mIdx (eVar 8) (eUn mNeg (eC (.int 1))))))) (sRet (eC (.bl false))) sNil) sNil)
    (sRet (eCall m_l_right (aCons (eVar 2) (aCons (eVar 1) (aCons (eVar 3) (aCons (eVar 7) (aCons (eVar 5) aNil)))))))))))))))))
def m_law : Fn := fnD 1 10 b_law
end
structure Facts (K : PySem.W.Frag) (mg : Str → Option Value) : Prop where
  fn_Falls_new : ∃ fd, FunD K "__init__" "Falls.__init__" (defArgs st_Falls_new) (defBody st_Falls_new) (defScope st_Falls_new) [] [] (He.ma K (He.ga K "Falls") "__init__") fd
  meth_Falls_new : Meth K (He.ga K "Falls") "__init__" (He.ma K (He.ga K "Falls") "__init__")
  fn_is_between : ∃ fd, FunD K "is_between" "is_between" (defArgs st_is_between) (defBody st_is_between) (defScope st_is_between) [] [] (He.ga K "is_between") fd
  mg_is_between : mg "is_between" = some (.ref (He.ga K "is_between"))
  fn_is_throw_name : ∃ fd, FunD K "is_throw_name" "is_throw_name" (defArgs st_is_throw_name) (defBody st_is_throw_name) (defScope st_is_throw_name) [] [] (He.ga K "is_throw_name") fd
  mg_is_throw_name : mg "is_throw_name" = some (.ref (He.ga K "is_throw_name"))
  fn_is_throw : ∃ fd, FunD K "is_throw" "is_throw" (defArgs st_is_throw) (defBody st_is_throw) (defScope st_is_throw) [] [] (He.ga K "is_throw") fd
  mg_is_throw : mg "is_throw" = some (.ref (He.ga K "is_throw"))
  fn_is_down : ∃ fd, FunD K "is_down" "is_down" (defArgs st_is_down) (defBody st_is_down) (defScope st_is_down) [] [] (He.ga K "is_down") fd
  mg_is_down : mg "is_down" = some (.ref (He.ga K "is_down"))
  fn_down_begun : ∃ fd, FunD K "down_begun" "down_begun" (defArgs st_down_begun) (defBody st_down_begun) (defScope st_down_begun) [] [] (He.ga K "down_begun") fd
  mg_down_begun : mg "down_begun" = some (.ref (He.ga K "down_begun"))
  fn_throw_named : ∃ fd, FunD K "throw_named" "throw_named" (defArgs st_throw_named) (defBody st_throw_named) (defScope st_throw_named) [] [] (He.ga K "throw_named") fd
  mg_throw_named : mg "throw_named" = some (.ref (He.ga K "throw_named"))
  fn_with_count : ∃ fd, FunD K "with_count" "with_count" (defArgs st_with_count) (defBody st_with_count) (defScope st_with_count) [] [] (He.ga K "with_count") fd
  mg_with_count : mg "with_count" = some (.ref (He.ga K "with_count"))
  fn_turn_ended : ∃ fd, FunD K "turn_ended" "turn_ended" (defArgs st_turn_ended) (defBody st_turn_ended) (defScope st_turn_ended) [] [] (He.ga K "turn_ended") fd
  mg_turn_ended : mg "turn_ended" = some (.ref (He.ga K "turn_ended"))
  fn_down_thrown : ∃ fd, FunD K "down_thrown" "down_thrown" (defArgs st_down_thrown) (defBody st_down_thrown) (defScope st_down_thrown) [] [] (He.ga K "down_thrown") fd
  mg_down_thrown : mg "down_thrown" = some (.ref (He.ga K "down_thrown"))
  fn_is_lane : ∃ fd, FunD K "is_lane" "is_lane" (defArgs st_is_lane) (defBody st_is_lane) (defScope st_is_lane) [] [] (He.ga K "is_lane") fd
  mg_is_lane : mg "is_lane" = some (.ref (He.ga K "is_lane"))
  fn_lane_begun : ∃ fd, FunD K "lane_begun" "lane_begun" (defArgs st_lane_begun) (defBody st_lane_begun) (defScope st_lane_begun) [] [] (He.ga K "lane_begun") fd
  mg_lane_begun : mg "lane_begun" = some (.ref (He.ga K "lane_begun"))
  fn_frame_behind : ∃ fd, FunD K "frame_behind" "frame_behind" (defArgs st_frame_behind) (defBody st_frame_behind) (defScope st_frame_behind) [] [] (He.ga K "frame_behind") fd
  mg_frame_behind : mg "frame_behind" = some (.ref (He.ga K "frame_behind"))
  fn_extra_behind : ∃ fd, FunD K "extra_behind" "extra_behind" (defArgs st_extra_behind) (defBody st_extra_behind) (defScope st_extra_behind) [] [] (He.ga K "extra_behind") fd
  mg_extra_behind : mg "extra_behind" = some (.ref (He.ga K "extra_behind"))
  fn_row_behind : ∃ fd, FunD K "row_behind" "row_behind" (defArgs st_row_behind) (defBody st_row_behind) (defScope st_row_behind) [] [] (He.ga K "row_behind") fd
  mg_row_behind : mg "row_behind" = some (.ref (He.ga K "row_behind"))
  fn_lane_bowled : ∃ fd, FunD K "lane_bowled" "lane_bowled" (defArgs st_lane_bowled) (defBody st_lane_bowled) (defScope st_lane_bowled) [] [] (He.ga K "lane_bowled") fd
  mg_lane_bowled : mg "lane_bowled" = some (.ref (He.ga K "lane_bowled"))
  fn_best_of : ∃ fd, FunD K "best_of" "best_of" (defArgs st_best_of) (defBody st_best_of) (defScope st_best_of) [] [] (He.ga K "best_of") fd
  mg_best_of : mg "best_of" = some (.ref (He.ga K "best_of"))
  fn_is_count : ∃ fd, FunD K "is_count" "is_count" (defArgs st_is_count) (defBody st_is_count) (defScope st_is_count) [] [] (He.ga K "is_count") fd
  mg_is_count : mg "is_count" = some (.ref (He.ga K "is_count"))
  fn_has_numbers : ∃ fd, FunD K "has_numbers" "has_numbers" (defArgs st_has_numbers) (defBody st_has_numbers) (defScope st_has_numbers) [] [] (He.ga K "has_numbers") fd
  mg_has_numbers : mg "has_numbers" = some (.ref (He.ga K "has_numbers"))
  fn_units_in : ∃ fd, FunD K "units_in" "units_in" (defArgs st_units_in) (defBody st_units_in) (defScope st_units_in) [] [] (He.ga K "units_in") fd
  mg_units_in : mg "units_in" = some (.ref (He.ga K "units_in"))
  fn_is_rule : ∃ fd, FunD K "is_rule" "is_rule" (defArgs st_is_rule) (defBody st_is_rule) (defScope st_is_rule) [] [] (He.ga K "is_rule") fd
  mg_is_rule : mg "is_rule" = some (.ref (He.ga K "is_rule"))
  fn_rule_within : ∃ fd, FunD K "rule_within" "rule_within" (defArgs st_rule_within) (defBody st_rule_within) (defScope st_rule_within) [] [] (He.ga K "rule_within") fd
  mg_rule_within : mg "rule_within" = some (.ref (He.ga K "rule_within"))
  fn_begun : ∃ fd, FunD K "begun" "begun" (defArgs st_begun) (defBody st_begun) (defScope st_begun) [] [] (He.ga K "begun") fd
  mg_begun : mg "begun" = some (.ref (He.ga K "begun"))
  fn_is_won : ∃ fd, FunD K "is_won" "is_won" (defArgs st_is_won) (defBody st_is_won) (defScope st_is_won) [] [] (He.ga K "is_won") fd
  mg_is_won : mg "is_won" = some (.ref (He.ga K "is_won"))
  fn_rallied : ∃ fd, FunD K "rallied" "rallied" (defArgs st_rallied) (defBody st_rallied) (defScope st_rallied) [] [] (He.ga K "rallied") fd
  mg_rallied : mg "rallied" = some (.ref (He.ga K "rallied"))
  fn_is_game : ∃ fd, FunD K "is_game" "is_game" (defArgs st_is_game) (defBody st_is_game) (defScope st_is_game) [] [] (He.ga K "is_game") fd
  mg_is_game : mg "is_game" = some (.ref (He.ga K "is_game"))
  fn_first : ∃ fd, FunD K "first" "first" (defArgs st_first) (defBody st_first) (defScope st_first) [] [] (He.ga K "first") fd
  mg_first : mg "first" = some (.ref (He.ga K "first"))
  fn_deeds_at : ∃ fd, FunD K "deeds_at" "deeds_at" (defArgs st_deeds_at) (defBody st_deeds_at) (defScope st_deeds_at) [] [] (He.ga K "deeds_at") fd
  mg_deeds_at : mg "deeds_at" = some (.ref (He.ga K "deeds_at"))
  fn_rally_played : ∃ fd, FunD K "rally_played" "rally_played" (defArgs st_rally_played) (defBody st_rally_played) (defScope st_rally_played) [] [] (He.ga K "rally_played") fd
  mg_rally_played : mg "rally_played" = some (.ref (He.ga K "rally_played"))
  fn_down_played : ∃ fd, FunD K "down_played" "down_played" (defArgs st_down_played) (defBody st_down_played) (defScope st_down_played) [] [] (He.ga K "down_played") fd
  mg_down_played : mg "down_played" = some (.ref (He.ga K "down_played"))
  fn_lane_played : ∃ fd, FunD K "lane_played" "lane_played" (defArgs st_lane_played) (defBody st_lane_played) (defScope st_lane_played) [] [] (He.ga K "lane_played") fd
  mg_lane_played : mg "lane_played" = some (.ref (He.ga K "lane_played"))
  fn_played : ∃ fd, FunD K "played" "played" (defArgs st_played) (defBody st_played) (defScope st_played) [] [] (He.ga K "played") fd
  mg_played : mg "played" = some (.ref (He.ga K "played"))
  fn_stands_of : ∃ fd, FunD K "stands_of" "stands_of" (defArgs st_stands_of) (defBody st_stands_of) (defScope st_stands_of) [] [] (He.ga K "stands_of") fd
  mg_stands_of : mg "stands_of" = some (.ref (He.ga K "stands_of"))
  fn_Book_new : ∃ fd, FunD K "__init__" "Book.__init__" (defArgs st_Book_new) (defBody st_Book_new) (defScope st_Book_new) [] [] (He.ma K (He.ga K "Book") "__init__") fd
  meth_Book_new : Meth K (He.ga K "Book") "__init__" (He.ma K (He.ga K "Book") "__init__")
  fn_Book_game : ∃ fd, FunD K "game" "Book.game" (defArgs st_Book_game) (defBody st_Book_game) (defScope st_Book_game) [] [] (He.ma K (He.ga K "Book") "game") fd
  meth_Book_game : Meth K (He.ga K "Book") "game" (He.ma K (He.ga K "Book") "game")
  fn_Book_deeds : ∃ fd, FunD K "deeds" "Book.deeds" (defArgs st_Book_deeds) (defBody st_Book_deeds) (defScope st_Book_deeds) [] [] (He.ma K (He.ga K "Book") "deeds") fd
  meth_Book_deeds : Meth K (He.ga K "Book") "deeds" (He.ma K (He.ga K "Book") "deeds")
  fn_Book_add : ∃ fd, FunD K "add" "Book.add" (defArgs st_Book_add) (defBody st_Book_add) (defScope st_Book_add) [] [] (He.ma K (He.ga K "Book") "add") fd
  meth_Book_add : Meth K (He.ga K "Book") "add" (He.ma K (He.ga K "Book") "add")
  fn_Book_back : ∃ fd, FunD K "back" "Book.back" (defArgs st_Book_back) (defBody st_Book_back) (defScope st_Book_back) [] [] (He.ma K (He.ga K "Book") "back") fd
  meth_Book_back : Meth K (He.ga K "Book") "back" (He.ma K (He.ga K "Book") "back")
  fn_Book_hold_number : ∃ fd, FunD K "hold_number" "Book.hold_number" (defArgs st_Book_hold_number) (defBody st_Book_hold_number) (defScope st_Book_hold_number) [] [] (He.ma K (He.ga K "Book") "hold_number") fd
  meth_Book_hold_number : Meth K (He.ga K "Book") "hold_number" (He.ma K (He.ga K "Book") "hold_number")
  fn_Book_written_anew : ∃ fd, FunD K "written_anew" "Book.written_anew" (defArgs st_Book_written_anew) (defBody st_Book_written_anew) (defScope st_Book_written_anew) [] [] (He.ma K (He.ga K "Book") "written_anew") fd
  meth_Book_written_anew : Meth K (He.ga K "Book") "written_anew" (He.ma K (He.ga K "Book") "written_anew")
  fn_Book_put_right : ∃ fd, FunD K "put_right" "Book.put_right" (defArgs st_Book_put_right) (defBody st_Book_put_right) (defScope st_Book_put_right) [] [] (He.ma K (He.ga K "Book") "put_right") fd
  meth_Book_put_right : Meth K (He.ga K "Book") "put_right" (He.ma K (He.ga K "Book") "put_right")
  fn_Book_put_in : ∃ fd, FunD K "put_in" "Book.put_in" (defArgs st_Book_put_in) (defBody st_Book_put_in) (defScope st_Book_put_in) [] [] (He.ma K (He.ga K "Book") "put_in") fd
  meth_Book_put_in : Meth K (He.ga K "Book") "put_in" (He.ma K (He.ga K "Book") "put_in")
  fn_Book_leave_out : ∃ fd, FunD K "leave_out" "Book.leave_out" (defArgs st_Book_leave_out) (defBody st_Book_leave_out) (defScope st_Book_leave_out) [] [] (He.ma K (He.ga K "Book") "leave_out") fd
  meth_Book_leave_out : Meth K (He.ga K "Book") "leave_out" (He.ma K (He.ga K "Book") "leave_out")
  fn_Book_stand : ∃ fd, FunD K "stand" "Book.stand" (defArgs st_Book_stand) (defBody st_Book_stand) (defScope st_Book_stand) [.non] [] (He.ma K (He.ga K "Book") "stand") fd
  meth_Book_stand : Meth K (He.ga K "Book") "stand" (He.ma K (He.ga K "Book") "stand")
  fn_l_cell_at : ∃ fd, FunD K "_law_cell_at" "_law_cell_at" (defArgs st_l_cell_at) (defBody st_l_cell_at) (defScope st_l_cell_at) [] [] (He.ga K "_law_cell_at") fd
  mg_l_cell_at : mg "_law_cell_at" = some (.ref (He.ga K "_law_cell_at"))
  fn_l_draws : ∃ fd, FunD K "_law_draws" "_law_draws" (defArgs st_l_draws) (defBody st_l_draws) (defScope st_l_draws) [] [] (He.ga K "_law_draws") fd
  mg_l_draws : mg "_law_draws" = some (.ref (He.ga K "_law_draws"))
  fn_l_unit : ∃ fd, FunD K "_law_unit" "_law_unit" (defArgs st_l_unit) (defBody st_l_unit) (defScope st_l_unit) [] [] (He.ga K "_law_unit") fd
  mg_l_unit : mg "_law_unit" = some (.ref (He.ga K "_law_unit"))
  fn_l_throws : ∃ fd, FunD K "_law_throws" "_law_throws" (defArgs st_l_throws) (defBody st_l_throws) (defScope st_l_throws) [] [] (He.ga K "_law_throws") fd
  mg_l_throws : mg "_law_throws" = some (.ref (He.ga K "_law_throws"))
  fn_l_game : ∃ fd, FunD K "_law_game" "_law_game" (defArgs st_l_game) (defBody st_l_game) (defScope st_l_game) [] [] (He.ga K "_law_game") fd
  mg_l_game : mg "_law_game" = some (.ref (He.ga K "_law_game"))
  fn_l_bad : ∃ fd, FunD K "_law_bad" "_law_bad" (defArgs st_l_bad) (defBody st_l_bad) (defScope st_l_bad) [] [] (He.ga K "_law_bad") fd
  mg_l_bad : mg "_law_bad" = some (.ref (He.ga K "_law_bad"))
  fn_l_deed : ∃ fd, FunD K "_law_deed" "_law_deed" (defArgs st_l_deed) (defBody st_l_deed) (defScope st_l_deed) [] [] (He.ga K "_law_deed") fd
  mg_l_deed : mg "_law_deed" = some (.ref (He.ga K "_law_deed"))
  fn_l_kinds : ∃ fd, FunD K "_law_kinds" "_law_kinds" (defArgs st_l_kinds) (defBody st_l_kinds) (defScope st_l_kinds) [] [] (He.ga K "_law_kinds") fd
  mg_l_kinds : mg "_law_kinds" = some (.ref (He.ga K "_law_kinds"))
  fn_l_due : ∃ fd, FunD K "_law_due" "_law_due" (defArgs st_l_due) (defBody st_l_due) (defScope st_l_due) [] [] (He.ga K "_law_due") fd
  mg_l_due : mg "_law_due" = some (.ref (He.ga K "_law_due"))
  fn_l_right : ∃ fd, FunD K "_law_right" "_law_right" (defArgs st_l_right) (defBody st_l_right) (defScope st_l_right) [] [] (He.ga K "_law_right") fd
  mg_l_right : mg "_law_right" = some (.ref (He.ga K "_law_right"))
  fn_l_stands : ∃ fd, FunD K "_law_stands" "_law_stands" (defArgs st_l_stands) (defBody st_l_stands) (defScope st_l_stands) [] [] (He.ga K "_law_stands") fd
  mg_l_stands : mg "_law_stands" = some (.ref (He.ga K "_law_stands"))
  fn_l_told : ∃ fd, FunD K "_law_told" "_law_told" (defArgs st_l_told) (defBody st_l_told) (defScope st_l_told) [] [] (He.ga K "_law_told") fd
  mg_l_told : mg "_law_told" = some (.ref (He.ga K "_law_told"))
  fn_l_row_then : ∃ fd, FunD K "_law_row_then" "_law_row_then" (defArgs st_l_row_then) (defBody st_l_row_then) (defScope st_l_row_then) [] [] (He.ga K "_law_row_then") fd
  mg_l_row_then : mg "_law_row_then" = some (.ref (He.ga K "_law_row_then"))
  fn_l_anew : ∃ fd, FunD K "_law_anew" "_law_anew" (defArgs st_l_anew) (defBody st_l_anew) (defScope st_l_anew) [] [] (He.ga K "_law_anew") fd
  mg_l_anew : mg "_law_anew" = some (.ref (He.ga K "_law_anew"))
  fn_law : ∃ fd, FunD K "law" "law" (defArgs st_law) (defBody st_law) (defScope st_law) [] [] (He.ga K "law") fd
  mg_law : mg "law" = some (.ref (He.ga K "law"))
  no_ValueError : mg "ValueError" = none
  no_all : mg "all" = none
  no_bool : mg "bool" = none
  no_enumerate : mg "enumerate" = none
  no_int : mg "int" = none
  no_isinstance : mg "isinstance" = none
  no_len : mg "len" = none
  no_list : mg "list" = none
  no_max : mg "max" = none
  no_min : mg "min" = none
  no_range : mg "range" = none
  no_repr : mg "repr" = none
  no_set : mg "set" = none
  no_str : mg "str" = none
  no_tuple : mg "tuple" = none
  cls_Book : Cls K (He.ga K "Book")
  noat_Book_kept_deeds : NoAttr K (He.ga K "Book") "kept_deeds"
  noat_Book_kept_game : NoAttr K (He.ga K "Book") "kept_game"
  noat_Book_kept_stands : NoAttr K (He.ga K "Book") "kept_stands"
  mkr_Book : Mk K (He.ga K "Book") (He.ma K (He.ga K "Book") "__init__")
  mk_Book : mg "Book" = some (.ref (He.ga K "Book"))
  mc_BadWord : mg "BadWord" = some (.ref (He.ga K "BadWord"))
  mc_Falls : mg "Falls" = some (.ref (He.ga K "Falls"))
  mc_NoDeed : mg "NoDeed" = some (.ref (He.ga K "NoDeed"))
  mc_NoGame : mg "NoGame" = some (.ref (He.ga K "NoGame"))
  mc_NoLine : mg "NoLine" = some (.ref (He.ga K "NoLine"))
  mc_NoPins : mg "NoPins" = some (.ref (He.ga K "NoPins"))
  mc_NoSide : mg "NoSide" = some (.ref (He.ga K "NoSide"))
  mc_NoThrow : mg "NoThrow" = some (.ref (He.ga K "NoThrow"))
  mc_Over : mg "Over" = some (.ref (He.ga K "Over"))
  mc_ScoreError : mg "ScoreError" = some (.ref (He.ga K "ScoreError"))
  mc_TooMany : mg "TooMany" = some (.ref (He.ga K "TooMany"))
  ex_NoDeed : ExF K mg "NoDeed"
  ex_NoGame : ExF K mg "NoGame"
  ex_NoPins : ExF K mg "NoPins"
  ex_NoSide : ExF K mg "NoSide"
  ex_NoThrow : ExF K mg "NoThrow"
  ex_Over : ExF K mg "Over"
  ei_Falls : ExI K mg "Falls"
  base_ScoreError : BaseI K mg "ScoreError"
  exsub : ExSub K ["NoThrow", "NoPins", "NoSide", "Over", "NoGame", "NoDeed", "TooMany", "NoLine", "BadWord", "Falls"] hcls
  ist : IsT K ["NoThrow", "NoPins", "NoSide", "Over", "NoGame", "NoDeed", "TooMany", "NoLine", "BadWord", "Falls"] icls
  at_ : atB K ["BadWord", "Falls"] = true
  rs : rsB K ["NoThrow", "NoPins", "NoSide", "Over", "NoGame", "NoDeed", "TooMany", "NoLine", "BadWord", "Falls"] = true
  gl_LETTERS : Glob K mg "LETTERS" (.str "abcdefghijklmnopqrstuvwxyz")
  gl_FIGURES : Glob K mg "FIGURES" (.str "0123456789")
  gl_POINT : Glob K mg "POINT" (.tup [(.str "point")])
  gl_GREATEST : Glob K mg "GREATEST" (.int 99)
  gl_MOST_UNITS : Glob K mg "MOST_UNITS" (.int 10)
  gl_MOST_DEEP : Glob K mg "MOST_DEEP" (.int 4)
section
variable {P : Program} {w : World} {K : PySem.W.Frag} {mg : Str → Option Value} {base : Heap}
theorem sc_Falls_new : FnScope ["self", "at"] ["self", "at"] (defScope st_Falls_new) := ⟨rfl, rfl, rfl, by decide +kernel, rfl, by decide +kernel, by decide +kernel⟩
theorem okh_Falls_new (Z : Facts K mg) : IniH P w K mg base "Falls" 1 :=
  iniOkH (k := 0) Z.ei_Falls Z.fn_Falls_new sc_Falls_new (fun _ _ _ _ _ _ us hl => match us, hl with | [_, _], _ => rfl) (fun cdv A outer s H E p => ((pss_cons (ps_expr (pe_baseI Z.base_ScoreError (pa_cons pe_self (pa_cons pe_str pa_nil)))) (pss_one (ps_ost pe_self pe_at)))))
theorem sc_is_between : FnScope ["thing", "low", "high"] ["thing", "low", "high"] (defScope st_is_between) := ⟨rfl, rfl, rfl, by decide +kernel, rfl, by decide +kernel, by decide +kernel⟩
theorem ok_is_between (Z : Facts K mg) : Callee P w K mg base "is_between" 3 (0 + 1) m_is_between :=
  okD (ps := ["thing", "low", "high"]) (k := 0) Z.fn_is_between sc_is_between Z.mg_is_between (fun _ _ _ _ _ _ us hl => match us, hl with | [_, _, _], _ => rfl) (fun cdv A outer s H E C => ((ds_one (ds_ret (d_and (d_isi (U := "int") rfl Z.no_isinstance rfl Z.no_int boot_int (d_var (i := 0))) (d_and (d_not (d_isi (U := "bool") rfl Z.no_isinstance rfl Z.no_bool boot_bool (d_var (i := 0)))) (d_one (d_chain o_le o_le (d_var (i := 1)) (d_var (i := 0)) (d_var (i := 2))))))))))
theorem sc_is_throw_name : FnScope ["thing", "sign"] ["thing"] (defScope st_is_throw_name) := ⟨rfl, rfl, rfl, by decide +kernel, rfl, by decide +kernel, by decide +kernel⟩
theorem ok_is_throw_name (Z : Facts K mg) : Callee P w K mg base "is_throw_name" 1 (0 + 1) m_is_throw_name :=
  okD (ps := ["thing"]) (k := 0) Z.fn_is_throw_name sc_is_throw_name Z.mg_is_throw_name (fun _ _ _ _ _ _ us hl => match us, hl with | [_], _ => rfl) (fun cdv A outer s H E C => ((ds_cons (ds_if (PW.pt (dt_or (dt_not (dt_tru (d_isi (U := "str") rfl Z.no_isinstance rfl Z.no_str boot_str (d_var (i := 0))))) (dt_or (dt_cmp o_lt (d_callB c_len rfl Z.no_len boot_len (da_cons (d_var (i := 0)) da_nil)) d_int (nomark _)) (dt_or (dt_cmp o_gt (d_callB c_len rfl Z.no_len boot_len (da_cons (d_var (i := 0)) da_nil)) d_int (nomark _)) (dt_or1 (dt_cmp o_notIn (d_idx (d_var (i := 0)) d_int) (d_glob Z.gl_LETTERS) (by with_unfolding_all rfl))))))) (ds_one (ds_ret d_bl)) ds_nil)
    (ds_one (ds_ret (d_callB (c_all C.calm) rfl Z.no_all (by decide +kernel) (da_cons (d_comp (i := 1) C (di_any (d_var (i := 0))) (blkOk_by (by kernel_rfl)) (fun _ _ _ _ _ => pg_name (i := 1) C.nd rfl (Or.inl rfl)) (fun _ _ _ _ _ C1 => dts_nil) (fun _ _ _ _ _ C1 => (d_or (d_cmp o_in (d_var (i := 1)) (d_glob Z.gl_LETTERS) (by with_unfolding_all rfl)) (d_one (d_cmp o_in (d_var (i := 1)) (d_glob Z.gl_FIGURES) (by with_unfolding_all rfl)))))) da_nil)))))))
theorem sc_is_throw : FnScope ["thing"] ["thing"] (defScope st_is_throw) := ⟨rfl, rfl, rfl, by decide +kernel, rfl, by decide +kernel, by decide +kernel⟩
theorem ok_is_throw (Z : Facts K mg) : Callee P w K mg base "is_throw" 1 (1 + 1) m_is_throw :=
  okD (ps := ["thing"]) (k := 1) Z.fn_is_throw sc_is_throw Z.mg_is_throw (fun _ _ _ _ _ _ us hl => match us, hl with | [_], _ => rfl) (fun cdv A outer s H E C => ((ds_cons (ds_if (PW.pt (dt_or (dt_not (dt_tru (d_isi (U := "tuple") rfl Z.no_isinstance rfl Z.no_tuple boot_tuple (d_var (i := 0))))) (dt_or (dt_cmp (o_ne C.hu) (d_callB c_len rfl Z.no_len boot_len (da_cons (d_var (i := 0)) da_nil)) d_int (nomark _)) (dt_or1 (dt_not (dt_tru (d_call C (ok_is_throw_name Z) (by omega) (da_cons (d_idx (d_var (i := 0)) d_int) da_nil)))))))) (ds_one (ds_ret d_bl)) ds_nil)
    (ds_one (ds_ret (d_and (d_call C (ok_is_between Z) (by omega) (da_cons (d_idx (d_var (i := 0)) d_int) (da_cons d_int (da_cons d_int da_nil)))) (d_one (d_isi (U := "bool") rfl Z.no_isinstance rfl Z.no_bool boot_bool (d_idx (d_var (i := 0)) d_int)))))))))
theorem sc_is_down : FnScope ["thing", "throw"] ["thing"] (defScope st_is_down) := ⟨rfl, rfl, rfl, by decide +kernel, rfl, by decide +kernel, by decide +kernel⟩
theorem ok_is_down (Z : Facts K mg) : Callee P w K mg base "is_down" 1 (2 + 1) m_is_down :=
  okD (ps := ["thing"]) (k := 2) Z.fn_is_down sc_is_down Z.mg_is_down (fun _ _ _ _ _ _ us hl => match us, hl with | [_], _ => rfl) (fun cdv A outer s H E C => ((ds_cons (ds_if (PW.pt (dt_or (dt_not (dt_tru (d_isi (U := "tuple") rfl Z.no_isinstance rfl Z.no_tuple boot_tuple (d_var (i := 0))))) (dt_or (dt_cmp (o_ne C.hu) (d_callB c_len rfl Z.no_len boot_len (da_cons (d_var (i := 0)) da_nil)) d_int (nomark _)) (dt_or1 (dt_not (dt_tru (d_isi (U := "tuple") rfl Z.no_isinstance rfl Z.no_tuple boot_tuple (d_idx (d_var (i := 0)) d_int)))))))) (ds_one (ds_ret d_bl)) ds_nil)
    (ds_cons (ds_if (PW.pt (dt_or (dt_not (dt_tru (d_call C (ok_is_between Z) (by omega) (da_cons (d_idx (d_var (i := 0)) d_int) (da_cons d_int (da_cons d_int da_nil)))))) (dt_or (dt_not (dt_tru (d_call C (ok_is_between Z) (by omega) (da_cons (d_idx (d_var (i := 0)) d_int) (da_cons d_int (da_cons d_int da_nil)))))) (dt_or1 (dt_not (dt_tru (d_call C (ok_is_between Z) (by omega) (da_cons (d_idx (d_var (i := 0)) d_int) (da_cons d_int (da_cons d_int da_nil)))))))))) (ds_one (ds_ret d_bl)) ds_nil)
    (ds_cons (ds_if (PW.pt (dt_or (dt_cmp o_lt (d_callB c_len rfl Z.no_len boot_len (da_cons (d_idx (d_var (i := 0)) d_int) da_nil)) d_int (nomark _)) (dt_or (dt_cmp o_gt (d_callB c_len rfl Z.no_len boot_len (da_cons (d_idx (d_var (i := 0)) d_int) da_nil)) d_int (nomark _)) (dt_or1 (dt_not (dt_tru (d_callB (c_all C.calm) rfl Z.no_all (by decide +kernel) (da_cons (d_comp (i := 1) C (di_any (d_idx (d_var (i := 0)) d_int)) (blkOk_by (by kernel_rfl)) (fun _ _ _ _ _ => pg_name (i := 1) C.nd rfl (Or.inl rfl)) (fun _ _ _ _ _ C1 => dts_nil) (fun _ _ _ _ _ C1 => (d_call C1 (ok_is_throw Z) (by omega) (da_cons (d_var (i := 1)) da_nil)))) da_nil)))))))) (ds_one (ds_ret d_bl)) ds_nil)
    (ds_one (ds_ret (d_cmp (o_eq C.hu) (d_lenSet C.calm Z.no_len Z.no_set (d_comp (i := 1) C (di_any (d_idx (d_var (i := 0)) d_int)) (blkOk_by (by kernel_rfl)) (fun _ _ _ _ _ => pg_name (i := 1) C.nd rfl (Or.inl rfl)) (fun _ _ _ _ _ C1 => dts_nil) (fun _ _ _ _ _ C1 => (d_idx (d_var (i := 1)) d_int)))) (d_callB c_len rfl Z.no_len boot_len (da_cons (d_idx (d_var (i := 0)) d_int) da_nil)) (nomark _)))))))))
theorem sc_down_begun : FnScope ["down"] ["down"] (defScope st_down_begun) := ⟨rfl, rfl, rfl, by decide +kernel, rfl, by decide +kernel, by decide +kernel⟩
theorem ok_down_begun (Z : Facts K mg) : Callee P w K mg base "down_begun" 1 (0 + 1) m_down_begun :=
  okD (ps := ["down"]) (k := 0) Z.fn_down_begun sc_down_begun Z.mg_down_begun (fun _ _ _ _ _ _ us hl => match us, hl with | [_], _ => rfl) (fun cdv A outer s H E C => ((ds_one (ds_ret (d_tup (da_cons (d_bin o_mul (d_tup (da_cons (d_idx (d_var (i := 0)) d_int) da_nil)) (d_idx (d_var (i := 0)) d_int)) (da_cons d_int (da_cons d_int (da_cons (d_idx (d_var (i := 0)) d_int) da_nil)))))))))
theorem sc_throw_named : FnScope ["down", "name", "throw"] ["down", "name"] (defScope st_throw_named) := ⟨rfl, rfl, rfl, by decide +kernel, rfl, by decide +kernel, by decide +kernel⟩
theorem ok_throw_named (Z : Facts K mg) : Callee P w K mg base "throw_named" 2 (0 + 1) m_throw_named :=
  okD (ps := ["down", "name"]) (k := 0) Z.fn_throw_named sc_throw_named Z.mg_throw_named (fun _ _ _ _ _ _ us hl => match us, hl with | [_, _], _ => rfl) (fun cdv A outer s H E C => ((ds_cons (ds_for C (di_any (d_idx (d_var (i := 0)) d_int)) (dg_name (i := 2) C.nd) (ds_one (ds_if (dt_cmp (o_eq C.hu) (d_idx (d_var (i := 2)) d_int) (d_var (i := 1)) (nomark _)) (ds_one (ds_ret (d_var (i := 2)))) ds_nil)))
    (ds_one (ds_raise C Z.ex_NoThrow)))))
theorem sc_with_count : FnScope ["counts", "side", "count"] ["counts", "side", "count"] (defScope st_with_count) := ⟨rfl, rfl, rfl, by decide +kernel, rfl, by decide +kernel, by decide +kernel⟩
theorem ok_with_count (Z : Facts K mg) : Callee P w K mg base "with_count" 3 (0 + 1) m_with_count :=
  okD (ps := ["counts", "side", "count"]) (k := 0) Z.fn_with_count sc_with_count Z.mg_with_count (fun _ _ _ _ _ _ us hl => match us, hl with | [_, _, _], _ => rfl) (fun cdv A outer s H E C => ((ds_one (ds_ret (d_bin o_add (d_bin o_add (d_sl (d_var (i := 0)) do_none (do_some (d_var (i := 1)))) (d_tup (da_cons (d_var (i := 2)) da_nil))) (d_sl (d_var (i := 0)) (do_some (d_bin o_add (d_var (i := 1)) d_int)) do_none))))))
theorem sc_turn_ended : FnScope ["down", "counts", "side", "other"] ["down", "counts", "side"] (defScope st_turn_ended) := ⟨rfl, rfl, rfl, by decide +kernel, rfl, by decide +kernel, by decide +kernel⟩
theorem ok_turn_ended (Z : Facts K mg) : Callee P w K mg base "turn_ended" 3 (0 + 1) m_turn_ended :=
  okD (ps := ["down", "counts", "side"]) (k := 0) Z.fn_turn_ended sc_turn_ended Z.mg_turn_ended (fun _ _ _ _ _ _ us hl => match us, hl with | [_, _, _], _ => rfl) (fun cdv A outer s H E C => ((ds_cons (ds_set (i := 3) C.nd (d_bin o_mod (d_bin o_add (d_var (i := 2)) d_int) (d_idx (d_var (i := 0)) d_int)))
    (ds_one (ds_ret (d_tup (da_cons (d_var (i := 1)) (da_cons (d_var (i := 3)) (da_cons d_int (da_cons (d_idx (d_var (i := 1)) (d_var (i := 3))) da_nil))))))))))
theorem sc_down_thrown : FnScope ["down", "stand", "name", "throw", "left", "counts", "side", "thrown", "held"] ["down", "stand", "name"] (defScope st_down_thrown) := ⟨rfl, rfl, rfl, by decide +kernel, rfl, by decide +kernel, by decide +kernel⟩
theorem ok_down_thrown (Z : Facts K mg) : Callee P w K mg base "down_thrown" 3 (1 + 1) m_down_thrown :=
  okD (ps := ["down", "stand", "name"]) (k := 1) Z.fn_down_thrown sc_down_thrown Z.mg_down_thrown (fun _ _ _ _ _ _ us hl => match us, hl with | [_, _, _], _ => rfl) (fun cdv A outer s H E C => ((ds_cons (ds_asg (d_var (i := 1)) (dg_tup (pg_tup C.calm (pgs_cons (pg_name (i := 5) C.nd rfl (by first | exact .inl rfl | exact .inr rfl)) (pgs_cons (pg_name (i := 6) C.nd rfl (by first | exact .inl rfl | exact .inr rfl)) (pgs_cons (pg_name (i := 7) C.nd rfl (by first | exact .inl rfl | exact .inr rfl)) (pgs_cons (pg_name (i := 8) C.nd rfl (by first | exact .inl rfl | exact .inr rfl)) pgs_nil)))))))
    (ds_cons (ds_set (i := 3) C.nd (d_call C (ok_throw_named Z) (by omega) (da_cons (d_var (i := 0)) (da_cons (d_var (i := 2)) da_nil))))
    (ds_cons (ds_set (i := 4) C.nd (d_bin o_sub (d_idx (d_var (i := 5)) (d_var (i := 6))) (d_idx (d_var (i := 3)) d_int)))
    (ds_cons (ds_if (PW.pt (dt_and (dt_cmp (o_eq C.hu) (d_var (i := 4)) d_int (nomark _)) (dt_and1 (dt_tru (d_idx (d_var (i := 3)) d_int))))) (ds_one (ds_ret (d_tup (da_cons (d_tup (da_cons (d_call C (ok_with_count Z) (by omega) (da_cons (d_var (i := 5)) (da_cons (d_var (i := 6)) (da_cons d_int da_nil)))) (da_cons (d_var (i := 6)) (da_cons (d_bin o_add (d_var (i := 7)) d_int) (da_cons (d_var (i := 8)) da_nil))))) (da_cons d_bl da_nil))))) ds_nil)
    (ds_cons (ds_if (dt_cmp o_le (d_var (i := 4)) d_int (nomark _)) (ds_one (ds_ret (d_tup (da_cons (d_call C (ok_turn_ended Z) (by omega) (da_cons (d_var (i := 0)) (da_cons (d_call C (ok_with_count Z) (by omega) (da_cons (d_var (i := 5)) (da_cons (d_var (i := 6)) (da_cons (d_var (i := 8)) da_nil)))) (da_cons (d_var (i := 6)) da_nil)))) (da_cons d_bl da_nil))))) ds_nil)
    (ds_cons (ds_set (i := 5) C.nd (d_call C (ok_with_count Z) (by omega) (da_cons (d_var (i := 5)) (da_cons (d_var (i := 6)) (da_cons (d_var (i := 4)) da_nil)))))
    (ds_cons (ds_if (dt_cmp (o_eq C.hu) (d_bin o_add (d_var (i := 7)) d_int) (d_idx (d_var (i := 0)) d_int) (nomark _)) (ds_one (ds_ret (d_tup (da_cons (d_call C (ok_turn_ended Z) (by omega) (da_cons (d_var (i := 0)) (da_cons (d_var (i := 5)) (da_cons (d_var (i := 6)) da_nil)))) (da_cons d_bl da_nil))))) ds_nil)
    (ds_one (ds_ret (d_tup (da_cons (d_tup (da_cons (d_var (i := 5)) (da_cons (d_var (i := 6)) (da_cons (d_bin o_add (d_var (i := 7)) d_int) (da_cons (d_var (i := 8)) da_nil))))) (da_cons d_bl da_nil))))))))))))))
theorem sc_is_lane : FnScope ["thing"] ["thing"] (defScope st_is_lane) := ⟨rfl, rfl, rfl, by decide +kernel, rfl, by decide +kernel, by decide +kernel⟩
theorem ok_is_lane (Z : Facts K mg) : Callee P w K mg base "is_lane" 1 (1 + 1) m_is_lane :=
  okD (ps := ["thing"]) (k := 1) Z.fn_is_lane sc_is_lane Z.mg_is_lane (fun _ _ _ _ _ _ us hl => match us, hl with | [_], _ => rfl) (fun cdv A outer s H E C => ((ds_cons (ds_if (PW.pt (dt_or (dt_not (dt_tru (d_isi (U := "tuple") rfl Z.no_isinstance rfl Z.no_tuple boot_tuple (d_var (i := 0))))) (dt_or1 (dt_cmp (o_ne C.hu) (d_callB c_len rfl Z.no_len boot_len (da_cons (d_var (i := 0)) da_nil)) d_int (nomark _))))) (ds_one (ds_ret d_bl)) ds_nil)
    (ds_one (ds_ret (d_and (d_call C (ok_is_between Z) (by omega) (da_cons (d_idx (d_var (i := 0)) d_int) (da_cons d_int (da_cons d_int da_nil)))) (d_and (d_call C (ok_is_between Z) (by omega) (da_cons (d_idx (d_var (i := 0)) d_int) (da_cons d_int (da_cons d_int da_nil)))) (d_one (d_call C (ok_is_between Z) (by omega) (da_cons (d_idx (d_var (i := 0)) d_int) (da_cons d_int (da_cons d_int da_nil))))))))))))
theorem sc_lane_begun : FnScope ["lane"] ["lane"] (defScope st_lane_begun) := ⟨rfl, rfl, rfl, by decide +kernel, rfl, by decide +kernel, by decide +kernel⟩
theorem ok_lane_begun (Z : Facts K mg) : Callee P w K mg base "lane_begun" 1 (0 + 1) m_lane_begun :=
  okD (ps := ["lane"]) (k := 0) Z.fn_lane_begun sc_lane_begun Z.mg_lane_begun (fun _ _ _ _ _ _ us hl => match us, hl with | [_], _ => rfl) (fun cdv A outer s H E C => ((ds_one (ds_ret (d_tup (da_cons (d_bin o_mul (d_tup (da_cons (d_tup (da_cons d_int (da_cons d_int (da_cons (d_idx (d_var (i := 0)) d_int) (da_cons d_int (da_cons d_int (da_cons d_int (da_cons d_int da_nil)))))))) da_nil)) (d_idx (d_var (i := 0)) d_int)) (da_cons d_int da_nil)))))))
theorem sc_frame_behind : FnScope ["lane", "row", "near", "far", "earned"] ["lane", "row", "near", "far", "earned"] (defScope st_frame_behind) := ⟨rfl, rfl, rfl, by decide +kernel, rfl, by decide +kernel, by decide +kernel⟩
theorem ok_frame_behind (Z : Facts K mg) : Callee P w K mg base "frame_behind" 5 (0 + 1) m_frame_behind :=
  okD (ps := ["lane", "row", "near", "far", "earned"]) (k := 0) Z.fn_frame_behind sc_frame_behind Z.mg_frame_behind (fun _ _ _ _ _ _ us hl => match us, hl with | [_, _, _, _, _], _ => rfl) (fun cdv A outer s H E C => ((ds_cons (ds_if (PW.pt (dt_and (dt_cmp (o_eq C.hu) (d_idx (d_var (i := 1)) d_int) (d_bin o_sub (d_idx (d_var (i := 0)) d_int) d_int) (nomark _)) (dt_and1 (dt_cmp o_gt (d_var (i := 4)) d_int (nomark _))))) (ds_one (ds_ret (d_tup (da_cons (d_tup (da_cons (d_idx (d_var (i := 1)) d_int) (da_cons d_int (da_cons (d_idx (d_var (i := 0)) d_int) (da_cons (d_var (i := 2)) (da_cons (d_var (i := 3)) (da_cons (d_var (i := 4)) (da_cons (d_idx (d_var (i := 1)) d_int) da_nil)))))))) (da_cons d_bl da_nil))))) ds_nil)
    (ds_one (ds_ret (d_tup (da_cons (d_tup (da_cons (d_bin o_add (d_idx (d_var (i := 1)) d_int) d_int) (da_cons d_int (da_cons (d_idx (d_var (i := 0)) d_int) (da_cons (d_var (i := 2)) (da_cons (d_var (i := 3)) (da_cons d_int (da_cons (d_idx (d_var (i := 1)) d_int) da_nil)))))))) (da_cons d_bl da_nil))))))))
theorem sc_extra_behind : FnScope ["lane", "row", "up"] ["lane", "row"] (defScope st_extra_behind) := ⟨rfl, rfl, rfl, by decide +kernel, rfl, by decide +kernel, by decide +kernel⟩
theorem ok_extra_behind (Z : Facts K mg) : Callee P w K mg base "extra_behind" 2 (0 + 1) m_extra_behind :=
  okD (ps := ["lane", "row"]) (k := 0) Z.fn_extra_behind sc_extra_behind Z.mg_extra_behind (fun _ _ _ _ _ _ us hl => match us, hl with | [_, _], _ => rfl) (fun cdv A outer s H E C => ((ds_cons (ds_if (dt_cmp (o_eq C.hu) (d_idx (d_var (i := 1)) d_int) d_int (nomark _)) (ds_one (ds_ret (d_tup (da_cons (d_tup (da_cons (d_bin o_add (d_idx (d_var (i := 1)) d_int) d_int) (da_cons d_int (da_cons (d_idx (d_var (i := 0)) d_int) (da_cons (d_idx (d_var (i := 1)) d_int) (da_cons (d_idx (d_var (i := 1)) d_int) (da_cons d_int (da_cons (d_idx (d_var (i := 1)) d_int) da_nil)))))))) (da_cons d_bl da_nil))))) ds_nil)
    (ds_cons (ds_set (i := 2) C.nd (d_idx (d_var (i := 1)) d_int))
    (ds_cons (ds_if (dt_cmp (o_eq C.hu) (d_var (i := 2)) d_int (nomark _)) (ds_one (ds_set (i := 2) C.nd (d_idx (d_var (i := 0)) d_int))) ds_nil)
    (ds_one (ds_ret (d_tup (da_cons (d_tup (da_cons (d_idx (d_var (i := 1)) d_int) (da_cons d_int (da_cons (d_var (i := 2)) (da_cons (d_idx (d_var (i := 1)) d_int) (da_cons (d_idx (d_var (i := 1)) d_int) (da_cons (d_bin o_sub (d_idx (d_var (i := 1)) d_int) d_int) (da_cons (d_idx (d_var (i := 1)) d_int) da_nil)))))))) (da_cons d_bl da_nil))))))))))
theorem sc_row_behind : FnScope ["lane", "row", "pins", "total", "felled", "done", "ball", "up", "near", "far", "extra"] ["lane", "row", "pins"] (defScope st_row_behind) := ⟨rfl, rfl, rfl, by decide +kernel, rfl, by decide +kernel, by decide +kernel⟩
theorem ok_row_behind (Z : Facts K mg) : Callee P w K mg base "row_behind" 3 (1 + 1) m_row_behind :=
  okD (ps := ["lane", "row", "pins"]) (k := 1) Z.fn_row_behind sc_row_behind Z.mg_row_behind (fun _ _ _ _ _ _ us hl => match us, hl with | [_, _, _], _ => rfl) (fun cdv A outer s H E C => ((ds_cons (ds_asg (d_var (i := 1)) (dg_tup (pg_tup C.calm (pgs_cons (pg_name (i := 5) C.nd rfl (by first | exact .inl rfl | exact .inr rfl)) (pgs_cons (pg_name (i := 6) C.nd rfl (by first | exact .inl rfl | exact .inr rfl)) (pgs_cons (pg_name (i := 7) C.nd rfl (by first | exact .inl rfl | exact .inr rfl)) (pgs_cons (pg_name (i := 8) C.nd rfl (by first | exact .inl rfl | exact .inr rfl)) (pgs_cons (pg_name (i := 9) C.nd rfl (by first | exact .inl rfl | exact .inr rfl)) (pgs_cons (pg_name (i := 10) C.nd rfl (by first | exact .inl rfl | exact .inr rfl)) (pgs_cons (pg_name (i := 3) C.nd rfl (by first | exact .inl rfl | exact .inr rfl)) pgs_nil))))))))))
    (ds_cons (ds_set (i := 3) C.nd (d_bin o_add (d_var (i := 3)) (d_bin o_mul (d_var (i := 2)) (d_var (i := 8)))))
    (ds_cons (ds_if (dt_cmp o_gt (d_var (i := 10)) d_int (nomark _)) (ds_one (ds_ret (d_call C (ok_extra_behind Z) (by omega) (da_cons (d_var (i := 0)) (da_cons (d_tup (da_cons (d_var (i := 5)) (da_cons d_int (da_cons (d_bin o_sub (d_var (i := 7)) (d_var (i := 2))) (da_cons (d_var (i := 9)) (da_cons d_int (da_cons (d_var (i := 10)) (da_cons (d_var (i := 3)) da_nil)))))))) da_nil))))) ds_nil)
    (ds_cons (ds_set (i := 4) C.nd (d_tup (da_cons (d_var (i := 5)) (da_cons (d_bin o_add (d_var (i := 6)) d_int) (da_cons (d_bin o_sub (d_var (i := 7)) (d_var (i := 2))) (da_cons (d_var (i := 9)) (da_cons d_int (da_cons d_int (da_cons (d_bin o_add (d_var (i := 3)) (d_var (i := 2))) da_nil)))))))))
    (ds_cons (ds_if (PW.pt (dt_and (dt_cmp (o_eq C.hu) (d_var (i := 7)) (d_var (i := 2)) (nomark _)) (dt_and1 (dt_cmp (o_eq C.hu) (d_var (i := 6)) d_int (nomark _))))) (ds_one (ds_ret (d_call C (ok_frame_behind Z) (by omega) (da_cons (d_var (i := 0)) (da_cons (d_var (i := 4)) (da_cons (d_bin o_add (d_var (i := 9)) d_int) (da_cons d_int (da_cons d_int da_nil)))))))) ds_nil)
    (ds_cons (ds_if (dt_cmp (o_eq C.hu) (d_var (i := 7)) (d_var (i := 2)) (nomark _)) (ds_one (ds_ret (d_call C (ok_frame_behind Z) (by omega) (da_cons (d_var (i := 0)) (da_cons (d_var (i := 4)) (da_cons (d_bin o_add (d_var (i := 9)) d_int) (da_cons d_int (da_cons d_int da_nil)))))))) ds_nil)
    (ds_cons (ds_if (dt_cmp (o_eq C.hu) (d_var (i := 6)) d_int (nomark _)) (ds_one (ds_ret (d_call C (ok_frame_behind Z) (by omega) (da_cons (d_var (i := 0)) (da_cons (d_var (i := 4)) (da_cons (d_var (i := 9)) (da_cons d_int (da_cons d_int da_nil)))))))) ds_nil)
    (ds_one (ds_ret (d_tup (da_cons (d_var (i := 4)) (da_cons d_bl da_nil))))))))))))))
theorem sc_lane_bowled : FnScope ["lane", "stand", "pins", "rows", "side", "row", "ended", "one"] ["lane", "stand", "pins"] (defScope st_lane_bowled) := ⟨rfl, rfl, rfl, by decide +kernel, rfl, by decide +kernel, by decide +kernel⟩
theorem ok_lane_bowled (Z : Facts K mg) : Callee P w K mg base "lane_bowled" 3 (2 + 1) m_lane_bowled :=
  okD (ps := ["lane", "stand", "pins"]) (k := 2) Z.fn_lane_bowled sc_lane_bowled Z.mg_lane_bowled (fun _ _ _ _ _ _ us hl => match us, hl with | [_, _, _], _ => rfl) (fun cdv A outer s H E C => ((ds_cons (ds_asg (d_var (i := 1)) (dg_tup (pg_tup C.calm (pgs_cons (pg_name (i := 3) C.nd rfl (by first | exact .inl rfl | exact .inr rfl)) (pgs_cons (pg_name (i := 4) C.nd rfl (by first | exact .inl rfl | exact .inr rfl)) pgs_nil)))))
    (ds_cons (ds_if (dt_not (dt_tru (d_call C (ok_is_between Z) (by omega) (da_cons (d_var (i := 2)) (da_cons d_int (da_cons (d_idx (d_idx (d_var (i := 3)) (d_var (i := 4))) d_int) da_nil)))))) (ds_one (ds_raise C Z.ex_NoPins)) ds_nil)
    (ds_cons (ds_asg (d_call C (ok_row_behind Z) (by omega) (da_cons (d_var (i := 0)) (da_cons (d_idx (d_var (i := 3)) (d_var (i := 4))) (da_cons (d_var (i := 2)) da_nil)))) (dg_tup (pg_tup C.calm (pgs_cons (pg_name (i := 5) C.nd rfl (by first | exact .inl rfl | exact .inr rfl)) (pgs_cons (pg_name (i := 6) C.nd rfl (by first | exact .inl rfl | exact .inr rfl)) pgs_nil)))))
    (ds_cons (ds_set (i := 3) C.nd (d_bin o_add (d_bin o_add (d_sl (d_var (i := 3)) do_none (do_some (d_var (i := 4)))) (d_tup (da_cons (d_var (i := 5)) da_nil))) (d_sl (d_var (i := 3)) (do_some (d_bin o_add (d_var (i := 4)) d_int)) do_none)))
    (ds_cons (ds_if (dt_tru (d_var (i := 6))) (ds_one (ds_set (i := 4) C.nd (d_bin o_mod (d_bin o_add (d_var (i := 4)) d_int) (d_idx (d_var (i := 0)) d_int)))) ds_nil)
    (ds_one (ds_ret (d_tup (da_cons (d_tup (da_cons (d_var (i := 3)) (da_cons (d_var (i := 4)) da_nil))) (da_cons (d_callB (c_all C.calm) rfl Z.no_all (by decide +kernel) (da_cons (d_comp (i := 7) C (di_any (d_var (i := 3))) (blkOk_by (by kernel_rfl)) (fun _ _ _ _ _ => pg_name (i := 7) C.nd rfl (Or.inl rfl)) (fun _ _ _ _ _ C1 => dts_nil) (fun _ _ _ _ _ C1 => (d_cmp (o_eq C1.hu) (d_idx (d_var (i := 7)) d_int) (d_idx (d_var (i := 0)) d_int) (nomark _)))) da_nil)) da_nil))))))))))))
theorem sc_best_of : FnScope ["stand", "totals", "row", "side"] ["stand"] (defScope st_best_of) := ⟨rfl, rfl, rfl, by decide +kernel, rfl, by decide +kernel, by decide +kernel⟩
theorem ok_best_of (Z : Facts K mg) : Callee P w K mg base "best_of" 1 (0 + 1) m_best_of :=
  okD (ps := ["stand"]) (k := 0) Z.fn_best_of sc_best_of Z.mg_best_of (fun _ _ _ _ _ _ us hl => match us, hl with | [_], _ => rfl) (fun cdv A outer s H E C => ((ds_cons (ds_set (i := 1) C.nd (d_comp (i := 2) C (di_any (d_idx (d_var (i := 0)) d_int)) (blkOk_by (by kernel_rfl)) (fun _ _ _ _ _ => pg_name (i := 2) C.nd rfl (Or.inl rfl)) (fun _ _ _ _ _ C1 => dts_nil) (fun _ _ _ _ _ C1 => (d_idx (d_var (i := 2)) d_int))))
    (ds_one (ds_ret (d_callTy c_tuple rfl Z.no_tuple boot_tuple (da_cons (d_comp (i := 3) C (di_range1 Z.no_range (d_callB c_len rfl Z.no_len boot_len (da_cons (d_var (i := 1)) da_nil))) (blkOk_by (by kernel_rfl)) (fun _ _ _ _ _ => pg_name (i := 3) C.nd rfl (Or.inl rfl)) (fun _ _ _ _ _ C1 => (dts_one (dt_cmp (o_eq C1.hu) (d_idx (d_var (i := 1)) (d_var (i := 3))) (d_callB (c_max C1.calm) rfl Z.no_max boot_max (da_cons (d_var (i := 1)) da_nil)) (nomark _)))) (fun _ _ _ _ _ C1 => (d_var (i := 3)))) da_nil)))))))
theorem sc_is_count : FnScope ["thing", "least"] ["thing", "least"] (defScope st_is_count) := ⟨rfl, rfl, rfl, by decide +kernel, rfl, by decide +kernel, by decide +kernel⟩
theorem ok_is_count (Z : Facts K mg) : Callee P w K mg base "is_count" 2 (0 + 1) m_is_count :=
  okD (ps := ["thing", "least"]) (k := 0) Z.fn_is_count sc_is_count Z.mg_is_count (fun _ _ _ _ _ _ us hl => match us, hl with | [_, _], _ => rfl) (fun cdv A outer s H E C => ((ds_one (ds_ret (d_and (d_isi (U := "int") rfl Z.no_isinstance rfl Z.no_int boot_int (d_var (i := 0))) (d_and (d_not (d_isi (U := "bool") rfl Z.no_isinstance rfl Z.no_bool boot_bool (d_var (i := 0)))) (d_one (d_chain o_le o_le (d_var (i := 1)) (d_var (i := 0)) (d_glob Z.gl_GREATEST)))))))))
theorem sc_has_numbers : FnScope ["unit"] ["unit"] (defScope st_has_numbers) := ⟨rfl, rfl, rfl, by decide +kernel, rfl, by decide +kernel, by decide +kernel⟩
theorem ok_has_numbers (Z : Facts K mg) : Callee P w K mg base "has_numbers" 1 (1 + 1) m_has_numbers :=
  okD (ps := ["unit"]) (k := 1) Z.fn_has_numbers sc_has_numbers Z.mg_has_numbers (fun _ _ _ _ _ _ us hl => match us, hl with | [_], _ => rfl) (fun cdv A outer s H E C => ((ds_cons (ds_if (PW.pt (dt_or (dt_not (dt_tru (d_call C (ok_is_count Z) (by omega) (da_cons (d_idx (d_var (i := 0)) d_int) (da_cons d_int da_nil))))) (dt_or1 (dt_not (dt_tru (d_call C (ok_is_count Z) (by omega) (da_cons (d_idx (d_var (i := 0)) d_int) (da_cons d_int da_nil)))))))) (ds_one (ds_ret d_bl)) ds_nil)
    (ds_cons (ds_if (dt_cmp o_is (d_idx (d_var (i := 0)) d_int) d_non (nomark _)) (ds_one (ds_ret (d_cmp o_is (d_idx (d_var (i := 0)) d_int) d_non (nomark _)))) ds_nil)
    (ds_one (ds_ret (d_call C (ok_is_count Z) (by omega) (da_cons (d_idx (d_var (i := 0)) d_int) (da_cons (d_idx (d_var (i := 0)) d_int) da_nil)))))))))
theorem sc_units_in : FnScope ["thing", "around", "many", "parts", "part", "more"] ["thing", "around"] (defScope st_units_in) := ⟨rfl, rfl, rfl, by decide +kernel, rfl, by decide +kernel, by decide +kernel⟩
theorem st1_units_in (Z : Facts K mg) (n : Nat) {r_units_in : Fn} (R_units_in : Callee P w K mg base "units_in" 2 (2 + n) r_units_in) : Callee P w K mg base "units_in" 2 (2 + n + 1) (fnD 2 6 (b_units_in r_units_in)) :=
  okD (ps := ["thing", "around"]) (k := 2 + n) Z.fn_units_in sc_units_in Z.mg_units_in (fun _ _ _ _ _ _ us hl => match us, hl with | [_, _], _ => rfl) (fun cdv A outer s H E C => ((ds_cons (ds_if (dt_cmp (o_eq C.hu) (d_var (i := 0)) (d_glob Z.gl_POINT) (nomark _)) (ds_one (ds_ret d_int)) ds_nil)
    (ds_cons (ds_if (PW.pt (dt_or (dt_not (dt_tru (d_isi (U := "tuple") rfl Z.no_isinstance rfl Z.no_tuple boot_tuple (d_var (i := 0))))) (dt_or (dt_cmp (o_ne C.hu) (d_callB c_len rfl Z.no_len boot_len (da_cons (d_var (i := 0)) da_nil)) d_int (nomark _)) (dt_or1 (dt_cmp (o_eq C.hu) (d_var (i := 1)) (d_glob Z.gl_MOST_DEEP) (nomark _)))))) (ds_one (ds_ret d_non)) ds_nil)
    (ds_cons (ds_if (PW.pt (dt_or (dt_cmp (o_ne C.hu) (d_idx (d_var (i := 0)) d_int) d_str (nomark _)) (dt_or1 (dt_not (dt_tru (d_call C (ok_has_numbers Z) (by omega) (da_cons (d_var (i := 0)) da_nil))))))) (ds_one (ds_ret d_non)) ds_nil)
    (ds_cons (ds_set (i := 2) C.nd d_int)
    (ds_cons (ds_set (i := 3) C.nd (d_lst (da_cons (d_idx (d_var (i := 0)) d_int) da_nil)))
    (ds_cons (ds_if (dt_cmp o_isNot (d_idx (d_var (i := 0)) d_int) d_non (nomark _)) (ds_one (ds_expr (d_meth PySem.F.plainAttrs_list PySem.F.slot_list_append PySem.F.type_list_append m_append (d_var (i := 3)) (da_cons (d_idx (d_var (i := 0)) d_int) da_nil)))) ds_nil)
    (ds_cons (ds_for C (di_any (d_var (i := 3))) (dg_name (i := 4) C.nd) (ds_cons (ds_set (i := 5) C.nd (d_call C R_units_in (by omega) (da_cons (d_var (i := 4)) (da_cons (d_bin o_add (d_var (i := 1)) d_int) da_nil))))
    (ds_cons (ds_if (dt_cmp o_is (d_var (i := 5)) d_non (nomark _)) (ds_one (ds_ret d_non)) ds_nil)
    (ds_one (ds_set (i := 2) C.nd (d_bin o_add (d_var (i := 2)) (d_var (i := 5))))))))
    (ds_one (ds_ret (d_var (i := 2)))))))))))))
theorem ok_units_in (Z : Facts K mg) : ∀ n : Nat, Callee P w K mg base "units_in" 2 (2 + n) (m_units_in n)
  | 0 => noD (ps := ["thing", "around"]) Z.fn_units_in Z.mg_units_in (fun _ _ _ _ _ _ us hl => match us, hl with | [_, _], _ => rfl)
  | n + 1 => st1_units_in Z n (ok_units_in Z n)
theorem sc_is_rule : FnScope ["thing", "many"] ["thing"] (defScope st_is_rule) := ⟨rfl, rfl, rfl, by decide +kernel, rfl, by decide +kernel, by decide +kernel⟩
theorem ok_is_rule (Z : Facts K mg) : Callee P w K mg base "is_rule" 1 (16 + 1) m_is_rule :=
  okD (ps := ["thing"]) (k := 16) Z.fn_is_rule sc_is_rule Z.mg_is_rule (fun _ _ _ _ _ _ us hl => match us, hl with | [_], _ => rfl) (fun cdv A outer s H E C => ((ds_cons (ds_set (i := 1) C.nd (d_call C (ok_units_in Z 14) (by omega) (da_cons (d_var (i := 0)) (da_cons d_int da_nil))))
    (ds_one (ds_ret (d_and (d_cmp o_isNot (d_var (i := 1)) d_non (nomark _)) (d_one (d_cmp o_le (d_var (i := 1)) (d_glob Z.gl_MOST_UNITS) (nomark _)))))))))
theorem sc_rule_within : FnScope ["rule", "zero", "one"] ["rule", "zero", "one"] (defScope st_rule_within) := ⟨rfl, rfl, rfl, by decide +kernel, rfl, by decide +kernel, by decide +kernel⟩
theorem ok_rule_within (Z : Facts K mg) : Callee P w K mg base "rule_within" 3 (0 + 1) m_rule_within :=
  okD (ps := ["rule", "zero", "one"]) (k := 0) Z.fn_rule_within sc_rule_within Z.mg_rule_within (fun _ _ _ _ _ _ us hl => match us, hl with | [_, _, _], _ => rfl) (fun cdv A outer s H E C => ((ds_cons (ds_if (PW.pt (dt_and (dt_cmp o_isNot (d_idx (d_var (i := 0)) d_int) d_non (nomark _)) (dt_and (dt_cmp (o_eq C.hu) (d_var (i := 1)) (d_bin o_sub (d_idx (d_var (i := 0)) d_int) d_int) (nomark _)) (dt_and1 (dt_cmp (o_eq C.hu) (d_var (i := 2)) (d_bin o_sub (d_idx (d_var (i := 0)) d_int) d_int) (nomark _)))))) (ds_one (ds_ret (d_idx (d_var (i := 0)) d_int))) ds_nil)
    (ds_one (ds_ret (d_idx (d_var (i := 0)) d_int))))))
theorem sc_begun : FnScope ["rule"] ["rule"] (defScope st_begun) := ⟨rfl, rfl, rfl, by decide +kernel, rfl, by decide +kernel, by decide +kernel⟩
theorem st1_begun (Z : Facts K mg) (n : Nat) {r_begun : Fn} (R_begun : Callee P w K mg base "begun" 1 (1 + n) r_begun) : Callee P w K mg base "begun" 1 (1 + n + 1) (fnD 1 1 (b_begun r_begun)) :=
  okD (ps := ["rule"]) (k := 1 + n) Z.fn_begun sc_begun Z.mg_begun (fun _ _ _ _ _ _ us hl => match us, hl with | [_], _ => rfl) (fun cdv A outer s H E C => ((ds_cons (ds_if (dt_cmp (o_eq C.hu) (d_var (i := 0)) (d_glob Z.gl_POINT) (nomark _)) (ds_one (ds_ret (d_tup da_nil))) ds_nil)
    (ds_one (ds_ret (d_tup (da_cons d_int (da_cons d_int (da_cons (d_call C R_begun (by omega) (da_cons (d_call C (ok_rule_within Z) (by omega) (da_cons (d_var (i := 0)) (da_cons d_int (da_cons d_int da_nil)))) da_nil)) da_nil)))))))))
theorem ok_begun (Z : Facts K mg) : ∀ n : Nat, Callee P w K mg base "begun" 1 (1 + n) (m_begun n)
  | 0 => noD (ps := ["rule"]) Z.fn_begun Z.mg_begun (fun _ _ _ _ _ _ us hl => match us, hl with | [_], _ => rfl)
  | n + 1 => st1_begun Z n (ok_begun Z n)
theorem sc_is_won : FnScope ["rule", "own", "other"] ["rule", "own", "other"] (defScope st_is_won) := ⟨rfl, rfl, rfl, by decide +kernel, rfl, by decide +kernel, by decide +kernel⟩
theorem ok_is_won (Z : Facts K mg) : Callee P w K mg base "is_won" 3 (0 + 1) m_is_won :=
  okD (ps := ["rule", "own", "other"]) (k := 0) Z.fn_is_won sc_is_won Z.mg_is_won (fun _ _ _ _ _ _ us hl => match us, hl with | [_, _, _], _ => rfl) (fun cdv A outer s H E C => ((ds_cons (ds_if (PW.pt (dt_and (dt_cmp o_isNot (d_idx (d_var (i := 0)) d_int) d_non (nomark _)) (dt_and1 (dt_cmp (o_eq C.hu) (d_var (i := 1)) (d_idx (d_var (i := 0)) d_int) (nomark _))))) (ds_one (ds_ret d_bl)) ds_nil)
    (ds_one (ds_ret (d_and (d_cmp o_ge (d_var (i := 1)) (d_idx (d_var (i := 0)) d_int) (nomark _)) (d_one (d_cmp o_ge (d_bin o_sub (d_var (i := 1)) (d_var (i := 2))) (d_idx (d_var (i := 0)) d_int) (nomark _)))))))))
theorem sc_rallied : FnScope ["rule", "stand", "side", "counts", "within", "won"] ["rule", "stand", "side"] (defScope st_rallied) := ⟨rfl, rfl, rfl, by decide +kernel, rfl, by decide +kernel, by decide +kernel⟩
theorem st1_rallied (Z : Facts K mg) (n : Nat) {r_rallied : Fn} (R_rallied : Callee P w K mg base "rallied" 3 (15 + n) r_rallied) : Callee P w K mg base "rallied" 3 (15 + n + 1) (fnD 3 6 (b_rallied r_rallied)) :=
  okD (ps := ["rule", "stand", "side"]) (k := 15 + n) Z.fn_rallied sc_rallied Z.mg_rallied (fun _ _ _ _ _ _ us hl => match us, hl with | [_, _, _], _ => rfl) (fun cdv A outer s H E C => ((ds_cons (ds_if (dt_cmp (o_eq C.hu) (d_var (i := 0)) (d_glob Z.gl_POINT) (nomark _)) (ds_one (ds_ret (d_tup (da_cons (d_tup da_nil) (da_cons d_bl da_nil))))) ds_nil)
    (ds_cons (ds_set (i := 3) C.nd (d_lst (da_cons (d_idx (d_var (i := 1)) d_int) (da_cons (d_idx (d_var (i := 1)) d_int) da_nil))))
    (ds_cons (ds_asg (d_call C R_rallied (by omega) (da_cons (d_call C (ok_rule_within Z) (by omega) (da_cons (d_var (i := 0)) (da_cons (d_idx (d_var (i := 1)) d_int) (da_cons (d_idx (d_var (i := 1)) d_int) da_nil)))) (da_cons (d_idx (d_var (i := 1)) d_int) (da_cons (d_var (i := 2)) da_nil)))) (dg_tup (pg_tup C.calm (pgs_cons (pg_name (i := 4) C.nd rfl (by first | exact .inl rfl | exact .inr rfl)) (pgs_cons (pg_name (i := 5) C.nd rfl (by first | exact .inl rfl | exact .inr rfl)) pgs_nil)))))
    (ds_cons (ds_if (dt_tru (d_var (i := 5))) (ds_cons (ds_sub (d_var (i := 3)) (d_var (i := 2)) (d_bin o_add (d_idx (d_var (i := 3)) (d_var (i := 2))) d_int))
    (ds_cons (ds_if (dt_tru (d_call C (ok_is_won Z) (by omega) (da_cons (d_var (i := 0)) (da_cons (d_idx (d_var (i := 3)) (d_var (i := 2))) (da_cons (d_idx (d_var (i := 3)) (d_bin o_sub d_int (d_var (i := 2)))) da_nil))))) (ds_one (ds_ret (d_tup (da_cons (d_tup (da_cons (d_idx (d_var (i := 3)) d_int) (da_cons (d_idx (d_var (i := 3)) d_int) (da_cons (d_tup da_nil) da_nil)))) (da_cons d_bl da_nil))))) ds_nil)
    (ds_one (ds_set (i := 4) C.nd (d_call C (ok_begun Z 14) (by omega) (da_cons (d_call C (ok_rule_within Z) (by omega) (da_cons (d_var (i := 0)) (da_cons (d_idx (d_var (i := 3)) d_int) (da_cons (d_idx (d_var (i := 3)) d_int) da_nil)))) da_nil)))))) ds_nil)
    (ds_one (ds_ret (d_tup (da_cons (d_tup (da_cons (d_idx (d_var (i := 3)) d_int) (da_cons (d_idx (d_var (i := 3)) d_int) (da_cons (d_var (i := 4)) da_nil)))) (da_cons d_bl da_nil)))))))))))
theorem ok_rallied (Z : Facts K mg) : ∀ n : Nat, Callee P w K mg base "rallied" 3 (15 + n) (m_rallied n)
  | 0 => noD (ps := ["rule", "stand", "side"]) Z.fn_rallied Z.mg_rallied (fun _ _ _ _ _ _ us hl => match us, hl with | [_, _, _], _ => rfl)
  | n + 1 => st1_rallied Z n (ok_rallied Z n)
theorem sc_is_game : FnScope ["thing"] ["thing"] (defScope st_is_game) := ⟨rfl, rfl, rfl, by decide +kernel, rfl, by decide +kernel, by decide +kernel⟩
theorem ok_is_game (Z : Facts K mg) : Callee P w K mg base "is_game" 1 (17 + 1) m_is_game :=
  okD (ps := ["thing"]) (k := 17) Z.fn_is_game sc_is_game Z.mg_is_game (fun _ _ _ _ _ _ us hl => match us, hl with | [_], _ => rfl) (fun cdv A outer s H E C => ((ds_cons (ds_if (PW.pt (dt_or (dt_not (dt_tru (d_isi (U := "tuple") rfl Z.no_isinstance rfl Z.no_tuple boot_tuple (d_var (i := 0))))) (dt_or1 (dt_cmp (o_ne C.hu) (d_callB c_len rfl Z.no_len boot_len (da_cons (d_var (i := 0)) da_nil)) d_int (nomark _))))) (ds_one (ds_ret d_bl)) ds_nil)
    (ds_cons (ds_if (dt_cmp (o_eq C.hu) (d_idx (d_var (i := 0)) d_int) d_str (nomark _)) (ds_one (ds_ret (d_call C (ok_is_rule Z) (by omega) (da_cons (d_idx (d_var (i := 0)) d_int) da_nil)))) ds_nil)
    (ds_cons (ds_if (dt_cmp (o_eq C.hu) (d_idx (d_var (i := 0)) d_int) d_str (nomark _)) (ds_one (ds_ret (d_call C (ok_is_down Z) (by omega) (da_cons (d_idx (d_var (i := 0)) d_int) da_nil)))) ds_nil)
    (ds_one (ds_ret (d_and (d_cmp (o_eq C.hu) (d_idx (d_var (i := 0)) d_int) d_str (nomark _)) (d_one (d_call C (ok_is_lane Z) (by omega) (da_cons (d_idx (d_var (i := 0)) d_int) da_nil)))))))))))
theorem sc_first : FnScope ["game"] ["game"] (defScope st_first) := ⟨rfl, rfl, rfl, by decide +kernel, rfl, by decide +kernel, by decide +kernel⟩
theorem ok_first (Z : Facts K mg) : Callee P w K mg base "first" 1 (15 + 1) m_first :=
  okD (ps := ["game"]) (k := 15) Z.fn_first sc_first Z.mg_first (fun _ _ _ _ _ _ us hl => match us, hl with | [_], _ => rfl) (fun cdv A outer s H E C => ((ds_cons (ds_if (dt_cmp (o_eq C.hu) (d_idx (d_var (i := 0)) d_int) d_str (nomark _)) (ds_one (ds_ret (d_tup (da_cons (d_call C (ok_begun Z 14) (by omega) (da_cons (d_idx (d_var (i := 0)) d_int) da_nil)) (da_cons d_non da_nil))))) ds_nil)
    (ds_cons (ds_if (dt_cmp (o_eq C.hu) (d_idx (d_var (i := 0)) d_int) d_str (nomark _)) (ds_one (ds_ret (d_tup (da_cons (d_call C (ok_down_begun Z) (by omega) (da_cons (d_idx (d_var (i := 0)) d_int) da_nil)) (da_cons d_non da_nil))))) ds_nil)
    (ds_one (ds_ret (d_tup (da_cons (d_call C (ok_lane_begun Z) (by omega) (da_cons (d_idx (d_var (i := 0)) d_int) da_nil)) (da_cons d_non da_nil)))))))))
theorem sc_deeds_at : FnScope ["game", "stand", "rows", "side", "throw"] ["game", "stand"] (defScope st_deeds_at) := ⟨rfl, rfl, rfl, by decide +kernel, rfl, by decide +kernel, by decide +kernel⟩
theorem ok_deeds_at (Z : Facts K mg) : Callee P w K mg base "deeds_at" 2 (0 + 1) m_deeds_at :=
  okD (ps := ["game", "stand"]) (k := 0) Z.fn_deeds_at sc_deeds_at Z.mg_deeds_at (fun _ _ _ _ _ _ us hl => match us, hl with | [_, _], _ => rfl) (fun cdv A outer s H E C => ((ds_cons (ds_if (dt_cmp o_isNot (d_idx (d_var (i := 1)) d_int) d_non (nomark _)) (ds_one (ds_ret (d_lst da_nil))) ds_nil)
    (ds_cons (ds_if (dt_cmp (o_eq C.hu) (d_idx (d_var (i := 0)) d_int) d_str (nomark _)) (ds_one (ds_ret (d_lst (da_cons d_int (da_cons d_int da_nil))))) ds_nil)
    (ds_cons (ds_if (dt_cmp (o_eq C.hu) (d_idx (d_var (i := 0)) d_int) d_str (nomark _)) (ds_one (ds_ret (d_comp (i := 4) C (di_any (d_idx (d_idx (d_var (i := 0)) d_int) d_int)) (blkOk_by (by kernel_rfl)) (fun _ _ _ _ _ => pg_name (i := 4) C.nd rfl (Or.inl rfl)) (fun _ _ _ _ _ C1 => dts_nil) (fun _ _ _ _ _ C1 => (d_idx (d_var (i := 4)) d_int))))) ds_nil)
    (ds_cons (ds_asg (d_idx (d_var (i := 1)) d_int) (dg_tup (pg_tup C.calm (pgs_cons (pg_name (i := 2) C.nd rfl (by first | exact .inl rfl | exact .inr rfl)) (pgs_cons (pg_name (i := 3) C.nd rfl (by first | exact .inl rfl | exact .inr rfl)) pgs_nil)))))
    (ds_one (ds_ret (d_lstRg1 C.calm Z.no_range Z.no_list (d_bin o_add (d_idx (d_idx (d_var (i := 2)) (d_var (i := 3))) d_int) d_int))))))))))
theorem sc_rally_played : FnScope ["rule", "stand", "deed", "found", "won"] ["rule", "stand", "deed"] (defScope st_rally_played) := ⟨rfl, rfl, rfl, by decide +kernel, rfl, by decide +kernel, by decide +kernel⟩
theorem ok_rally_played (Z : Facts K mg) : Callee P w K mg base "rally_played" 3 (29 + 1) m_rally_played :=
  okD (ps := ["rule", "stand", "deed"]) (k := 29) Z.fn_rally_played sc_rally_played Z.mg_rally_played (fun _ _ _ _ _ _ us hl => match us, hl with | [_, _, _], _ => rfl) (fun cdv A outer s H E C => ((ds_cons (ds_if (dt_not (dt_tru (d_call C (ok_is_between Z) (by omega) (da_cons (d_var (i := 2)) (da_cons d_int (da_cons d_int da_nil)))))) (ds_one (ds_raise C Z.ex_NoSide)) ds_nil)
    (ds_cons (ds_asg (d_call C (ok_rallied Z 14) (by omega) (da_cons (d_var (i := 0)) (da_cons (d_var (i := 1)) (da_cons (d_var (i := 2)) da_nil)))) (dg_tup (pg_tup C.calm (pgs_cons (pg_name (i := 3) C.nd rfl (by first | exact .inl rfl | exact .inr rfl)) (pgs_cons (pg_name (i := 4) C.nd rfl (by first | exact .inl rfl | exact .inr rfl)) pgs_nil)))))
    (ds_cons (ds_if (dt_tru (d_var (i := 4))) (ds_one (ds_ret (d_tup (da_cons (d_var (i := 3)) (da_cons (d_tup (da_cons (d_var (i := 2)) da_nil)) da_nil))))) ds_nil)
    (ds_one (ds_ret (d_tup (da_cons (d_var (i := 3)) (da_cons d_non da_nil))))))))))
theorem sc_down_played : FnScope ["down", "stand", "deed", "found", "won"] ["down", "stand", "deed"] (defScope st_down_played) := ⟨rfl, rfl, rfl, by decide +kernel, rfl, by decide +kernel, by decide +kernel⟩
theorem ok_down_played (Z : Facts K mg) : Callee P w K mg base "down_played" 3 (2 + 1) m_down_played :=
  okD (ps := ["down", "stand", "deed"]) (k := 2) Z.fn_down_played sc_down_played Z.mg_down_played (fun _ _ _ _ _ _ us hl => match us, hl with | [_, _, _], _ => rfl) (fun cdv A outer s H E C => ((ds_cons (ds_asg (d_call C (ok_down_thrown Z) (by omega) (da_cons (d_var (i := 0)) (da_cons (d_var (i := 1)) (da_cons (d_var (i := 2)) da_nil)))) (dg_tup (pg_tup C.calm (pgs_cons (pg_name (i := 3) C.nd rfl (by first | exact .inl rfl | exact .inr rfl)) (pgs_cons (pg_name (i := 4) C.nd rfl (by first | exact .inl rfl | exact .inr rfl)) pgs_nil)))))
    (ds_cons (ds_if (dt_tru (d_var (i := 4))) (ds_one (ds_ret (d_tup (da_cons (d_var (i := 3)) (da_cons (d_tup (da_cons (d_idx (d_var (i := 3)) d_int) da_nil)) da_nil))))) ds_nil)
    (ds_one (ds_ret (d_tup (da_cons (d_var (i := 3)) (da_cons d_non da_nil)))))))))
theorem sc_lane_played : FnScope ["lane", "stand", "deed", "found", "over"] ["lane", "stand", "deed"] (defScope st_lane_played) := ⟨rfl, rfl, rfl, by decide +kernel, rfl, by decide +kernel, by decide +kernel⟩
theorem ok_lane_played (Z : Facts K mg) : Callee P w K mg base "lane_played" 3 (3 + 1) m_lane_played :=
  okD (ps := ["lane", "stand", "deed"]) (k := 3) Z.fn_lane_played sc_lane_played Z.mg_lane_played (fun _ _ _ _ _ _ us hl => match us, hl with | [_, _, _], _ => rfl) (fun cdv A outer s H E C => ((ds_cons (ds_asg (d_call C (ok_lane_bowled Z) (by omega) (da_cons (d_var (i := 0)) (da_cons (d_var (i := 1)) (da_cons (d_var (i := 2)) da_nil)))) (dg_tup (pg_tup C.calm (pgs_cons (pg_name (i := 3) C.nd rfl (by first | exact .inl rfl | exact .inr rfl)) (pgs_cons (pg_name (i := 4) C.nd rfl (by first | exact .inl rfl | exact .inr rfl)) pgs_nil)))))
    (ds_cons (ds_if (dt_tru (d_var (i := 4))) (ds_one (ds_ret (d_tup (da_cons (d_var (i := 3)) (da_cons (d_call C (ok_best_of Z) (by omega) (da_cons (d_var (i := 3)) da_nil)) da_nil))))) ds_nil)
    (ds_one (ds_ret (d_tup (da_cons (d_var (i := 3)) (da_cons d_non da_nil)))))))))
theorem sc_played : FnScope ["game", "stand", "deed"] ["game", "stand", "deed"] (defScope st_played) := ⟨rfl, rfl, rfl, by decide +kernel, rfl, by decide +kernel, by decide +kernel⟩
theorem ok_played (Z : Facts K mg) : Callee P w K mg base "played" 3 (30 + 1) m_played :=
  okD (ps := ["game", "stand", "deed"]) (k := 30) Z.fn_played sc_played Z.mg_played (fun _ _ _ _ _ _ us hl => match us, hl with | [_, _, _], _ => rfl) (fun cdv A outer s H E C => ((ds_cons (ds_if (dt_cmp o_isNot (d_idx (d_var (i := 1)) d_int) d_non (nomark _)) (ds_one (ds_raise C Z.ex_Over)) ds_nil)
    (ds_cons (ds_if (dt_cmp (o_eq C.hu) (d_idx (d_var (i := 0)) d_int) d_str (nomark _)) (ds_one (ds_ret (d_call C (ok_rally_played Z) (by omega) (da_cons (d_idx (d_var (i := 0)) d_int) (da_cons (d_idx (d_var (i := 1)) d_int) (da_cons (d_var (i := 2)) da_nil)))))) ds_nil)
    (ds_cons (ds_if (dt_cmp (o_eq C.hu) (d_idx (d_var (i := 0)) d_int) d_str (nomark _)) (ds_one (ds_ret (d_call C (ok_down_played Z) (by omega) (da_cons (d_idx (d_var (i := 0)) d_int) (da_cons (d_idx (d_var (i := 1)) d_int) (da_cons (d_var (i := 2)) da_nil)))))) ds_nil)
    (ds_one (ds_ret (d_call C (ok_lane_played Z) (by omega) (da_cons (d_idx (d_var (i := 0)) d_int) (da_cons (d_idx (d_var (i := 1)) d_int) (da_cons (d_var (i := 2)) da_nil)))))))))))
theorem sc_stands_of : FnScope ["game", "row", "stands", "number", "deed", "e"] ["game", "row"] (defScope st_stands_of) := ⟨rfl, rfl, rfl, by decide +kernel, rfl, by decide +kernel, by decide +kernel⟩
theorem ok_stands_of (Z : Facts K mg) : CalleeZ P w K mg base "stands_of" 2 (31 + 1) m_stands_of :=
  okZ (ps := ["game", "row"]) (k := 31) Z.fn_stands_of sc_stands_of Z.mg_stands_of (fun _ _ _ _ _ _ us hl => match us, hl with | [_, _], _ => rfl) (fun cdv A outer s H E CZ => (have C := CZ.ctx; ((ds_cons (ds_set (i := 2) C.nd (d_lst (da_cons (d_call C (ok_first Z) (by omega) (da_cons (d_var (i := 0)) da_nil)) da_nil)))
    (ds_cons (ds_for C (di_enum Z.no_enumerate (d_var (i := 1))) (dg_tup (pg_tup C.calm (pgs_cons (pg_name (i := 3) C.nd rfl (by first | exact .inl rfl | exact .inr rfl)) (pgs_cons (pg_name (i := 4) C.nd rfl (by first | exact .inl rfl | exact .inr rfl)) pgs_nil)))) (ds_one (ds_tryFrom (i := 5) CZ (fun _ _ _ Ct => ((ds_one (ds_expr (d_meth PySem.F.plainAttrs_list PySem.F.slot_list_append PySem.F.type_list_append m_append (d_var (i := 2)) (da_cons (d_call Ct (ok_played Z) (by omega) (da_cons (d_var (i := 0)) (da_cons (d_idx (d_var (i := 2)) (d_var (i := 3))) (da_cons (d_var (i := 4)) da_nil)))) da_nil)))))) rfl (by decide) Z.mc_ScoreError (Z.exsub.of (by decide +kernel)) rfl rfl (by decide) Z.rs Z.ei_Falls (okh_Falls_new Z) (by omega) rfl (by decide) (fun a pn xe => (d_bin o_add (d_var (i := 3)) d_int)) rfl rfl (L2H.passesAt_of rfl))))
    (ds_one (ds_ret (d_var (i := 2)))))))))
theorem sc_Book_new : FnScope ["self", "game"] ["self", "game"] (defScope st_Book_new) := ⟨rfl, rfl, rfl, by decide +kernel, rfl, by decide +kernel, by decide +kernel⟩
theorem ok_Book_new (Z : Facts K mg) : CalleeM P w K mg base "Book" "__init__" 2 (18 + 1) [] m_Book_new :=
  okM (ps := ["self", "game"]) (k := 18) Z.fn_Book_new sc_Book_new Z.cls_Book Z.meth_Book_new (fun _ _ _ _ _ _ us hl => match us, hl with | [_, _], _ => rfl) (fun cdv A outer s H E C => ((ds_cons (ds_if (dt_not (dt_tru (d_call C (ok_is_game Z) (by omega) (da_cons (d_var (i := 1)) da_nil)))) (ds_one (ds_raise C Z.ex_NoGame)) ds_nil)
    (ds_cons (ds_fld ⟨Z.cls_Book, Z.noat_Book_kept_game⟩ (d_var (i := 0)) (d_var (i := 1)))
    (ds_cons (ds_fld ⟨Z.cls_Book, Z.noat_Book_kept_deeds⟩ (d_var (i := 0)) (d_lst da_nil))
    (ds_one (ds_fld ⟨Z.cls_Book, Z.noat_Book_kept_stands⟩ (d_var (i := 0)) (d_lst (da_cons (d_call C (ok_first Z) (by omega) (da_cons (d_var (i := 1)) da_nil)) da_nil)))))))))
theorem sc_Book_game : FnScope ["self"] ["self"] (defScope st_Book_game) := ⟨rfl, rfl, rfl, by decide +kernel, rfl, by decide +kernel, by decide +kernel⟩
theorem ok_Book_game (Z : Facts K mg) : CalleeM P w K mg base "Book" "game" 1 (0 + 1) [] m_Book_game :=
  okM (ps := ["self"]) (k := 0) Z.fn_Book_game sc_Book_game Z.cls_Book Z.meth_Book_game (fun _ _ _ _ _ _ us hl => match us, hl with | [_], _ => rfl) (fun cdv A outer s H E C => ((ds_one (ds_ret (d_fld ⟨Z.cls_Book, Z.noat_Book_kept_game⟩ (d_var (i := 0)))))))
theorem sc_Book_deeds : FnScope ["self"] ["self"] (defScope st_Book_deeds) := ⟨rfl, rfl, rfl, by decide +kernel, rfl, by decide +kernel, by decide +kernel⟩
theorem ok_Book_deeds (Z : Facts K mg) : CalleeM P w K mg base "Book" "deeds" 1 (0 + 1) [] m_Book_deeds :=
  okM (ps := ["self"]) (k := 0) Z.fn_Book_deeds sc_Book_deeds Z.cls_Book Z.meth_Book_deeds (fun _ _ _ _ _ _ us hl => match us, hl with | [_], _ => rfl) (fun cdv A outer s H E C => ((ds_one (ds_ret (d_callTy c_list rfl Z.no_list boot_list (da_cons (d_fld ⟨Z.cls_Book, Z.noat_Book_kept_deeds⟩ (d_var (i := 0))) da_nil))))))
theorem sc_Book_add : FnScope ["self", "deed"] ["self", "deed"] (defScope st_Book_add) := ⟨rfl, rfl, rfl, by decide +kernel, rfl, by decide +kernel, by decide +kernel⟩
theorem ok_Book_add (Z : Facts K mg) : CalleeM P w K mg base "Book" "add" 2 (31 + 1) [] m_Book_add :=
  okM (ps := ["self", "deed"]) (k := 31) Z.fn_Book_add sc_Book_add Z.cls_Book Z.meth_Book_add (fun _ _ _ _ _ _ us hl => match us, hl with | [_, _], _ => rfl) (fun cdv A outer s H E C => ((ds_cons (ds_expr (d_meth PySem.F.plainAttrs_list PySem.F.slot_list_append PySem.F.type_list_append m_append (d_fld ⟨Z.cls_Book, Z.noat_Book_kept_stands⟩ (d_var (i := 0))) (da_cons (d_call C (ok_played Z) (by omega) (da_cons (d_fld ⟨Z.cls_Book, Z.noat_Book_kept_game⟩ (d_var (i := 0))) (da_cons (d_idx (d_fld ⟨Z.cls_Book, Z.noat_Book_kept_stands⟩ (d_var (i := 0))) (d_un o_neg d_int)) (da_cons (d_var (i := 1)) da_nil)))) da_nil)))
    (ds_cons (ds_expr (d_meth PySem.F.plainAttrs_list PySem.F.slot_list_append PySem.F.type_list_append m_append (d_fld ⟨Z.cls_Book, Z.noat_Book_kept_deeds⟩ (d_var (i := 0))) (da_cons (d_var (i := 1)) da_nil)))
    (ds_one (ds_ret (d_callB c_len rfl Z.no_len boot_len (da_cons (d_fld ⟨Z.cls_Book, Z.noat_Book_kept_deeds⟩ (d_var (i := 0))) da_nil))))))))
theorem sc_Book_back : FnScope ["self"] ["self"] (defScope st_Book_back) := ⟨rfl, rfl, rfl, by decide +kernel, rfl, by decide +kernel, by decide +kernel⟩
theorem ok_Book_back (Z : Facts K mg) : CalleeM P w K mg base "Book" "back" 1 (0 + 1) [] m_Book_back :=
  okM (ps := ["self"]) (k := 0) Z.fn_Book_back sc_Book_back Z.cls_Book Z.meth_Book_back (fun _ _ _ _ _ _ us hl => match us, hl with | [_], _ => rfl) (fun cdv A outer s H E C => ((ds_cons (ds_if (dt_cmp (o_eq C.hu) (d_callB c_len rfl Z.no_len boot_len (da_cons (d_fld ⟨Z.cls_Book, Z.noat_Book_kept_deeds⟩ (d_var (i := 0))) da_nil)) d_int (nomark _)) (ds_one (ds_raise C Z.ex_NoDeed)) ds_nil)
    (ds_cons (ds_expr (d_meth0 PySem.F.plainAttrs_list PySem.F.slot_list_pop PySem.F.type_list_pop m_pop (d_fld ⟨Z.cls_Book, Z.noat_Book_kept_stands⟩ (d_var (i := 0)))))
    (ds_one (ds_ret (d_meth0 PySem.F.plainAttrs_list PySem.F.slot_list_pop PySem.F.type_list_pop m_pop (d_fld ⟨Z.cls_Book, Z.noat_Book_kept_deeds⟩ (d_var (i := 0))))))))))
theorem sc_Book_hold_number : FnScope ["self", "number", "most"] ["self", "number", "most"] (defScope st_Book_hold_number) := ⟨rfl, rfl, rfl, by decide +kernel, rfl, by decide +kernel, by decide +kernel⟩
theorem ok_Book_hold_number (Z : Facts K mg) : CalleeM P w K mg base "Book" "hold_number" 3 (0 + 1) [] m_Book_hold_number :=
  okM (ps := ["self", "number", "most"]) (k := 0) Z.fn_Book_hold_number sc_Book_hold_number Z.cls_Book Z.meth_Book_hold_number (fun _ _ _ _ _ _ us hl => match us, hl with | [_, _, _], _ => rfl) (fun cdv A outer s H E C => ((ds_one (ds_if (PW.pt (dt_or (dt_cmp o_lt (d_var (i := 1)) d_int (nomark _)) (dt_or1 (dt_cmp o_gt (d_var (i := 1)) (d_var (i := 2)) (nomark _))))) (ds_one (ds_raise C Z.ex_NoDeed)) ds_nil))))
theorem sc_Book_written_anew : FnScope ["self", "row"] ["self", "row"] (defScope st_Book_written_anew) := ⟨rfl, rfl, rfl, by decide +kernel, rfl, by decide +kernel, by decide +kernel⟩
theorem ok_Book_written_anew (Z : Facts K mg) : CalleeMZ P w K mg base "Book" "written_anew" 2 (32 + 1) [] m_Book_written_anew :=
  okMZ (ps := ["self", "row"]) (k := 32) Z.fn_Book_written_anew sc_Book_written_anew Z.cls_Book Z.meth_Book_written_anew (fun _ _ _ _ _ _ us hl => match us, hl with | [_, _], _ => rfl) (fun cdv A outer s H E CZ => (have C := CZ.ctx; ((ds_cons (ds_fld ⟨Z.cls_Book, Z.noat_Book_kept_stands⟩ (d_var (i := 0)) (d_callZ CZ (ok_stands_of Z) (by omega) (da_cons (d_fld ⟨Z.cls_Book, Z.noat_Book_kept_game⟩ (d_var (i := 0))) (da_cons (d_var (i := 1)) da_nil))))
    (ds_one (ds_fld ⟨Z.cls_Book, Z.noat_Book_kept_deeds⟩ (d_var (i := 0)) (d_var (i := 1))))))))
theorem sc_Book_put_right : FnScope ["self", "number", "deed"] ["self", "number", "deed"] (defScope st_Book_put_right) := ⟨rfl, rfl, rfl, by decide +kernel, rfl, by decide +kernel, by decide +kernel⟩
theorem ok_Book_put_right (Z : Facts K mg) : CalleeMZ P w K mg base "Book" "put_right" 3 (33 + 1) [] m_Book_put_right :=
  okMZ (ps := ["self", "number", "deed"]) (k := 33) Z.fn_Book_put_right sc_Book_put_right Z.cls_Book Z.meth_Book_put_right (fun _ _ _ _ _ _ us hl => match us, hl with | [_, _, _], _ => rfl) (fun cdv A outer s H E CZ => (have C := CZ.ctx; ((ds_cons (ds_expr (d_meM C (ok_Book_hold_number Z) (by omega) (d_var (i := 0)) (da_cons (d_var (i := 1)) (da_cons (d_callB c_len rfl Z.no_len boot_len (da_cons (d_fld ⟨Z.cls_Book, Z.noat_Book_kept_deeds⟩ (d_var (i := 0))) da_nil)) da_nil))))
    (ds_one (ds_expr (d_meMZ CZ (ok_Book_written_anew Z) (by omega) (d_var (i := 0)) (da_cons (d_bin o_add (d_bin o_add (d_sl (d_fld ⟨Z.cls_Book, Z.noat_Book_kept_deeds⟩ (d_var (i := 0))) do_none (do_some (d_bin o_sub (d_var (i := 1)) d_int))) (d_lst (da_cons (d_var (i := 2)) da_nil))) (d_sl (d_fld ⟨Z.cls_Book, Z.noat_Book_kept_deeds⟩ (d_var (i := 0))) (do_some (d_var (i := 1))) do_none)) da_nil))))))))
theorem sc_Book_put_in : FnScope ["self", "number", "deed"] ["self", "number", "deed"] (defScope st_Book_put_in) := ⟨rfl, rfl, rfl, by decide +kernel, rfl, by decide +kernel, by decide +kernel⟩
theorem ok_Book_put_in (Z : Facts K mg) : CalleeMZ P w K mg base "Book" "put_in" 3 (33 + 1) [] m_Book_put_in :=
  okMZ (ps := ["self", "number", "deed"]) (k := 33) Z.fn_Book_put_in sc_Book_put_in Z.cls_Book Z.meth_Book_put_in (fun _ _ _ _ _ _ us hl => match us, hl with | [_, _, _], _ => rfl) (fun cdv A outer s H E CZ => (have C := CZ.ctx; ((ds_cons (ds_expr (d_meM C (ok_Book_hold_number Z) (by omega) (d_var (i := 0)) (da_cons (d_var (i := 1)) (da_cons (d_bin o_add (d_callB c_len rfl Z.no_len boot_len (da_cons (d_fld ⟨Z.cls_Book, Z.noat_Book_kept_deeds⟩ (d_var (i := 0))) da_nil)) d_int) da_nil))))
    (ds_one (ds_expr (d_meMZ CZ (ok_Book_written_anew Z) (by omega) (d_var (i := 0)) (da_cons (d_bin o_add (d_bin o_add (d_sl (d_fld ⟨Z.cls_Book, Z.noat_Book_kept_deeds⟩ (d_var (i := 0))) do_none (do_some (d_bin o_sub (d_var (i := 1)) d_int))) (d_lst (da_cons (d_var (i := 2)) da_nil))) (d_sl (d_fld ⟨Z.cls_Book, Z.noat_Book_kept_deeds⟩ (d_var (i := 0))) (do_some (d_bin o_sub (d_var (i := 1)) d_int)) do_none)) da_nil))))))))
theorem sc_Book_leave_out : FnScope ["self", "number"] ["self", "number"] (defScope st_Book_leave_out) := ⟨rfl, rfl, rfl, by decide +kernel, rfl, by decide +kernel, by decide +kernel⟩
theorem ok_Book_leave_out (Z : Facts K mg) : CalleeMZ P w K mg base "Book" "leave_out" 2 (33 + 1) [] m_Book_leave_out :=
  okMZ (ps := ["self", "number"]) (k := 33) Z.fn_Book_leave_out sc_Book_leave_out Z.cls_Book Z.meth_Book_leave_out (fun _ _ _ _ _ _ us hl => match us, hl with | [_, _], _ => rfl) (fun cdv A outer s H E CZ => (have C := CZ.ctx; ((ds_cons (ds_expr (d_meM C (ok_Book_hold_number Z) (by omega) (d_var (i := 0)) (da_cons (d_var (i := 1)) (da_cons (d_callB c_len rfl Z.no_len boot_len (da_cons (d_fld ⟨Z.cls_Book, Z.noat_Book_kept_deeds⟩ (d_var (i := 0))) da_nil)) da_nil))))
    (ds_one (ds_expr (d_meMZ CZ (ok_Book_written_anew Z) (by omega) (d_var (i := 0)) (da_cons (d_bin o_add (d_sl (d_fld ⟨Z.cls_Book, Z.noat_Book_kept_deeds⟩ (d_var (i := 0))) do_none (do_some (d_bin o_sub (d_var (i := 1)) d_int))) (d_sl (d_fld ⟨Z.cls_Book, Z.noat_Book_kept_deeds⟩ (d_var (i := 0))) (do_some (d_var (i := 1))) do_none)) da_nil))))))))
theorem sc_Book_stand : FnScope ["self", "number"] ["self", "number"] (defScope st_Book_stand) := ⟨rfl, rfl, rfl, by decide +kernel, rfl, by decide +kernel, by decide +kernel⟩
theorem okp_Book_stand (Z : Facts K mg) : CalleeM P w K mg base "Book" "stand" 2 (0 + 1) [.non] m_Book_stand ∧ CalleeM P w K mg base "Book" "stand" 2 (0 + 1) [] m_Book_stand :=
  okMd (ps := ["self", "number"]) (k := 0) (fun _ _ => .non) Z.fn_Book_stand sc_Book_stand Z.cls_Book Z.meth_Book_stand 1 rfl (fun _ _ _ _ _ _ _ us its h1 h2 => match us, its, h1, h2 with | [_], [_], _, _ => ⟨_, rfl, rfl⟩) (fun _ _ _ _ _ _ _ us its h1 h2 => match us, its, h1, h2 with | [_, _], [_], _, _ => ⟨_, rfl, rfl⟩) (fun cdv A outer s H E C => ((ds_cons (ds_if (dt_cmp o_is (d_var (i := 1)) d_non (nomark _)) (ds_one (ds_ret (d_idx (d_fld ⟨Z.cls_Book, Z.noat_Book_kept_stands⟩ (d_var (i := 0))) (d_un o_neg d_int)))) ds_nil)
    (ds_cons (ds_if (PW.pt (dt_or (dt_cmp o_lt (d_var (i := 1)) d_int (nomark _)) (dt_or1 (dt_cmp o_gt (d_var (i := 1)) (d_callB c_len rfl Z.no_len boot_len (da_cons (d_fld ⟨Z.cls_Book, Z.noat_Book_kept_deeds⟩ (d_var (i := 0))) da_nil)) (nomark _))))) (ds_one (ds_raise C Z.ex_NoDeed)) ds_nil)
    (ds_one (ds_ret (d_idx (d_fld ⟨Z.cls_Book, Z.noat_Book_kept_stands⟩ (d_var (i := 0))) (d_var (i := 1)))))))))
theorem okd_Book_stand (Z : Facts K mg) : CalleeM P w K mg base "Book" "stand" 2 (0 + 1) [.non] m_Book_stand := (okp_Book_stand Z).1
theorem ok_Book_stand (Z : Facts K mg) : CalleeM P w K mg base "Book" "stand" 2 (0 + 1) [] m_Book_stand := (okp_Book_stand Z).2
theorem sc_l_cell_at : FnScope ["_law_script", "_law_k"] ["_law_script", "_law_k"] (defScope st_l_cell_at) := ⟨rfl, rfl, rfl, by decide +kernel, rfl, by decide +kernel, by decide +kernel⟩
theorem ok_l_cell_at (Z : Facts K mg) : Callee P w K mg base "_law_cell_at" 2 (0 + 1) m_l_cell_at :=
  okD (ps := ["_law_script", "_law_k"]) (k := 0) Z.fn_l_cell_at sc_l_cell_at Z.mg_l_cell_at (fun _ _ _ _ _ _ us hl => match us, hl with | [_, _], _ => rfl) (fun cdv A outer s H E C => ((ds_cons (ds_if (dt_cmp o_lt (d_var (i := 1)) (d_callB c_len rfl Z.no_len boot_len (da_cons (d_var (i := 0)) da_nil)) (nomark _)) (ds_one (ds_ret (d_idx (d_var (i := 0)) (d_var (i := 1))))) ds_nil)
    (ds_one (ds_ret d_int)))))
theorem sc_l_draws : FnScope ["_law_cell", "_law_many", "_law_found", "_law_number", "_law_k"] ["_law_cell", "_law_many"] (defScope st_l_draws) := ⟨rfl, rfl, rfl, by decide +kernel, rfl, by decide +kernel, by decide +kernel⟩
theorem ok_l_draws (Z : Facts K mg) : Callee P w K mg base "_law_draws" 2 (0 + 1) m_l_draws :=
  okD (ps := ["_law_cell", "_law_many"]) (k := 0) Z.fn_l_draws sc_l_draws Z.mg_l_draws (fun _ _ _ _ _ _ us hl => match us, hl with | [_, _], _ => rfl) (fun cdv A outer s H E C => ((ds_cons (ds_set (i := 2) C.nd (d_lst da_nil))
    (ds_cons (ds_if (dt_cmp (o_eq C.hu) (d_bin o_mod (d_var (i := 0)) d_int) d_int (nomark _)) (ds_cons (ds_set (i := 3) C.nd (d_bin o_fdiv (d_var (i := 0)) d_int))
    (ds_cons (ds_for C (di_range1 Z.no_range (d_var (i := 1))) (dg_name (i := 4) C.nd) (ds_cons (ds_expr (d_meth PySem.F.plainAttrs_list PySem.F.slot_list_append PySem.F.type_list_append m_append (d_var (i := 2)) (da_cons (d_bin o_mod (d_var (i := 3)) d_int) da_nil)))
    (ds_one (ds_set (i := 3) C.nd (d_bin o_fdiv (d_var (i := 3)) d_int)))))
    (ds_one (ds_ret (d_var (i := 2)))))) ds_nil)
    (ds_cons (ds_set (i := 3) C.nd (d_bin o_add (d_bin o_mod (d_bin o_fdiv (d_var (i := 0)) d_int) d_int) d_int))
    (ds_cons (ds_for C (di_range1 Z.no_range (d_bin o_add (d_var (i := 1)) d_int)) (dg_name (i := 4) C.nd) (ds_cons (ds_set (i := 3) C.nd (d_bin o_mod (d_bin o_add (d_bin o_add (d_bin o_mul (d_var (i := 3)) (d_var (i := 3))) (d_bin o_mul d_int (d_var (i := 3)))) (d_var (i := 4))) d_int))
    (ds_one (ds_expr (d_meth PySem.F.plainAttrs_list PySem.F.slot_list_append PySem.F.type_list_append m_append (d_var (i := 2)) (da_cons (d_bin o_mod (d_bin o_add (d_bin o_mul (d_var (i := 3)) d_int) (d_bin o_mul d_int (d_var (i := 4)))) d_int) da_nil))))))
    (ds_one (ds_ret (d_sl (d_var (i := 2)) (do_some d_int) do_none)))))))))
theorem sc_l_unit : FnScope ["_law_xs", "_law_at", "_law_level", "_law_levels", "_law_to", "_law_lead", "_law_cap", "_law_last"] ["_law_xs", "_law_at", "_law_level", "_law_levels"] (defScope st_l_unit) := ⟨rfl, rfl, rfl, by decide +kernel, rfl, by decide +kernel, by decide +kernel⟩
theorem st1_l_unit (Z : Facts K mg) (n : Nat) {r_l_unit : Fn} (R_l_unit : Callee P w K mg base "_law_unit" 4 (0 + n) r_l_unit) : Callee P w K mg base "_law_unit" 4 (0 + n + 1) (fnD 4 8 (b_l_unit r_l_unit)) :=
  okD (ps := ["_law_xs", "_law_at", "_law_level", "_law_levels"]) (k := 0 + n) Z.fn_l_unit sc_l_unit Z.mg_l_unit (fun _ _ _ _ _ _ us hl => match us, hl with | [_, _, _, _], _ => rfl) (fun cdv A outer s H E C => ((ds_cons (ds_if (PW.pt (dt_or (dt_cmp (o_eq C.hu) (d_var (i := 2)) (d_var (i := 3)) (nomark _)) (dt_or1 (PW.pt (dt_and (dt_cmp o_gt (d_var (i := 1)) d_int (nomark _)) (dt_and1 (dt_cmp (o_eq C.hu) (d_bin o_mod (d_idx (d_var (i := 0)) (d_bin o_mul d_int (d_var (i := 1)))) d_int) d_int (nomark _)))))))) (ds_one (ds_ret (d_tup (da_cons d_str da_nil)))) ds_nil)
    (ds_cons (ds_set (i := 4) C.nd (d_bin o_add d_int (d_bin o_mod (d_idx (d_var (i := 0)) (d_bin o_add (d_bin o_mul d_int (d_var (i := 1))) d_int)) (d_idx (d_lst (da_cons d_int (da_cons d_int (da_cons d_int da_nil)))) (d_bin o_mod (d_bin o_fdiv (d_idx (d_var (i := 0)) (d_bin o_add (d_bin o_mul d_int (d_var (i := 1))) d_int)) d_int) d_int)))))
    (ds_cons (ds_set (i := 5) C.nd (d_bin o_add d_int (d_bin o_mod (d_idx (d_var (i := 0)) (d_bin o_add (d_bin o_mul d_int (d_var (i := 1))) d_int)) (d_idx (d_lst (da_cons d_int (da_cons d_int (da_cons d_int da_nil)))) (d_bin o_mod (d_bin o_fdiv (d_idx (d_var (i := 0)) (d_bin o_add (d_bin o_mul d_int (d_var (i := 1))) d_int)) d_int) d_int)))))
    (ds_cons (ds_set (i := 6) C.nd d_non)
    (ds_cons (ds_set (i := 7) C.nd d_non)
    (ds_cons (ds_if (dt_cmp (o_eq C.hu) (d_bin o_mod (d_idx (d_var (i := 0)) (d_bin o_add (d_bin o_mul d_int (d_var (i := 1))) d_int)) d_int) d_int (nomark _)) (ds_cons (ds_set (i := 6) C.nd (d_callB (c_min2 C.calm) rfl Z.no_min boot_min (da_cons d_int (da_cons (d_bin o_add (d_var (i := 4)) (d_bin o_mod (d_bin o_fdiv (d_idx (d_var (i := 0)) (d_bin o_add (d_bin o_mul d_int (d_var (i := 1))) d_int)) d_int) d_int)) da_nil))))
    (ds_one (ds_if (PW.pt (dt_and (dt_cmp (o_eq C.hu) (d_bin o_mod (d_bin o_fdiv (d_idx (d_var (i := 0)) (d_bin o_add (d_bin o_mul d_int (d_var (i := 1))) d_int)) d_int) d_int) d_int (nomark _)) (dt_and1 (dt_cmp o_lt (d_var (i := 3)) d_int (nomark _))))) (ds_one (ds_set (i := 7) C.nd (d_call C R_l_unit (by omega) (da_cons (d_var (i := 0)) (da_cons (d_bin o_add (d_bin o_mul d_int (d_var (i := 1))) d_int) (da_cons (d_bin o_add (d_var (i := 2)) d_int) (da_cons (d_var (i := 3)) da_nil))))))) ds_nil))) ds_nil)
    (ds_one (ds_ret (d_tup (da_cons d_str (da_cons (d_var (i := 4)) (da_cons (d_var (i := 5)) (da_cons (d_var (i := 6)) (da_cons (d_call C R_l_unit (by omega) (da_cons (d_var (i := 0)) (da_cons (d_bin o_add (d_bin o_mul d_int (d_var (i := 1))) d_int) (da_cons (d_bin o_add (d_var (i := 2)) d_int) (da_cons (d_var (i := 3)) da_nil))))) (da_cons (d_var (i := 7)) da_nil)))))))))))))))))
theorem ok_l_unit (Z : Facts K mg) : ∀ n : Nat, Callee P w K mg base "_law_unit" 4 (0 + n) (m_l_unit n)
  | 0 => noD (ps := ["_law_xs", "_law_at", "_law_level", "_law_levels"]) Z.fn_l_unit Z.mg_l_unit (fun _ _ _ _ _ _ us hl => match us, hl with | [_, _, _, _], _ => rfl)
  | n + 1 => st1_l_unit Z n (ok_l_unit Z n)
theorem sc_l_throws : FnScope ["_law_xs", "_law_some", "_law_names", "_law_throws_here", "_law_k"] ["_law_xs"] (defScope st_l_throws) := ⟨rfl, rfl, rfl, by decide +kernel, rfl, by decide +kernel, by decide +kernel⟩
theorem ok_l_throws (Z : Facts K mg) : Callee P w K mg base "_law_throws" 1 (0 + 1) m_l_throws :=
  okD (ps := ["_law_xs"]) (k := 0) Z.fn_l_throws sc_l_throws Z.mg_l_throws (fun _ _ _ _ _ _ us hl => match us, hl with | [_], _ => rfl) (fun cdv A outer s H E C => ((ds_cons (ds_set (i := 1) C.nd (d_lst (da_cons (d_lst (da_cons d_str (da_cons d_str (da_cons d_str (da_cons d_str (da_cons d_str da_nil)))))) (da_cons (d_lst (da_cons d_str (da_cons d_str (da_cons d_str (da_cons d_str (da_cons d_str da_nil)))))) (da_cons (d_lst (da_cons d_str (da_cons d_str (da_cons d_str (da_cons d_str (da_cons d_str da_nil)))))) da_nil)))))
    (ds_cons (ds_set (i := 2) C.nd (d_idx (d_var (i := 1)) (d_bin o_mod (d_idx (d_var (i := 0)) d_int) d_int)))
    (ds_cons (ds_set (i := 3) C.nd (d_lst da_nil))
    (ds_cons (ds_for C (di_range1 Z.no_range (d_bin o_add d_int (d_bin o_mod (d_idx (d_var (i := 0)) d_int) d_int))) (dg_name (i := 4) C.nd) (ds_one (ds_expr (d_meth PySem.F.plainAttrs_list PySem.F.slot_list_append PySem.F.type_list_append m_append (d_var (i := 3)) (da_cons (d_tup (da_cons (d_idx (d_var (i := 2)) (d_var (i := 4))) (da_cons (d_bin o_mod (d_idx (d_var (i := 0)) (d_bin o_add d_int (d_bin o_mul d_int (d_var (i := 4))))) (d_idx (d_lst (da_cons d_int (da_cons d_int (da_cons d_int da_nil)))) (d_bin o_mod (d_bin o_fdiv (d_idx (d_var (i := 0)) (d_bin o_add d_int (d_bin o_mul d_int (d_var (i := 4))))) d_int) d_int))) (da_cons (d_cmp (o_eq C.hu) (d_bin o_mod (d_idx (d_var (i := 0)) (d_bin o_add d_int (d_bin o_mul d_int (d_var (i := 4))))) d_int) d_int (nomark _)) da_nil)))) da_nil)))))
    (ds_one (ds_ret (d_callTy c_tuple rfl Z.no_tuple boot_tuple (da_cons (d_var (i := 3)) da_nil))))))))))
theorem sc_l_game : FnScope ["_law_cell", "_law_xs", "_law_begin"] ["_law_cell"] (defScope st_l_game) := ⟨rfl, rfl, rfl, by decide +kernel, rfl, by decide +kernel, by decide +kernel⟩
theorem ok_l_game (Z : Facts K mg) : Callee P w K mg base "_law_game" 1 (14 + 1) m_l_game :=
  okD (ps := ["_law_cell"]) (k := 14) Z.fn_l_game sc_l_game Z.mg_l_game (fun _ _ _ _ _ _ us hl => match us, hl with | [_], _ => rfl) (fun cdv A outer s H E C => ((ds_cons (ds_set (i := 1) C.nd (d_call C (ok_l_draws Z) (by omega) (da_cons (d_var (i := 0)) (da_cons d_int da_nil))))
    (ds_cons (ds_if (dt_cmp (o_eq C.hu) (d_bin o_mod (d_idx (d_var (i := 1)) d_int) d_int) d_int (nomark _)) (ds_one (ds_ret (d_tup (da_cons d_str (da_cons (d_call C (ok_l_unit Z 14) (by omega) (da_cons (d_var (i := 1)) (da_cons d_int (da_cons d_int (da_cons (d_bin o_mod (d_idx (d_var (i := 1)) d_int) d_int) da_nil))))) da_nil))))) ds_nil)
    (ds_cons (ds_if (dt_cmp (o_eq C.hu) (d_bin o_mod (d_idx (d_var (i := 1)) d_int) d_int) d_int (nomark _)) (ds_cons (ds_set (i := 2) C.nd (d_bin o_add d_int (d_bin o_mod (d_idx (d_var (i := 1)) d_int) (d_idx (d_lst (da_cons d_int (da_cons d_int (da_cons d_int da_nil)))) (d_bin o_mod (d_idx (d_var (i := 1)) d_int) d_int)))))
    (ds_one (ds_ret (d_tup (da_cons d_str (da_cons (d_tup (da_cons (d_bin o_add d_int (d_bin o_mod (d_idx (d_var (i := 1)) d_int) d_int)) (da_cons (d_var (i := 2)) (da_cons (d_bin o_add d_int (d_bin o_mod (d_idx (d_var (i := 1)) d_int) d_int)) (da_cons (d_call C (ok_l_throws Z) (by omega) (da_cons (d_var (i := 1)) da_nil)) da_nil))))) da_nil)))))) ds_nil)
    (ds_one (ds_ret (d_tup (da_cons d_str (da_cons (d_tup (da_cons (d_bin o_add d_int (d_bin o_mod (d_idx (d_var (i := 1)) d_int) d_int)) (da_cons (d_bin o_add d_int (d_bin o_mod (d_idx (d_var (i := 1)) d_int) (d_idx (d_lst (da_cons d_int (da_cons d_int (da_cons d_int da_nil)))) (d_bin o_mod (d_idx (d_var (i := 1)) d_int) d_int)))) (da_cons (d_bin o_add d_int (d_bin o_mod (d_idx (d_var (i := 1)) d_int) (d_idx (d_lst (da_cons d_int (da_cons d_int (da_cons d_int da_nil)))) (d_bin o_mod (d_idx (d_var (i := 1)) d_int) d_int)))) da_nil)))) da_nil))))))))))
theorem sc_l_bad : FnScope ["_law_game_here", "_law_xs", "_law_some"] ["_law_game_here", "_law_xs"] (defScope st_l_bad) := ⟨rfl, rfl, rfl, by decide +kernel, rfl, by decide +kernel, by decide +kernel⟩
theorem ok_l_bad (Z : Facts K mg) : Callee P w K mg base "_law_bad" 2 (0 + 1) m_l_bad :=
  okD (ps := ["_law_game_here", "_law_xs"]) (k := 0) Z.fn_l_bad sc_l_bad Z.mg_l_bad (fun _ _ _ _ _ _ us hl => match us, hl with | [_, _], _ => rfl) (fun cdv A outer s H E C => ((ds_cons (ds_set (i := 2) C.nd (d_lst (da_cons d_non (da_cons d_bl (da_cons d_bl (da_cons d_str (da_cons (d_bin o_mulS d_str d_int) (da_cons (d_un o_neg d_int) (da_cons (d_bin o_add d_int (d_bin o_mod (d_idx (d_var (i := 1)) d_int) (d_bin o_pow d_int d_int))) (da_cons (d_lst (da_cons d_int da_nil)) (da_cons (d_tup (da_cons d_int da_nil)) (da_cons d_str da_nil))))))))))))
    (ds_cons (ds_if (dt_cmp (o_eq C.hu) (d_idx (d_var (i := 0)) d_int) d_str (nomark _)) (ds_one (ds_set (i := 2) C.nd (d_bin o_add (d_var (i := 2)) (d_lst (da_cons d_int (da_cons d_int (da_cons (d_bin o_add (d_idx (d_idx (d_idx (d_idx (d_var (i := 0)) d_int) d_int) d_int) d_int) d_str) (da_cons d_str da_nil)))))))) ds_nil)
    (ds_cons (ds_if (dt_cmp (o_eq C.hu) (d_idx (d_var (i := 0)) d_int) d_str (nomark _)) (ds_one (ds_set (i := 2) C.nd (d_bin o_add (d_var (i := 2)) (d_lst (da_cons d_int (da_cons d_str da_nil)))))) ds_nil)
    (ds_one (ds_ret (d_idx (d_var (i := 2)) (d_bin o_mod (d_idx (d_var (i := 1)) d_int) (d_callB c_len rfl Z.no_len boot_len (da_cons (d_var (i := 2)) da_nil)))))))))))
theorem sc_l_deed : FnScope ["_law_game_here", "_law_stand", "_law_xs", "_law_some"] ["_law_game_here", "_law_stand", "_law_xs"] (defScope st_l_deed) := ⟨rfl, rfl, rfl, by decide +kernel, rfl, by decide +kernel, by decide +kernel⟩
theorem ok_l_deed (Z : Facts K mg) : Callee P w K mg base "_law_deed" 3 (1 + 1) m_l_deed :=
  okD (ps := ["_law_game_here", "_law_stand", "_law_xs"]) (k := 1) Z.fn_l_deed sc_l_deed Z.mg_l_deed (fun _ _ _ _ _ _ us hl => match us, hl with | [_, _, _], _ => rfl) (fun cdv A outer s H E C => ((ds_cons (ds_set (i := 3) C.nd (d_call C (ok_deeds_at Z) (by omega) (da_cons (d_var (i := 0)) (da_cons (d_var (i := 1)) da_nil))))
    (ds_cons (ds_if (PW.pt (dt_or (dt_cmp (o_eq C.hu) (d_var (i := 3)) (d_lst da_nil) (nomark _)) (dt_or1 (dt_cmp (o_eq C.hu) (d_bin o_mod (d_idx (d_var (i := 2)) d_int) d_int) d_int (nomark _))))) (ds_one (ds_ret (d_call C (ok_l_bad Z) (by omega) (da_cons (d_var (i := 0)) (da_cons (d_var (i := 2)) da_nil))))) ds_nil)
    (ds_one (ds_ret (d_idx (d_var (i := 3)) (d_bin o_mod (d_idx (d_var (i := 2)) d_int) (d_callB c_len rfl Z.no_len boot_len (da_cons (d_var (i := 3)) da_nil))))))))))
theorem sc_l_kinds : FnScope ["_law_e"] ["_law_e"] (defScope st_l_kinds) := ⟨rfl, rfl, rfl, by decide +kernel, rfl, by decide +kernel, by decide +kernel⟩
theorem okh_l_kinds (Z : Facts K mg) : CalleeT P w K mg base "_law_kinds" 1 (0 + 1) m_l_kinds :=
  okT (ps := ["_law_e"]) (k := 0) Z.fn_l_kinds sc_l_kinds Z.mg_l_kinds (fun _ _ _ _ _ _ us hl => match us, hl with | [_], _ => rfl) (fun cdv A outer s H E C => ((ds_one (ds_ret (d_lst (da_cons (d_isE Z.ist (Or.inr (by decide +kernel)) Z.no_isinstance (Or.inr ⟨by decide, Z.mc_Over⟩) (d_var (i := 0))) (da_cons (d_isE Z.ist (Or.inr (by decide +kernel)) Z.no_isinstance (Or.inr ⟨by decide, Z.mc_NoSide⟩) (d_var (i := 0))) (da_cons (d_isE Z.ist (Or.inr (by decide +kernel)) Z.no_isinstance (Or.inr ⟨by decide, Z.mc_NoThrow⟩) (d_var (i := 0))) (da_cons (d_isE Z.ist (Or.inr (by decide +kernel)) Z.no_isinstance (Or.inr ⟨by decide, Z.mc_NoPins⟩) (d_var (i := 0))) (da_cons (d_isE Z.ist (Or.inr (by decide +kernel)) Z.no_isinstance (Or.inr ⟨by decide, Z.mc_NoDeed⟩) (d_var (i := 0))) (da_cons (d_isE Z.ist (Or.inr (by decide +kernel)) Z.no_isinstance (Or.inr ⟨by decide, Z.mc_Falls⟩) (d_var (i := 0))) (da_cons (d_isEs Z.ist (by decide +kernel) Z.no_isinstance (.cons rfl (by decide) (Or.inr ⟨by decide, Z.mc_NoGame⟩) rfl (.cons rfl (by decide) (Or.inr ⟨by decide, Z.mc_TooMany⟩) rfl (.cons rfl (by decide) (Or.inr ⟨by decide, Z.mc_NoLine⟩) rfl (.cons rfl (by decide) (Or.inr ⟨by decide, Z.mc_BadWord⟩) rfl .nil)))) (d_var (i := 0))) (da_cons (d_isE Z.ist (Or.inl rfl) Z.no_isinstance (Or.inl ⟨rfl, Z.no_ValueError⟩) (d_var (i := 0))) da_nil)))))))))))))
theorem sc_l_due : FnScope ["_law_game_here", "_law_stand", "_law_deed_here", "_law_kinds_here"] ["_law_game_here", "_law_stand", "_law_deed_here"] (defScope st_l_due) := ⟨rfl, rfl, rfl, by decide +kernel, rfl, by decide +kernel, by decide +kernel⟩
theorem ok_l_due (Z : Facts K mg) : Callee P w K mg base "_law_due" 3 (1 + 1) m_l_due :=
  okD (ps := ["_law_game_here", "_law_stand", "_law_deed_here"]) (k := 1) Z.fn_l_due sc_l_due Z.mg_l_due (fun _ _ _ _ _ _ us hl => match us, hl with | [_, _, _], _ => rfl) (fun cdv A outer s H E C => ((ds_cons (ds_set (i := 3) C.nd (d_lst (da_cons d_bl (da_cons d_bl (da_cons d_bl (da_cons d_bl (da_cons d_bl (da_cons d_bl (da_cons d_bl (da_cons d_bl da_nil))))))))))
    (ds_cons (ds_if (dt_cmp o_isNot (d_idx (d_var (i := 1)) d_int) d_non (nomark _)) (ds_cons (ds_sub (d_var (i := 3)) d_int d_bl)
    (ds_one (ds_ret (d_var (i := 3))))) ds_nil)
    (ds_cons (ds_if (PW.pt (dt_and (dt_not (dt_tru (d_isiT Z.no_isinstance (.cons rfl Z.no_bool boot_bool (by decide) (by decide) rfl (.cons rfl Z.no_list boot_list (by decide) (by decide) rfl (.cons rfl Z.no_tuple boot_tuple (by decide) (by decide) rfl .nil))) (d_var (i := 2))))) (dt_and1 (dt_cmp o_in (d_var (i := 2)) (d_call C (ok_deeds_at Z) (by omega) (da_cons (d_var (i := 0)) (da_cons (d_var (i := 1)) da_nil))) (by with_unfolding_all rfl))))) (ds_one (ds_ret (d_lst da_nil))) ds_nil)
    (ds_cons (ds_sub (d_var (i := 3)) (d_bin o_add d_int (d_meth PySem.F.plainAttrs_list PySem.F.slot_list_index PySem.F.type_list_index m_index (d_lst (da_cons d_str (da_cons d_str (da_cons d_str da_nil)))) (da_cons (d_idx (d_var (i := 0)) d_int) da_nil))) d_bl)
    (ds_one (ds_ret (d_var (i := 3))))))))))
theorem sc_l_right : FnScope ["_law_book", "_law_game_here", "_law_row", "_law_stands_here", "_law_cell", "_law_number"] ["_law_book", "_law_game_here", "_law_row", "_law_stands_here", "_law_cell"] (defScope st_l_right) := ⟨rfl, rfl, rfl, by decide +kernel, rfl, by decide +kernel, by decide +kernel⟩
theorem ok_l_right (Z : Facts K mg) : CalleeG P w K mg base "_law_right" 5 (16 + 1) m_l_right :=
  okG (ps := ["_law_book", "_law_game_here", "_law_row", "_law_stands_here", "_law_cell"]) (k := 16) Z.fn_l_right sc_l_right Z.mg_l_right (fun _ _ _ _ _ _ us hl => match us, hl with | [_, _, _, _, _], _ => rfl) (fun cdv A outer s H E G => (have C := G.ctx; ((ds_cons (ds_if (PW.pt (dt_or (dt_not (dt_tru (d_isi (U := "list") rfl Z.no_isinstance rfl Z.no_list boot_list (d_meM0 C (ok_Book_deeds Z) (by omega) (d_var (i := 0)))))) (dt_or (dt_cmp (o_ne C.hu) (d_callB (c_repr G) rfl Z.no_repr boot_repr (da_cons (d_meM0 C (ok_Book_deeds Z) (by omega) (d_var (i := 0))) da_nil)) (d_callB (c_repr G) rfl Z.no_repr boot_repr (da_cons (d_var (i := 2)) da_nil)) (nomark _)) (dt_or1 (dt_cmp (o_ne C.hu) (d_meM0 C (ok_Book_game Z) (by omega) (d_var (i := 0))) (d_var (i := 1)) (nomark _)))))) (ds_one (ds_ret d_bl)) ds_nil)
    (ds_cons (ds_if (PW.pt (dt_or (dt_cmp (o_ne C.hu) (d_meM0 C (okd_Book_stand Z) (by omega) (d_var (i := 0))) (d_idx (d_var (i := 3)) (d_un o_neg d_int)) (nomark _)) (dt_or1 (dt_cmp (o_ne C.hu) (d_meM C (ok_Book_stand Z) (by omega) (d_var (i := 0)) (da_cons d_non da_nil)) (d_idx (d_var (i := 3)) (d_un o_neg d_int)) (nomark _))))) (ds_one (ds_ret d_bl)) ds_nil)
    (ds_cons (ds_set (i := 5) C.nd (d_bin o_mod (d_var (i := 4)) (d_callB c_len rfl Z.no_len boot_len (da_cons (d_var (i := 3)) da_nil))))
    (ds_cons (ds_if (PW.pt (dt_or (dt_cmp (o_ne C.hu) (d_meM C (ok_Book_stand Z) (by omega) (d_var (i := 0)) (da_cons (d_var (i := 5)) da_nil)) (d_idx (d_var (i := 3)) (d_var (i := 5))) (nomark _)) (dt_or1 (dt_cmp (o_ne C.hu) (d_meM C (ok_Book_stand Z) (by omega) (d_var (i := 0)) (da_cons d_int da_nil)) (d_call C (ok_first Z) (by omega) (da_cons (d_var (i := 1)) da_nil)) (nomark _))))) (ds_one (ds_ret d_bl)) ds_nil)
    (ds_cons (ds_expr (d_meth PySem.F.plainAttrs_list PySem.F.slot_list_append PySem.F.type_list_append m_append (d_meM0 C (ok_Book_deeds Z) (by omega) (d_var (i := 0))) (da_cons d_str da_nil)))
    (ds_one (ds_ret (d_cmp (o_eq C.hu) (d_callB (c_repr G) rfl Z.no_repr boot_repr (da_cons (d_meM0 C (ok_Book_deeds Z) (by omega) (d_var (i := 0))) da_nil)) (d_callB (c_repr G) rfl Z.no_repr boot_repr (da_cons (d_var (i := 2)) da_nil)) (nomark _))))))))))))
theorem sc_l_stands : FnScope ["_law_game_here", "_law_row", "_law_stands_here", "_law_deed_here"] ["_law_game_here", "_law_row"] (defScope st_l_stands) := ⟨rfl, rfl, rfl, by decide +kernel, rfl, by decide +kernel, by decide +kernel⟩
theorem ok_l_stands (Z : Facts K mg) : Callee P w K mg base "_law_stands" 2 (31 + 1) m_l_stands :=
  okD (ps := ["_law_game_here", "_law_row"]) (k := 31) Z.fn_l_stands sc_l_stands Z.mg_l_stands (fun _ _ _ _ _ _ us hl => match us, hl with | [_, _], _ => rfl) (fun cdv A outer s H E C => ((ds_cons (ds_set (i := 2) C.nd (d_lst (da_cons (d_call C (ok_first Z) (by omega) (da_cons (d_var (i := 0)) da_nil)) da_nil)))
    (ds_cons (ds_for C (di_any (d_var (i := 1))) (dg_name (i := 3) C.nd) (ds_cons (ds_if (dt_cmp (o_ne C.hu) (d_call C (ok_l_due Z) (by omega) (da_cons (d_var (i := 0)) (da_cons (d_idx (d_var (i := 2)) (d_un o_neg d_int)) (da_cons (d_var (i := 3)) da_nil)))) (d_lst da_nil) (nomark _)) (ds_one (ds_ret (d_var (i := 2)))) ds_nil)
    (ds_one (ds_expr (d_meth PySem.F.plainAttrs_list PySem.F.slot_list_append PySem.F.type_list_append m_append (d_var (i := 2)) (da_cons (d_call C (ok_played Z) (by omega) (da_cons (d_var (i := 0)) (da_cons (d_idx (d_var (i := 2)) (d_un o_neg d_int)) (da_cons (d_var (i := 3)) da_nil)))) da_nil))))))
    (ds_one (ds_ret (d_var (i := 2))))))))
theorem sc_l_told : FnScope ["_law_book", "_law_way", "_law_number", "_law_deed_here", "_law_e"] ["_law_book", "_law_way", "_law_number", "_law_deed_here"] (defScope st_l_told) := ⟨rfl, rfl, rfl, by decide +kernel, rfl, by decide +kernel, by decide +kernel⟩
theorem ok_l_told (Z : Facts K mg) : Callee P w K mg base "_law_told" 4 (34 + 1) m_l_told :=
  okD (ps := ["_law_book", "_law_way", "_law_number", "_law_deed_here"]) (k := 34) Z.fn_l_told sc_l_told Z.mg_l_told (fun _ _ _ _ _ _ us hl => match us, hl with | [_, _, _, _], _ => rfl) (fun cdv A outer s H E C => ((ds_one (ds_tryA C (fun _ _ _ Ctz => (have Ct := Ctz.ctx; ((ds_cons (ds_if (dt_cmp (o_eq Ct.hu) (d_var (i := 1)) d_int (nomark _)) (ds_one (ds_ret (d_lst (da_cons (d_meMZ Ctz (ok_Book_put_right Z) (by omega) (d_var (i := 0)) (da_cons (d_var (i := 2)) (da_cons (d_var (i := 3)) da_nil))) da_nil)))) ds_nil)
    (ds_cons (ds_if (dt_cmp (o_eq Ct.hu) (d_var (i := 1)) d_int (nomark _)) (ds_one (ds_ret (d_lst (da_cons (d_meMZ Ctz (ok_Book_put_in Z) (by omega) (d_var (i := 0)) (da_cons (d_var (i := 2)) (da_cons (d_var (i := 3)) da_nil))) da_nil)))) ds_nil)
    (ds_one (ds_ret (d_lst (da_cons (d_meMZ Ctz (ok_Book_leave_out Z) (by omega) (d_var (i := 0)) (da_cons (d_var (i := 2)) da_nil)) da_nil))))))))) (.as (i := 4) rfl (by decide) Z.mc_Falls (Z.exsub.of (by decide +kernel)) rfl rfl (fun a pn => ((ds_one (ds_ret (d_lst (da_cons d_str (da_cons (d_at Z.at_ (d_var (i := 4))) (da_cons (d_isE Z.ist (Or.inr (by decide +kernel)) Z.no_isinstance (Or.inr ⟨by decide, Z.mc_NoDeed⟩) (d_var (i := 4))) (da_cons (d_isE Z.ist (Or.inl rfl) Z.no_isinstance (Or.inl ⟨rfl, Z.no_ValueError⟩) (d_var (i := 4))) da_nil))))))))) (.as (i := 4) rfl (by decide) Z.mc_ScoreError (Z.exsub.of (by decide +kernel)) rfl rfl (fun a pn => ((ds_one (ds_ret (d_callT (ctxH_suite C (a := a) (pn := pn)) (okh_l_kinds Z) (by omega) (da_cons (d_var (i := 4)) da_nil)))))) .nil))))))
theorem sc_l_row_then : FnScope ["_law_row", "_law_way", "_law_number", "_law_deed_here"] ["_law_row", "_law_way", "_law_number", "_law_deed_here"] (defScope st_l_row_then) := ⟨rfl, rfl, rfl, by decide +kernel, rfl, by decide +kernel, by decide +kernel⟩
theorem ok_l_row_then (Z : Facts K mg) : Callee P w K mg base "_law_row_then" 4 (0 + 1) m_l_row_then :=
  okD (ps := ["_law_row", "_law_way", "_law_number", "_law_deed_here"]) (k := 0) Z.fn_l_row_then sc_l_row_then Z.mg_l_row_then (fun _ _ _ _ _ _ us hl => match us, hl with | [_, _, _, _], _ => rfl) (fun cdv A outer s H E C => ((ds_cons (ds_if (dt_cmp (o_eq C.hu) (d_var (i := 1)) d_int (nomark _)) (ds_one (ds_ret (d_bin o_add (d_bin o_add (d_sl (d_var (i := 0)) do_none (do_some (d_bin o_sub (d_var (i := 2)) d_int))) (d_lst (da_cons (d_var (i := 3)) da_nil))) (d_sl (d_var (i := 0)) (do_some (d_var (i := 2))) do_none)))) ds_nil)
    (ds_cons (ds_if (dt_cmp (o_eq C.hu) (d_var (i := 1)) d_int (nomark _)) (ds_one (ds_ret (d_bin o_add (d_bin o_add (d_sl (d_var (i := 0)) do_none (do_some (d_bin o_sub (d_var (i := 2)) d_int))) (d_lst (da_cons (d_var (i := 3)) da_nil))) (d_sl (d_var (i := 0)) (do_some (d_bin o_sub (d_var (i := 2)) d_int)) do_none)))) ds_nil)
    (ds_one (ds_ret (d_bin o_add (d_sl (d_var (i := 0)) do_none (do_some (d_bin o_sub (d_var (i := 2)) d_int))) (d_sl (d_var (i := 0)) (do_some (d_var (i := 2))) do_none))))))))
theorem sc_l_anew : FnScope ["_law_book", "_law_game_here", "_law_row", "_law_cell", "_law_xs", "_law_way", "_law_number", "_law_stands_here", "_law_deed_here", "_law_told_here", "_law_later"] ["_law_book", "_law_game_here", "_law_row", "_law_cell"] (defScope st_l_anew) := ⟨rfl, rfl, rfl, by decide +kernel, rfl, by decide +kernel, by decide +kernel⟩
theorem ok_l_anew (Z : Facts K mg) : CalleeG P w K mg base "_law_anew" 4 (35 + 1) m_l_anew :=
  okG (ps := ["_law_book", "_law_game_here", "_law_row", "_law_cell"]) (k := 35) Z.fn_l_anew sc_l_anew Z.mg_l_anew (fun _ _ _ _ _ _ us hl => match us, hl with | [_, _, _, _], _ => rfl) (fun cdv A outer s H E G => (have C := G.ctx; ((ds_cons (ds_set (i := 4) C.nd (d_call C (ok_l_draws Z) (by omega) (da_cons (d_var (i := 3)) (da_cons d_int da_nil))))
    (ds_cons (ds_set (i := 5) C.nd (d_bin o_mod (d_idx (d_var (i := 4)) d_int) d_int))
    (ds_cons (ds_set (i := 6) C.nd (d_bin o_mod (d_idx (d_var (i := 4)) d_int) (d_bin o_add (d_callB c_len rfl Z.no_len boot_len (da_cons (d_var (i := 2)) da_nil)) d_int)))
    (ds_cons (ds_set (i := 7) C.nd (d_call C (ok_l_stands Z) (by omega) (da_cons (d_var (i := 1)) (da_cons (d_var (i := 2)) da_nil))))
    (ds_cons (ds_set (i := 8) C.nd (d_call C (ok_l_deed Z) (by omega) (da_cons (d_var (i := 1)) (da_cons (d_idx (d_var (i := 7)) (d_callB (c_min2 C.calm) rfl Z.no_min boot_min (da_cons (d_callB (c_max2 C.calm) rfl Z.no_max boot_max (da_cons (d_bin o_sub (d_var (i := 6)) d_int) (da_cons d_int da_nil))) (da_cons (d_callB c_len rfl Z.no_len boot_len (da_cons (d_var (i := 2)) da_nil)) da_nil)))) (da_cons (d_var (i := 4)) da_nil)))))
    (ds_cons (ds_set (i := 9) C.nd (d_call C (ok_l_told Z) (by omega) (da_cons (d_var (i := 0)) (da_cons (d_var (i := 5)) (da_cons (d_var (i := 6)) (da_cons (d_var (i := 8)) da_nil))))))
    (ds_cons (ds_if (PW.pt (dt_or (dt_cmp o_lt (d_var (i := 6)) d_int (nomark _)) (dt_or1 (dt_cmp o_gt (d_var (i := 6)) (d_bin o_add (d_callB c_len rfl Z.no_len boot_len (da_cons (d_var (i := 2)) da_nil)) (d_callTy c_int rfl Z.no_int boot_int (da_cons (d_cmp (o_eq C.hu) (d_var (i := 5)) d_int (nomark _)) da_nil))) (nomark _))))) (ds_one (ds_ret (d_lst (da_cons (d_var (i := 2)) (da_cons (d_cmp (o_eq C.hu) (d_callB (c_repr G) rfl Z.no_repr boot_repr (da_cons (d_var (i := 9)) da_nil)) (d_callB (c_repr G) rfl Z.no_repr boot_repr (da_cons (d_lst (da_cons d_bl (da_cons d_bl (da_cons d_bl (da_cons d_bl (da_cons d_bl (da_cons d_bl (da_cons d_bl (da_cons d_bl da_nil))))))))) da_nil)) (nomark _)) da_nil))))) ds_nil)
    (ds_cons (ds_set (i := 10) C.nd (d_call C (ok_l_row_then Z) (by omega) (da_cons (d_var (i := 2)) (da_cons (d_var (i := 5)) (da_cons (d_var (i := 6)) (da_cons (d_var (i := 8)) da_nil))))))
    (ds_cons (ds_set (i := 7) C.nd (d_call C (ok_l_stands Z) (by omega) (da_cons (d_var (i := 1)) (da_cons (d_var (i := 10)) da_nil))))
    (ds_cons (ds_if (dt_cmp o_le (d_callB c_len rfl Z.no_len boot_len (da_cons (d_var (i := 7)) da_nil)) (d_callB c_len rfl Z.no_len boot_len (da_cons (d_var (i := 10)) da_nil)) (nomark _)) (ds_one (ds_ret (d_lst (da_cons (d_var (i := 2)) (da_cons (d_cmp (o_eq C.hu) (d_callB (c_repr G) rfl Z.no_repr boot_repr (da_cons (d_var (i := 9)) da_nil)) (d_callB (c_repr G) rfl Z.no_repr boot_repr (da_cons (d_lst (da_cons d_str (da_cons (d_callB c_len rfl Z.no_len boot_len (da_cons (d_var (i := 7)) da_nil)) (da_cons d_bl (da_cons d_bl da_nil))))) da_nil)) (nomark _)) da_nil))))) ds_nil)
    (ds_one (ds_ret (d_lst (da_cons (d_var (i := 10)) (da_cons (d_cmp (o_eq C.hu) (d_callB (c_repr G) rfl Z.no_repr boot_repr (da_cons (d_var (i := 9)) da_nil)) (d_callB (c_repr G) rfl Z.no_repr boot_repr (da_cons (d_lst (da_cons d_non da_nil)) da_nil)) (nomark _)) da_nil))))))))))))))))))
theorem sc_law : FnScope ["_law_script", "_law_game_here", "_law_book", "_law_row", "_law_stand", "_law_number", "_law_cell", "_law_stands_here", "_law_some", "_law_good"] ["_law_script"] (defScope st_law) := ⟨rfl, rfl, rfl, by decide +kernel, rfl, by decide +kernel, by decide +kernel⟩
theorem ok_law (Z : Facts K mg) {fd : FuncData} (F : FunD K "law" "law" (defArgs st_law) (defBody st_law) (defScope st_law) [] [] (He.ga K "law") fd) : FnG P w K mg base (L2N.CX P w) 37 (He.ga K "law") fd ["_law_script"] (spD K 1 m_law) :=
  okFG (k := 36) F sc_law (fun cdv A outer s H E G => (have C := G.ctx; ((ds_cons (ds_set (i := 1) C.nd (d_call C (ok_l_game Z) (by omega) (da_cons (d_call C (ok_l_cell_at Z) (by omega) (da_cons (d_var (i := 0)) (da_cons d_int da_nil))) da_nil)))
    (ds_cons (ds_set (i := 2) C.nd (d_make C ⟨(ok_Book_new Z), Z.mkr_Book, Z.mk_Book⟩ (by omega) (da_cons (d_var (i := 1)) da_nil)))
    (ds_cons (ds_set (i := 3) C.nd (d_lst da_nil))
    (ds_cons (ds_set (i := 4) C.nd (d_call C (ok_first Z) (by omega) (da_cons (d_var (i := 1)) da_nil)))
    (ds_cons (ds_set (i := 5) C.nd (d_call C (ok_l_cell_at Z) (by omega) (da_cons (d_var (i := 0)) (da_cons d_int da_nil))))
    (ds_cons (ds_for C (di_any (d_bin o_add (d_call C (ok_l_draws Z) (by omega) (da_cons (d_var (i := 5)) (da_cons d_int da_nil))) (d_sl (d_var (i := 0)) (do_some d_int) (do_some d_int)))) (dg_name (i := 6) C.nd) (ds_cons (ds_set (i := 8) C.nd (d_call C (ok_deeds_at Z) (by omega) (da_cons (d_var (i := 1)) (da_cons (d_var (i := 4)) da_nil))))
    (ds_one (ds_if (dt_cmp (o_ne C.hu) (d_var (i := 8)) (d_lst da_nil) (nomark _)) (ds_cons (ds_expr (d_meth PySem.F.plainAttrs_list PySem.F.slot_list_append PySem.F.type_list_append m_append (d_var (i := 3)) (da_cons (d_idx (d_var (i := 8)) (d_bin o_mod (d_var (i := 6)) (d_callB c_len rfl Z.no_len boot_len (da_cons (d_var (i := 8)) da_nil)))) da_nil)))
    (ds_cons (ds_set (i := 4) C.nd (d_call C (ok_played Z) (by omega) (da_cons (d_var (i := 1)) (da_cons (d_var (i := 4)) (da_cons (d_idx (d_var (i := 3)) (d_un o_neg d_int)) da_nil)))))
    (ds_one (ds_expr (d_meM C (ok_Book_add Z) (by omega) (d_var (i := 2)) (da_cons (d_idx (d_var (i := 3)) (d_un o_neg d_int)) da_nil)))))) ds_nil))))
    (ds_cons (ds_for C (di_any (d_bin o_add (d_call C (ok_l_draws Z) (by omega) (da_cons (d_bin o_fdiv (d_var (i := 5)) d_int) (da_cons d_int da_nil))) (d_sl (d_var (i := 0)) (do_some d_int) (do_some d_int)))) (dg_name (i := 6) C.nd) (ds_cons (ds_asgL (d_callG G (ok_l_anew Z) (by omega) (da_cons (d_var (i := 2)) (da_cons (d_var (i := 1)) (da_cons (d_var (i := 3)) (da_cons (d_var (i := 6)) da_nil))))) (L2.pg_lst C.calm (pgs_cons (pg_name (i := 3) C.nd rfl (by first | exact .inl rfl | exact .inr rfl)) (pgs_cons (pg_name (i := 9) C.nd rfl (by first | exact .inl rfl | exact .inr rfl)) pgs_nil))))
    (ds_cons (ds_set (i := 7) C.nd (d_call C (ok_l_stands Z) (by omega) (da_cons (d_var (i := 1)) (da_cons (d_var (i := 3)) da_nil))))
    (ds_one (ds_if (PW.pt (dt_or (dt_not (dt_tru (d_var (i := 9)))) (dt_or1 (dt_not (dt_tru (d_callG G (ok_l_right Z) (by omega) (da_cons (d_var (i := 2)) (da_cons (d_var (i := 1)) (da_cons (d_var (i := 3)) (da_cons (d_var (i := 7)) (da_cons (d_var (i := 6)) da_nil))))))))))) (ds_one (ds_ret d_bl)) ds_nil)))))
    (ds_cons (ds_set (i := 7) C.nd (d_call C (ok_l_stands Z) (by omega) (da_cons (d_var (i := 1)) (da_cons (d_var (i := 3)) da_nil))))
    (ds_cons (ds_set (i := 8) C.nd (d_call C (ok_deeds_at Z) (by omega) (da_cons (d_var (i := 1)) (da_cons (d_idx (d_var (i := 7)) (d_un o_neg d_int)) da_nil))))
    (ds_cons (ds_if (dt_cmp (o_ne C.hu) (d_var (i := 8)) (d_lst da_nil) (nomark _)) (ds_one (ds_if (PW.pt (dt_or (dt_cmp (o_ne C.hu) (d_meM C (ok_Book_add Z) (by omega) (d_var (i := 2)) (da_cons (d_idx (d_var (i := 8)) (d_un o_neg d_int)) da_nil)) (d_bin o_add (d_callB c_len rfl Z.no_len boot_len (da_cons (d_var (i := 3)) da_nil)) d_int) (nomark _)) (dt_or1 (dt_cmp (o_ne C.hu) (d_meM0 C (ok_Book_back Z) (by omega) (d_var (i := 2))) (d_idx (d_var (i := 8)) (d_un o_neg d_int)) (nomark _))))) (ds_one (ds_ret d_bl)) ds_nil)) ds_nil)
    (ds_one (ds_ret (d_callG G (ok_l_right Z) (by omega) (da_cons (d_var (i := 2)) (da_cons (d_var (i := 1)) (da_cons (d_var (i := 3)) (da_cons (d_var (i := 7)) (da_cons (d_var (i := 5)) da_nil)))))))))))))))))))))
end
end LW
end
section
set_option maxHeartbeats 4000000
namespace LW
open PySem PySem.Spec PyProof.Rows L2 TL
open CM hiding any_rule b_l_any_rule b_l_rule b_l_throws b_l_unit g_l_unit lp_l_throws_0 m_l_any_rule m_l_rule m_l_throws m_l_unit pick3 rng_cons rule_ok rule_step unit_ok
open CG hiding m_l_game b_l_game m_l_unit b_l_unit GameQ rule_ok unit_ok atI_last
open CI
open CE
open CQ hiding m_stands_of b_stands_of lp_stands_of_0 m_Book_written_anew b_Book_written_anew m_Book_put_right b_Book_put_right m_Book_put_in b_Book_put_in m_Book_leave_out b_Book_leave_out
open CB
theorem facts {h : Heap} {mg : Str → Option Value} {K : PySem.W.Frag} (X : K.In h) (G : h.Ns mainGlobals mg) (c : SaysB okB fn K) : Facts K mg := by
  have e : okB K = true := c.fact
  unfold okB at e
  obtain ⟨e, t0⟩ := He.ba e
  obtain ⟨e, x_rs⟩ := He.ba e
  obtain ⟨e, x_at_⟩ := He.ba e
  obtain ⟨e, x_ist⟩ := He.ba e
  obtain ⟨e, x_exsub⟩ := He.ba e
  obtain ⟨e, x_base_ScoreError⟩ := He.ba e
  obtain ⟨e, x_ei_Falls⟩ := He.ba e
  exact {
    fn_Falls_new := c.def_ 0
    meth_Falls_new := He.meth_ok (all_at e 0)
    fn_is_between := c.def_ 1
    mg_is_between := He.glo_ok X G (all_at e 1)
    fn_is_throw_name := c.def_ 2
    mg_is_throw_name := He.glo_ok X G (all_at e 2)
    fn_is_throw := c.def_ 3
    mg_is_throw := He.glo_ok X G (all_at e 3)
    fn_is_down := c.def_ 4
    mg_is_down := He.glo_ok X G (all_at e 4)
    fn_down_begun := c.def_ 5
    mg_down_begun := He.glo_ok X G (all_at e 5)
    fn_throw_named := c.def_ 6
    mg_throw_named := He.glo_ok X G (all_at e 6)
    fn_with_count := c.def_ 7
    mg_with_count := He.glo_ok X G (all_at e 7)
    fn_turn_ended := c.def_ 8
    mg_turn_ended := He.glo_ok X G (all_at e 8)
    fn_down_thrown := c.def_ 9
    mg_down_thrown := He.glo_ok X G (all_at e 9)
    fn_is_lane := c.def_ 10
    mg_is_lane := He.glo_ok X G (all_at e 10)
    fn_lane_begun := c.def_ 11
    mg_lane_begun := He.glo_ok X G (all_at e 11)
    fn_frame_behind := c.def_ 12
    mg_frame_behind := He.glo_ok X G (all_at e 12)
    fn_extra_behind := c.def_ 13
    mg_extra_behind := He.glo_ok X G (all_at e 13)
    fn_row_behind := c.def_ 14
    mg_row_behind := He.glo_ok X G (all_at e 14)
    fn_lane_bowled := c.def_ 15
    mg_lane_bowled := He.glo_ok X G (all_at e 15)
    fn_best_of := c.def_ 16
    mg_best_of := He.glo_ok X G (all_at e 16)
    fn_is_count := c.def_ 17
    mg_is_count := He.glo_ok X G (all_at e 17)
    fn_has_numbers := c.def_ 18
    mg_has_numbers := He.glo_ok X G (all_at e 18)
    fn_units_in := c.def_ 19
    mg_units_in := He.glo_ok X G (all_at e 19)
    fn_is_rule := c.def_ 20
    mg_is_rule := He.glo_ok X G (all_at e 20)
    fn_rule_within := c.def_ 21
    mg_rule_within := He.glo_ok X G (all_at e 21)
    fn_begun := c.def_ 22
    mg_begun := He.glo_ok X G (all_at e 22)
    fn_is_won := c.def_ 23
    mg_is_won := He.glo_ok X G (all_at e 23)
    fn_rallied := c.def_ 24
    mg_rallied := He.glo_ok X G (all_at e 24)
    fn_is_game := c.def_ 25
    mg_is_game := He.glo_ok X G (all_at e 25)
    fn_first := c.def_ 26
    mg_first := He.glo_ok X G (all_at e 26)
    fn_deeds_at := c.def_ 27
    mg_deeds_at := He.glo_ok X G (all_at e 27)
    fn_rally_played := c.def_ 28
    mg_rally_played := He.glo_ok X G (all_at e 28)
    fn_down_played := c.def_ 29
    mg_down_played := He.glo_ok X G (all_at e 29)
    fn_lane_played := c.def_ 30
    mg_lane_played := He.glo_ok X G (all_at e 30)
    fn_played := c.def_ 31
    mg_played := He.glo_ok X G (all_at e 31)
    fn_stands_of := c.def_ 32
    mg_stands_of := He.glo_ok X G (all_at e 32)
    fn_Book_new := c.def_ 33
    meth_Book_new := He.meth_ok (all_at e 33)
    fn_Book_game := c.def_ 34
    meth_Book_game := He.meth_ok (all_at e 34)
    fn_Book_deeds := c.def_ 35
    meth_Book_deeds := He.meth_ok (all_at e 35)
    fn_Book_add := c.def_ 36
    meth_Book_add := He.meth_ok (all_at e 36)
    fn_Book_back := c.def_ 37
    meth_Book_back := He.meth_ok (all_at e 37)
    fn_Book_hold_number := c.def_ 38
    meth_Book_hold_number := He.meth_ok (all_at e 38)
    fn_Book_written_anew := c.def_ 39
    meth_Book_written_anew := He.meth_ok (all_at e 39)
    fn_Book_put_right := c.def_ 40
    meth_Book_put_right := He.meth_ok (all_at e 40)
    fn_Book_put_in := c.def_ 41
    meth_Book_put_in := He.meth_ok (all_at e 41)
    fn_Book_leave_out := c.def_ 42
    meth_Book_leave_out := He.meth_ok (all_at e 42)
    fn_Book_stand := c.def_ 43
    meth_Book_stand := He.meth_ok (all_at e 43)
    fn_l_cell_at := c.def_ 44
    mg_l_cell_at := He.glo_ok X G (all_at e 44)
    fn_l_draws := c.def_ 45
    mg_l_draws := He.glo_ok X G (all_at e 45)
    fn_l_unit := c.def_ 46
    mg_l_unit := He.glo_ok X G (all_at e 46)
    fn_l_throws := c.def_ 47
    mg_l_throws := He.glo_ok X G (all_at e 47)
    fn_l_game := c.def_ 48
    mg_l_game := He.glo_ok X G (all_at e 48)
    fn_l_bad := c.def_ 49
    mg_l_bad := He.glo_ok X G (all_at e 49)
    fn_l_deed := c.def_ 50
    mg_l_deed := He.glo_ok X G (all_at e 50)
    fn_l_kinds := c.def_ 51
    mg_l_kinds := He.glo_ok X G (all_at e 51)
    fn_l_due := c.def_ 52
    mg_l_due := He.glo_ok X G (all_at e 52)
    fn_l_right := c.def_ 53
    mg_l_right := He.glo_ok X G (all_at e 53)
    fn_l_stands := c.def_ 54
    mg_l_stands := He.glo_ok X G (all_at e 54)
    fn_l_told := c.def_ 55
    mg_l_told := He.glo_ok X G (all_at e 55)
    fn_l_row_then := c.def_ 56
    mg_l_row_then := He.glo_ok X G (all_at e 56)
    fn_l_anew := c.def_ 57
    mg_l_anew := He.glo_ok X G (all_at e 57)
    fn_law := c.def_ 58
    mg_law := He.glo_ok X G (all_at e 58)
    no_ValueError := He.free_ok X G (all_at e 59)
    no_all := He.free_ok X G (all_at e 60)
    no_bool := He.free_ok X G (all_at e 61)
    no_enumerate := He.free_ok X G (all_at e 62)
    no_int := He.free_ok X G (all_at e 63)
    no_isinstance := He.free_ok X G (all_at e 64)
    no_len := He.free_ok X G (all_at e 65)
    no_list := He.free_ok X G (all_at e 66)
    no_max := He.free_ok X G (all_at e 67)
    no_min := He.free_ok X G (all_at e 68)
    no_range := He.free_ok X G (all_at e 69)
    no_repr := He.free_ok X G (all_at e 70)
    no_set := He.free_ok X G (all_at e 71)
    no_str := He.free_ok X G (all_at e 72)
    no_tuple := He.free_ok X G (all_at e 73)
    cls_Book := He.cls_ok (all_at e 74)
    noat_Book_kept_deeds := He.noat_ok (all_at e 75)
    noat_Book_kept_game := He.noat_ok (all_at e 76)
    noat_Book_kept_stands := He.noat_ok (all_at e 77)
    mkr_Book := He.mkr_ok (all_at e 78)
    mk_Book := He.glo_ok X G (all_at e 79)
    mc_BadWord := He.glo_ok X G (all_at e 80)
    mc_Falls := He.glo_ok X G (all_at e 81)
    mc_NoDeed := He.glo_ok X G (all_at e 82)
    mc_NoGame := He.glo_ok X G (all_at e 83)
    mc_NoLine := He.glo_ok X G (all_at e 84)
    mc_NoPins := He.glo_ok X G (all_at e 85)
    mc_NoSide := He.glo_ok X G (all_at e 86)
    mc_NoThrow := He.glo_ok X G (all_at e 87)
    mc_Over := He.glo_ok X G (all_at e 88)
    mc_ScoreError := He.glo_ok X G (all_at e 89)
    mc_TooMany := He.glo_ok X G (all_at e 90)
    ex_NoDeed := exF_of X G (all_at e 82) (all_at e 91)
    ex_NoGame := exF_of X G (all_at e 83) (all_at e 92)
    ex_NoPins := exF_of X G (all_at e 85) (all_at e 93)
    ex_NoSide := exF_of X G (all_at e 86) (all_at e 94)
    ex_NoThrow := exF_of X G (all_at e 87) (all_at e 95)
    ex_Over := exF_of X G (all_at e 88) (all_at e 96)
    ei_Falls := exI_of X G (all_at e 97) (all_at e 98) x_ei_Falls
    base_ScoreError := baseI_of X G (all_at e 99) x_base_ScoreError
    exsub := exSubB_ok x_exsub
    ist := isTB_ok x_ist
    at_ := x_at_
    rs := x_rs
    gl_LETTERS := glob_str X G (all_at e 100)
    gl_FIGURES := glob_str X G (all_at e 101)
    gl_POINT := glob_tup X G (all_at e 102) t0 (fun _ _ => (.cons (.str _) .nil))
    gl_GREATEST := glob_int X G (all_at e 103)
    gl_MOST_UNITS := glob_int X G (all_at e 104)
    gl_MOST_DEEP := glob_int X G (all_at e 105)
  }
end LW
end
section
set_option maxHeartbeats 4000000
namespace LW
open PySem PySem.Spec PyProof.Rows L2 TL
open CM hiding any_rule b_l_any_rule b_l_rule b_l_throws b_l_unit g_l_unit lp_l_throws_0 m_l_any_rule m_l_rule m_l_throws m_l_unit pick3 rng_cons rule_ok rule_step unit_ok
open CG hiding m_l_game b_l_game m_l_unit b_l_unit GameQ rule_ok unit_ok atI_last
open CI CE
open CQ hiding m_stands_of b_stands_of lp_stands_of_0 m_Book_written_anew b_Book_written_anew m_Book_put_right b_Book_put_right m_Book_put_in b_Book_put_in m_Book_leave_out b_Book_leave_out
open CB
open RL RB TLQ RD CP
theorem if_true_step {t : MT} {a b rest : MS} {env : TL.Env} {M M' : Mem} (h : t env M = .ok true M') : (sSeq (sIf t a b) rest) env M = (sSeq a rest) env M' := by
  show nextS (thenS env (t env M) fun k M1 => if k = true then a env M1 else b env M1) rest = _
  rw [h]
  rfl
theorem if_false_step {t : MT} {a rest : MS} {env : TL.Env} {M M' : Mem} (h : t env M = .ok false M') : (sSeq (sIf t a sNil) rest) env M = rest env M' := by
  show nextS (thenS env (t env M) fun k M1 => if k = true then a env M1 else sNil env M1) rest = _
  rw [h]
  rfl
def Bad1 (M : Mem) (d : D) : Prop := d = .non ∨ (∃ b, d = .bl b) ∨ (∃ i, d = .int i) ∨ (∃ s, d = .str s) ∨ d = .tup [.int 0] ∨ ∃ m, d = .ref m ∧ seqAt M m = some [.int 0]
theorem Bad1.keep {M M' : Mem} {d : D} (h : Bad1 M d) (k : Keep M M') : Bad1 M' d := by
  rcases h with h | h | h | h | h | ⟨m, h1, h2⟩
  · exact .inl h
  · exact .inr (.inl h)
  · exact .inr (.inr (.inl h))
  · exact .inr (.inr (.inr (.inl h)))
  · exact .inr (.inr (.inr (.inr (.inl h))))
  · exact .inr (.inr (.inr (.inr (.inr ⟨m, h1, k.seq h2⟩))))
theorem Bad1.ty {M : Mem} {d : D} (h : Bad1 M d) : (tyName M d).isSome = true := by
  rcases h with rfl | ⟨b, rfl⟩ | ⟨i, rfl⟩ | ⟨s, rfl⟩ | rfl | ⟨m, rfl, h2⟩ <;> first | rfl | (simp [tyName, h2])
theorem held_pure {M : Mem} {d : D} {n : Nat} (h : pureD d n = true) (hn : n ≤ 63) : Held' M d := .inr ⟨by rw [toP_mono (by omega) (toP_pure (M := M) d n h)]; rfl, fun p e => by
  rw [toP_mono (by omega) (toP_pure (M := M) d n h)] at e
  cases e
  exact shaped_pure h hn⟩
theorem Bad1.held {M : Mem} {d : D} (h : Bad1 M d) : Held' M d := by
  rcases h with rfl | ⟨b, rfl⟩ | ⟨i, rfl⟩ | ⟨s, rfl⟩ | rfl | ⟨m, rfl, h2⟩
  · exact held_pure (n := 1) rfl (by decide)
  · exact held_pure (n := 1) rfl (by decide)
  · exact held_pure (n := 1) rfl (by decide)
  · exact .inl ⟨_, rfl⟩
  · exact held_pure (n := 2) (by simp [pureD, pureL]) (by decide)
  · have p : pureL [D.int 0] 1 = true := by simp [pureD, pureL]
    have e := toP_ref h2 p
    exact .inr ⟨by rw [toP_mono (by omega) e]; rfl, fun q hq => by
      rw [toP_mono (by omega) e] at hq
      cases hq
      exact shaped_list p (by decide)⟩
theorem no_name {w : Down} (h : DownOk w) {d : D} (hd : ∀ x, d = .str x → nameB x = false) : w.throws.find? (isName d) = none := by
  refine List.find?_eq_none.mpr fun t ht e => ?_
  unfold isName at e
  split at e
  · rename_i y
    have e2 : t.name = y := of_decide_eq_true e
    have := hd y rfl
    rw [← e2, h.good.nm t ht] at this
    cases this
  · cases e
theorem wrong_all {g : Gm} (hg : Gd g) {d : D} (hr : ∀ r, g = .rally r → inB 0 1 d = false) (hd : ∀ w, g = .down w → ∀ x, d = .str x → nameB x = false) (hl : ∀ k P n, g = .lane k P n → ∀ i, d = .int i → i < 0 ∨ 20 < i) : WrongA g d := by
  intro B st hs
  cases g with
  | rally r => exact hr r rfl
  | down w => exact no_name hg (hd w rfl)
  | lane k P n =>
    obtain ⟨rows, side, rfl, go⟩ := hs
    have hs' : side < rows.length := by rw [go.l]; exact go.s
    refine ⟨rows, side, hs', rfl, ?_⟩
    have hup := go.u _ (List.getElem_mem hs')
    have hw : Lane k P n := hg
    have p1 := hw.p1
    have u2 := hup.2
    unfold pinsB
    split
    · rename_i i
      rcases hl k P n rfl i rfl with h | h
      · simp; omega
      · simp; omega
    · rfl
def BadQ (g : Gm) (M : Mem) (d : D) (M' : Mem) : Prop := Keep M M' ∧ Bad1 M' d ∧ WrongA g d
def base (q : Str) (y : Int) (m : Nat) : List D := [.non, .bl true, .bl false, .str (Str.ofString ""), .str q, .int (-1), .int (21 + y), .ref m, .tup [.int 0], .str (Str.ofString "0")]
theorem base_ok {g : Gm} (hg : Gd g) {q : Str} (hq : nameB q = false) {y : Int} (hy : 0 ≤ y) {M : Mem} {m : Nat} (hm : seqAt M m = some [.int 0]) {d : D} (hd : d ∈ base q y m) : Bad1 M d ∧ WrongA g d := by
  have n0 : nameB (Str.ofString "") = false := by decide +kernel
  have n1 : nameB (Str.ofString "0") = false := by decide +kernel
  simp only [base, List.mem_cons, List.not_mem_nil, or_false] at hd
  rcases hd with rfl | rfl | rfl | rfl | rfl | rfl | rfl | rfl | rfl | rfl
  · exact ⟨.inl rfl, wrong_all hg (fun _ _ => rfl) (fun _ _ x e => by cases e) (fun _ _ _ _ i e => by cases e)⟩
  · exact ⟨.inr (.inl ⟨_, rfl⟩), wrong_all hg (fun _ _ => rfl) (fun _ _ x e => by cases e) (fun _ _ _ _ i e => by cases e)⟩
  · exact ⟨.inr (.inl ⟨_, rfl⟩), wrong_all hg (fun _ _ => rfl) (fun _ _ x e => by cases e) (fun _ _ _ _ i e => by cases e)⟩
  · exact ⟨.inr (.inr (.inr (.inl ⟨_, rfl⟩))), wrong_all hg (fun _ _ => rfl) (fun _ _ x e => by cases e; exact n0) (fun _ _ _ _ i e => by cases e)⟩
  · exact ⟨.inr (.inr (.inr (.inl ⟨_, rfl⟩))), wrong_all hg (fun _ _ => rfl) (fun _ _ x e => by cases e; exact hq) (fun _ _ _ _ i e => by cases e)⟩
  · exact ⟨.inr (.inr (.inl ⟨_, rfl⟩)), wrong_all hg (fun _ _ => rfl) (fun _ _ x e => by cases e) (fun _ _ _ _ i e => by cases e; omega)⟩
  · exact ⟨.inr (.inr (.inl ⟨_, rfl⟩)), wrong_all hg (fun _ _ => by simp [inB]; omega) (fun _ _ x e => by cases e) (fun _ _ _ _ i e => by cases e; omega)⟩
  · exact ⟨.inr (.inr (.inr (.inr (.inr ⟨_, rfl, hm⟩)))), wrong_all hg (fun _ _ => rfl) (fun _ _ x e => by cases e) (fun _ _ _ _ i e => by cases e)⟩
  · exact ⟨.inr (.inr (.inr (.inr (.inl rfl)))), wrong_all hg (fun _ _ => rfl) (fun _ _ x e => by cases e) (fun _ _ _ _ i e => by cases e)⟩
  · exact ⟨.inr (.inr (.inr (.inl ⟨_, rfl⟩))), wrong_all hg (fun _ _ => rfl) (fun _ _ x e => by cases e; exact n1) (fun _ _ _ _ i e => by cases e)⟩
theorem q9 : nameB (repS (Str.ofString "q") 9) = false := by
  cases h : nameB (repS (Str.ofString "q") 9) with
  | false => rfl
  | true =>
    have := (name_len h).2
    rw [repS_len] at this
    have e : (Str.ofString "q").length = 1 := by decide +kernel
    omega
theorem bang {x : Str} : nameB (x ++ Str.ofString "!") = false := by
  cases h : nameB (x ++ Str.ofString "!") with
  | false => rfl
  | true =>
    unfold nameB nameL at h
    have e : (x ++ Str.ofString "!").cps.toList = x.cps.toList ++ [33] := by
      show (x.cps ++ (Str.ofString "!").cps).toList = _
      rw [Array.toList_append]
      rfl
    rw [e] at h
    obtain ⟨_, h⟩ := Bool.and_eq_true_iff.mp h
    obtain ⟨_, h⟩ := Bool.and_eq_true_iff.mp h
    have := List.all_eq_true.mp h 33 (by simp)
    cases this
theorem pickL {M : Mem} {n : Nat} {ys : List D} {v : Int} (h : seqAt M n = some ys) (hn : ys ≠ []) : ∃ y ∈ ys, mIdx (.ref n) (.int (v % (ys.length : Nat))) M = some (y, M) := by
  have lp : (0 : Int) < (ys.length : Nat) := by have := List.length_pos_iff.mpr hn; omega
  have m0 := Int.emod_nonneg v (b := (ys.length : Nat)) (by omega)
  have m1 := Int.emod_lt_of_pos v lp
  exact pick_at h m0 m1
structure X5 (M : Mem) (X : Nat) (xs : List Nat) : Prop where
  s : seqAt M X = some (xs.map fun x => D.int (x : Nat))
  l : xs.length = 7
theorem X5.keep {M M' : Mem} {X : Nat} {xs : List Nat} (h : X5 M X xs) (k : Keep M M') : X5 M' X xs := ⟨k.seq h.s, h.l⟩
theorem X5.at_ {M : Mem} {X : Nat} {xs : List Nat} (h : X5 M X xs) {i : Nat} (hi : i < 7) : ∃ v : Nat, ∀ M', Keep M M' → mIdx (.ref X) (.int (i : Nat)) M' = some (.int (v : Nat), M') := by
  have hi' : i < xs.length := by rw [h.l]; exact hi
  exact ⟨xs[i], fun M' k => CE.idx_of (k.seq h.s) (atI_nat (by rw [List.getElem?_map, List.getElem?_eq_getElem hi']; rfl))⟩
theorem bad_ok {g : Gm} (hg : Gd g) {X : Nat} {xs : List Nat} {M : Mem} (hx : X5 M X xs) : Ret (m_l_bad [g.toD, .ref X] M) (BadQ g M) := by
  show Ret (endS (b_l_bad [some g.toD, some (.ref X), none] M)) _
  unfold b_l_bad
  obtain ⟨v0, h0⟩ := hx.at_ (i := 0) (by decide)
  obtain ⟨v1, h1⟩ := hx.at_ (i := 1) (by decide)
  have k1 := Keep.more M [MO.lst [D.int 0]]
  have e0 := h0 M (Keep.refl M)
  have lq : (Str.ofString "q").length = 1 := by decide +kernel
  have pw : (10 : Int) ^ (6 : Int).toNat = 1000000 := by decide
  have mul : mMulS (.str (Str.ofString "q")) (.int 9) M = some (.str (repS (Str.ofString "q") 9), M) := by rw [mMulS_str, if_pos (by rw [lq]; decide)]; rfl
  generalize hq : repS (Str.ofString "q") 9 = q at *
  have nq : nameB q = false := by rw [← hq]; exact q9
  rw [asg_step (v := .ref (M.length + 1)) (M' := (M ++ [MO.lst [D.int 0]]) ++ [.lst (base q ((v0 : Int) % 1000000) M.length)]) (by simp [-mMulS_str] at e0 ⊢; simp [-mMulS_str, mul, e0, base])]
  have k2 := Keep.more (M ++ [MO.lst [D.int 0]]) [.lst (base q ((v0 : Int) % 1000000) M.length)]
  have a1 := at_len (M ++ [MO.lst [D.int 0]]) (.lst (base q ((v0 : Int) % 1000000) M.length))
  have z1 := k2.seq (seqAt_lst (at_len M (MO.lst [D.int 0])))
  have l1 : (M ++ [MO.lst [D.int 0]]).length = M.length + 1 := by simp
  rw [l1] at a1
  have k12 := k1.trans k2
  generalize (M ++ [MO.lst [D.int 0]]) ++ [.lst (base q ((v0 : Int) % 1000000) M.length)] = M1 at *
  have all := fun (M' : Mem) (k : Keep M1 M') d hd => base_ok hg nq (y := (v0 : Int) % 1000000) (by omega) (k.seq z1) (d := d) hd
  simp only [List.set]
  generalize hb : base q ((v0 : Int) % 1000000) M.length = bs at *
  have bl : bs.length = 10 := by rw [← hb]; rfl
  clear hb
  suffices fin : ∀ (M2 : Mem) (R : Nat) (ys : List D), Keep M1 M2 → M2[R]? = some (.lst ys) → ys ≠ [] → (∀ d ∈ ys, Bad1 M2 d ∧ WrongA g d) →
      Ret (endS ((sRet (eBin mIdx (eVar 2) (eBin mMod (eBin mIdx (eVar 1) (eC (.int 1))) (eCallO nLen (aCons (eVar 2) aNil))))) [some g.toD, some (.ref X), some (.ref R)] M2)) (BadQ g M) by
    cases g with
    | rally r =>
      rw [if_false_step (M' := M1) (by simp [Gm.toD])]
      have k3 := Keep.more M1 [MO.lst [D.int 2, .str (Str.ofString "1")]]
      obtain ⟨R3, M3, e3, k4, a4, l4⟩ := add_ex (k3.at a1) (at_len M1 (MO.lst [D.int 2, .str (Str.ofString "1")])) (by simp; omega)
      rw [if_true_step (M' := M1) (by simp [Gm.toD]), asg_step (v := .ref R3) (M' := M3) (by simp [-mAdd_ref, e3])]
      refine fin M3 R3 _ (k3.trans k4) a4 (by simp) fun d hd => ?_
      rcases List.mem_append.mp hd with hd | hd
      · exact all M3 (k3.trans k4) d hd
      · simp only [List.mem_cons, List.not_mem_nil, or_false] at hd
        rcases hd with rfl | rfl
        · exact ⟨.inr (.inr (.inl ⟨_, rfl⟩)), wrong_all hg (fun _ _ => rfl) (fun _ e => by cases e) (fun _ _ _ e => by cases e)⟩
        · exact ⟨.inr (.inr (.inr (.inl ⟨_, rfl⟩))), wrong_all hg (fun _ _ => rfl) (fun _ e => by cases e) (fun _ _ _ e => by cases e)⟩
    | down w =>
      have hw : DownOk w := hg
      obtain ⟨t, ts, et⟩ : ∃ t ts, w.throws = t :: ts := by
        cases hq : w.throws with
        | nil => have := hw.n0; rw [hq] at this; simp at this
        | cons t ts => exact ⟨t, ts, rfl⟩
      have i1 : mIdx (Gm.down w).toD (.int 1) M1 = some (w.toD, M1) := rfl
      have i2 : mIdx w.toD (.int 3) M1 = some (.tup (w.throws.map Thr.toD), M1) := by simp [Down.toD]
      have i3 : mIdx (.tup (w.throws.map Thr.toD)) (.int 0) M1 = some (t.toD, M1) := by rw [et]; simp
      have i4 : mIdx t.toD (.int 0) M1 = some (.str t.name, M1) := by simp [Thr.toD]
      have nl := name_len (hw.good.nm t (by rw [et]; exact List.mem_cons_self))
      have bl1 : (Str.ofString "!").length = 1 := by decide +kernel
      have ad : mAdd (.str t.name) (.str (Str.ofString "!")) M1 = some (.str (t.name ++ Str.ofString "!"), M1) := by rw [mAdd_str, if_pos (by rw [bl1, sizeLine_eq]; omega)]
      generalize hy : t.name ++ Str.ofString "!" = y at *
      have ny : nameB y = false := by rw [← hy]; exact bang
      have nA : nameB (Str.ofString "A") = false := by decide +kernel
      have k3 := Keep.more M1 [MO.lst [D.int 0, .int 1, .str y, .str (Str.ofString "A")]]
      obtain ⟨R3, M3, e3, k4, a4, l4⟩ := add_ex (k3.at a1) (at_len M1 (MO.lst [D.int 0, .int 1, .str y, .str (Str.ofString "A")])) (by simp; omega)
      rw [if_true_step (M' := M1) (by simp [Gm.toD]), asg_step (v := .ref R3) (M' := M3) (by simp [-mAdd_ref, -mAdd_str, i1, i2, i3, i4, ad, e3]), if_false_step (M' := M3) (by simp [Gm.toD])]
      refine fin M3 R3 _ (k3.trans k4) a4 (by simp) fun d hd => ?_
      rcases List.mem_append.mp hd with hd | hd
      · exact all M3 (k3.trans k4) d hd
      · simp only [List.mem_cons, List.not_mem_nil, or_false] at hd
        rcases hd with rfl | rfl | rfl | rfl
        · exact ⟨.inr (.inr (.inl ⟨_, rfl⟩)), wrong_all hg (fun _ e => by cases e) (fun _ _ x e => by cases e) (fun _ _ _ e => by cases e)⟩
        · exact ⟨.inr (.inr (.inl ⟨_, rfl⟩)), wrong_all hg (fun _ e => by cases e) (fun _ _ x e => by cases e) (fun _ _ _ e => by cases e)⟩
        · exact ⟨.inr (.inr (.inr (.inl ⟨_, rfl⟩))), wrong_all hg (fun _ e => by cases e) (fun _ _ x e => by cases e; exact ny) (fun _ _ _ e => by cases e)⟩
        · exact ⟨.inr (.inr (.inr (.inl ⟨_, rfl⟩))), wrong_all hg (fun _ e => by cases e) (fun _ _ x e => by cases e; exact nA) (fun _ _ _ e => by cases e)⟩
    | lane k P n =>
      rw [if_false_step (M' := M1) (by simp [Gm.toD]), if_false_step (M' := M1) (by simp [Gm.toD])]
      exact fin M1 _ bs (Keep.refl _) a1 (by intro e; rw [e] at bl; cases bl) (all M1 (Keep.refl _))
  intro M2 R ys k a hn hall
  obtain ⟨y, hy, ey⟩ := pickL (v := (v1 : Int)) (seqAt_lst a) hn
  have e1 : mIdx (.ref X) (.int 1) M2 = some (.int (v1 : Nat), M2) := h1 M2 (k12.trans k)
  have sq := seqAt_lst a
  have lp : (0 : Int) < (ys.length : Nat) := by have := List.length_pos_iff.mpr hn; omega
  have lp' : 0 < ys.length := by omega
  simp [-mIdx_ref, e1, sq, lp, lp', ey]
  exact .ok ⟨k12.trans k, (hall y hy).1, (hall y hy).2⟩
end LW
end
section
set_option maxHeartbeats 4000000
namespace LW
open PySem PySem.Spec PyProof.Rows L2 TL
open CM hiding any_rule b_l_any_rule b_l_rule b_l_throws b_l_unit g_l_unit lp_l_throws_0 m_l_any_rule m_l_rule m_l_throws m_l_unit pick3 rng_cons rule_ok rule_step unit_ok
open CG hiding m_l_game b_l_game m_l_unit b_l_unit GameQ rule_ok unit_ok atI_last
open CI CE
open CQ hiding m_stands_of b_stands_of lp_stands_of_0 m_Book_written_anew b_Book_written_anew m_Book_put_right b_Book_put_right m_Book_put_in b_Book_put_in m_Book_leave_out b_Book_leave_out
open CB
open RL RB TLQ RD CP
def InDeeds (g : Gm) (st d : D) : Prop := ∃ ys, d ∈ ys ∧ (∀ x ∈ ys, LetD g st x) ∧ ys.length ≤ 1000 ∧ ∀ M, Ret (m_deeds_at [g.toD, st] M) (DeedsQ M ys)
theorem InDeeds.let {g : Gm} {st d : D} (h : InDeeds g st d) : LetD g st d := by
  obtain ⟨ys, h1, h2, _⟩ := h
  exact h2 d h1
def DeedQ' (g : Gm) (st : D) (won : Won) (M : Mem) (d : D) (M' : Mem) : Prop := Keep M M' ∧ ((won = none ∧ InDeeds g st d) ∨ (Bad1 M' d ∧ WrongA g d))
theorem deed_ok {g : Gm} (hg : Gd g) {B : Int} {st : D} {won : Won} (h : Sd B g st won) {X : Nat} {xs : List Nat} {M : Mem} (hx : X5 M X xs) : Ret (m_l_deed [g.toD, st, .ref X] M) (DeedQ' g st won M) := by
  show Ret (endS (b_l_deed [some g.toD, some st, some (.ref X), none] M)) _
  unfold b_l_deed
  obtain ⟨ys, yl, yn, yw, yd⟩ := deeds_ok hg h
  obtain ⟨_, M1, e1, N, rfl, lN, k1, sN⟩ := yd M
  rw [asg_step (v := .ref N) (M' := M1) (by simp [e1])]
  simp only [List.set]
  have k2 := Keep.more M1 [MO.lst []]
  have py : pureL ys 1 = true := pureL_all fun x hx => by
    cases won with
    | none => exact let_pure hg ((yn rfl).2 x hx)
    | some bs => rw [yw (by simp)] at hx; cases hx
  have ne := mEq_nil (m := M1.length) (k2.seq sN) (seqAt_lst (at_len M1 (MO.lst []))) py (by decide)
  have k12 := k1.trans k2
  have hx2 := hx.keep k12
  obtain ⟨_, M3, e3, kb, b1, b2⟩ := bad_ok hg hx2
  have bad : ∀ t : MT, t [some g.toD, some st, some (.ref X), some (.ref N)] M1 = .ok true (M1 ++ [MO.lst []]) → ∀ rest, Ret (endS ((sSeq (sIf t (sRet (eCall m_l_bad (aCons (eVar 0) (aCons (eVar 2) aNil)))) sNil) rest) [some g.toD, some st, some (.ref X), some (.ref N)] M1)) (DeedQ' g st won M) := by
    intro t ht rest
    rw [if_true_step ht]
    simp [e3]
    exact .ok ⟨k12.trans kb, .inr ⟨b1, b2⟩⟩
  obtain ⟨v2, h2⟩ := hx2.at_ (i := 2) (by decide)
  obtain ⟨v3, h3⟩ := hx2.at_ (i := 3) (by decide)
  have h2' : mIdx (.ref X) (.int 2) (M1 ++ [MO.lst []]) = some (.int (v2 : Nat), M1 ++ [MO.lst []]) := h2 _ (Keep.refl _)
  have h3' : mIdx (.ref X) (.int 3) (M1 ++ [MO.lst []]) = some (.int (v3 : Nat), M1 ++ [MO.lst []]) := h3 _ (Keep.refl _)
  by_cases c : ys = []
  · subst c
    exact bad _ (by simp [ne]) _
  · have c' : ys.isEmpty = false := by cases ys; exact absurd rfl c; rfl
    rw [c'] at ne
    by_cases c9 : (v2 : Int) % 9 = 8
    · exact bad _ (by simp [-mIdx_ref, ne, h2', c9]) _
    · rw [if_false_step (M' := M1 ++ [MO.lst []]) (by simp [-mIdx_ref, ne, h2', c9])]
      have sN2 := k2.seq sN
      obtain ⟨y, hy, ey⟩ := pickL (v := (v3 : Int)) sN2 c
      have lp : 0 < ys.length := List.length_pos_iff.mpr c
      have w0 : won = none := by
        cases won with
        | none => rfl
        | some bs => exact absurd (yw (by simp)) c
      simp [-mIdx_ref, h3', sN2, lp, ey]
      exact .ok ⟨k12, .inl ⟨w0, ys, hy, (yn w0).2, yl, yd⟩⟩
def kindsL (c : Str) : List D := [.bl (subX c "Over"), .bl (subX c "NoSide"), .bl (subX c "NoThrow"), .bl (subX c "NoPins"), .bl (subX c "NoDeed"), .bl (subX c "Falls"), .bl ((["NoGame", "TooMany", "NoLine", "BadWord"] : List Str).any (subX c)), .bl (subX c "ValueError")]
def refs : List Str := ["NoThrow", "NoPins", "NoSide", "Over", "NoGame", "NoDeed", "TooMany", "NoLine", "BadWord", "Falls"]
def NewL (M : Mem) (xs : List D) (d : D) (M' : Mem) : Prop := ∃ L, d = .ref L ∧ M.length ≤ L ∧ Keep M M' ∧ M'[L]? = some (.lst xs)
theorem kinds_ok {c : Str} (hc : c ∈ refs) {a : Option Int} {M : Mem} : m_l_kinds [.err ⟨c, a⟩] M = .ok (.ref M.length) (M ++ [.lst (kindsL c)]) := by
  show endS (b_l_kinds [some (.err ⟨c, a⟩)] M) = _
  unfold b_l_kinds
  have hc' : c ∈ (["NoThrow", "NoPins", "NoSide", "Over", "NoGame", "NoDeed", "TooMany", "NoLine", "BadWord", "Falls"] : List Str) := hc
  have k1 : ∀ (C : Str) (M : Mem), mIsE ["NoThrow", "NoPins", "NoSide", "Over", "NoGame", "NoDeed", "TooMany", "NoLine", "BadWord", "Falls"] C (.err ⟨c, a⟩) M = some (.bl (subX c C), M) := fun C M => by rw [mIsE_err, if_pos hc']
  have k2 : ∀ (Cs : List Str) (M : Mem), mIsEs ["NoThrow", "NoPins", "NoSide", "Over", "NoGame", "NoDeed", "TooMany", "NoLine", "BadWord", "Falls"] Cs (.err ⟨c, a⟩) M = some (.bl (Cs.any (subX c)), M) := fun Cs M => by rw [mIsEs_err, if_pos hc']
  simp [-mIsE_err, -mIsEs_err, k1, k2, kindsL]
theorem setD_at {M : Mem} {n j : Nat} {xs : List D} {v : D} (h : M[n]? = some (.lst xs)) (hj : j < xs.length) : setD (.ref n) (.int (j : Nat)) v M = some (M.set n (.lst (xs.set j v))) := by
  show (match M[n]? with | some (.lst xs) => (ixN xs.length (j : Int)).map fun j => M.set n (.lst (xs.set j v)) | _ => none) = _
  rw [h]
  have e : ixN xs.length (j : Int) = some j := by
    unfold ixN
    rw [if_pos (by omega), if_pos (by omega)]
    simp
  simp only [e]
  rfl
def k0 : List D := [.bl false, .bl false, .bl false, .bl false, .bl false, .bl false, .bl false, .bl true]
theorem k0_set : k0.set 0 (.bl true) = kindsL "Over" ∧ k0.set 1 (.bl true) = kindsL "NoSide" ∧ k0.set 2 (.bl true) = kindsL "NoThrow" ∧ k0.set 3 (.bl true) = kindsL "NoPins" ∧ k0.set 4 (.bl true) = kindsL "NoDeed" := by
  refine ⟨?_, ?_, ?_, ?_, ?_⟩ <;> simp [k0, kindsL, subX]
/-- kinds, one of them turned -/
theorem k0_new {M : Mem} {j : Nat} {ys : List D} (hj : j < 8) (h : k0.set j (.bl true) = ys) : ∃ M', setD (.ref M.length) (.int (j : Nat)) (.bl true) (M ++ [.lst k0]) = some M' ∧ Keep M M' ∧ M'[M.length]? = some (.lst ys) := by
  have k := Keep.more M [MO.lst k0]
  have a := at_len M (MO.lst k0)
  have lt := lt_of_at a
  exact ⟨_, setD_at a hj, k.setNew (Nat.le_refl _), by rw [List.getElem?_set_self lt, h]⟩
/-- what is due -/
theorem due_over {g : Gm} {x d : D} {ws : List Int} {M : Mem} : Ret (m_l_due [g.toD, .tup [x, wonD (some ws)], d] M) (NewL M (kindsL "Over")) := by
  show Ret (endS (b_l_due [some g.toD, some (.tup [x, wonD (some ws)]), some d, none] M)) _
  unfold b_l_due
  rw [asg_step (v := .ref M.length) (M' := M ++ [.lst k0]) (by simp [k0])]
  simp only [List.set]
  obtain ⟨M1, e1, k1, a1⟩ := k0_new (M := M) (by decide) k0_set.1
  have e1' : setD (.ref M.length) (.int 0) (.bl true) (M ++ [.lst k0]) = some M1 := e1
  rw [if_true_step (M' := M ++ [.lst k0]) (by simp [wonD])]
  simp [e1']
  exact .ok ⟨_, rfl, Nat.le_refl _, k1, a1⟩
theorem any_int : anyTy "int" ["bool", "list", "tuple"] = some false := by decide +kernel
theorem any_str : anyTy "str" ["bool", "list", "tuple"] = some false := by decide +kernel
theorem any_non : anyTy "NoneType" ["bool", "list", "tuple"] = some false := by decide +kernel
theorem any_bl : anyTy "bool" ["bool", "list", "tuple"] = some true := by decide +kernel
theorem any_tup : anyTy "tuple" ["bool", "list", "tuple"] = some true := by decide +kernel
theorem any_lst : anyTy "list" ["bool", "list", "tuple"] = some true := by decide +kernel
theorem isiT_of {M : Mem} {d : D} {t : String} {Us : List String} {b : Bool} (h : tyName M d = some t) (e : anyTy t Us = some b) : mIsiT Us d M = some (.bl b, M) := by
  unfold mIsiT
  rw [h]
  simp only [e]
  rfl
theorem let_flat {g : Gm} {st d : D} (h : LetD g st d) : (∃ i, d = .int i) ∨ ∃ s, d = .str s := by
  cases g with
  | rally r => obtain ⟨b, rfl⟩ := h; exact .inl ⟨_, rfl⟩
  | down w => obtain ⟨t, _, rfl⟩ := h; exact .inr ⟨_, rfl⟩
  | lane k P n => obtain ⟨_, _, p, _, _, rfl, _⟩ := h; exact .inl ⟨_, rfl⟩
theorem mIn_flat {M : Mem} {N : Nat} {xs : List D} {d : D} (hN : seqAt M N = some xs) (hd : flatD d = true) (hx : ∀ x ∈ xs, (∃ i, x = .int i) ∨ ∃ s, x = .str s) : mIn d (.ref N) M = some (.bl (inF d xs), M) := by
  have a : xs.all flatD = true := List.all_eq_true.mpr fun x h => by rcases hx x h with ⟨i, rfl⟩ | ⟨s, rfl⟩ <;> rfl
  have e : inD M d (.ref N) = some (inF d xs) := by
    have e0 : inD M d (.ref N) = (match seqAt M N with | some xs => if flatD d = true ∧ xs.all flatD = true then some (inF d xs) else none | none => none) := by cases d <;> rfl
    rw [e0, hN]
    simp only [hd, a, and_self, if_true]
  show (inD M d (.ref N)).map _ = _
  rw [e]
  rfl
theorem let_ne {g : Gm} (hg : Gd g) {B : Int} {st d y : D} (h : Sd B g st none) (hw : WrongD g st d) (hd : d = .non ∨ (∃ i, d = .int i) ∨ ∃ s, d = .str s) (hy : LetD g st y) : eqF y d = false := by
  have w := hw
  cases g with
  | rally r =>
    obtain ⟨b, rfl⟩ := hy
    rcases hd with rfl | ⟨i, rfl⟩ | ⟨s, rfl⟩
    · rfl
    · have w' : inB 0 1 (.int i) = false := w
      simp [inB] at w'
      show ((if b = true then (1 : Int) else 0) == i) = false
      cases b
      · simp; intro e; subst e; simp at w'
      · simp; intro e; subst e; simp at w'
    · rfl
  | down w' =>
    obtain ⟨t, ht, rfl⟩ := hy
    rcases hd with rfl | ⟨i, rfl⟩ | ⟨s, rfl⟩
    · rfl
    · rfl
    · have w2 := List.find?_eq_none.mp (show w'.throws.find? (isName (.str s)) = none from w) t ht
      simp [isName] at w2
      show (t.name == s) = false
      simpa using w2
  | lane k P n =>
    obtain ⟨rows, side, p, hs, e, rfl, p0, p1⟩ := hy
    obtain ⟨rows', side', hs', e', wp⟩ := w
    rw [e] at e'
    have e2 : standD rows side = standD rows' side' := by simpa using e'
    obtain ⟨rfl, rfl⟩ := standD_inj e2
    rcases hd with rfl | ⟨i, rfl⟩ | ⟨s, rfl⟩
    · rfl
    · show (p == i) = false
      simp only [pinsB] at wp
      simp
      intro e
      subst e
      simp at wp
      omega
    · rfl
theorem due_rest {g : Gm} (hg : Gd g) {B : Int} {st d : D} (h : Sd B g st none) {M : Mem} : ∃ x, st = .tup [x, .non] := by
  obtain ⟨x, rfl⟩ := h.form
  exact ⟨x, rfl⟩
theorem due_good {g : Gm} (hg : Gd g) {B : Int} {st d : D} (h : Sd B g st none) (hd : InDeeds g st d) {M : Mem} : Ret (m_l_due [g.toD, st, d] M) (NewL M []) := by
  show Ret (endS (b_l_due [some g.toD, some st, some d, none] M)) _
  unfold b_l_due
  obtain ⟨x, ex⟩ := due_rest hg h (d := d) (M := M)
  have hl := hd.let
  obtain ⟨ys, hy, yn, yl, yd⟩ := hd
  have k1 := Keep.more M [MO.lst k0]
  obtain ⟨_, M2, e2, N, rfl, lN, k2, sN⟩ := yd (M ++ [.lst k0])
  rw [asg_step (v := .ref M.length) (M' := M ++ [.lst k0]) (by simp [k0])]
  simp only [List.set]
  rw [if_false_step (M' := M ++ [.lst k0]) (by simp [ex])]
  have fl := let_flat hl
  have fd : flatD d = true := by rcases fl with ⟨i, rfl⟩ | ⟨s, rfl⟩ <;> rfl
  have mi := mIn_flat sN fd fun y hy => let_flat (yn y hy)
  have tt : inF d ys = true := by
    unfold inF
    refine List.any_eq_true.mpr ⟨d, hy, ?_⟩
    rcases fl with ⟨i, rfl⟩ | ⟨s, rfl⟩
    · show (i == i) = true; simp
    · show (s == s) = true; simp
  rw [tt] at mi
  have ty : mIsiT ["bool", "list", "tuple"] d (M ++ [.lst k0]) = some (.bl false, M ++ [.lst k0]) := by
    rcases fl with ⟨i, rfl⟩ | ⟨s, rfl⟩
    · exact isiT_of rfl any_int
    · exact isiT_of rfl any_str
  rw [if_true_step (M' := M2) (by simp [ty, e2, mi])]
  simp
  have l2 := k2.1
  exact .ok ⟨M2.length, rfl, by simp at l2; omega, (k1.trans k2).trans (Keep.more _ _), at_len _ _⟩
theorem word_ix {M : Mem} {n j : Nat} {y : Str} (h : seqAt M n = some [.str (Str.ofString "rally"), .str (Str.ofString "down"), .str (Str.ofString "lane")])
    (e : ([.str (Str.ofString "rally"), .str (Str.ofString "down"), .str (Str.ofString "lane")] : List D).findIdx? (fun x => eqF x (.str y)) = some j) : mIndex (.ref n) [.str y] M = some (.int (j : Nat), M) := by
  rw [mIndex_ap, h]
  simp only [e]
  rfl
theorem due_wrong {g : Gm} (hg : Gd g) {B : Int} {st d : D} (h : Sd B g st none) {M : Mem} (hb : Bad1 M d) (hw : WrongD g st d) : Ret (m_l_due [g.toD, st, d] M) (NewL M (kindsL (refCls g))) := by
  show Ret (endS (b_l_due [some g.toD, some st, some d, none] M)) _
  unfold b_l_due
  obtain ⟨x, ex⟩ := due_rest hg h (d := d) (M := M)
  obtain ⟨ys, yl, yn, yw, yd⟩ := deeds_ok hg h
  have k1 := Keep.more M [MO.lst k0]
  have a1 := at_len M (MO.lst k0)
  obtain ⟨_, M2, e2, N, rfl, lN, k2, sN⟩ := yd (M ++ [.lst k0])
  rw [asg_step (v := .ref M.length) (M' := M ++ [.lst k0]) (by simp [k0])]
  simp only [List.set]
  rw [if_false_step (M' := M ++ [.lst k0]) (by simp [ex])]
  have tst : ∃ M3, Keep (M ++ [.lst k0]) M3 ∧ (TL.tAnd (TL.tNot (tTru (eIsiT ["bool", "list", "tuple"] (eVar 2)))) (TL.tB (eBin mIn (eVar 2) (eCall m_deeds_at (aCons (eVar 0) (aCons (eVar 1) aNil)))))) [some g.toD, some st, some d, some (.ref M.length)] (M ++ [.lst k0]) = .ok false M3 := by
    have hb2 := hb.keep k1
    by_cases c : d = .non ∨ (∃ i, d = .int i) ∨ ∃ s, d = .str s
    · have fd : flatD d = true := by rcases c with rfl | ⟨i, rfl⟩ | ⟨s, rfl⟩ <;> rfl
      have mi := mIn_flat sN fd fun y hy => let_flat ((yn rfl).2 y hy)
      have ff : inF d ys = false := by
        unfold inF
        exact List.any_eq_false.mpr fun y hy => by rw [let_ne hg h hw c ((yn rfl).2 y hy)]; simp
      rw [ff] at mi
      have ty : mIsiT ["bool", "list", "tuple"] d (M ++ [.lst k0]) = some (.bl false, M ++ [.lst k0]) := by
        rcases c with rfl | ⟨i, rfl⟩ | ⟨s, rfl⟩
        · exact isiT_of rfl any_non
        · exact isiT_of rfl any_int
        · exact isiT_of rfl any_str
      exact ⟨M2, k2, by simp [ty, e2, mi]⟩
    · have ty : mIsiT ["bool", "list", "tuple"] d (M ++ [.lst k0]) = some (.bl true, M ++ [.lst k0]) := by
        rcases hb2 with rfl | ⟨b, rfl⟩ | h | h | rfl | ⟨m, rfl, hm⟩
        · exact absurd (.inl rfl) c
        · exact isiT_of rfl any_bl
        · exact absurd (.inr (.inl h)) c
        · exact absurd (.inr (.inr h)) c
        · exact isiT_of rfl any_tup
        · exact isiT_of (by show (seqAt (M ++ [.lst k0]) m).map _ = _; rw [hm]; rfl) any_lst
      exact ⟨_, Keep.refl _, by simp [ty]⟩
  obtain ⟨M3, k3, e3⟩ := tst
  rw [if_false_step e3]
  have a3 := k3.at a1
  have k13 := k1.trans k3
  have lt := lt_of_at a3
  have done : ∀ (w : Str) (j : Nat) (c : Str), mIdx g.toD (.int 0) = (fun M => some (.str w, M)) → j < 3 → (mIndex (.ref M3.length) [.str w] (M3 ++ [.lst [.str (Str.ofString "rally"), .str (Str.ofString "down"), .str (Str.ofString "lane")]]) = some (.int (j : Nat), M3 ++ [.lst [.str (Str.ofString "rally"), .str (Str.ofString "down"), .str (Str.ofString "lane")]])) → k0.set (1 + j) (.bl true) = kindsL c →
      Ret (endS ((sSeq (sSub (eVar 3) (eBin mAdd (eC (.int 1)) (eMeth "list" mIndex (eLst (aCons (eC (.str "rally")) (aCons (eC (.str "down")) (aCons (eC (.str "lane")) aNil)))) (aCons (eBin mIdx (eVar 0) (eC (.int 0))) aNil))) (eC (.bl true))) (sRet (eVar 3))) [some g.toD, some st, some d, some (.ref M.length)] M3)) (NewL M (kindsL c)) := by
    intro w j c i0 hj ix ks
    have k4 := Keep.more M3 [MO.lst [.str (Str.ofString "rally"), .str (Str.ofString "down"), .str (Str.ofString "lane")]]
    have a4 := k4.at a3
    have lt4 := lt_of_at a4
    have sd := setD_at (v := .bl true) (j := 1 + j) a4 (by show 1 + j < 8; omega)
    have sd' : setD (.ref M.length) (.int (1 + (j : Int))) (.bl true) (M3 ++ [MO.lst [.str (Str.ofString "rally"), .str (Str.ofString "down"), .str (Str.ofString "lane")]]) = some _ := sd
    have i0' : ∀ M, mIdx g.toD (.int 0) M = some (.str w, M) := fun M => congrFun i0 M
    have s4 := seqAt_lst (at_len M3 (MO.lst [.str (Str.ofString "rally"), .str (Str.ofString "down"), .str (Str.ofString "lane")]))
    simp [-mIndex_ap, s4, i0', ix, sd']
    exact .ok ⟨M.length, rfl, Nat.le_refl _, (k13.trans k4).setNew (Nat.le_refl _), by rw [List.getElem?_set_self lt4, ks]⟩
  cases g with
  | rally r => exact done _ 0 _ rfl (by decide) (word_ix (seqAt_lst (at_len M3 _)) (by decide +kernel)) k0_set.2.1
  | down w => exact done _ 1 _ rfl (by decide) (word_ix (seqAt_lst (at_len M3 _)) (by decide +kernel)) k0_set.2.2.1
  | lane k P n => exact done _ 2 _ rfl (by decide) (word_ix (seqAt_lst (at_len M3 _)) (by decide +kernel)) k0_set.2.2.2.1
/-- all that is let stands among the deeds -/
theorem let_in {g : Gm} (hg : Gd g) {B : Int} {st d : D} (h : Sd B g st none) (hl : LetD g st d) : InDeeds g st d := by
  cases g with
  | rally r =>
    obtain ⟨s, rfl, go⟩ := h
    obtain ⟨b, rfl⟩ := hl
    refine ⟨[.int 0, .int 1], by cases b <;> simp [sideD], fun x hx => ?_, by simp, fun M => by rw [Gm.toD, deeds_rally]; exact .ok ⟨_, rfl, Nat.le_refl _, Keep.more _ _, seqAt_lst (at_len _ _)⟩⟩
    simp only [List.mem_cons, List.not_mem_nil, or_false] at hx
    rcases hx with rfl | rfl
    · exact ⟨false, rfl⟩
    · exact ⟨true, rfl⟩
  | down w =>
    obtain ⟨s, rfl, go⟩ := h
    have hw : DownOk w := hg
    obtain ⟨t, ht, rfl⟩ := hl
    refine ⟨w.throws.map fun t => .str t.name, List.mem_map.mpr ⟨t, ht, rfl⟩, fun x hx => ?_, by rw [List.length_map]; have := hw.n1; omega, fun M => ?_⟩
    · obtain ⟨t, ht, rfl⟩ := List.mem_map.mp hx
      exact ⟨t, ht, rfl⟩
    · refine (deeds_down hw s.toD M).imp ?_
      rintro d M1 ⟨rfl, k1, a1⟩
      exact ⟨_, rfl, Nat.le_refl _, k1, a1⟩
  | lane k P n =>
    obtain ⟨rows', side', p, hs', e', rfl, p0, p1⟩ := hl
    obtain ⟨rows, side, rfl, go⟩ := h
    have e2 : standD rows side = standD rows' side' := by simpa using e'
    obtain ⟨rfl, rfl⟩ := standD_inj e2
    have hw : Lane k P n := hg
    have hs : side < rows.length := by rw [go.l]; exact go.s
    have hup := go.u _ (List.getElem_mem hs)
    have pp := hw.p1
    obtain ⟨u, hu⟩ : ∃ u : Nat, rows[side].up = (u : Int) := ⟨rows[side].up.toNat, by have := hup.1; omega⟩
    have hu2 := hup.2
    obtain ⟨j, rfl⟩ : ∃ j : Nat, p = (j : Int) := ⟨p.toNat, by omega⟩
    refine ⟨rngItems 0 (u + 1), ?_, fun x hx => ?_, by rw [rng_length]; omega, fun M => by rw [Gm.toD, deeds_lane hs hu (by omega)]; exact .ok ⟨_, rfl, Nat.le_refl _, Keep.more _ _, seqAt_lst (at_len _ _)⟩⟩
    · unfold rngItems
      refine List.mem_map.mpr ⟨j, List.mem_range.mpr (by omega), by simp⟩
    · obtain ⟨j, hj, rfl⟩ := mem_rng hx
      exact ⟨rows, side, _, hs, rfl, rfl, by omega, by rw [hu]; omega⟩
/-- what is due of a deed that is refused -/
theorem due_no {g : Gm} (hg : Gd g) {a d : D} {c : Str} {M : Mem} (h : No g a d c) (hb : Bad1 M d) : Ret (m_l_due [g.toD, a, d] M) (NewL M (kindsL c)) := by
  cases h with
  | over s =>
    obtain ⟨x, rfl⟩ := s.form
    exact due_over
  | wrong s w => exact due_wrong hg s hb w
end LW
end
section
set_option maxHeartbeats 4000000
namespace LW
open PySem PySem.Spec PyProof.Rows L2 TL
open CM hiding any_rule b_l_any_rule b_l_rule b_l_throws b_l_unit g_l_unit lp_l_throws_0 m_l_any_rule m_l_rule m_l_throws m_l_unit pick3 rng_cons rule_ok rule_step unit_ok
open CG hiding m_l_game b_l_game m_l_unit b_l_unit GameQ rule_ok unit_ok atI_last
open CI CE
open CQ hiding m_stands_of b_stands_of lp_stands_of_0 m_Book_written_anew b_Book_written_anew m_Book_put_right b_Book_put_right m_Book_put_in b_Book_put_in m_Book_leave_out b_Book_leave_out
open CB
open RL RB TLQ RD CP
theorem run_sh {g : Gm} (hg : Gd g) {ds sts : List D} (r : Run g ds sts) (hn : ds.length ≤ 200) (M : Mem) : ∃ w, w ≤ 10000 ∧ ShL M 39 w ds := by
  have : ShL M 39 ((20 + 1) * ds.length) ds := ShL.all fun d hd => by
    obtain ⟨i, hi, e⟩ := List.mem_iff_getElem.mp hd
    obtain ⟨a, b, _, _, st⟩ := r.step i d (by rw [List.getElem?_eq_getElem hi, e])
    exact let_sh hg st.sd ⟨_, st.sa⟩
  exact ⟨_, by omega, this⟩
section
variable {M : Mem} {b Dn S : Nat} {g : Gm} {ds sts : List D}
theorem deeds_ex (h : BookAt M b Dn S g ds sts) : ∃ N M', m_Book_deeds [.ref b] M = .ok (.ref N) M' ∧ Keep M M' ∧ M'[N]? = some (.lst ds) ∧ M.length ≤ N :=
  ⟨_, _, deeds_of h, Keep.more _ _, at_len _ _, Nat.le_refl _⟩
theorem right_ok (h : BookAt M b Dn S g ds sts) (hg : Gd g) (r : Run g ds sts) (hn : ds.length ≤ 200) {R T : Nat} (hR : M[R]? = some (.lst ds)) (hT : M[T]? = some (.lst sts)) {cell : Int} :
    Ret (m_l_right [.ref b, g.toD, .ref R, .ref T, .int cell] M) (TL.Gives M (.bl true)) := by
  show Ret (endS (b_l_right [some (.ref b), some g.toD, some (.ref R), some (.ref T), some (.int cell), none] M)) _
  unfold b_l_right
  have hl := r.len
  have me := fun {M' : Mem} (k : Keep M M') (m : String) (hm : m ∉ ["kept_game", "kept_deeds", "kept_stands"]) dd fn mas env => (h.keep k).me (m := m) hm (dd := dd) (fn := fn) (mas := mas) (env := env)
  obtain ⟨N1, M1, e1, k1, a1, l1⟩ := deeds_ex h
  obtain ⟨N2, M2, e2, k2, a2, l2⟩ := deeds_ex (h.keep k1)
  have K2 := k1.trans k2
  obtain ⟨w, hw, sh⟩ := run_sh hg r hn M2
  obtain ⟨t, t1, t2⟩ := repr_same (seqAt_lst a2) (seqAt_lst (K2.at hR)) sh hw
  obtain ⟨gn, gl, gp, _⟩ := game_pure hg
  have ge := mNe_refl (M := M2) gp (by omega)
  have eg := game_of (h.keep K2)
  have m1 := me (Keep.refl M) "deeds" (by decide) [] m_Book_deeds
  have m2 := me k1 "deeds" (by decide) [] m_Book_deeds
  have m3 := me K2 "game" (by decide) [] m_Book_game
  rw [if_false_step (M' := M2) (by simp [m1, e1, mIsi_ref (seqAt_lst a1), m2, e2, t1, t2, mNe_text, m3, eg, ge])]
  have h2 := h.keep K2
  have hT2 := K2.at hT
  clear e1 e2 m1 m2 m3 eg ge t1 t2 a1
  obtain ⟨st, won, q1, sd, _⟩ := r.at_ hg (i := ds.length) (Nat.le_refl _)
  have es := stand_last h2 r q1
  have ix := idx_neg (seqAt_lst hT2) (atI_last hl q1)
  obtain ⟨sn, sl, sp⟩ := CQ.Sd.pure hg sd
  have se := mNe_refl (M := M2) sp (by omega)
  have m1 := me K2 "stand" (by decide) [.non] m_Book_stand
  have m2 := me K2 "stand" (by decide) [] m_Book_stand
  rw [if_false_step (M' := M2) (by simp [-mIdx_ref, m1, m2, es, ix, se])]
  obtain ⟨k, hk, kl⟩ : ∃ k : Nat, cell % (sts.length : Nat) = (k : Int) ∧ k ≤ ds.length := by
    have c0 := Int.emod_nonneg cell (b := (sts.length : Nat)) (by omega)
    have c1 := Int.emod_lt_of_pos cell (show (0 : Int) < (sts.length : Nat) by omega)
    exact ⟨(cell % (sts.length : Nat)).toNat, by omega, by omega⟩
  have lp : 0 < sts.length := by omega
  rw [asg_step (v := .int (k : Nat)) (M' := M2) (by simp [seqAt_lst hT2, lp, hk])]
  simp only [List.set]
  obtain ⟨st', won', q1', sd', _⟩ := r.at_ hg (i := k) kl
  have es' := stand_at h2 kl q1'
  have ix' := idx_neg (seqAt_lst hT2) (atI_nat q1')
  obtain ⟨sn', sl', sp'⟩ := CQ.Sd.pure hg sd'
  have se' := mNe_refl (M := M2) sp' (by omega)
  have es0 : m_Book_stand [.ref b, .int 0] M2 = .ok (firstD g) M2 := stand_at h2 (k := 0) (Nat.zero_le _) r.first
  have ef := first_ok hg M2
  obtain ⟨fn, fl, fp⟩ := CQ.Sd.pure hg (first_sd hg)
  have fe := mNe_refl (M := M2) fp (by omega)
  rw [if_false_step (M' := M2) (by simp [-mIdx_ref, m2, es', ix', se', es0, ef, fe])]
  obtain ⟨N3, M3, e3, k3, a3, l3⟩ := deeds_ex h2
  have ap := mAppend_ok (y := .str (Str.ofString "x")) a3 (by omega)
  have K4 := k3.setNew (o := .lst (ds ++ [.str (Str.ofString "x")])) l3
  generalize M3.set N3 (.lst (ds ++ [.str (Str.ofString "x")])) = M4 at *
  have h4 := h2.keep K4
  obtain ⟨N5, M5, e5, k5, a5, l5⟩ := deeds_ex h4
  have K5 := (K2.trans K4).trans k5
  obtain ⟨w', hw', sh'⟩ := run_sh hg r hn M5
  obtain ⟨t', t1', t2'⟩ := repr_same (seqAt_lst a5) (seqAt_lst (K5.at hR)) sh' hw'
  have m6 := me K2 "deeds" (by decide) [] m_Book_deeds
  have m7 := me (K2.trans K4) "deeds" (by decide) [] m_Book_deeds
  have s3 := seqAt_lst a3
  simp [m6, e3, s3, ap, m7, e5, t1', t2', mEq_text]
  exact .ok ⟨rfl, K5⟩
end
end LW
end
section
set_option maxHeartbeats 4000000
namespace LW
open PySem PySem.Spec PyProof.Rows L2 TL
open CM hiding any_rule b_l_any_rule b_l_rule b_l_throws b_l_unit g_l_unit lp_l_throws_0 m_l_any_rule m_l_rule m_l_throws m_l_unit pick3 rng_cons rule_ok rule_step unit_ok
open CG hiding m_l_game b_l_game m_l_unit b_l_unit GameQ rule_ok unit_ok atI_last
open CI CE
open CQ hiding m_stands_of b_stands_of lp_stands_of_0 m_Book_written_anew b_Book_written_anew m_Book_put_right b_Book_put_right m_Book_put_in b_Book_put_in m_Book_leave_out b_Book_leave_out
open CB
open RL RB TLQ RD CP
theorem kinds_ne {c : Str} : (kindsL c).isEmpty = false := rfl
theorem kinds_pure {c : Str} : pureL (kindsL c) 1 = true := by simp [kindsL, pureL, pureD]
section
variable {M : Mem} {g : Gm} {ds sts : List D} {k R : Nat}
theorem lstands_loop (hg : Gd g) (c : Cut g ds k sts) (hn : ds.length ≤ 1000) (hR : seqAt M R = some ds) (hb : ∀ d ∈ ds, Bad1 M d) : ∀ (j i : Nat) (M' : Mem) (e3 : Option D), i + j = k → Keep M M' → M'[M.length]? = some (.lst (sts.take (i + 1))) →
    ∃ M'', endS (nextS (forL (fun M' => seqAt M' R = some ds) (gOne 3) lp_l_stands_0 (ds.drop i) [some g.toD, some (.ref R), some (.ref M.length), e3] M') (sRet (eVar 2))) = .ok (.ref M.length) M'' ∧ Keep M M'' ∧ M''[M.length]? = some (.lst sts)
  | 0, i, M', e3, hi, kp, hS => by
    have hi' : i = k := by omega
    subst hi'
    have hl := c.run.len
    have tl : (ds.take i).length = i := by rw [List.length_take]; have := c.le; omega
    rw [tl] at hl
    by_cases e : i < ds.length
    · have hd := List.getElem?_eq_getElem (l := ds) (i := i) e
      obtain ⟨a, x, ea, no⟩ := c.no _ hd
      rw [drop_cons hd]
      have b1 := (hb _ (List.getElem_mem e)).keep kp
      generalize ds[i] = d at *
      have sS := seqAt_lst hS
      have ix := idx_neg sS (atI_last (n := i) (by rw [List.length_take]; omega) (show (sts.take (i + 1))[i]? = some a by rw [List.getElem?_take, if_pos (by omega)]; exact ea))
      obtain ⟨_, M1, e1, L, rfl, lL, k1, a1⟩ := due_no hg (M := M') no b1
      have k2 := Keep.more M1 [MO.lst []]
      have ne := mNe_nil (k2.seq (seqAt_lst a1)) (seqAt_lst (at_len M1 (MO.lst []))) (kinds_pure (c := x)) (by decide)
      rw [kinds_ne] at ne
      refine ⟨M1 ++ [.lst []], ?_, (kp.trans k1).trans k2, by rw [(k1.trans k2).at hS, List.take_of_length_le (by omega)]⟩
      rw [forL_cons (kp.seq hR) (env1 := [some g.toD, some (.ref R), some (.ref M.length), some d]) rfl]
      have st : lp_l_stands_0 [some g.toD, some (.ref R), some (.ref M.length), some d] M' = .ret (.ref M.length) (M1 ++ [.lst []]) := by
        unfold lp_l_stands_0
        rw [TLP.ifT (M' := M1 ++ [.lst []]) (by simp [-mIdx_ref, ix, e1, ne]), TLP.ret1 (v := .ref M.length) (M' := M1 ++ [.lst []]) (by simp)]
      rw [st]
      rfl
    · rw [List.drop_eq_nil_of_le (by omega), forL_nil (kp.seq hR)]
      exact ⟨M', by simp, kp, by rw [hS, List.take_of_length_le (by omega)]⟩
  | j + 1, i, M', e3, hi, kp, hS => by
    have hlt : i < ds.length := by have := c.le; omega
    have hd := List.getElem?_eq_getElem (l := ds) (i := i) hlt
    obtain ⟨a, b, h1, h2, h3⟩ := c.run.step i ds[i] (by rw [List.getElem?_take, if_pos (by omega)]; exact hd)
    have hl := c.run.len
    have tl : (ds.take k).length = k := by rw [List.length_take]; have := c.le; omega
    rw [tl] at hl
    rw [drop_cons hd]
    generalize ds[i] = d at *
    have sS := seqAt_lst hS
    have la : (sts.take (i + 1)).length = i + 1 := by rw [List.length_take]; omega
    have ea : (sts.take (i + 1))[i]? = some a := by rw [List.getElem?_take, if_pos (by omega)]; exact h1
    have ix : ∀ M2, Keep M' M2 → mIdx (.ref M.length) (.int (-1)) M2 = some (a, M2) := fun M2 q => idx_neg (q.seq sS) (atI_last (n := i) la ea)
    have ix0 := ix M' (Keep.refl _)
    obtain ⟨_, M1, e1, L, rfl, lL, k1, a1⟩ := due_good hg (M := M') h3.sa (let_in hg h3.sa h3.sd)
    have k2 := Keep.more M1 [MO.lst []]
    have ne := mNe_nil (k := 0) (k2.seq (seqAt_lst a1)) (seqAt_lst (at_len M1 (MO.lst []))) (by simp [pureL]) (by decide)
    have k12 := k1.trans k2
    obtain ⟨M3, e3', k3⟩ := gives_of (h3.run (M1 ++ [.lst []]))
    have ix1 := ix _ k12
    have s2 := k12.seq sS
    have s3 := k3.seq s2
    have a3 := (k12.trans k3).at hS
    have ap := mAppend_ok (y := b) a3 (by rw [la]; omega)
    have lt := lt_of_at a3
    have st : lp_l_stands_0 [some g.toD, some (.ref R), some (.ref M.length), some d] M' = .next [some g.toD, some (.ref R), some (.ref M.length), some d] (M3.set M.length (.lst (sts.take (i + 1) ++ [b]))) := by
      unfold lp_l_stands_0
      rw [TLP.ifN (M' := M1 ++ [.lst []]) (by simp [-mIdx_ref, ix0, e1, ne])]
      simp [-mIdx_ref, ix1, s2, e3', ap]
    obtain ⟨M'', q1, q2, q3⟩ := lstands_loop hg c hn hR hb j (i + 1) (M3.set M.length (.lst (sts.take (i + 1) ++ [b]))) (some d) (by omega) (((kp.trans k12).trans k3).setNew (Nat.le_refl _)) (by rw [List.getElem?_set_self lt, take_snoc (i := i + 1) h2])
    refine ⟨M'', ?_, q2, q3⟩
    rw [forL_cons (kp.seq hR) (env1 := [some g.toD, some (.ref R), some (.ref M.length), some d]) rfl, st]
    exact q1
theorem l_stands_ok (hg : Gd g) (c : Cut g ds k sts) (hn : ds.length ≤ 1000) (hR : seqAt M R = some ds) (hb : ∀ d ∈ ds, Bad1 M d) : Ret (m_l_stands [g.toD, .ref R] M) (NewL M sts) := by
  have e1 := first_ok hg M
  have K0 := Keep.more M [MO.lst [firstD g]]
  have h0 : sts.take 1 = [firstD g] := by
    have := take_snoc (i := 0) c.run.first
    simpa using this
  obtain ⟨M', q1, q2, q3⟩ := lstands_loop hg c hn hR hb k 0 (M ++ [.lst [firstD g]]) none (by omega) K0 (by rw [h0]; exact at_len _ _)
  rw [List.drop_zero] at q1
  refine ⟨.ref M.length, M', ?_, M.length, rfl, Nat.le_refl _, q2, q3⟩
  show endS (b_l_stands [some g.toD, some (.ref R), none, none] M) = _
  unfold b_l_stands
  rw [TLP.asg (v := .ref M.length) (M' := M ++ [.lst [firstD g]]) (by simp [e1])]
  simp only [List.set]
  rw [← q1]
  generalize lp_l_stands_0 = lp at *
  have so : srcOf (M ++ [.lst [firstD g]]) (.ref R) = some ⟨ds, fun M' => seqAt M' R = some ds⟩ := by
    show (seqAt (M ++ [.lst [firstD g]]) R).map _ = _
    rw [K0.seq hR]
    rfl
  simp [so]
end
def rowW (w : Nat) (ds : List D) (n : Nat) (d : D) : List D := if w = 0 then rowR ds n d else if w = 1 then rowI ds n d else rowO ds n
noncomputable def corrO (w : Nat) (b : Nat) (i : Int) (d : D) (M : Mem) : Out D := if w = 0 then m_Book_put_right [.ref b, .int i, d] M else if w = 1 then m_Book_put_in [.ref b, .int i, d] M else m_Book_leave_out [.ref b, .int i] M
section
variable {M : Mem} {b Dn S : Nat} {g : Gm} {ds sts : List D} {R : Nat}
theorem row_then_ok {w n : Nat} {d : D} (hR : M[R]? = some (.lst ds)) (hl : ds.length ≤ 800) (hw : w < 3) (hn : n + 1 ≤ ds.length + (if w = 1 then 1 else 0)) : Ret (m_l_row_then [.ref R, .int (w : Nat), .int ((n : Int) + 1), d] M) (NewL M (rowW w ds n d)) := by
  show Ret (endS (b_l_row_then [some (.ref R), some (.int (w : Nat)), some (.int ((n : Int) + 1)), some d] M)) _
  unfold b_l_row_then
  have hn' : n ≤ ds.length := by split at hn <;> omega
  obtain ⟨R1, M1, e1, k1, a1, l1⟩ := slTo_ex (seqAt_lst hR) hn'
  have k2 := Keep.more M1 [MO.lst [d]]
  obtain ⟨R3, M3, e3, k3, a3, l3⟩ := add_ex (k2.at a1) (at_len M1 (MO.lst [d])) (by rw [List.length_take]; simp; omega)
  have K3 := (k1.trans k2).trans k3
  have l2 := k2.1
  rcases (show w = 0 ∨ w = 1 ∨ w = 2 by omega) with rfl | rfl | rfl
  · simp at hn
    obtain ⟨R4, M4, e4, k4, a4, l4⟩ := slFr_ex (k := n + 1) (K3.seq (seqAt_lst hR)) (by omega)
    obtain ⟨R5, M5, e5, k5, a5, l5⟩ := add_ex (k4.at a3) a4 (by simp; omega)
    have c4 : ((n + 1 : Nat) : Int) = (n : Int) + 1 := rfl
    rw [c4] at e4
    rw [TLP.ifT (M' := M) (by simp), TLP.ret1 (v := .ref R5) (M' := M5) (by simp [-mAdd_ref, -mSl_ref, e1, e3, e4, e5])]
    exact .ok ⟨R5, rfl, by have := k1.1; have := k3.1; have := k4.1; omega, (K3.trans k4).trans k5, a5⟩
  · obtain ⟨R4, M4, e4, k4, a4, l4⟩ := slFr_ex (k := n) (K3.seq (seqAt_lst hR)) hn'
    obtain ⟨R5, M5, e5, k5, a5, l5⟩ := add_ex (k4.at a3) a4 (by simp; omega)
    rw [TLP.ifN (M' := M) (by simp), TLP.ifT (M' := M) (by simp), TLP.ret1 (v := .ref R5) (M' := M5) (by simp [-mAdd_ref, -mSl_ref, e1, e3, e4, e5])]
    exact .ok ⟨R5, rfl, by have := k1.1; have := k3.1; have := k4.1; omega, (K3.trans k4).trans k5, a5⟩
  · simp at hn
    obtain ⟨R4, M4, e4, k4, a4, l4⟩ := slFr_ex (k := n + 1) (k1.seq (seqAt_lst hR)) (by omega)
    obtain ⟨R5, M5, e5, k5, a5, l5⟩ := add_ex (k4.at a1) a4 (by simp; omega)
    have c4 : ((n + 1 : Nat) : Int) = (n : Int) + 1 := rfl
    rw [c4] at e4
    rw [TLP.ifN (M' := M) (by simp), TLP.ifN (M' := M) (by simp), TLP.ret (v := .ref R5) (M' := M5) (by simp [-mAdd_ref, -mSl_ref, e1, e4, e5])]
    exact .ok ⟨R5, rfl, by have := k1.1; have := k4.1; omega, (k1.trans k4).trans k5, a5⟩
theorem corr_c (h : BookAt M b Dn S g ds sts) {w n : Nat} {d : D} (hl : ds.length ≤ 800) (hw : w < 3) (hn : n + 1 ≤ ds.length + (if w = 1 then 1 else 0)) : Corr M b (rowW w ds n d) (corrO w b ((n : Int) + 1) d M) := by
  rcases (show w = 0 ∨ w = 1 ∨ w = 2 by omega) with rfl | rfl | rfl
  · simp at hn
    exact put_right_c h hn hl
  · simp at hn
    exact put_in_c h (by omega) hl
  · simp at hn
    exact leave_out_c h hn hl
theorem corr_no (h : BookAt M b Dn S g ds sts) {w : Nat} {i : Int} {d : D} (hw : w < 3) (hi : i < 1 ∨ (ds.length : Int) + (if w = 1 then 1 else 0) < i) : corrO w b i d M = .exc ⟨"NoDeed", none⟩ M := by
  rcases (show w = 0 ∨ w = 1 ∨ w = 2 by omega) with rfl | rfl | rfl
  · exact put_right_no h (by simpa using hi)
  · exact put_in_no h (by simpa using hi)
  · exact leave_out_no h (by simpa using hi)
noncomputable def toldB : MS := (sSeq (sIf (TL.tB (eBin mEq (eVar 1) (eC (.int 0)))) (sRet (eLst (aCons (eMeM "Book" "put_right" [] m_Book_put_right (eVar 0) (aCons (eVar 2) (aCons (eVar 3) aNil))) aNil))) sNil)
    (sSeq (sIf (TL.tB (eBin mEq (eVar 1) (eC (.int 1)))) (sRet (eLst (aCons (eMeM "Book" "put_in" [] m_Book_put_in (eVar 0) (aCons (eVar 2) (aCons (eVar 3) aNil))) aNil))) sNil)
    (sRet (eLst (aCons (eMeM "Book" "leave_out" [] m_Book_leave_out (eVar 0) (aCons (eVar 2) aNil)) aNil)))))
theorem body_ok (h : BookAt M b Dn S g ds sts) {w : Nat} (hw : w < 3) {i : Int} {d : D} {M1 : Mem} (e : corrO w b i d M = .ok .non M1) : toldB [some (.ref b), some (.int (w : Nat)), some (.int i), some d, none] M = .ret (.ref M1.length) (M1 ++ [.lst [.non]]) := by
  have me1 := fun fn mas env => h.me (m := "put_right") (dd := []) (fn := fn) (mas := mas) (env := env) (by decide)
  have me2 := fun fn mas env => h.me (m := "put_in") (dd := []) (fn := fn) (mas := mas) (env := env) (by decide)
  have me3 := fun fn mas env => h.me (m := "leave_out") (dd := []) (fn := fn) (mas := mas) (env := env) (by decide)
  unfold toldB
  rcases (show w = 0 ∨ w = 1 ∨ w = 2 by omega) with rfl | rfl | rfl
  · have e' : m_Book_put_right [.ref b, .int i, d] M = .ok .non M1 := e
    rw [TLP.ifT (M' := M) (by simp), TLP.ret1 (v := .ref M1.length) (M' := M1 ++ [.lst [.non]]) (by simp [me1, e'])]
  · have e' : m_Book_put_in [.ref b, .int i, d] M = .ok .non M1 := e
    rw [TLP.ifN (M' := M) (by simp), TLP.ifT (M' := M) (by simp), TLP.ret1 (v := .ref M1.length) (M' := M1 ++ [.lst [.non]]) (by simp [me2, e'])]
  · have e' : m_Book_leave_out [.ref b, .int i] M = .ok .non M1 := e
    rw [TLP.ifN (M' := M) (by simp), TLP.ifN (M' := M) (by simp), TLP.ret (v := .ref M1.length) (M' := M1 ++ [.lst [.non]]) (by simp [me3, e'])]
theorem body_exc (h : BookAt M b Dn S g ds sts) {w : Nat} (hw : w < 3) {i : Int} {d : D} {x : Ex} {M1 : Mem} (e : corrO w b i d M = .exc x M1) : toldB [some (.ref b), some (.int (w : Nat)), some (.int i), some d, none] M = .exc x [some (.ref b), some (.int (w : Nat)), some (.int i), some d, none] M1 := by
  have me1 := fun fn mas env => h.me (m := "put_right") (dd := []) (fn := fn) (mas := mas) (env := env) (by decide)
  have me2 := fun fn mas env => h.me (m := "put_in") (dd := []) (fn := fn) (mas := mas) (env := env) (by decide)
  have me3 := fun fn mas env => h.me (m := "leave_out") (dd := []) (fn := fn) (mas := mas) (env := env) (by decide)
  unfold toldB
  rcases (show w = 0 ∨ w = 1 ∨ w = 2 by omega) with rfl | rfl | rfl
  · have e' : m_Book_put_right [.ref b, .int i, d] M = .exc x M1 := e
    rw [TLP.ifT (M' := M) (by simp), TLP.anyX (x := x) (env' := [some (.ref b), some (.int ((0 : Nat) : Int)), some (.int i), some d, none]) (M' := M1) (TLP.retX (by simp [me1, e']))]
  · have e' : m_Book_put_in [.ref b, .int i, d] M = .exc x M1 := e
    rw [TLP.ifN (M' := M) (by simp), TLP.ifT (M' := M) (by simp), TLP.anyX (x := x) (env' := [some (.ref b), some (.int ((1 : Nat) : Int)), some (.int i), some d, none]) (M' := M1) (TLP.retX (by simp [me2, e']))]
  · have e' : m_Book_leave_out [.ref b, .int i] M = .exc x M1 := e
    rw [TLP.ifN (M' := M) (by simp), TLP.ifN (M' := M) (by simp), TLP.retX (x := x) (M' := M1) (by simp [me3, e'])]
theorem told_ok (h : BookAt M b Dn S g ds sts) {w : Nat} (hw : w < 3) {i : Int} {d : D} {M1 : Mem} (e : corrO w b i d M = .ok .non M1) : m_l_told [.ref b, .int (w : Nat), .int i, d] M = .ok (.ref M1.length) (M1 ++ [.lst [.non]]) := by
  show endS (b_l_told [some (.ref b), some (.int (w : Nat)), some (.int i), some d, none] M) = _
  unfold b_l_told
  rw [sTryA_ap, show (sSeq (sIf _ _ _) _ : MS) = toldB from rfl, body_ok h hw e]
  rfl
theorem told_no (h : BookAt M b Dn S g ds sts) {w : Nat} (hw : w < 3) {i : Int} {d : D} {M1 : Mem} (e : corrO w b i d M = .exc ⟨"NoDeed", none⟩ M1) : m_l_told [.ref b, .int (w : Nat), .int i, d] M = .ok (.ref M1.length) (M1 ++ [.lst (kindsL "NoDeed")]) := by
  show endS (b_l_told [some (.ref b), some (.int (w : Nat)), some (.int i), some d, none] M) = _
  unfold b_l_told
  have i0 : ("NoDeed" : Str) ∈ (["NoThrow", "NoPins", "NoSide", "Over", "NoGame", "NoDeed", "TooMany", "NoLine", "BadWord", "Falls"] : List Str) := by decide
  have b0 : subX "NoDeed" "Falls" = false := by decide +kernel
  have b1 : subX "NoDeed" "ScoreError" = true := by decide +kernel
  rw [sTryA_ap, show (sSeq (sIf _ _ _) _ : MS) = toldB from rfl, body_exc h hw e]
  simp only
  rw [if_pos i0, hdsAll_cons, if_neg (by rw [b0]; decide), hdsAll_cons, if_pos b1]
  simp [kinds_ok i0]
theorem told_falls (h : BookAt M b Dn S g ds sts) {w : Nat} (hw : w < 3) {i j : Int} {d : D} {M1 : Mem} (e : corrO w b i d M = .exc ⟨"Falls", some j⟩ M1) : m_l_told [.ref b, .int (w : Nat), .int i, d] M = .ok (.ref M1.length) (M1 ++ [.lst [.str "falls", .int j, .bl false, .bl true]]) := by
  show endS (b_l_told [some (.ref b), some (.int (w : Nat)), some (.int i), some d, none] M) = _
  unfold b_l_told
  have i0 : ("Falls" : Str) ∈ (["NoThrow", "NoPins", "NoSide", "Over", "NoGame", "NoDeed", "TooMany", "NoLine", "BadWord", "Falls"] : List Str) := by decide
  have b1 : subX "Falls" "Falls" = true := by decide +kernel
  have b2 : subX "Falls" "NoDeed" = false := by decide +kernel
  have b3 : subX "Falls" "ValueError" = true := by decide +kernel
  have s1 : ∀ (C : Str) (M : Mem), mIsE ["NoThrow", "NoPins", "NoSide", "Over", "NoGame", "NoDeed", "TooMany", "NoLine", "BadWord", "Falls"] C (.err ⟨"Falls", some j⟩) M = some (.bl (subX "Falls" C), M) := fun C M => by rw [mIsE_err, if_pos i0]
  rw [sTryA_ap, show (sSeq (sIf _ _ _) _ : MS) = toldB from rfl, body_exc h hw e]
  simp only
  rw [if_pos i0, hdsAll_cons, if_pos b1]
  simp [-mIsE_err, s1, b2, b3, eAt, mAt]
end
end LW
end
section
set_option maxHeartbeats 4000000
namespace LW
open PySem PySem.Spec PyProof.Rows L2 TL
open CM hiding any_rule b_l_any_rule b_l_rule b_l_throws b_l_unit g_l_unit lp_l_throws_0 m_l_any_rule m_l_rule m_l_throws m_l_unit pick3 rng_cons rule_ok rule_step unit_ok
open CG hiding m_l_game b_l_game m_l_unit b_l_unit GameQ rule_ok unit_ok atI_last
open CI CE
open CQ hiding m_stands_of b_stands_of lp_stands_of_0 m_Book_written_anew b_Book_written_anew m_Book_put_right b_Book_put_right m_Book_put_in b_Book_put_in m_Book_leave_out b_Book_leave_out
open CB
open RL RB TLQ RD CP
theorem kinds_sh {M : Mem} {n : Nat} {c : Str} : ShL M (n + 1) 8 (kindsL c) :=
  .cons .bl (.cons .bl (.cons .bl (.cons .bl (.cons .bl (.cons .bl (.cons .bl (.cons .bl .nil)))))))
theorem flat_bad {g : Gm} {d : D} {M : Mem} (h : FlatD g d) : Bad1 M d := by
  obtain ⟨B, st, _, hl⟩ := h
  rcases let_flat hl with h | h
  · exact .inr (.inr (.inl h))
  · exact .inr (.inr (.inr (.inl h)))
theorem run_flat {g : Gm} {ds sts : List D} (r : Run g ds sts) : ∀ d ∈ ds, FlatD g d := fun d hd => by
  obtain ⟨i, hi, e⟩ := List.mem_iff_getElem.mp hd
  obtain ⟨a, b, _, _, st⟩ := r.step i d (by rw [List.getElem?_eq_getElem hi, e])
  exact ⟨_, _, st.sa, st.sd⟩
theorem run_cut {g : Gm} {ds sts : List D} (r : Run g ds sts) : Cut g ds ds.length sts := ⟨Nat.le_refl _, by rw [List.take_length]; exact r, fun d e => by rw [List.getElem?_eq_none (Nat.le_refl _)] at e; cases e⟩
theorem mem_rowW {w n : Nat} {ds : List D} {d x : D} (h : x ∈ rowW w ds n d) : x ∈ ds ∨ x = d := by
  unfold rowW rowR rowI rowO at h
  split at h
  · simp only [List.mem_append, List.mem_singleton] at h
    rcases h with (h | h) | h
    · exact .inl (List.mem_of_mem_take h)
    · exact .inr h
    · exact .inl (List.mem_of_mem_drop h)
  · split at h
    · simp only [List.mem_append, List.mem_singleton] at h
      rcases h with (h | h) | h
      · exact .inl (List.mem_of_mem_take h)
      · exact .inr h
      · exact .inl (List.mem_of_mem_drop h)
    · rcases List.mem_append.mp h with h | h
      · exact .inl (List.mem_of_mem_take h)
      · exact .inl (List.mem_of_mem_drop h)
theorem len_rowW {w n : Nat} {ds : List D} {d : D} : (rowW w ds n d).length ≤ ds.length + 1 := by
  unfold rowW rowR rowI rowO
  split
  · simp only [List.length_append, List.length_take, List.length_drop, List.length_cons, List.length_nil]; omega
  · split
    · simp only [List.length_append, List.length_take, List.length_drop, List.length_cons, List.length_nil]; omega
    · simp only [List.length_append, List.length_take, List.length_drop]; omega
def AnQ (M : Mem) (b : Nat) (g : Gm) (n : Nat) (d : D) (M' : Mem) : Prop := ∃ (L R' : Nat) (ds' sts' : List D) (Dn' S' : Nat), d = .ref L ∧ M'[L]? = some (.lst [.ref R', .bl true]) ∧ M'[R']? = some (.lst ds') ∧ BookAt M' b Dn' S' g ds' sts' ∧ Run g ds' sts' ∧ ds'.length ≤ n + 1 ∧ Fr [b] M M' ∧ R' ≠ Dn' ∧ R' ≠ S'
theorem repr_two {M M1 : Mem} {a b : Nat} {us : List D} {w : Nat} (ha : seqAt M a = some us) (hb : seqAt M1 b = some us) (h : ShL M 39 w us) (e : datL (dat 39 M1) us = datL (dat 39 M) us) (hw : w ≤ 10000) : ∃ t, nRepr [.ref a] M = some (.str t, M) ∧ nRepr [.ref b] M1 = some (.str t, M1) := by
  obtain ⟨t, st⟩ := (Sh.ref ha h).shows hw
  have st' : Shows M1 (.ref b) t := by
    obtain ⟨x, e1, r⟩ := st
    refine ⟨x, ?_, r⟩
    have e' : (match seqAt M a with | some xs => (datL (dat 39 M) xs).map PyData.list | none => none) = some x := e1
    show (match seqAt M1 b with | some xs => (datL (dat 39 M1) xs).map PyData.list | none => none) = some x
    rw [hb]
    rw [ha] at e'
    simp only [e]
    exact e'
  exact ⟨t, nRepr_ok st, nRepr_ok st'⟩
/-- the last words of it -/
theorem end_line {env : TL.Env} {M : Mem} {j T O : Nat} {us : List D} {wt : Nat} {me : ME} (h9 : env[9]? = some (some (.ref T))) (hj : env[j]? = some (some (.ref O))) (hT : seqAt M T = some us) (hm : me env M = .ok (.ref M.length) (M ++ [.lst us])) (sh : ShL M 39 wt us) (hw : wt ≤ 10000) (e : datL (dat 39 (M ++ [.lst us])) us = datL (dat 39 M) us) :
    (eLst (aCons (eVar j) (aCons (eBin mEq (eCallO nRepr (aCons (eVar 9) aNil)) (eCallO nRepr (aCons me aNil))) aNil))) env M = .ok (.ref (M ++ [MO.lst us]).length) (M ++ [MO.lst us] ++ [MO.lst [.ref O, .bl true]]) := by
  obtain ⟨t, t1, t2⟩ := repr_two hT (seqAt_lst (at_len M (.lst us))) sh e hw
  generalize hM1 : M ++ [MO.lst us] = M1 at *
  simp [h9, hj, t1, hm, t2, mEq_text]
section
variable {M : Mem} {b Dn S R : Nat} {g : Gm} {ds sts : List D}
theorem l_anew_ok (h : BookAt M b Dn S g ds sts) (hg : Gd g) (r : Run g ds sts) (hn : ds.length ≤ 100) (hR : M[R]? = some (.lst ds)) (hRD : R ≠ Dn ∧ R ≠ S) {cell : Int} : Ret (m_l_anew [.ref b, g.toD, .ref R, .int cell] M) (AnQ M b g ds.length) := by
  show Ret (endS (b_l_anew [some (.ref b), some g.toD, some (.ref R), some (.int cell), none, none, none, none, none, none, none] M)) _
  unfold b_l_anew
  have bR : R ≠ b := fun e => by have := h.o; rw [← e, hR] at this; cases this
  obtain ⟨_, M1, e1, X, xs, rfl, lX, k1, aX, lx⟩ := draws_ok (c := cell) (many := 7) (by decide) M
  have e1' : m_l_draws [.int cell, .int 7] M = .ok (.ref X) M1 := e1
  rw [TLP.asg (v := .ref X) (M' := M1) (by simp [e1'])]
  simp only [List.set]
  have hx : X5 M1 X xs := ⟨seqAt_lst aX, lx⟩
  obtain ⟨v4, hv4⟩ := hx.at_ (i := 4) (by decide)
  have hv4' : mIdx (.ref X) (.int 4) M1 = some (.int (v4 : Nat), M1) := hv4 M1 (Keep.refl _)
  obtain ⟨w, hw, ew⟩ : ∃ w : Nat, w < 3 ∧ (v4 : Int) % 3 = (w : Int) := ⟨v4 % 3, by omega, by omega⟩
  rw [TLP.asg (v := .int (w : Nat)) (M' := M1) (by simp [-mIdx_ref, hv4', ew])]
  simp only [List.set]
  obtain ⟨v5, hv5⟩ := hx.at_ (i := 5) (by decide)
  have hv5' : mIdx (.ref X) (.int 5) M1 = some (.int (v5 : Nat), M1) := hv5 M1 (Keep.refl _)
  obtain ⟨i, hi, ei⟩ : ∃ i : Nat, i ≤ ds.length + 2 ∧ (v5 : Int) % ((ds.length : Nat) + 3) = (i : Int) := ⟨v5 % (ds.length + 3), by have := Nat.mod_lt v5 (show 0 < ds.length + 3 by omega); omega, by first | exact (Int.natCast_emod _ _).symm | exact (Int.ofNat_emod _ _).symm | rfl⟩
  have sR1 := k1.seq (seqAt_lst hR)
  have l3 : (0 : Int) < (ds.length : Nat) + 3 := by omega
  rw [TLP.asg (v := .int (i : Nat)) (M' := M1) (by simp [-mIdx_ref, hv5', sR1, ei, l3])]
  simp only [List.set]
  have flat := run_flat r
  obtain ⟨_, M2, e2, T, rfl, lT, k2, a2⟩ := l_stands_ok hg (run_cut r) (by omega) sR1 (fun d hd => flat_bad (flat d hd))
  rw [TLP.asg (v := .ref T) (M' := M2) (by simp [e2])]
  simp only [List.set]
  have hl := r.len
  have x0 : (if (0 : Int) > (i : Int) - 1 then 0 else (i : Int) - 1) = ((i - 1 : Nat) : Int) := by split <;> omega
  obtain ⟨p, hp, ep⟩ : ∃ p : Nat, p ≤ ds.length ∧ (if ((ds.length : Nat) : Int) < ((i - 1 : Nat) : Int) then ((ds.length : Nat) : Int) else ((i - 1 : Nat) : Int)) = (p : Int) := ⟨min (i - 1) ds.length, by omega, by split <;> omega⟩
  obtain ⟨st, won, est, sd, _⟩ := r.at_ hg (i := p) hp
  have ixT : mIdx (.ref T) (.int (p : Nat)) M2 = some (st, M2) := idx_neg (seqAt_lst a2) (atI_nat est)
  have k12 := k1.trans k2
  have sR2 := k12.seq (seqAt_lst hR)
  obtain ⟨d, M3, e3, k3, dq⟩ := deed_ok hg sd (hx.keep k2)
  have mx : ∀ M', nMax2 [.int ((i : Int) - 1), .int 0] M' = some (.int ((i - 1 : Nat) : Int), M') := fun M' => by rw [nMax2_int, x0]
  have mn : ∀ M', nMin2 [.int ((i - 1 : Nat) : Int), .int ((ds.length : Nat) : Int)] M' = some (.int (p : Nat), M') := fun M' => by rw [nMin2_int, ep]
  rw [TLP.asg (v := d) (M' := M3) (by simp [-mIdx_ref, -nMax2_int, -nMin2_int, mx, sR2, mn, ixT, e3])]
  simp only [List.set]
  have hb : Bad1 M3 d ∧ Tg g d := by
    rcases dq with ⟨rfl, q⟩ | ⟨q1, q2⟩
    · have f : FlatD g d := ⟨_, _, sd, q.let⟩
      exact ⟨flat_bad f, .inl f⟩
    · exact ⟨q1, .inr q2⟩
  have k13 := k12.trans k3
  have h3 := h.keep k13
  have hR3 := k13.at hR
  have sR3 := seqAt_lst hR3
  clear dq ep mx mn ixT hv4 hv5 hv4' hv5' e3 e2 e1 e1'
  -- what is told of a number that there is not
  have gi : ∀ M', nInt [.bl (decide ((w : Int) = 1))] M' = some (.int (if w = 1 then 1 else 0), M') := fun M' => by
    by_cases q : w = 1
    · subst q; rfl
    · have q' : ¬ (w : Int) = 1 := by omega
      simp [q, q']
  by_cases c : (i : Int) < 1 ∨ (ds.length : Int) + (if w = 1 then 1 else 0) < (i : Int)
  · have et := told_no h3 hw (corr_no h3 hw c (d := d))
    rw [TLP.asg (v := .ref M3.length) (M' := M3 ++ [.lst (kindsL "NoDeed")]) (by simp [et])]
    simp only [List.set]
    have k4 := Keep.more M3 [MO.lst (kindsL "NoDeed")]
    have a4 := seqAt_lst (at_len M3 (MO.lst (kindsL "NoDeed")))
    have h4 := h3.keep k4
    have hR4 := k4.at hR3
    have k14 := k13.trans k4
    have sR4 := seqAt_lst hR4
    generalize hT : M3.length = T9 at *
    generalize M3 ++ [MO.lst (kindsL "NoDeed")] = M4 at *
    rw [TLP.ifT (M' := M4) (by
      rcases c with c | c
      · simp [c]
      · by_cases c1 : (i : Int) < 1
        · simp [c1]
        · simp [-nInt_bl, c1, sR4, gi, c])]
    have k5 := Keep.more M4 [MO.lst (kindsL "NoDeed")]
    have k6 := Keep.more (M4 ++ [MO.lst (kindsL "NoDeed")]) [MO.lst [D.ref R, .bl true]]
    have ln := end_line (env := [some (.ref b), some g.toD, some (.ref R), some (.int cell), some (.ref X), some (.int (w : Nat)), some (.int (i : Nat)), some (.ref T), some d, some (.ref T9), none]) (j := 2) (O := R) (M := M4) (us := kindsL "NoDeed") (me := eLst (aCons (eC (.bl false)) (aCons (eC (.bl false)) (aCons (eC (.bl false)) (aCons (eC (.bl false)) (aCons (eC (.bl true)) (aCons (eC (.bl false)) (aCons (eC (.bl false)) (aCons (eC (.bl true)) aNil))))))))) rfl rfl a4 (by simp [kindsL, subX]) (kinds_sh (n := 38)) (by decide) (by simp only [kindsL, datL, dat])
    rw [TLP.ret1 ln]
    exact .ok ⟨_, R, ds, sts, Dn, S, rfl, at_len _ _, (k5.trans k6).at hR4, (h4.keep k5).keep k6, r, by omega, Fr.of (k14.trans (k5.trans k6)), hRD⟩
  -- a number that there is
  obtain ⟨n, rfl⟩ : ∃ n, i = n + 1 := ⟨i - 1, by omega⟩
  have hn1 : n + 1 ≤ ds.length + (if w = 1 then 1 else 0) := by split at c <;> split <;> omega
  have tg : ∀ x ∈ rowW w ds n d, Bad1 M3 x ∧ Tg g x := fun x hx => by
    rcases mem_rowW hx with hx | rfl
    · exact ⟨flat_bad (flat x hx), .inl (flat x hx)⟩
    · exact hb
  have lw := len_rowW (w := w) (n := n) (ds := ds) (d := d)
  obtain ⟨k, sts', ct⟩ := cut_ex hg (ds := rowW w ds n d) (by omega) fun x hx => (tg x hx).2
  have mt : ∀ x ∈ rowW w ds n d, ∀ M', Keep M3 M' → MT' M' x := fun x hx M' kk => ⟨((tg x hx).1.keep kk).ty, ((tg x hx).1.keep kk).held⟩
  obtain ⟨c1, c2⟩ := corr_all h3 hg (corr_c h3 (d := d) (by omega) hw hn1) ct (by omega) mt
  have ctl := ct.run.len
  have tkl : ((rowW w ds n d).take k).length = k := by rw [List.length_take]; have := ct.le; omega
  rw [tkl] at ctl
  have c' : ¬ (((n + 1 : Nat) : Int) < 1) := by omega
  have c'' : ¬ ((ds.length : Int) + (if w = 1 then 1 else 0) < ((n + 1 : Nat) : Int)) := fun q => c (.inr q)
  -- behind what is told
  have rest : ∀ (M5 : Mem) (T9 : Nat), Fr [b] M3 M5 → (∀ x ∈ rowW w ds n d, Bad1 M5 x) → ∃ (M7 : Mem) (L T2 : Nat), M5.length ≤ L ∧ Keep M5 M7 ∧ M7[L]? = some (.lst (rowW w ds n d)) ∧ M7[T2]? = some (.lst sts') ∧ ∀ rst : MS, (sSeq (sIf (TL.tOr (TL.tB (eBin mLt (eVar 6) (eC (.int 1)))) (TL.tB (eBin mGt (eVar 6) (eBin mAdd (eCallO nLen (aCons (eVar 2) aNil)) (eCallO nInt (aCons (eBin mEq (eVar 5) (eC (.int 1))) aNil)))))) (sRet (eLst (aCons (eVar 2) (aCons (eBin mEq (eCallO nRepr (aCons (eVar 9) aNil)) (eCallO nRepr (aCons (eLst (aCons (eC (.bl false)) (aCons (eC (.bl false)) (aCons (eC (.bl false)) (aCons (eC (.bl false)) (aCons (eC (.bl true)) (aCons (eC (.bl false)) (aCons (eC (.bl false)) (aCons (eC (.bl true)) aNil))))))))) aNil))) aNil)))) sNil)
    (sSeq (sAsg (gOne 10) (eCall m_l_row_then (aCons (eVar 2) (aCons (eVar 5) (aCons (eVar 6) (aCons (eVar 8) aNil))))))
    (sSeq (sAsg (gOne 7) (eCall m_l_stands (aCons (eVar 1) (aCons (eVar 10) aNil)))) rst))) [some (.ref b), some g.toD, some (.ref R), some (.int cell), some (.ref X), some (.int (w : Nat)), some (.int ((n + 1 : Nat) : Int)), some (.ref T), some d, some (.ref T9), none] M5 =
      rst [some (.ref b), some g.toD, some (.ref R), some (.int cell), some (.ref X), some (.int (w : Nat)), some (.int ((n + 1 : Nat) : Int)), some (.ref T2), some d, some (.ref T9), some (.ref L)] M7 := by
    intro M5 T9 fr bd
    have hR5 : M5[R]? = some (.lst ds) := fr.get hR3 (by simp [bR])
    have sR5 := seqAt_lst hR5
    obtain ⟨_, M6, e6, L, rfl, lL, k6, a6⟩ := row_then_ok (d := d) hR5 (by omega) hw hn1
    have e6' : m_l_row_then [.ref R, .int (w : Nat), .int ((n + 1 : Nat) : Int), d] M5 = .ok (.ref L) M6 := e6
    obtain ⟨_, M7, e7, T2, rfl, lT2, k7, a7⟩ := l_stands_ok hg ct (by omega) (seqAt_lst a6) (fun x hx => (bd x hx).keep k6)
    refine ⟨M7, L, T2, lL, k6.trans k7, k7.at a6, a7, fun rst => ?_⟩
    have ci : (((n + 1 : Nat) : Int) : Int) = ((n + 1 : Nat) : Int) := rfl
    generalize ((n + 1 : Nat) : Int) = nn at *
    rw [TLP.ifN (M' := M5) (by simp [-nInt_bl, c', sR5, gi, c'']), TLP.asg (v := .ref L) (M' := M6) (by simp [e6'])]
    simp only [List.set]
    rw [TLP.asg (v := .ref T2) (M' := M7) (by simp [e7])]
    rfl
  by_cases kf : k = (rowW w ds n d).length
  · obtain ⟨M4, eo, _, R', S', lR', lS', hB, fr⟩ := c1 kf
    have et := told_ok h3 hw eo
    rw [TLP.asg (v := .ref M4.length) (M' := M4 ++ [.lst [.non]]) (by simp [et])]
    simp only [List.set]
    have k5 := Keep.more M4 [MO.lst [D.non]]
    have a5 := seqAt_lst (at_len M4 (MO.lst [D.non]))
    have fr5 : Fr [b] M3 (M4 ++ [MO.lst [D.non]]) := fr.trans (Fr.of k5)
    have hB5 := hB.keep k5
    generalize hT : M4.length = T9 at *
    generalize M4 ++ [MO.lst [D.non]] = M5 at *
    have bd : ∀ x ∈ rowW w ds n d, Bad1 M5 x := fun x hx => by
      rcases (tg x hx).1 with h | h | h | h | h | ⟨m, h1, h2⟩
      · exact .inl h
      · exact .inr (.inl h)
      · exact .inr (.inr (.inl h))
      · exact .inr (.inr (.inr (.inl h)))
      · exact .inr (.inr (.inr (.inr (.inl h))))
      · refine .inr (.inr (.inr (.inr (.inr ⟨m, h1, fr5.seq h2 fun q => ?_⟩))))
        have q' : m = b := by simpa using q
        subst q'
        have o := h3.o
        unfold seqAt at h2
        rw [o] at h2
        cases h2
    obtain ⟨M7, L, T2, lL, k7, aL, aT2, st⟩ := rest M5 T9 fr5 bd
    rw [st]
    have sT2 := seqAt_lst aT2
    have sL := seqAt_lst aL
    have cl : ¬ (((sts'.length : Nat) : Int) ≤ ((rowW w ds n d).length : Nat)) := by omega
    rw [TLP.ifN (M' := M7) (by simp [sT2, sL]; omega)]
    have k8 := Keep.more M7 [MO.lst [D.non]]
    have k9 := Keep.more (M7 ++ [MO.lst [D.non]]) [MO.lst [D.ref L, .bl true]]
    have ln := end_line (env := [some (.ref b), some g.toD, some (.ref R), some (.int cell), some (.ref X), some (.int (w : Nat)), some (.int ((n + 1 : Nat) : Int)), some (.ref T2), some d, some (.ref T9), some (.ref L)]) (j := 10) (O := L) (M := M7) (us := [.non]) (me := eLst (aCons (eC .non) aNil)) rfl rfl (k7.seq a5) (by simp) (wt := 1) ((ShL.cons Sh.non .nil).le (by decide)) (by decide) (by simp only [datL, dat])
    rw [TLP.ret ln]
    exact .ok ⟨_, L, rowW w ds n d, sts', R', S', rfl, at_len _ _, (k8.trans k9).at aL, (hB5.keep (k7.trans k8)).keep k9, ct.all kf, lw, ((Fr.of k13).trans fr5).trans (Fr.of ((k7.trans k8).trans k9)), by have := lt_of_at hB5.d; omega, by have := lt_of_at hB5.s; omega⟩
  · obtain ⟨M4, eo, k4⟩ := c2 (by have := ct.le; omega)
    have et := told_falls h3 hw eo
    rw [TLP.asg (v := .ref M4.length) (M' := M4 ++ [.lst [.str "falls", .int ((k : Int) + 1), .bl false, .bl true]]) (by simp [et])]
    simp only [List.set]
    have k5 := Keep.more M4 [MO.lst [D.str "falls", .int ((k : Int) + 1), .bl false, .bl true]]
    have a5 := seqAt_lst (at_len M4 (MO.lst [D.str "falls", .int ((k : Int) + 1), .bl false, .bl true]))
    have k45 := k4.trans k5
    generalize hT : M4.length = T9 at *
    generalize M4 ++ [MO.lst [D.str "falls", .int ((k : Int) + 1), .bl false, .bl true]] = M5 at *
    obtain ⟨M7, L, T2, lL, k7, aL, aT2, st⟩ := rest M5 T9 (Fr.of k45) (fun x hx => (tg x hx).1.keep k45)
    rw [st]
    have sT2 := seqAt_lst aT2
    have sL := seqAt_lst aL
    have kle := ct.le
    have cl : sts'.length ≤ (rowW w ds n d).length := by omega
    rw [TLP.ifT (M' := M7) (by simp [sT2, sL, cl])]
    have k8 := Keep.more M7 [MO.lst [D.str "falls", .int ((k : Int) + 1), .bl false, .bl true]]
    have k9 := Keep.more (M7 ++ [MO.lst [D.str "falls", .int ((k : Int) + 1), .bl false, .bl true]]) [MO.lst [D.ref R, .bl true]]
    have kk : ((sts'.length : Nat) : Int) = (k : Int) + 1 := by omega
    have ln := end_line (env := [some (.ref b), some g.toD, some (.ref R), some (.int cell), some (.ref X), some (.int (w : Nat)), some (.int ((n + 1 : Nat) : Int)), some (.ref T2), some d, some (.ref T9), some (.ref L)]) (j := 2) (O := R) (M := M7) (us := [D.str "falls", .int ((k : Int) + 1), .bl false, .bl true]) (me := eLst (aCons (eC (.str "falls")) (aCons (eCallO nLen (aCons (eVar 7) aNil)) (aCons (eC (.bl false)) (aCons (eC (.bl true)) aNil))))) rfl rfl (k7.seq a5) (by simp [sT2, kk]) (wt := 100)
      ((ShL.cons (str_sh "falls" (by decide +kernel)) (.cons (int_sh (by omega)) (.cons Sh.bl (.cons Sh.bl .nil)))).le (by decide)) (by decide) (by simp only [datL, dat])
    rw [TLP.ret1 ln]
    have K := ((k45.trans k7).trans k8).trans k9
    exact .ok ⟨_, R, ds, sts, Dn, S, rfl, at_len _ _, K.at hR3, h3.keep K, r, by omega, Fr.of (k13.trans K), hRD⟩
end
end LW
end
section
set_option maxHeartbeats 4000000
namespace LW
open PySem PySem.Spec PyProof.Rows L2 TL
open CM hiding any_rule b_l_any_rule b_l_rule b_l_throws b_l_unit g_l_unit lp_l_throws_0 m_l_any_rule m_l_rule m_l_throws m_l_unit pick3 rng_cons rule_ok rule_step unit_ok
open CG hiding m_l_game b_l_game m_l_unit b_l_unit GameQ rule_ok unit_ok atI_last
open CI CE
open CQ hiding m_stands_of b_stands_of lp_stands_of_0 m_Book_written_anew b_Book_written_anew m_Book_put_right b_Book_put_right m_Book_put_in b_Book_put_in m_Book_leave_out b_Book_leave_out
open CB
open RL RB TLQ RD CP
/-- a book and a row beside it -/
structure W1 (M : Mem) (b Dn S R : Nat) (g : Gm) (ds sts : List D) : Prop where
  book : BookAt M b Dn S g ds sts
  row : M[R]? = some (.lst ds)
  run : Run g ds sts
  n1 : R ≠ Dn ∧ R ≠ S
section
variable {M M' : Mem} {b Dn S R : Nat} {g : Gm} {ds sts : List D}
theorem W1.keep (h : W1 M b Dn S R g ds sts) (k : Keep M M') : W1 M' b Dn S R g ds sts := ⟨h.book.keep k, k.at h.row, h.run, h.n1⟩
theorem W1.rb (h : W1 M b Dn S R g ds sts) : R ≠ b := fun e => by
  have o := h.book.o
  rw [← e, h.row] at o
  cases o
def Tru (d : D) (_ : Mem) : Prop := d = .bl true
def I1 (b Dn S R F : Nat) (g : Gm) (xs items : List D) (num : Int) : List D → TL.Env → Mem → Prop := fun rest env M => ∃ (e6 e7 e8 e9 : Option D) (ds sts : List D) (st : D), env = [some (.ref 0), some g.toD, some (.ref b), some (.ref R), some st, some (.int num), e6, e7, e8, e9] ∧ W1 M b Dn S R g ds sts ∧ sts[ds.length]? = some st ∧ seqAt M F = some items ∧ seqAt M 0 = some xs ∧ ds.length + rest.length ≤ 24 ∧ (∀ d ∈ rest, ∃ i : Int, d = .int i) ∧ (∀ n ∈ [0, F], n ∉ [Dn, S, R])
theorem step1 {F : Nat} {xs items : List D} {num : Int} (hg : Gd g) {d : D} {rest : List D} {env : TL.Env} (h : I1 b Dn S R F g xs items num (d :: rest) env M) : ∃ env1, gOne 6 d env = some env1 ∧ SRet (lp_law_0 env1 M) (I1 b Dn S R F g xs items num rest) Tru := by
  obtain ⟨e6, e7, e8, e9, ds, sts, st, rfl, w, est, hF, h0, hn, hi, hd⟩ := h
  obtain ⟨c, rfl⟩ := hi d List.mem_cons_self
  rw [List.length_cons] at hn
  refine ⟨_, rfl, ?_⟩
  show SRet (lp_law_0 [some (.ref 0), some g.toD, some (.ref b), some (.ref R), some st, some (.int num), some (.int c), e7, e8, e9] M) _ _
  have hl := w.run.len
  obtain ⟨st', won, est', sd, _⟩ := w.run.at_ hg (i := ds.length) (Nat.le_refl _)
  rw [est] at est'
  cases est'
  obtain ⟨ys, yl, yn, yw, yd⟩ := deeds_ok hg sd
  obtain ⟨_, M1, e1, N, rfl, lN, k1, sN⟩ := yd M
  have k2 := Keep.more M1 [MO.lst []]
  have py : pureL ys 1 = true := pureL_all fun x hx => by
    cases won with
    | none => exact let_pure hg ((yn rfl).2 x hx)
    | some bs => rw [yw (by simp)] at hx; cases hx
  have ne := mNe_nil (m := M1.length) (k2.seq sN) (seqAt_lst (at_len M1 (MO.lst []))) py (by decide)
  have k12 := k1.trans k2
  have tail : ∀ x ∈ rest, ∃ i : Int, x = D.int i := fun x hx => hi x (List.mem_cons_of_mem _ hx)
  unfold lp_law_0
  rw [TLP.asg (v := .ref N) (M' := M1) (by simp [e1])]
  simp only [List.set]
  cases ys with
  | nil =>
    rw [TLP.ifF1 (M' := M1 ++ [.lst []]) (by simp at ne; simp [ne])]
    exact SRet.next ⟨_, _, _, _, ds, sts, st, rfl, w.keep k12, est, k12.seq hF, k12.seq h0, by omega, tail, hd⟩
  | cons y0 ys0 =>
    generalize hys : y0 :: ys0 = ys at *
    have ye : ys ≠ [] := by rw [← hys]; simp
    have ye' : ys.isEmpty = false := by rw [← hys]; rfl
    clear hys
    rw [ye'] at ne
    rw [TLP.ifT1 (M' := M1 ++ [.lst []]) (by simp [ne])]
    have wn : won = none := by
      cases won with
      | none => rfl
      | some bs => exact absurd (yw (by simp)) ye
    subst wn
    have sN2 := k2.seq sN
    have w2 := w.keep k12
    have hF2 := k12.seq hF
    have h02 := k12.seq h0
    have lM := k12.1
    generalize M1 ++ [MO.lst []] = M2 at *
    clear e1 ne k1 k2 k12 sN
    obtain ⟨y, hy, ey⟩ := pickL (v := c) sN2 ye
    have lp : (0 : Int) < (ys.length : Nat) := by have := List.length_pos_iff.mpr ye; omega
    have hlet := (yn rfl).2 y hy
    obtain ⟨z, stp⟩ := step_ok hg (by omega) (by omega) sd hlet
    have rb := w2.rb
    have sR := seqAt_lst w2.row
    have apR := mAppend_ok (y := y) w2.row (by omega)
    have ltR := lt_of_at w2.row
    have fR : Fr [R] M2 (M2.set R (.lst (ds ++ [y]))) := (Fr.of (Keep.refl M2)).set (.inl (by simp))
    have aR : (M2.set R (.lst (ds ++ [y])))[R]? = some (.lst (ds ++ [y])) := List.getElem?_set_self ltR
    have B3 := w2.book.fr fR (by simpa using Ne.symm rb) (by simpa using Ne.symm w2.n1.1) (by simpa using Ne.symm w2.n1.2)
    have lpn : 0 < ys.length := List.length_pos_iff.mpr ye
    rw [TLP.expr (v := .non) (M' := M2.set R (.lst (ds ++ [y]))) (by simp [-mIdx_ref, sN2, lpn, ey, sR, apR])]
    have h03 := fR.seq h02 (by have := hd 0 (by simp); simp at this; simp; omega)
    have hF3 := fR.seq hF2 (by have := hd F (by simp); simp at this; simp; omega)
    generalize M2.set R (.lst (ds ++ [y])) = M3 at *
    have ix : ∀ M', Keep M3 M' → mIdx (.ref R) (.int (-1)) M' = some (y, M') := fun M' k => idx_neg (k.seq (seqAt_lst aR)) (atI_last (n := ds.length) (by simp) (by simp))
    have ix3 := ix M3 (Keep.refl _)
    obtain ⟨M4, e4, k4⟩ := gives_of (stp.run M3)
    have ix4 := ix M4 k4
    rw [TLP.asg (v := z) (M' := M4) (by simp [-mIdx_ref, ix3, e4])]
    simp only [List.set]
    obtain ⟨_, M5, e5, rfl, B5, f5⟩ := add_ok (B3.keep k4) w2.run (by omega) est stp
    have me := (B3.keep k4).me (m := "add") (dd := []) (fn := m_Book_add) (mas := aCons (eBin mIdx (eVar 3) (eUn mNeg (eC (.int 1)))) aNil) (env := [some (.ref 0), some g.toD, some (.ref b), some (.ref R), some z, some (.int num), some (.int c), e7, some (.ref N), e9]) (by decide)
    have st1 : (sExpr (eMeM "Book" "add" [] m_Book_add (eVar 2) (aCons (eBin mIdx (eVar 3) (eUn mNeg (eC (.int 1)))) aNil))) [some (.ref 0), some g.toD, some (.ref b), some (.ref R), some z, some (.int num), some (.int c), e7, some (.ref N), e9] M4 = .next [some (.ref 0), some g.toD, some (.ref b), some (.ref R), some z, some (.int num), some (.int c), e7, some (.ref N), e9] M5 := by
      simp [-mIdx_ref, me, ix4, e5]
    rw [st1]
    have rn := w2.run.snoc est stp
    have rl := rn.len
    refine SRet.next ⟨_, _, _, _, ds ++ [y], sts ++ [z], z, rfl, ⟨B5, f5.get (k4.at aR) (by simp; exact w2.n1), rn, w2.n1⟩, ?_, f5.seq (k4.seq hF3) ?_, f5.seq (k4.seq h03) ?_, ?_, tail, hd⟩
    · rw [show (ds ++ [y]).length = sts.length by rw [List.length_append, hl]; rfl, List.getElem?_append_right (Nat.le_refl _)]
      simp
    · have := hd F (by simp); simp at this; simp; omega
    · have := hd 0 (by simp); simp at this; simp; omega
    · simp; omega
def I2 (b F : Nat) (g : Gm) (items : List D) (num : Int) : List D → TL.Env → Mem → Prop := fun rest env M => ∃ (e4 e6 e7 e8 e9 : Option D) (R Dn S : Nat) (ds sts : List D), env = [some (.ref 0), some g.toD, some (.ref b), some (.ref R), e4, some (.int num), e6, e7, e8, e9] ∧ W1 M b Dn S R g ds sts ∧ seqAt M F = some items ∧ ds.length + rest.length ≤ 60 ∧ (∀ d ∈ rest, ∃ i : Int, d = .int i) ∧ F ≠ b
theorem step2 {F : Nat} {items : List D} {num : Int} (hg : Gd g) {d : D} {rest : List D} {env : TL.Env} (h : I2 b F g items num (d :: rest) env M) : ∃ env1, gOne 6 d env = some env1 ∧ SRet (lp_law_1 env1 M) (I2 b F g items num rest) Tru := by
  obtain ⟨e4, e6, e7, e8, e9, R, Dn, S, ds, sts, rfl, w, hF, hn, hi, hd⟩ := h
  obtain ⟨c, rfl⟩ := hi d List.mem_cons_self
  rw [List.length_cons] at hn
  refine ⟨_, rfl, ?_⟩
  show SRet (lp_law_1 [some (.ref 0), some g.toD, some (.ref b), some (.ref R), e4, some (.int num), some (.int c), e7, e8, e9] M) _ _
  unfold lp_law_1
  obtain ⟨_, M1, e1, L, R', ds', sts', Dn', S', rfl, aL, aR, B1, r1, l1, f1, n1⟩ := l_anew_ok w.book hg w.run (by omega) w.row w.n1 (cell := c)
  rw [TLP.any_ (env' := [some (.ref 0), some g.toD, some (.ref b), some (.ref R'), e4, some (.int num), some (.int c), e7, e8, some (.bl true)]) (M' := M1) (sAsgL_ap (by simp [e1]) (seqAt_lst aL) rfl)]
  obtain ⟨_, M2, e2, T, rfl, lT, k2, aT⟩ := l_stands_ok hg (run_cut r1) (by omega) (seqAt_lst aR) (fun d hd => flat_bad (run_flat r1 d hd))
  rw [TLP.asg (v := .ref T) (M' := M2) (by simp [e2])]
  simp only [List.set]
  have w2 : W1 M1 b Dn' S' R' g ds' sts' := ⟨B1, aR, r1, n1⟩
  obtain ⟨M3, e3, k3⟩ := gives_of (right_ok (B1.keep k2) hg r1 (by omega) (k2.at aR) aT (cell := c))
  rw [TLP.ifF1 (M' := M3) (by simp [e3])]
  exact SRet.next ⟨_, _, _, _, _, R', Dn', S', ds', sts', rfl, w2.keep (k2.trans k3), (k2.trans k3).seq (f1.seq hF (by simp [hd])), by omega, fun d hd => hi d (List.mem_cons_of_mem _ hd), hd⟩
end
theorem cut_len {α : Type} {xs : List α} {a c : Nat} : (cutL xs (some (a : Int)) (some (c : Int))).length ≤ c - a := by
  have e : cutL xs (some (a : Int)) (some (c : Int)) = (xs.drop (min a xs.length)).take (min c xs.length - min a xs.length) := by
    unfold cutL
    rw [HT.sIx_nat, HT.sIx_nat]
  rw [e, List.length_take]
  omega
theorem cut_ints {ns : List Int} {lo hi : Option Int} : ∀ d ∈ cutL (ns.map D.int) lo hi, ∃ i : Int, d = .int i := fun d hd => by
  unfold cutL at hd
  have := List.mem_of_mem_drop (List.mem_of_mem_take hd)
  obtain ⟨i, _, rfl⟩ := List.mem_map.mp this
  exact ⟨i, rfl⟩
theorem sl_ex {M : Mem} {n : Nat} {xs : List D} {lo hi : Option Int} (h : seqAt M n = some xs) : ∃ R M', mSl (.ref n) lo hi M = some (.ref R, M') ∧ Keep M M' ∧ M'[R]? = some (.lst (cutL xs lo hi)) ∧ M.length ≤ R :=
  ⟨M.length, _, by rw [mSl_ref, h], Keep.more _ _, at_len _ _, Nat.le_refl _⟩
/-- the cells that a loop walks -/
theorem cells_ok {M : Mem} {ns : List Int} {env : TL.Env} {me : ME} {num : Int} {a c : Nat} {a' c' : Int} (ha : a' = (a : Int)) (hc : c' = (c : Int)) (h0 : seqAt M 0 = some (ns.map D.int)) (e0 : env[0]? = some (some (.ref 0))) (hm : me env M = .ok (.int num) M) (hac : c - a ≤ 18) :
    ∃ (F : Nat) (items : List D) (M' : Mem), (eBin mAdd (eCall m_l_draws (aCons me (aCons (eC (.int 6)) aNil))) (eSl (eVar 0) (oSome (eC (.int a'))) (oSome (eC (.int c'))))) env M = .ok (.ref F) M' ∧ Keep M M' ∧ M.length ≤ F ∧ seqAt M' F = some items ∧ items.length ≤ 24 ∧ ∀ d ∈ items, ∃ i : Int, d = .int i := by
  subst ha hc
  obtain ⟨_, M1, e1, Z, zs, rfl, lZ, k1, aZ, lz⟩ := draws_ok (c := num) (many := 6) (by decide) M
  have e1' : m_l_draws [.int num, .int 6] M = .ok (.ref Z) M1 := e1
  obtain ⟨R2, M2, e2, k2, a2, l2⟩ := sl_ex (lo := some (a : Int)) (hi := some (c : Int)) (k1.seq h0)
  have cl := cut_len (xs := ns.map D.int) (a := a) (c := c)
  obtain ⟨F, M3, e3, k3, a3, l3⟩ := add_ex (k2.at aZ) a2 (by rw [List.length_map]; omega)
  refine ⟨F, _, M3, by simp [-mAdd_ref, -mSl_ref, hm, e1', e0, e2, e3], (k1.trans k2).trans k3, by have := k1.1; have := k2.1; omega, seqAt_lst a3, by rw [List.length_append, List.length_map]; omega, fun d hd => ?_⟩
  rcases List.mem_append.mp hd with hd | hd
  · obtain ⟨j, _, rfl⟩ := List.mem_map.mp hd
    exact ⟨_, rfl⟩
  · exact cut_ints d hd
theorem for_any {e : ME} {g : MG} {bb : MS} {F : Nat} {items : List D} {env : TL.Env} {M M' : Mem} (he : e env M = .ok (.ref F) M') (aF : seqAt M' F = some items) : sFor (iAny e) g bb env M = forL (fun M' => seqAt M' F = some items) g bb items env M' := by
  rw [sFor_ap, iAny_ap, he]
  simp [srcOf_ref aF]
/-- behind both loops -/
noncomputable def tail : MS := (sSeq (sAsg (gOne 7) (eCall m_l_stands (aCons (eVar 1) (aCons (eVar 3) aNil))))
    (sSeq (sAsg (gOne 8) (eCall m_deeds_at (aCons (eVar 1) (aCons (eBin mIdx (eVar 7) (eUn mNeg (eC (.int 1)))) aNil))))
    (sSeq (sIf (TL.tB (eBin mNe (eVar 8) (eLst aNil))) (sIf (TL.tOr (TL.tB (eBin mNe (eMeM "Book" "add" [] m_Book_add (eVar 2) (aCons (eBin mIdx (eVar 8) (eUn mNeg (eC (.int 1)))) aNil)) (eBin mAdd (eCallO nLen (aCons (eVar 3) aNil)) (eC (.int 1))))) (TL.tB (eBin mNe (eMeM "Book" "back" [] m_Book_back (eVar 2) aNil) (eBin mIdx (eVar 8) (eUn mNeg (eC (.int 1))))))) (sRet (eC (.bl false))) sNil) sNil)
    (sRet (eCall m_l_right (aCons (eVar 2) (aCons (eVar 1) (aCons (eVar 3) (aCons (eVar 7) (aCons (eVar 5) aNil))))))))))
theorem tail_ok {M : Mem} {b Dn S R : Nat} {g : Gm} {ds sts : List D} {num : Int} {e0 e4 e6 e7 e8 e9 : Option D} (hg : Gd g) (w : W1 M b Dn S R g ds sts) (hn : ds.length ≤ 100) :
    SRet (tail [e0, some g.toD, some (.ref b), some (.ref R), e4, some (.int num), e6, e7, e8, e9] M) (fun _ _ => False) Tru := by
  unfold tail
  have hl := w.run.len
  obtain ⟨_, M1, e1, T, rfl, lT, k1, aT⟩ := l_stands_ok hg (run_cut w.run) (by omega) (seqAt_lst w.row) (fun d hd => flat_bad (run_flat w.run d hd))
  rw [TLP.asg (v := .ref T) (M' := M1) (by simp [e1])]
  simp only [List.set]
  obtain ⟨st, won, est, sd, _⟩ := w.run.at_ hg (i := ds.length) (Nat.le_refl _)
  have ixT : mIdx (.ref T) (.int (-1)) M1 = some (st, M1) := idx_neg (seqAt_lst aT) (atI_last (n := ds.length) hl est)
  obtain ⟨ys, yl, yn, yw, yd⟩ := deeds_ok hg sd
  obtain ⟨_, M2, e2, N, rfl, lN, k2, sN⟩ := yd M1
  rw [TLP.asg (v := .ref N) (M' := M2) (by simp [-mIdx_ref, ixT, e2])]
  simp only [List.set]
  have k3 := Keep.more M2 [MO.lst []]
  have py : pureL ys 1 = true := pureL_all fun x hx => by
    cases won with
    | none => exact let_pure hg ((yn rfl).2 x hx)
    | some bs => rw [yw (by simp)] at hx; cases hx
  have ne := mNe_nil (m := M2.length) (k3.seq sN) (seqAt_lst (at_len M2 (MO.lst []))) py (by decide)
  have k23 := k2.trans k3
  have w3 := w.keep (k1.trans k23)
  have aT3 := k23.at aT
  have sN3 := k3.seq sN
  have ltD := lt_of_at w.book.d
  have ltS := lt_of_at w.book.s
  have fin : ∀ (M4 : Mem), W1 M4 b Dn S R g ds sts → M4[T]? = some (.lst sts) → SRet ((sRet (eCall m_l_right (aCons (eVar 2) (aCons (eVar 1) (aCons (eVar 3) (aCons (eVar 7) (aCons (eVar 5) aNil))))))) [e0, some g.toD, some (.ref b), some (.ref R), e4, some (.int num), e6, some (.ref T), some (.ref N), e9] M4) (fun _ _ => False) Tru := fun M4 w4 aT4 => by
    obtain ⟨M5, e5, k5⟩ := gives_of (right_ok w4.book hg w4.run (by omega) w4.row aT4 (cell := num))
    rw [TLP.ret (v := .bl true) (M' := M5) (by simp [e5])]
    exact SRet.ret rfl
  cases ys with
  | nil =>
    rw [TLP.ifN (M' := M2 ++ [.lst []]) (by simp at ne; simp [ne])]
    exact fin _ w3 aT3
  | cons y0 ys0 =>
    generalize hys : y0 :: ys0 = ys at *
    have ye : ys ≠ [] := by rw [← hys]; simp
    have ye' : ys.isEmpty = false := by rw [← hys]; rfl
    clear hys
    rw [ye'] at ne
    rw [TLP.ifT (M' := M2 ++ [.lst []]) (by simp [ne])]
    have wn : won = none := by
      cases won with
      | none => rfl
      | some bs => exact absurd (yw (by simp)) ye
    subst wn
    generalize M2 ++ [MO.lst []] = M3 at *
    obtain ⟨n, hn1⟩ : ∃ n, ys.length = n + 1 := ⟨ys.length - 1, by have := List.length_pos_iff.mpr ye; omega⟩
    obtain ⟨y, hy⟩ : ∃ y, ys[n]? = some y := ⟨ys[n]'(by omega), List.getElem?_eq_getElem (by omega)⟩
    have ix : ∀ M', seqAt M' N = some ys → mIdx (.ref N) (.int (-1)) M' = some (y, M') := fun M' s => idx_neg s (atI_last hn1 hy)
    have ix3 := ix M3 sN3
    have hlet := (yn rfl).2 y (List.mem_of_getElem? hy)
    obtain ⟨z, stp⟩ := step_ok hg (by omega) (by omega) sd hlet
    obtain ⟨_, M4, e4', rfl, B4, f4⟩ := add_ok w3.book w3.run (by omega) est stp
    have lN' : M.length ≤ N := by have := k1.1; omega
    have dN : N ∉ [Dn, S] := by simp; omega
    have dT : T ∉ [Dn, S] := by simp; omega
    have dR : R ∉ [Dn, S] := by simp; exact w.n1
    have sN4 := f4.seq sN3 dN
    have ix4 := ix M4 sN4
    have row4 := f4.get w3.row dR
    have sR4 := seqAt_lst row4
    have rn := w3.run.snoc est stp
    obtain ⟨_, M5, e5, rfl, B5, f5⟩ := back_ok B4 rn
    have ix5 := ix M5 (f5.seq sN4 dN)
    have yr := mNe_refl (M := M5) (let_pure hg hlet) (by decide)
    have me3 := w3.book.me (m := "add") (dd := []) (fn := m_Book_add) (mas := aCons (eBin mIdx (eVar 8) (eUn mNeg (eC (.int 1)))) aNil) (env := [e0, some g.toD, some (.ref b), some (.ref R), e4, some (.int num), e6, some (.ref T), some (.ref N), e9]) (by decide)
    have me4 := B4.me (m := "back") (dd := []) (fn := m_Book_back) (mas := aNil) (env := [e0, some g.toD, some (.ref b), some (.ref R), e4, some (.int num), e6, some (.ref T), some (.ref N), e9]) (by decide)
    rw [TLP.ifN (M' := M5) (by simp [-mIdx_ref, me3, ix3, e4', sR4, me4, e5, ix5, yr])]
    exact fin _ ⟨B5, f5.get row4 dR, w.run, w.n1⟩ (f5.get (f4.get aT3 dT) dT)
theorem law_true (ns : List Int) (hl : ns.length ≤ 63) : ∃ M', m_law [.ref 0] [.rol (ns.map D.int)] = .ok (.bl true) M' := by
  suffices h : Ret (m_law [.ref 0] [.rol (ns.map D.int)]) Tru by
    obtain ⟨d, M, e, rfl⟩ := h
    exact ⟨M, e⟩
  show Ret (endS (b_law [some (.ref 0), none, none, none, none, none, none, none, none, none] [.rol (ns.map D.int)])) _
  unfold b_law
  have hs : seqAt ([.rol (ns.map D.int)] : Mem) 0 = some (ns.map D.int) := rfl
  generalize ([.rol (ns.map D.int)] : Mem) = M0 at *
  have c0 := cell_at_ok (k := 0) hs
  have c0' : m_l_cell_at [.ref 0, .int 0] M0 = .ok (.int (ns.getD 0 0)) M0 := c0
  obtain ⟨_, M1, e1, g, rfl, hg, k1⟩ := game_ok (cell := ns.getD 0 0) M0
  generalize ns.getD 0 0 = cell at *
  rw [TLP.asg (v := g.toD) (M' := M1) (by simp [c0', e1])]
  simp only [List.set]
  have lt0 := lt_of_seq (k1.seq hs)
  obtain ⟨_, M2, e2, rfl, Dn, S, lD, lS, B2, f2⟩ := book_new_ok hg (M := M1 ++ [.ins bS []]) (b := M1.length) (at_len M1 _)
  rw [TLP.asg (v := .ref M1.length) (M' := M2) (by simp [e2])]
  simp only [List.set]
  have hs2 : seqAt M2 0 = some (ns.map D.int) := f2.seq ((Keep.more M1 [.ins bS []]).seq (k1.seq hs)) (by simp; omega)
  obtain ⟨b, hb⟩ : ∃ B, B = M1.length := ⟨_, rfl⟩
  rw [← hb] at B2 ⊢
  clear e2 e1 c0 c0' f2
  simp only [List.length_append, List.length_cons, List.length_nil] at lD lS
  have ltB := lt_of_at B2.o
  have ltD := lt_of_at B2.d
  have ltS := lt_of_at B2.s
  have K4 := Keep.more M2 [MO.lst []]
  have a4 := at_len M2 (MO.lst [])
  rw [TLP.asg (v := .ref M2.length) (M' := M2 ++ [.lst []]) (by simp)]
  simp only [List.set]
  have hs4 := K4.seq hs2
  have B4 := B2.keep K4
  obtain ⟨R, hR⟩ : ∃ R, R = M2.length := ⟨_, rfl⟩
  rw [← hR] at a4 ⊢
  have l4 : (M2 ++ [MO.lst []]).length = R + 1 := by simp [hR]
  generalize M2 ++ [MO.lst []] = M4 at *
  have e5 := first_ok hg M4
  rw [TLP.asg (v := firstD g) (M' := M4) (by simp [e5])]
  simp only [List.set]
  have c1 := cell_at_ok (k := 1) hs4
  have c1' : m_l_cell_at [.ref 0, .int 1] M4 = .ok (.int (ns.getD 1 0)) M4 := c1
  clear c1
  generalize ns.getD 1 0 = num at *
  rw [TLP.asg (v := .int num) (M' := M4) (by simp [c1'])]
  simp only [List.set]
  have w4 : W1 M4 b Dn S R g [] [firstD g] := ⟨B4, a4, Run.nil, by omega, by omega⟩
  obtain ⟨F, items, M5, e5', k5, lF, aF, nF, iF⟩ := cells_ok (env := [some (.ref 0), some g.toD, some (.ref b), some (.ref R), some (firstD g), some (.int num), none, none, none, none]) (me := eVar 5) (num := num) (a := 2) (c := 20) (a' := 2) (c' := 20) rfl rfl hs4 rfl (by simp) (by decide)
  have st1 := fun d rest env M h => step1 (F := F) (xs := ns.map D.int) (items := items) (num := num) (b := b) (Dn := Dn) (S := S) (R := R) (g := g) hg (d := d) (rest := rest) (env := env) (M := M) h
  refine Ret.endS ?_
  show SRet (nextS (sFor _ _ _ _ M4) _) _ _
  refine SRet.nextS ?_
  rw [for_any e5' aF]
  refine SRet.for_ (I1 b Dn S R F g (ns.map D.int) items num) ⟨_, _, _, _, [], [firstD g], firstD g, rfl, w4.keep k5, rfl, aF, k5.seq hs4, by simpa using nF, iF, ?_⟩ ?_ st1 ?_
  · intro n hn
    simp at hn
    simp
    omega
  · rintro rest env M ⟨_, _, _, _, _, _, _, _, _, _, sF, _⟩
    exact sF
  rintro env M ⟨e6, e7, e8, e9, ds, sts, st, rfl, w, est, _, h0, hn, _, hd⟩
  simp only [List.length_nil, Nat.add_zero] at hn
  obtain ⟨F2, items2, M6, e6', k6, lF2, aF2, nF2, iF2⟩ := cells_ok (env := [some (.ref 0), some g.toD, some (.ref b), some (.ref R), some st, some (.int num), e6, e7, e8, e9]) (me := eBin mFdiv (eVar 5) (eC (.int 3))) (num := num / 3) (a := 20) (c := 38) (a' := 20) (c' := 38) rfl rfl h0 rfl (by simp) (by decide)
  show SRet (nextS (sFor _ _ _ _ M) tail) _ _
  refine SRet.nextS ?_
  rw [for_any e6' aF2]
  have ltb := lt_of_at w.book.o
  refine SRet.for_ (I2 b F2 g items2 num) ⟨_, _, _, _, _, R, Dn, S, ds, sts, rfl, w.keep k6, aF2, by omega, iF2, by omega⟩ ?_ (fun d rest env M h => step2 hg h) ?_
  · rintro rest env M ⟨_, _, _, _, _, _, _, _, _, _, _, _, sF, _⟩
    exact sF
  rintro env M ⟨e4, e6, e7, e8, e9, R2, Dn2, S2, ds2, sts2, rfl, w2, _, hn2, _⟩
  simp only [List.length_nil, Nat.add_zero] at hn2
  exact (tail_ok hg w2 (by omega)).imp (fun _ _ h => h.elim) fun _ _ h => h
end LW
end
set_option maxHeartbeats 0
open PySem PySem.W PySem.Calls PyProof.Rows
theorem PySem.Challenge.cw_tally_k72_books_written_anew_holds : PySem.Challenge.rw_tally_k72_books_written_anew.Holds := by
  w_on; o_law
  refine HandSHeadRun.head_any (r := OpenLaw.row PySem.Challenge.rw_tally_k72_books_written_anew) (q := view (OpenLaw.row PySem.Challenge.rw_tally_k72_books_written_anew).prog [74]) (H := LW.hk) (ob := LW.ob) (M := 9000) (loose := LW.loose) (d := HandSHeadRun.topDef (OpenLaw.row PySem.Challenge.rw_tally_k72_books_written_anew).prog 74) (kwd := []) LW.ob_eq
    (by kernel_rfl) (fun s => by kernel_rfl) LW.run (by kernel_rfl) (by kernel_rfl) (by kernel_rfl) (by rfl) (by first | assumption | decide +kernel) (by decide +kernel) ⟨rfl, rfl, rfl, rfl, rfl, by decide +kernel⟩ ?hw ?hc
  case hw => w_witness2
  case hc =>
    refine TL.walk_ofG (l := PySem.Challenge.rw_tally_k72_books_written_anew) (n := 63) (k := 37) (x := "_law_script") (CX := fun w => L2N.CX (PySem.Challenge.rw_tally_k72_books_written_anew).prog w) rfl (by decide) (by kernel_rfl) ⟨⟨rfl, by decide, by decide⟩, rfl⟩ ?F (fun _ _ _ _ _ z => TL.cx_false z)
    intro w mg fa h Y G hmg0
    obtain ⟨K, KX, c⟩ := Y
    have hmg : mg ("law" : PySem.Str) = some (.ref fa) := by
      have e : (HandSHeadRun.topDef (OpenLaw.row PySem.Challenge.rw_tally_k72_books_written_anew).prog 74).name = ("law" : PySem.Str) := by kernel_rfl
      rw [← e]
      exact hmg0
    have Z : LW.Facts K mg := LW.facts KX G c
    have hfa : fa = He.ga K "law" := by
      have e := hmg.symm.trans Z.mg_law
      cases e
      rfl
    subst hfa
    obtain ⟨fd, F⟩ := Z.fn_law
    have b := L2.FunD.bindsA (ps := ["_law_script"]) F fun _ _ _ _ _ _ us hl => match us, hl with | [_], _ => rfl
    exact ⟨K, fd, TL.spD K 1 LW.m_law, KX, fun s v => b s [v] rfl, fun H a ns hl hO hS => TL.law_sp hO hS (LW.law_true ns hl), fun base _ _ => LW.ok_law Z F⟩
