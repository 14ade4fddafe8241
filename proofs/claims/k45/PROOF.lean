import PyProof.Rows.All
import Wide.All
import OpenK.AllK
import Wide.FinOn
import HandS.ForMost
import HandS.ForExc
import HandS.Defaults
import HandS.TupAny
import HandS.HeadHook2
import KE.KDictKeyed
import HandS.IsInst
import HandS.TupLe
import HandS.TupMul
import HandS.Conv
import HandS.StrMore
import HandS.Flow
import HandS.ExcCtx
import Lean
import HandS.Head0
import HandS.Head1
import HandS.Head2
import HandS.HeadEnd
import HandS.ExcIs
import HandS.ExcInit
import HandS.HotCalls
import HandS.ExcField
import KE.KExcIs
import HandS.Text
import HandS.RaiseMore
import HandS.Replace
import HandS.Deep
import PyProof.ReprRoads
import PyProof.ReprLen
import PyProof.FitsInt
import HandS.Strs
import HandS.CallSlots
import PySem.Challenge.RW_tally_k45_what_writes_no_game
set_option Elab.async false
set_option linter.all false
set_option maxRecDepth 100000
section
namespace TL
open PySem PySem.Spec PyProof.Rows L2
/-- an exception of an own class: its class, its field at -/
structure Ex where
  cls : Str
  at_ : Option Int
inductive D where
  | non | bl (b : Bool) | int (i : Int) | str (x : Str) | tup (xs : List D) | ref (n : Nat) | err (x : Ex)
  deriving Inhabited
inductive MO where
  | lst (xs : List D)
  | rol (xs : List D)
  | ins (c : Str) (fs : List (Str × D))
  | dct (kvs : List (D × D))
  | dcs (fs : List (Str × D))
  | dcz (kvs : List (D × D))
abbrev Mem := List MO
mutual
/-- a key of a dict: whole numbers, None and tuples of these -/
def nk : D → Option NestedKey
  | .non => some .none
  | .int i => some (.num i)
  | .tup xs => (nkL xs).map .tup
  | _ => none
def nkL : List D → Option (List NestedKey)
  | [] => some []
  | d :: ds => match nk d, nkL ds with
    | some k, some ks => some (k :: ks)
    | _, _ => none
end
/-- the very object of a dict with such keys -/
def DctIs (a : Addr) (xs : List (NestedKey × Addr × V)) (h : Heap) : Prop := (a == sysModules) = false ∧ ∃ (o : Obj) (es : Array DictEntry) (ep : Nat) (vs : List (NestedKey × Addr × Value)), h.get? a = some o ∧ o.ExactDict ∧ o.data = .dict es ep ∧
  Paired (fun p q => p.1 = q.1 ∧ p.2.1 = q.2.1 ∧ RelV p.2.2 q.2.2) xs vs ∧ ∀ w : World, es.toList = vs.map fun x => (⟨NestedKey.hash w x.1, .ref x.2.1, x.2.2⟩ : DictEntry)
abbrev Env := List (Option D)
inductive Out (α : Type) where
  | ok (a : α) (M : Mem)
  | exc (x : Ex) (M : Mem)
  | stuck
def Out.bind {α β : Type} (o : Out α) (f : α → Mem → Out β) : Out β :=
  match o with
  | .ok a M => f a M
  | .exc x M => .exc x M
  | .stuck => .stuck
@[simp] theorem Out.bind_ok {α β : Type} (a : α) (M : Mem) (f : α → Mem → Out β) : (Out.ok a M).bind f = f a M := rfl
@[simp] theorem Out.bind_exc {α β : Type} (x : Ex) (M : Mem) (f : α → Mem → Out β) : (Out.exc x M : Out α).bind f = .exc x M := rfl
@[simp] theorem Out.bind_stuck {α β : Type} (f : α → Mem → Out β) : (Out.stuck : Out α).bind f = .stuck := rfl
inductive SOut where
  | next (env : Env) (M : Mem)
  | ret (d : D) (M : Mem)
  | exc (x : Ex) (env : Env) (M : Mem)
  | stuck
abbrev ME := Env → Mem → Out D
abbrev MT := Env → Mem → Out Bool
abbrev MA := Env → Mem → Out (List D)
abbrev MS := Env → Mem → SOut
section
variable (K : PySem.W.Frag)
/-- the field of an exception: its own dict -/
def ErrD (H : Hp) (at_ : Option Int) (dx : Option Addr) : Prop := (at_ = none ∧ dx = none) ∨ ∃ i d, at_ = some i ∧ dx = some d ∧ H d = some (.xd [(("at" : Str), V.int i)])
/-- what is kept of an exception that was caught: its very object -/
def errO (oe : Obj) : HO := .frz oe (.ext fun _ => True)
/-- an exception that was caught -/
def ErrAt (H : Hp) (a : Addr) (x : Ex) : Prop := ∃ (oe : Obj) (vs : Array Value), H a = some (errO oe) ∧ oe.cls = .ref (He.ga K x.cls) ∧ oe.data = .fields vs ∧ vs[2]? = vs[2]? ∧ ErrD H x.at_ oe.dict
mutual
inductive Rp (ι : List Addr) (H : Hp) : D → V → Prop
  | non : Rp ι H .non .non
  | bl (b : Bool) : Rp ι H (.bl b) (.bl b)
  | int (i : Int) : Rp ι H (.int i) (.int i)
  | str (x : Str) : Rp ι H (.str x) (.str x)
  | tup {a : Addr} {xs : List D} {vs : List V} : SqT K H a vs → RpA ι H xs vs → Rp ι H (.tup xs) (.ref a)
  | ref {n : Nat} {a : Addr} : ι[n]? = some a → Rp ι H (.ref n) (.ref a)
  | err {x : Ex} {a : Addr} : ErrAt K H a x → Rp ι H (.err x) (.ref a)
inductive RpA (ι : List Addr) (H : Hp) : List D → List V → Prop
  | nil : RpA ι H [] []
  | cons {d : D} {v : V} {ds : List D} {vs : List V} : Rp ι H d v → RpA ι H ds vs → RpA ι H (d :: ds) (v :: vs)
end
structure Ext (ι : List Addr) (H : Hp) (ι' : List Addr) (H' : Hp) : Prop where
  pre : ∀ (n : Nat) (a : Addr), ι[n]? = some a → ι'[n]? = some a
  tup : ∀ (a : Addr) (vs : List V), SqT K H a vs → SqT K H' a vs
  err : ∀ (a : Addr) (x : Ex), ErrAt K H a x → ErrAt K H' a x
  frz : ∀ (a : Addr) (o : Obj) (u : HO), H a = some (.frz o u) → H' a = some (.frz o u)
/-- a list that is only read -/
def RoL (H : Hp) (a : Addr) (vs : List V) : Prop := (∃ o, H a = some (.frz o (.lst vs))) ∨
  ∃ (o : Obj) (its : Array Value) (n : Nat), K.lookup a = some o ∧ o.cls = .type "list" ∧ o.dict = none ∧ o.data = .seq its n ∧ its.size ≤ sizeLine ∧ Vals vs its.toList
inductive RpF (ι : List Addr) (H : Hp) : List (Str × D) → List (Str × V) → Prop
  | nil : RpF ι H [] []
  | cons {x : Str} {d : D} {v : V} {ds : List (Str × D)} {vs : List (Str × V)} : Rp K ι H d v → RpF ι H ds vs → RpF ι H ((x, d) :: ds) ((x, v) :: vs)
inductive RpD (ι : List Addr) (H : Hp) : List (D × D) → List (NestedKey × Addr × V) → Prop
  | nil : RpD ι H [] []
  | cons {d e : D} {k : NestedKey} {b : Addr} {v : V} {ds : List (D × D)} {vs : List (NestedKey × Addr × V)} : nk d = some k → k.depth ≤ 8 → Rp K ι H d (.ref b) → Rp K ι H e v → RpD ι H ds vs → RpD ι H ((d, e) :: ds) ((k, b, v) :: vs)
def MOk (ι : List Addr) (H : Hp) (a : Addr) : MO → Prop
  | .lst xs => ∃ vs, H a = some (.lst vs) ∧ RpA K ι H xs vs
  | .rol xs => ∃ vs, RoL K H a vs ∧ RpA K ι H xs vs
  | .ins c fs => ∃ dx vs, H a = some (.ins (He.ga K c) dx vs) ∧ RpF K ι H fs vs
  | .dct kvs => ∃ xs, H a = some (.ext (DctIs a xs)) ∧ RpD K ι H kvs xs ∧ (xs.map (·.1)).Nodup
  | .dcs fs => ∃ vs : List (Str × V), H a = some (.dK (vs.map fun p => (.inr p.1, p.2))) ∧ RpF K ι H fs vs
  | .dcz kvs => ∃ xs o, H a = some (.frz o (.ext (DctIs a xs))) ∧ RpD K ι H kvs xs ∧ (xs.map (·.1)).Nodup
def mutable : MO → Bool
  | .rol _ => false
  | _ => true
/-- what may be written -/
def wr : MO → Bool
  | .rol _ => false
  | .dcz _ => false
  | _ => true
theorem wr_mut {o : MO} (h : wr o = true) : mutable o = true := by cases o <;> first | rfl | exact h
structure SR (ι : List Addr) (H : Hp) (M : Mem) : Prop where
  len : ι.length = M.length
  ok : ∀ (n : Nat) (a : Addr) (o : MO), ι[n]? = some a → M[n]? = some o → MOk K ι H a o
  nd : ∀ (n m : Nat) (a : Addr) (o u : MO), ι[n]? = some a → ι[m]? = some a → M[n]? = some o → M[m]? = some u → mutable o = true → mutable u = true → n = m
def RpO (ι : List Addr) (H : Hp) : Option D → Option V → Prop
  | none, _ => True
  | some d, some v => Rp K ι H d v
  | some _, none => False
inductive EnvR (ι : List Addr) (H : Hp) : Env → L2.St → Prop
  | nil : EnvR ι H [] []
  | cons {d : Option D} {v : Option V} {ds : Env} {vs : L2.St} : RpO K ι H d v → EnvR ι H ds vs → EnvR ι H (d :: ds) (v :: vs)
end
section
variable {K : PySem.W.Frag} {ι ι' ι'' : List Addr} {H H' H'' : Hp}
theorem Ext.refl : Ext K ι H ι H := ⟨fun _ _ h => h, fun _ _ h => h, fun _ _ h => h, fun _ _ _ h => h⟩
theorem Ext.trans (a : Ext K ι H ι' H') (b : Ext K ι' H' ι'' H'') : Ext K ι H ι'' H'' :=
  ⟨fun n c h => b.pre n c (a.pre n c h), fun c vs h => b.tup c vs (a.tup c vs h), fun c x h => b.err c x (a.err c x h), fun c o u h => b.frz c o u (a.frz c o u h)⟩
mutual
theorem Rp.ext (e : Ext K ι H ι' H') : ∀ {d : D} {v : V}, Rp K ι H d v → Rp K ι' H' d v
  | _, _, .non => .non
  | _, _, .bl b => .bl b
  | _, _, .int i => .int i
  | _, _, .str x => .str x
  | _, _, .tup h r => .tup (e.tup _ _ h) (RpA.ext e r)
  | _, _, .ref h => .ref (e.pre _ _ h)
  | _, _, .err h => .err (e.err _ _ h)
theorem RpA.ext (e : Ext K ι H ι' H') : ∀ {d : List D} {v : List V}, RpA K ι H d v → RpA K ι' H' d v
  | _, _, .nil => .nil
  | _, _, .cons h r => .cons (Rp.ext e h) (RpA.ext e r)
end
theorem RpF.ext (e : Ext K ι H ι' H') : ∀ {d : List (Str × D)} {v : List (Str × V)}, RpF K ι H d v → RpF K ι' H' d v
  | _, _, .nil => .nil
  | _, _, .cons h r => .cons (h.ext e) (RpF.ext e r)
theorem RpD.ext (e : Ext K ι H ι' H') : ∀ {d : List (D × D)} {v : List (NestedKey × Addr × V)}, RpD K ι H d v → RpD K ι' H' d v
  | _, _, .nil => .nil
  | _, _, .cons h1 h2 h3 h4 r => .cons h1 h2 (h3.ext e) (h4.ext e) (RpD.ext e r)
theorem RpO.ext (e : Ext K ι H ι' H') {d : Option D} {v : Option V} (h : RpO K ι H d v) : RpO K ι' H' d v := by
  cases d <;> cases v <;> first | trivial | exact h.elim | exact Rp.ext e h
theorem EnvR.ext (e : Ext K ι H ι' H') : ∀ {d : Env} {v : L2.St}, EnvR K ι H d v → EnvR K ι' H' d v
  | _, _, .nil => .nil
  | _, _, .cons h r => .cons (h.ext e) (EnvR.ext e r)
theorem EnvR.get : ∀ {env : Env} {σ : L2.St} {i : Nat} {d : D}, EnvR K ι H env σ → env[i]? = some (some d) → ∃ v, σ[i]? = some (some v) ∧ Rp K ι H d v
  | _, _, _, _, .nil, e => by simp at e
  | _, _, 0, d, .cons (d := x) (v := v) h _, e => by
    simp at e; subst e
    cases v with
    | none => exact h.elim
    | some v => exact ⟨v, rfl, h⟩
  | _, _, i + 1, d, .cons _ t, e => by
    obtain ⟨v, h1, h2⟩ := EnvR.get (i := i) (d := d) t (by simpa using e)
    exact ⟨v, by simpa using h1, h2⟩
theorem EnvR.set {d : D} {v : V} (r : Rp K ι H d v) : ∀ {env : Env} {σ : L2.St} (i : Nat), EnvR K ι H env σ → EnvR K ι H (env.set i (some d)) (σ.set i (some v))
  | _, _, _, .nil => .nil
  | _, _, 0, .cons _ t => .cons (show RpO K ι H (some d) (some v) from r) t
  | _, _, i + 1, .cons q t => .cons q (EnvR.set r i t)
theorem EnvR.unset : ∀ {env : Env} {σ : L2.St} (i : Nat), EnvR K ι H env σ → EnvR K ι H (env.set i none) (σ.set i none)
  | _, _, _, .nil => .nil
  | _, _, 0, .cons _ t => .cons trivial t
  | _, _, i + 1, .cons q t => .cons q (EnvR.unset i t)
theorem EnvR.length : ∀ {env : Env} {σ : L2.St}, EnvR K ι H env σ → env.length = σ.length
  | _, _, .nil => rfl
  | _, _, .cons _ t => congrArg (· + 1) t.length
theorem RpA.length : ∀ {ds : List D} {vs : List V}, RpA K ι H ds vs → ds.length = vs.length
  | _, _, .nil => rfl
  | _, _, .cons _ t => congrArg (· + 1) t.length
theorem RpA.get : ∀ {ds : List D} {vs : List V} {i : Nat} {d : D}, RpA K ι H ds vs → ds[i]? = some d → ∃ v, vs[i]? = some v ∧ Rp K ι H d v
  | _, _, _, _, .nil, e => by simp at e
  | _, _, 0, d, .cons h _, e => by simp at e; subst e; exact ⟨_, rfl, h⟩
  | _, _, i + 1, d, .cons _ t, e => by
    obtain ⟨v, h1, h2⟩ := RpA.get (i := i) (d := d) t (by simpa using e)
    exact ⟨v, by simpa using h1, h2⟩
theorem RpA.append : ∀ {ds es : List D} {vs us : List V}, RpA K ι H ds vs → RpA K ι H es us → RpA K ι H (ds ++ es) (vs ++ us)
  | _, _, _, _, .nil, s => s
  | _, _, _, _, .cons r t, s => .cons r (RpA.append t s)
theorem RpA.take : ∀ {ds : List D} {vs : List V} (n : Nat), RpA K ι H ds vs → RpA K ι H (ds.take n) (vs.take n)
  | _, _, 0, _ => .nil
  | _, _, _ + 1, .nil => .nil
  | _, _, n + 1, .cons r t => .cons r (RpA.take n t)
theorem RpA.drop : ∀ {ds : List D} {vs : List V} (n : Nat), RpA K ι H ds vs → RpA K ι H (ds.drop n) (vs.drop n)
  | _, _, 0, r => r
  | _, _, _ + 1, .nil => .nil
  | _, _, n + 1, .cons _ t => RpA.drop n t
theorem RpA.set {d : D} {v : V} (r : Rp K ι H d v) : ∀ {ds : List D} {vs : List V} (i : Nat), RpA K ι H ds vs → RpA K ι H (ds.set i d) (vs.set i v)
  | _, _, _, .nil => .nil
  | _, _, 0, .cons _ t => .cons r t
  | _, _, i + 1, .cons q t => .cons q (RpA.set r i t)
theorem RpA.reverse : ∀ {ds : List D} {vs : List V}, RpA K ι H ds vs → RpA K ι H ds.reverse vs.reverse
  | _, _, .nil => .nil
  | _, _, .cons r t => by
    rw [List.reverse_cons, List.reverse_cons]
    exact (RpA.reverse t).append (.cons r .nil)
theorem RpA.dropLast : ∀ {ds : List D} {vs : List V}, RpA K ι H ds vs → RpA K ι H ds.dropLast vs.dropLast
  | _, _, .nil => .nil
  | _, _, .cons _ .nil => .nil
  | _, _, .cons r (.cons q t) => .cons r (RpA.dropLast (.cons q t))
theorem RpA.rep {ds : List D} {vs : List V} (h : RpA K ι H ds vs) : ∀ k : Nat, RpA K ι H (List.replicate k ds).flatten (List.replicate k vs).flatten
  | 0 => .nil
  | k + 1 => by
    rw [List.replicate_succ, List.replicate_succ, List.flatten_cons, List.flatten_cons]
    exact h.append (RpA.rep h k)
theorem upd_tup {a p : Addr} {o : HO} {vs : List V} (hp : H p = none) (h : SqT K H a vs) : SqT K (upd H p o) a vs := by
  rcases h with (h | ⟨u, h⟩) | h
  · exact .inl (.inl (by rw [upd_ne (ne_of_none h hp)]; exact h))
  · exact .inl (.inr ⟨u, by rw [upd_ne (ne_of_none h hp)]; exact h⟩)
  · exact .inr h
def isTupO : Option HO → Prop
  | some (.tup _) => True
  | some (.frz _ _) => True
  | some (.xd _) => True
  | _ => False
theorem upd_tup' {a p : Addr} {o : HO} {vs : List V} (hp : ¬ isTupO (H p)) (h : SqT K H a vs) : SqT K (upd H p o) a vs := by
  rcases h with (h | ⟨u, h⟩) | h
  · exact .inl (.inl (by rw [upd_ne (fun e => by subst e; rw [h] at hp; exact hp trivial)]; exact h))
  · exact .inl (.inr ⟨u, by rw [upd_ne (fun e => by subst e; rw [h] at hp; exact hp trivial)]; exact h⟩)
  · exact .inr h
theorem upd_err {a p : Addr} {o : HO} {x : Ex} (hp : ¬ isTupO (H p)) (h : ErrAt K H a x) : ErrAt K (upd H p o) a x := by
  obtain ⟨oe, vs, h1, h2, h3, h4, h5⟩ := h
  refine ⟨oe, vs, by rw [upd_ne (fun e => by subst e; rw [h1] at hp; exact hp trivial)]; exact h1, h2, h3, h4, ?_⟩
  rcases h5 with h5 | ⟨i, d, e1, e2, e3⟩
  · exact .inl h5
  · exact .inr ⟨i, d, e1, e2, by rw [upd_ne (fun e => by subst e; rw [e3] at hp; exact hp trivial)]; exact e3⟩
theorem upd_frz {p a : Addr} {o : HO} {ob : Obj} {u : HO} (hp : ¬ isTupO (H p)) (h : H a = some (.frz ob u)) : upd H p o a = some (.frz ob u) := by
  rw [upd_ne (fun e => by subst e; rw [h] at hp; exact hp trivial)]; exact h
theorem Ext.upd {p : Addr} {o : HO} (hp : ¬ isTupO (H p)) : Ext K ι H ι (upd H p o) := ⟨fun _ _ h => h, fun _ _ h => upd_tup' hp h, fun _ _ h => upd_err hp h, fun _ _ _ h => upd_frz hp h⟩
theorem Ext.new {p : Addr} {o : HO} (hp : H p = none) : Ext K ι H ι (L2.upd H p o) := Ext.upd (by rw [hp]; exact fun z => z)
theorem Ext.more {p : Addr} {o : HO} (hp : H p = none) : Ext K ι H (ι ++ [p]) (L2.upd H p o) :=
  ⟨fun n a h => by
    obtain ⟨hl, _⟩ := List.getElem?_eq_some_iff.mp h
    rw [List.getElem?_append_left hl]; exact h, fun _ _ h => upd_tup hp h, fun _ _ h => upd_err (by rw [hp]; exact fun z => z) h, fun _ _ _ h => upd_frz (by rw [hp]; exact fun z => z) h⟩
theorem RoL.sq {a : Addr} {vs : List V} (h : RoL K H a vs) : SqL K H a vs := by
  rcases h with ⟨o, h⟩ | h
  · exact .inl (.inr ⟨o, h⟩)
  · exact .inr h
theorem RoL.upd {a p : Addr} {o : HO} {vs : List V} (hp : ¬ isTupO (H p)) (h : RoL K H a vs) : RoL K (L2.upd H p o) a vs := by
  rcases h with ⟨u, h⟩ | h
  · exact .inl ⟨u, by rw [upd_ne (fun e => by subst e; rw [h] at hp; exact hp trivial)]; exact h⟩
  · exact .inr h
/-- an object that is there stays what it is where another place is written -/
theorem MOk.upd {a p : Addr} {o : HO} {u : MO} (e : Ext K ι H ι' (L2.upd H p o)) (hne : mutable u = true → a ≠ p) (hp : ¬ isTupO (H p)) (h : MOk K ι H a u) : MOk K ι' (L2.upd H p o) a u := by
  cases u with
  | lst xs => obtain ⟨vs, h1, h2⟩ := h; exact ⟨vs, by rw [upd_ne (hne rfl)]; exact h1, h2.ext e⟩
  | rol xs => obtain ⟨vs, h1, h2⟩ := h; exact ⟨vs, h1.upd hp, h2.ext e⟩
  | ins c fs => obtain ⟨dx, vs, h1, h2⟩ := h; exact ⟨dx, vs, by rw [upd_ne (hne rfl)]; exact h1, h2.ext e⟩
  | dct kvs => obtain ⟨xs, h1, h2, h3⟩ := h; exact ⟨xs, by rw [upd_ne (hne rfl)]; exact h1, h2.ext e, h3⟩
  | dcs fs => obtain ⟨vs, h1, h2⟩ := h; exact ⟨vs, by rw [upd_ne (hne rfl)]; exact h1, h2.ext e⟩
  | dcz kvs => obtain ⟨xs, o, h1, h2, h3⟩ := h; exact ⟨xs, o, by rw [upd_ne (hne rfl)]; exact h1, h2.ext e, h3⟩
theorem MOk.there {a : Addr} {u : MO} (m : mutable u = true) (h : MOk K ι H a u) : H a ≠ none := by
  cases u with
  | lst xs => obtain ⟨vs, h1, _⟩ := h; rw [h1]; exact fun z => nomatch z
  | rol xs => exact nomatch m
  | ins c fs => obtain ⟨dx, vs, h1, _⟩ := h; rw [h1]; exact fun z => nomatch z
  | dct kvs => obtain ⟨xs, h1, _⟩ := h; rw [h1]; exact fun z => nomatch z
  | dcs fs => obtain ⟨vs, h1, _⟩ := h; rw [h1]; exact fun z => nomatch z
  | dcz kvs => obtain ⟨xs, o, h1, _⟩ := h; rw [h1]; exact fun z => nomatch z
theorem MOk.notTup {a : Addr} {u : MO} (m : wr u = true) (h : MOk K ι H a u) : ¬ isTupO (H a) := by
  cases u with
  | lst xs => obtain ⟨vs, h1, _⟩ := h; rw [h1]; exact fun z => z
  | rol xs => exact nomatch m
  | ins c fs => obtain ⟨dx, vs, h1, _⟩ := h; rw [h1]; exact fun z => z
  | dct kvs => obtain ⟨xs, h1, _⟩ := h; rw [h1]; exact fun z => z
  | dcs fs => obtain ⟨vs, h1, _⟩ := h; rw [h1]; exact fun z => z
  | dcz kvs => exact nomatch m
variable {M : Mem}
theorem SR.at (S : SR K ι H M) {n : Nat} {o : MO} (h : M[n]? = some o) : ∃ a, ι[n]? = some a ∧ MOk K ι H a o := by
  obtain ⟨hl, _⟩ := List.getElem?_eq_some_iff.mp h
  have hl' : n < ι.length := by rw [S.len]; exact hl
  exact ⟨ι[n], List.getElem?_eq_getElem hl', S.ok n _ o (List.getElem?_eq_getElem hl') h⟩
/-- an untracked place gets a thing that is no memory of ours (a tuple, an instance's dict) -/
theorem SR.new (S : SR K ι H M) {p : Addr} {o : HO} (hp : H p = none) : SR K ι (L2.upd H p o) M where
  len := S.len
  ok := fun n a u h1 h2 => by
    have k := S.ok n a u h1 h2
    refine k.upd (Ext.new hp) (fun m e => ?_) (by rw [hp]; exact fun z => z)
    subst e; exact k.there m hp
  nd := S.nd
/-- a new object of ours -/
theorem SR.alloc (S : SR K ι H M) {p : Addr} {o : HO} {u : MO} (hp : H p = none) (hm : MOk K (ι ++ [p]) (L2.upd H p o) p u) : SR K (ι ++ [p]) (L2.upd H p o) (M ++ [u]) := by
  have hl := S.len
  have split : ∀ {n : Nat} {a : Addr} {v : MO}, (ι ++ [p])[n]? = some a → (M ++ [u])[n]? = some v → (ι[n]? = some a ∧ M[n]? = some v) ∨ (n = ι.length ∧ a = p ∧ v = u) := by
    intro n a v h1 h2
    by_cases q : n < ι.length
    · rw [List.getElem?_append_left q] at h1
      rw [List.getElem?_append_left (by omega)] at h2
      exact .inl ⟨h1, h2⟩
    · have e : n = ι.length := by
        have := (List.getElem?_eq_some_iff.mp h1).1
        simp at this; omega
      subst e
      have a1 : p = a := by simpa using h1
      have a2 : u = v := by rw [hl] at h2; simpa using h2
      exact .inr ⟨rfl, a1.symm, a2.symm⟩
  refine ⟨by simp [hl], fun n a v h1 h2 => ?_, fun n m a v w h1 h2 h3 h4 m1 m2 => ?_⟩
  · rcases split h1 h2 with ⟨g1, g2⟩ | ⟨rfl, rfl, rfl⟩
    · have k := S.ok n a v g1 g2
      refine k.upd (Ext.more hp) (fun m e => ?_) (by rw [hp]; exact fun z => z)
      subst e; exact k.there m hp
    · exact hm
  · rcases split h1 h3 with ⟨g1, g2⟩ | ⟨rfl, rfl, rfl⟩ <;> rcases split h2 h4 with ⟨f1, f2⟩ | ⟨rfl, e, rfl⟩
    · exact S.nd n m a v w g1 f1 g2 f2 m1 m2
    · exact absurd hp (by rw [← e]; exact (S.ok n _ v g1 g2).there m1)
    · exact absurd hp ((S.ok m _ w f1 f2).there m2)
    · rfl
/-- an object of ours is written -/
theorem SR.write (S : SR K ι H M) {n : Nat} {a : Addr} {o u : MO} {x : HO} (ha : ι[n]? = some a) (ho : M[n]? = some o) (mo : wr o = true) (mu : mutable u = true)
    (hm : MOk K ι (L2.upd H a x) a u) : SR K ι (L2.upd H a x) (M.set n u) := by
  have k0 := S.ok n a o ha ho
  have nt := k0.notTup mo
  obtain ⟨hl, _⟩ := List.getElem?_eq_some_iff.mp ho
  have split : ∀ {m : Nat} {v : MO}, (M.set n u)[m]? = some v → (m = n ∧ v = u) ∨ (m ≠ n ∧ M[m]? = some v) := by
    intro m v h
    by_cases e : m = n
    · subst e
      rw [List.getElem?_set_self hl] at h
      exact .inl ⟨rfl, (Option.some.inj h).symm⟩
    · rw [List.getElem?_set_ne (fun z => e z.symm)] at h
      exact .inr ⟨e, h⟩
  refine ⟨by rw [List.length_set]; exact S.len, fun m b v h1 h2 => ?_, fun m m' b v w h1 h2 h3 h4 m1 m2 => ?_⟩
  · rcases split h2 with ⟨rfl, rfl⟩ | ⟨e, g⟩
    · rw [ha] at h1; cases h1; exact hm
    · refine (S.ok m b v h1 g).upd (Ext.upd nt) (fun mv z => ?_) nt
      subst z; exact e (S.nd m n b v o h1 ha g ho mv (wr_mut mo))
  · rcases split h3 with ⟨rfl, rfl⟩ | ⟨e, g⟩ <;> rcases split h4 with ⟨rfl, rfl⟩ | ⟨e', g'⟩
    · rfl
    · exact (S.nd m' m b w o h2 h1 g' ho m2 (wr_mut mo)).symm
    · exact S.nd m m' b v o h1 h2 g ho m1 (wr_mut mo)
    · exact S.nd m m' b v w h1 h2 g g' m1 m2
end
/-- an exception: its class, its dict -/
def ExR (K : PySem.W.Frag) (ι : List Addr) (x : Ex) (cls : Value) (dx : Option Addr) (H : Hp) : Prop :=
  cls = .ref (He.ga K x.cls) ∧ ErrD H x.at_ dx
/-- what is wanted of an outcome, from ι and H on -/
def OutP {α : Type} (K : PySem.W.Frag) (W : Value → Option Addr → Hp → Prop) (ι : List Addr) (H : Hp) (o : Out α) (R : α → Mem → List Addr → Hp → Prop) : Prop :=
  match o with
  | .ok a M => ∀ ι' H', Ext K ι H ι' H' → SR K ι' H' M → R a M ι' H'
  | .exc x M => ∀ ι' H' cls dx, Ext K ι H ι' H' → SR K ι' H' M → ExR K ι' x cls dx H' → W cls dx H'
  | .stuck => False
def SOutP (K : PySem.W.Frag) (W : WX) (ι : List Addr) (H : Hp) (o : SOut) (En : Ends) : Prop :=
  match o with
  | .next env M => ∀ ι' σ' H', Ext K ι H ι' H' → SR K ι' H' M → EnvR K ι' H' env σ' → En.nx σ' H'
  | .ret d M => ∀ ι' v H', Ext K ι H ι' H' → SR K ι' H' M → Rp K ι' H' d v → En.rt v H'
  | .exc x env M => ∀ ι' σ' H' cls dx, Ext K ι H ι' H' → SR K ι' H' M → EnvR K ι' H' env σ' → ExR K ι' x cls dx H' → W cls dx σ' H'
  | .stuck => False
abbrev W1 (W : WX) (σ : L2.St) : Value → Option Addr → Hp → Prop := fun c d H => W c d σ H
/-- what is wanted of a value -/
abbrev VR (K : PySem.W.Frag) (Q : VK) : D → Mem → List Addr → Hp → Prop := fun d _ ι H => ∀ v, Rp K ι H d v → Q v H
abbrev AR (K : PySem.W.Frag) (Q : List V → Hp → Prop) : List D → Mem → List Addr → Hp → Prop := fun d _ ι H => ∀ v, RpA K ι H d v → Q v H
abbrev TR (Q : Bool → Hp → Prop) : Bool → Mem → List Addr → Hp → Prop := fun b _ _ H => Q b H
def LE (K : PySem.W.Frag) (W : WX) (m : ME) : TE := fun σ H Q => ∃ ι env M, SR K ι H M ∧ EnvR K ι H env σ ∧ OutP K (W1 W σ) ι H (m env M) (VR K Q)
def LT (K : PySem.W.Frag) (W : WX) (m : MT) : TT := fun σ H Q => ∃ ι env M, SR K ι H M ∧ EnvR K ι H env σ ∧ OutP K (W1 W σ) ι H (m env M) (TR Q)
def LA (K : PySem.W.Frag) (W : WX) (m : MA) : TA := fun σ H Q => ∃ ι env M, SR K ι H M ∧ EnvR K ι H env σ ∧ OutP K (W1 W σ) ι H (m env M) (AR K Q)
def LS (K : PySem.W.Frag) (W : WX) (m : MS) : TS := fun En σ H => ∃ ι env M, SR K ι H M ∧ EnvR K ι H env σ ∧ SOutP K W ι H (m env M) En
section
variable {K : PySem.W.Frag} {W : Value → Option Addr → Hp → Prop} {ι ι' : List Addr} {H H' : Hp} {α β : Type}
theorem OutP.imp {o : Out α} {R R' : α → Mem → List Addr → Hp → Prop} (h : OutP K W ι H o R) (k : ∀ a M ι' H', Ext K ι H ι' H' → SR K ι' H' M → R a M ι' H' → R' a M ι' H') : OutP K W ι H o R' := by
  cases o with
  | ok a M => exact fun ι' H' e s => k a M ι' H' e s (h ι' H' e s)
  | exc x M => exact h
  | stuck => exact h
theorem OutP.ext {o : Out α} {R : α → Mem → List Addr → Hp → Prop} (e : Ext K ι H ι' H') (h : OutP K W ι H o R) : OutP K W ι' H' o R := by
  cases o with
  | ok a M => exact fun ι2 H2 e2 s => h ι2 H2 (e.trans e2) s
  | exc x M => exact fun ι2 H2 c d e2 s x => h ι2 H2 c d (e.trans e2) s x
  | stuck => exact h
theorem OutP.bind {o : Out α} {f : α → Mem → Out β} {R : β → Mem → List Addr → Hp → Prop} (h : OutP K W ι H (o.bind f) R) : OutP K W ι H o (fun a M ι1 H1 => OutP K W ι1 H1 (f a M) R) := by
  cases o with
  | ok a M => exact fun ι' H' e s => OutP.ext e h
  | exc x M => exact h
  | stuck => exact h
end
theorem SOutP.ext {K : PySem.W.Frag} {W : WX} {ι ι' : List Addr} {H H' : Hp} {o : SOut} {En : Ends} (e : Ext K ι H ι' H') (h : SOutP K W ι H o En) : SOutP K W ι' H' o En := by
  cases o with
  | next env M => exact fun ι2 σ2 H2 e2 s r => h ι2 σ2 H2 (e.trans e2) s r
  | ret d M => exact fun ι2 v H2 e2 s r => h ι2 v H2 (e.trans e2) s r
  | exc x env M => exact fun ι2 σ2 H2 c d e2 s r x => h ι2 σ2 H2 c d (e.trans e2) s r x
  | stuck => exact h
section
variable {X : Cx}
theorem _root_.L2.PE.imp {e : Expr} {t t' : TE} (h : PE X e t) (k : ∀ σ H Q, t' σ H Q → t σ H Q) : PE X e t' := ⟨fun pins s σ H Q I q => h.run pins s σ H Q I (k σ H Q q)⟩
theorem _root_.L2.PT.imp {e : Expr} {t t' : TT} (h : PT X e t) (k : ∀ σ H Q, t' σ H Q → t σ H Q) : PT X e t' := ⟨fun pins s σ H Q I q => h.run pins s σ H Q I (k σ H Q q)⟩
theorem _root_.L2.PW.imp {e : Expr} {t t' : TT} (h : PW X e t) (k : ∀ σ H Q, t' σ H Q → t σ H Q) : PW X e t' := ⟨fun w pins s σ H Q I q => h.run w pins s σ H Q I (k σ H Q q)⟩
theorem _root_.L2.PA.imp {e : List Expr} {t t' : TA} (h : PA X e t) (k : ∀ σ H Q, t' σ H Q → t σ H Q) : PA X e t' := ⟨fun p pins s σ H Q I q => h.run p pins s σ H Q I (k σ H Q q)⟩
theorem _root_.L2.PS.imp {e : Stmt} {t t' : TS} (h : PS X e t) (k : ∀ En σ H, t' En σ H → t En σ H) : PS X e t' := ⟨fun pins s σ H En I q => h.run pins s σ H En I (k En σ H q)⟩
theorem _root_.L2.PSs.imp {e : List Stmt} {t t' : TS} (h : PSs X e t) (k : ∀ En σ H, t' En σ H → t En σ H) : PSs X e t' := ⟨fun pins s σ H En I q => h.run pins s σ H En I (k En σ H q)⟩
end
end TL
end
section
namespace TL
open PySem PySem.Spec PyProof.Rows L2
/-- the context of a body -/
structure Ctx (X : Cx) (W : WX) (k : Nat) : Prop where
  calm : X.calm = true
  nd : X.N.Nodup
  room : Room k X.A
  tk : L2N.Takes X W
  pass : PassesOwn (model X.prog X.w) X.A X.env X.xe
def liftO {α : Type} (o : Option (α × Mem)) : Out α := match o with
  | some (a, M) => .ok a M
  | none => .stuck
@[simp] theorem liftO_some {α : Type} (a : α) (M : Mem) : liftO (some (a, M)) = .ok a M := rfl
@[simp] theorem liftO_none {α : Type} : liftO (none : Option (α × Mem)) = .stuck := rfl
def OpO {α : Type} (K : PySem.W.Frag) (ι : List Addr) (H : Hp) (o : Option (α × Mem)) (R : α → Mem → List Addr → Hp → Prop) : Prop := match o with
  | some (a, M) => ∀ ι' H', Ext K ι H ι' H' → SR K ι' H' M → R a M ι' H'
  | none => False
theorem OpO.of {α : Type} {K : PySem.W.Frag} {W : Value → Option Addr → Hp → Prop} {ι : List Addr} {H : Hp} {o : Option (α × Mem)} {R : α → Mem → List Addr → Hp → Prop} (h : OutP K W ι H (liftO o) R) : OpO K ι H o R := by
  cases o with
  | none => exact h
  | some p => exact h
abbrev Op2 := D → D → Mem → Option (D × Mem)
abbrev Op1 := D → Mem → Option (D × Mem)
abbrev OpN := List D → Mem → Option (D × Mem)
def rD2 (K : PySem.W.Frag) (f : Op2) : R2 := fun x y H Q => ∃ ι M a b, SR K ι H M ∧ Rp K ι H a x ∧ Rp K ι H b y ∧ OpO K ι H (f a b M) (VR K Q)
def rD1 (K : PySem.W.Frag) (f : Op1) : V → Hp → VK → Prop := fun x H Q => ∃ ι M a, SR K ι H M ∧ Rp K ι H a x ∧ OpO K ι H (f a M) (VR K Q)
def rDN (K : PySem.W.Frag) (f : OpN) : List V → Hp → VK → Prop := fun xs H Q => ∃ ι M ds, SR K ι H M ∧ RpA K ι H ds xs ∧ OpO K ι H (f ds M) (VR K Q)
def rDM (K : PySem.W.Frag) (f : D → OpN) : V → List V → Hp → VK → Prop := fun x xs H Q => ∃ ι M d ds, SR K ι H M ∧ Rp K ι H d x ∧ RpA K ι H ds xs ∧ OpO K ι H (f d ds M) (VR K Q)
def rDSl (K : PySem.W.Frag) (f : D → Option Int → Option Int → Mem → Option (D × Mem)) : V → Option Int → Option Int → Hp → VK → Prop := fun x lo hi H Q => ∃ ι M d, SR K ι H M ∧ Rp K ι H d x ∧ OpO K ι H (f d lo hi M) (VR K Q)
section
variable {X : Cx}
theorem OpR.imp {f : Value → Value → Sem Value} {r r' : R2} (h : OpR X f r) (k : ∀ x y H Q, r' x y H Q → r x y H Q) : OpR X f r' :=
  fun pins s σ H x y v u Q I rx ry q => h pins s σ H x y v u Q I rx ry (k x y H Q q)
theorem CallR.imp {f : Value} {r r' : List V → Hp → VK → Prop} (h : CallR X f r) (k : ∀ xs H Q, r' xs H Q → r xs H Q) : CallR X f r' :=
  fun pins s σ H xs us Q I rx q => h pins s σ H xs us Q I rx (k xs H Q q)
theorem IxR.imp {r r' : R2} (h : IxR X r) (k : ∀ x y H Q, r' x y H Q → r x y H Q) : IxR X r' :=
  fun a b pins s σ H x y v u Q I rx ry q e => h a b pins s σ H x y v u Q I rx ry (k x y H Q q) e
theorem MtR.imp {id : String} {r r' : V → List V → Hp → VK → Prop} (h : MtR X id r) (k : ∀ x xs H Q, r' x xs H Q → r x xs H Q) : MtR X id r' :=
  fun pins s σ H x xs v us Q I rx rxs q => h pins s σ H x xs v us Q I rx rxs (k x xs H Q q)
theorem UnR.imp {f : Value → Sem Value} {r r' : V → Hp → VK → Prop} (h : UnR X f r) (k : ∀ x H Q, r' x H Q → r x H Q) : UnR X f r' :=
  fun pins s σ H x v Q I rx q => h pins s σ H x v Q I rx (k x H Q q)
theorem SlR.imp {r r' : V → Option Int → Option Int → Hp → VK → Prop} (h : SlR X r) (k : ∀ x l u H Q, r' x l u H Q → r x l u H Q) : SlR X r' :=
  fun pins s σ H x v vl vu lo hi sl Q I rx hs pl pu q => h pins s σ H x v vl vu lo hi sl Q I rx hs pl pu (k x lo hi H Q q)
end
section
variable {K : PySem.W.Frag} {ι ι' : List Addr} {H H' : Hp} {M : Mem}
/-- a value is told, the memory as it is -/
theorem OpO.val {d : D} {Q : VK} {v : V} (S : SR K ι H M) (h : OpO K ι H (some (d, M)) (VR K Q)) (r : Rp K ι H d v) : Q v H := h ι H Ext.refl S v r
theorem Rp.bl_inv {b : Bool} {v : V} (r : Rp K ι H (.bl b) v) : v = .bl b := by cases r; rfl
theorem Rp.int_inv {i : Int} {v : V} (r : Rp K ι H (.int i) v) : v = .int i := by cases r; rfl
theorem Rp.str_inv {i : Str} {v : V} (r : Rp K ι H (.str i) v) : v = .str i := by cases r; rfl
theorem Rp.non_inv {v : V} (r : Rp K ι H .non v) : v = .non := by cases r; rfl
theorem Rp.tup_inv {xs : List D} {v : V} (r : Rp K ι H (.tup xs) v) : ∃ a vs, v = .ref a ∧ SqT K H a vs ∧ RpA K ι H xs vs := by cases r with | tup h k => exact ⟨_, _, rfl, h, k⟩
theorem Rp.ref_inv {n : Nat} {v : V} (r : Rp K ι H (.ref n) v) : ∃ a, v = .ref a ∧ ι[n]? = some a := by cases r with | ref h => exact ⟨_, rfl, h⟩
/-- a new tuple -/
theorem OpO.newTup {xs : List D} {vs : List V} {Q : VK} (S : SR K ι H M) (h : OpO K ι H (some (.tup xs, M)) (VR K Q)) (r : RpA K ι H xs vs) : ∀ p, H p = none → Q (.ref p) (upd H p (.tup vs)) := fun p hp =>
  h ι _ (Ext.new hp) (S.new hp) _ (.tup (.inl (.inl upd_same)) (r.ext (Ext.new hp)))
/-- a new list -/
theorem OpO.newLst {xs : List D} {vs : List V} {Q : VK} (S : SR K ι H M) (h : OpO K ι H (some (.ref M.length, M ++ [.lst xs])) (VR K Q)) (r : RpA K ι H xs vs) : ∀ p, H p = none → Q (.ref p) (upd H p (.lst vs)) := fun p hp =>
  h (ι ++ [p]) _ (Ext.more hp) (S.alloc hp ⟨vs, upd_same, r.ext (Ext.more hp)⟩) _ (.ref (by rw [← S.len]; simp))
/-- a list is written, a value told -/
theorem OpO.setLst {n : Nat} {a : Addr} {xs ys : List D} {vs : List V} {d : D} {v : V} {Q : VK} (S : SR K ι H M) (h : OpO K ι H (some (d, M.set n (.lst ys))) (VR K Q)) (ha : ι[n]? = some a) (hm : M[n]? = some (.lst xs)) (r : RpA K ι H ys vs) (rd : Rp K ι H d v) :
    Q v (upd H a (.lst vs)) := by
  have k0 := S.ok n a _ ha hm
  have nt := k0.notTup (u := .lst xs) rfl
  exact h ι _ (Ext.upd nt) (S.write ha hm rfl rfl ⟨vs, upd_same, r.ext (Ext.upd nt)⟩) v (rd.ext (Ext.upd nt))
/-- a list that is there -/
def seqAt (M : Mem) (n : Nat) : Option (List D) := match M[n]? with
  | some (.lst xs) => some xs
  | some (.rol xs) => some xs
  | _ => none
theorem SR.seq (S : SR K ι H M) {n : Nat} {a : Addr} {xs : List D} (ha : ι[n]? = some a) (h : seqAt M n = some xs) : ∃ vs, SqL K H a vs ∧ RpA K ι H xs vs := by
  unfold seqAt at h
  cases q : M[n]? with
  | none => rw [q] at h; cases h
  | some o =>
    rw [q] at h
    cases o with
    | lst ys => cases h; obtain ⟨vs, h1, h2⟩ := S.ok n a _ ha q; exact ⟨vs, SqL.of h1, h2⟩
    | rol ys => cases h; obtain ⟨vs, h1, h2⟩ := S.ok n a _ ha q; exact ⟨vs, h1.sq, h2⟩
    | ins c fs => cases h
    | dct kvs => cases h
    | dcs fs => cases h
    | dcz kvs => cases h
theorem SR.lst (S : SR K ι H M) {n : Nat} {a : Addr} {xs : List D} (ha : ι[n]? = some a) (h : M[n]? = some (.lst xs)) : ∃ vs, H a = some (.lst vs) ∧ RpA K ι H xs vs := S.ok n a _ ha h
end
def mAdd : Op2 := fun a b M => match a, b with
  | .int i, .int j => some (.int (i + j), M)
  | .str x, .str y => if x.length + y.length ≤ sizeLine then some (.str (x ++ y), M) else none
  | .tup xs, .tup ys => if xs.length + ys.length ≤ sizeLine then some (.tup (xs ++ ys), M) else none
  | .ref n, .ref m => match M[n]?, M[m]? with
    | some (.lst xs), some (.lst ys) => if xs.length + ys.length ≤ sizeLine then some (.ref M.length, M ++ [.lst (xs ++ ys)]) else none
    | _, _ => none
  | _, _ => none
theorem o_add {X : Cx} : OpR X (binaryOp .Add) (rD2 X.K mAdd) := by
  refine OpR.imp ((op_add.or op_add_str).or (op_catA.or op_cat)) fun x y H Q h => ?_
  obtain ⟨ι, M, a, b, S, ra, rb, h⟩ := h
  unfold mAdd at h
  split at h
  · cases ra.int_inv; cases rb.int_inv
    exact .inl (.inl ⟨_, _, rfl, rfl, h.val S (.int _)⟩)
  · cases ra.str_inv; cases rb.str_inv
    split at h
    · exact .inl (.inr ⟨_, _, rfl, rfl, by assumption, h.val S (.str _)⟩)
    · exact h.elim
  · obtain ⟨p, vs, rfl, t1, r1⟩ := ra.tup_inv
    obtain ⟨q, us, rfl, t2, r2⟩ := rb.tup_inv
    have l1 := r1.length
    have l2 := r2.length
    split at h
    · refine .inr (.inl ⟨_, _, vs, us, rfl, rfl, t1, t2, by omega, fun e => ?_, fun e1 e2 => ?_, fun e1 e2 => ?_⟩)
      · subst e
        cases r1
        exact h.val S (.tup t2 r2)
      · subst e2
        cases r2
        refine h.val S (.tup t1 ?_)
        rw [List.append_nil]; exact r1
      · exact h.newTup S (r1.append r2)
    · exact h.elim
  · obtain ⟨p, rfl, hp⟩ := ra.ref_inv
    obtain ⟨q, rfl, hq⟩ := rb.ref_inv
    split at h
    · rename_i m1 m2
      obtain ⟨vs, h1, r1⟩ := S.lst hp m1
      obtain ⟨us, h2, r2⟩ := S.lst hq m2
      have l1 := r1.length
      have l2 := r2.length
      split at h
      · exact .inr (.inr ⟨_, _, _, _, rfl, rfl, h1, h2, by omega, h.newLst S (r1.append r2)⟩)
      · exact h.elim
    · exact h.elim
  · exact h.elim
def mSub : Op2 := fun a b M => match a, b with
  | .int i, .int j => some (.int (i - j), M)
  | _, _ => none
theorem o_sub {X : Cx} : OpR X (binaryOp .Sub) (rD2 X.K mSub) := by
  refine OpR.imp op_sub fun x y H Q h => ?_
  obtain ⟨ι, M, a, b, S, ra, rb, h⟩ := h
  unfold mSub at h
  split at h
  · cases ra.int_inv; cases rb.int_inv
    exact ⟨_, _, rfl, rfl, h.val S (.int _)⟩
  · exact h.elim
def mMod : Op2 := fun a b M => match a, b with
  | .int i, .int j => if 0 < j then some (.int (i % j), M) else none
  | _, _ => none
theorem o_mod {X : Cx} : OpR X (binaryOp .Mod) (rD2 X.K mMod) := by
  refine OpR.imp op_mod fun x y H Q h => ?_
  obtain ⟨ι, M, a, b, S, ra, rb, h⟩ := h
  unfold mMod at h
  split at h
  · cases ra.int_inv; cases rb.int_inv
    split at h
    · exact ⟨_, _, rfl, rfl, by assumption, h.val S (.int _)⟩
    · exact h.elim
  · exact h.elim
def mFdiv : Op2 := fun a b M => match a, b with
  | .int i, .int j => if 0 < j ∧ j < 1073741824 then some (.int (i / j), M) else none
  | _, _ => none
theorem o_fdiv {X : Cx} : OpR X (binaryOp .FloorDiv) (rD2 X.K mFdiv) := by
  refine OpR.imp op_fdiv fun x y H Q h => ?_
  obtain ⟨ι, M, a, b, S, ra, rb, h⟩ := h
  unfold mFdiv at h
  split at h
  · cases ra.int_inv; cases rb.int_inv
    split at h
    · exact ⟨_, _, rfl, rfl, by assumption, h.val S (.int _)⟩
    · exact h.elim
  · exact h.elim
def mPow : Op2 := fun a b M => match a, b with
  | .int i, .int j => if 0 ≤ j ∧ j ≤ 1000000 ∧ i.natAbs < 2 ^ 64 then some (.int (i ^ j.toNat), M) else none
  | _, _ => none
theorem o_pow {X : Cx} : OpR X (binaryOp .Pow) (rD2 X.K mPow) := by
  refine OpR.imp op_pow fun x y H Q h => ?_
  obtain ⟨ι, M, a, b, S, ra, rb, h⟩ := h
  unfold mPow at h
  split at h
  · cases ra.int_inv; cases rb.int_inv
    split at h
    · exact ⟨_, _, rfl, rfl, by assumption, h.val S (.int _)⟩
    · exact h.elim
  · exact h.elim
end TL
end
section
namespace TL
open PySem PySem.Spec PyProof.Rows L2
theorem tuple_mul1 (l : Addr) (items : Array Value) (n : Nat) (dd : Option Addr) (sl : Array (Option Value)) (u : Tok) :
    Meets (Builtin.«tuple.__mul__» ⟨[.ref l, .int 1 u], []⟩) (fun _ R s => s.heap.get? l = some { cls := .type "tuple", dict := dd, data := .seq items n, slots := sl } ∧
      R (.ok (.ret (Value.ref l))) s) :=
  .of_wp fun prog w A R s h => by
    obtain ⟨hp, g, d, tk, os⟩ := s
    obtain ⟨hl, h⟩ := h
    have f1 := AutoSeq1.idx_int
    have c1 : (items.isEmpty || (1 : Int) == 1) = true := by simp
    wp_walk using wpAny_loadPart' hl
    exact ⟨_, rfl, h⟩
def rRep1 (K : PySem.W.Frag) : R2 := fun x y H Q => ∃ l xs, x = .ref l ∧ y = .int 1 ∧ SqT K H l xs ∧ Q (.ref l) H
theorem op_rep1 {X : Cx} : OpR X (binaryOp .Mult) (rRep1 X.K) := by
  intro pins s σ H x y v u Q I rx ry h
  obtain ⟨l, xs, rfl, rfl, hT, q⟩ := h
  cases rx
  obtain ⟨t, rfl⟩ := ry
  obtain ⟨its, r, ⟨⟨cls, dd, data, sl⟩, ho, hc, n, hd⟩, hs⟩ := I.tuple hT
  simp only at hc hd
  subst hc hd
  refine wpAny_binaryOp_repeat_ref (T := "tuple") (U := "int") (by decide) ⟨_, ho, rfl⟩ (fun s' => typeIs_int s' 1 t) noFill_tuple_mul F.fills_int_mul F.slot_int_rmul repeat_tuple F.slot_int_index.lookup
    (call_meets F.slot_int_rmul (typeIs_int s 1 t) F.entry_int_rmul (F.args_int_rmul_2 _ _) (int_rmul_tuple 1 t l its.toArray n dd sl)
      ⟨ho, rfl, ⟨_, ho, rfl⟩, call_meets F.slot_tuple_mul ⟨_, ho, rfl⟩ F.entry_tuple_mul (F.args_tuple_mul_2 _ _) (tuple_mul1 l its.toArray n dd sl t) ⟨ho, ?_⟩⟩)
  exact ⟨.ref l, _, I.tok s.toks, rfl, q⟩
noncomputable def mMul : Op2 := fun a b M => match a, b with
  | .int i, .int j => @ite _ ((-(2 ^ 64) < i ∧ i < 2 ^ 64) ∨ (-(2 ^ 64) < j ∧ j < 2 ^ 64)) (Classical.propDecidable _) (some (.int (i * j), M)) none
  | .tup xs, .int k => if k = 1 then some (.tup xs, M) else
      if xs ≠ [] ∧ 2 ≤ k ∧ k ≤ 1000 ∧ xs.length ≤ 1000 then some (.tup (List.replicate k.toNat xs).flatten, M) else none
  | .ref n, .int k => match M[n]? with
    | some (.lst xs) => @ite _ (-(2 ^ 63) ≤ k ∧ k < 2 ^ 63 ∧ xs.length * k.toNat ≤ sizeLine) (Classical.propDecidable _) (some (.ref M.length, M ++ [.lst (List.replicate k.toNat xs).flatten])) none
    | _ => none
  | _, _ => none
theorem o_mul {X : Cx} : OpR X (binaryOp .Mult) (rD2 X.K mMul) := by
  refine OpR.imp ((op_mul.or op_rep1).or (op_repT.or op_rep)) fun x y H Q h => ?_
  obtain ⟨ι, M, a, b, S, ra, rb, h⟩ := h
  unfold mMul at h
  split at h
  · cases ra.int_inv; cases rb.int_inv
    split at h
    · exact .inl (.inl ⟨_, _, rfl, rfl, by assumption, h.val S (.int _)⟩)
    · exact h.elim
  · cases rb.int_inv
    obtain ⟨p, vs, rfl, t1, r1⟩ := ra.tup_inv
    have l1 := r1.length
    split at h
    · rename_i e; subst e
      exact .inl (.inr ⟨_, _, rfl, rfl, t1, h.val S (.tup t1 r1)⟩)
    · split at h
      · rename_i c
        refine .inr (.inl ⟨_, _, vs, rfl, rfl, t1, fun e => c.1 ?_, c.2.1, c.2.2.1, by omega, h.newTup S (r1.rep _)⟩)
        subst e; cases r1; rfl
      · exact h.elim
  · cases rb.int_inv
    obtain ⟨p, rfl, hp⟩ := ra.ref_inv
    split at h
    · rename_i m1
      obtain ⟨vs, h1, r1⟩ := S.lst hp m1
      have l1 := r1.length
      split at h
      · rename_i c
        exact .inr (.inr ⟨_, _, vs, rfl, rfl, h1, c.1, c.2.1, by rw [← l1]; exact c.2.2, h.newLst S (r1.rep _)⟩)
      · exact h.elim
    · exact h.elim
  · exact h.elim
def mNeg : Op1 := fun a M => match a with
  | .int i => some (.int (-i), M)
  | _ => none
theorem o_neg {X : Cx} : UnR X (unaryOp .USub) (rD1 X.K mNeg) := by
  refine UnR.imp un_neg fun x H Q h => ?_
  obtain ⟨ι, M, a, S, ra, h⟩ := h
  unfold mNeg at h
  split at h
  · cases ra.int_inv
    exact ⟨_, rfl, h.val S (.int _)⟩
  · exact h.elim
def mCmp (p : Int → Int → Bool) : Op2 := fun a b M => match a, b with
  | .int i, .int j => some (.bl (p i j), M)
  | _, _ => none
theorem o_cmp {X : Cx} {f : Value → Value → Sem Value} {p : Int → Int → Bool} (h : OpR X f (rI0 fun i j => .bl (p i j))) : OpR X f (rD2 X.K (mCmp p)) := by
  refine OpR.imp h fun x y H Q h => ?_
  obtain ⟨ι, M, a, b, S, ra, rb, h⟩ := h
  unfold mCmp at h
  split at h
  · cases ra.int_inv; cases rb.int_inv
    exact ⟨_, _, rfl, rfl, h.val S (.bl _)⟩
  · exact h.elim
abbrev mLt : Op2 := mCmp fun i j => decide (i < j)
abbrev mLe : Op2 := mCmp fun i j => decide (i ≤ j)
abbrev mGt : Op2 := mCmp fun i j => decide (j < i)
theorem o_lt {X : Cx} : OpR X (compareOp .Lt) (rD2 X.K mLt) := o_cmp op_lt
theorem o_le {X : Cx} : OpR X (compareOp .LtE) (rD2 X.K mLe) := o_cmp op_le
theorem o_gt {X : Cx} : OpR X (compareOp .Gt) (rD2 X.K mGt) := o_cmp op_gt
def optAll {α β : Type} (f : α → Option β) : List α → Option (List β)
  | [] => some []
  | x :: xs => match f x, optAll f xs with
    | some y, some ys => some (y :: ys)
    | _, _ => none
def toP : Nat → Mem → D → Option PyData
  | 0, _, _ => none
  | _ + 1, _, .non => some .none
  | _ + 1, _, .bl b => some (.bool b)
  | _ + 1, _, .int i => some (.int i)
  | _ + 1, _, .str x => some (.str x)
  | n + 1, M, .tup xs => (optAll (toP n M) xs).map .tuple
  | n + 1, M, .ref r => match seqAt M r with
    | some xs => (optAll (toP n M) xs).map .list
    | none => none
  | _ + 1, _, .err _ => none
section
variable {K : PySem.W.Frag} {ι : List Addr} {H : Hp} {M : Mem}
theorem dpAll_of {f : D → Option PyData} (ih : ∀ d v p, Rp K ι H d v → f d = some p → Dp K H v p) : ∀ {ds : List D} {vs : List V} {ps : List PyData}, RpA K ι H ds vs → optAll f ds = some ps → DpAll K H vs ps
  | _, _, _, .nil, e => by cases e; exact .nil
  | d :: ds, v :: vs, ps, .cons r t, e => by
    unfold optAll at e
    split at e
    · rename_i h1 h2
      cases e
      exact .cons (ih _ _ _ r h1) (dpAll_of ih t h2)
    · cases e
theorem dp_of (S : SR K ι H M) : ∀ (n : Nat) (d : D) (v : V) (p : PyData), Rp K ι H d v → toP n M d = some p → Dp K H v p
  | 0, _, _, _, _, e => by cases e
  | n + 1, d, v, p, r, e => by
    cases d with
    | non => cases r.non_inv; cases e; exact .non
    | bl b => cases r.bl_inv; cases e; exact .bl b
    | int i => cases r.int_inv; cases e; exact .int i
    | str x => cases r.str_inv; cases e; exact .str x
    | err x => cases e
    | tup xs =>
      obtain ⟨a, vs, rfl, h1, h2⟩ := r.tup_inv
      have e' : (optAll (toP n M) xs).map PyData.tuple = some p := e
      cases q : optAll (toP n M) xs with
      | none => rw [q] at e'; cases e'
      | some ps => rw [q] at e'; cases e'; exact .tup h1 (dpAll_of (fun d v p => dp_of S n d v p) h2 q)
    | ref m =>
      obtain ⟨a, rfl, ha⟩ := r.ref_inv
      have e' : (match seqAt M m with | some xs => (optAll (toP n M) xs).map PyData.list | none => none) = some p := e
      cases q0 : seqAt M m with
      | none => rw [q0] at e'; cases e'
      | some xs =>
        rw [q0] at e'
        obtain ⟨vs, h1, h2⟩ := S.seq ha q0
        cases q : optAll (toP n M) xs with
        | none => simp only [q] at e'; cases e'
        | some ps => simp only [q] at e'; cases e'; exact .lst h1 (dpAll_of (fun d v p => dp_of S n d v p) h2 q)
end
/-- two texts, whatever their signs -/
def strEq (a b : D) : Option Bool := match a, b with
  | .str x, .str y => some (decide (x = y))
  | _, _ => none
theorem strEq_ok {a b : D} {k : Bool} (h : strEq a b = some k) : ∃ x y, a = .str x ∧ b = .str y ∧ k = decide (x = y) := by
  unfold strEq at h
  split at h
  · exact ⟨_, _, rfl, rfl, (Option.some.inj h).symm⟩
  · cases h
theorem scal_str {x y : Str} : scal (V.str x) (V.str y) = true := rfl
theorem str_dec {x y : Str} : decide (V.str x = V.str y) = decide (x = y) := by
  by_cases h : x = y
  · subst h; simp
  · have : V.str x ≠ V.str y := fun e => h (V.str.inj e)
    simp [h]
/-- a == b -/
def eqD (M : Mem) (a b : D) : Option Bool := match toP 64 M a, toP 64 M b with
  | some p, some q => if SeqAt.shaped p = true ∧ SeqAt.shaped q = true then some (PyData.eqv p q) else strEq a b
  | _, _ => none
def mEq : Op2 := fun a b M => (eqD M a b).map fun k => (.bl k, M)
def mNe : Op2 := fun a b M => (eqD M a b).map fun k => (.bl (!k), M)
theorem o_eq {X : Cx} (hu : X.A.units + 64 < cLine) : OpR X (compareOp .Eq) (rD2 X.K mEq) := by
  refine OpR.imp ((op_eqD hu).or op_eq) fun x y H Q h => ?_
  obtain ⟨ι, M, a, b, S, ra, rb, h⟩ := h
  unfold mEq eqD at h
  split at h
  · rename_i p q h1 h2
    split at h
    · rename_i c
      exact .inl ⟨p, q, dp_of S _ _ _ _ ra h1, dp_of S _ _ _ _ rb h2, c.1, c.2, h.val S (.bl _)⟩
    · cases e : strEq a b with
      | none => rw [e] at h; exact h.elim
      | some k =>
        rw [e] at h
        obtain ⟨x, y, rfl, rfl, rfl⟩ := strEq_ok e
        cases ra.str_inv; cases rb.str_inv
        refine .inr ⟨scal_str, ?_⟩
        rw [str_dec]
        exact OpO.val S h (.bl _)
  · exact h.elim
theorem o_ne {X : Cx} (hu : X.A.units + 64 < cLine) : OpR X (compareOp .NotEq) (rD2 X.K mNe) := by
  refine OpR.imp ((op_neD hu).or op_ne) fun x y H Q h => ?_
  obtain ⟨ι, M, a, b, S, ra, rb, h⟩ := h
  unfold mNe eqD at h
  split at h
  · rename_i p q h1 h2
    split at h
    · rename_i c
      exact .inl ⟨p, q, dp_of S _ _ _ _ ra h1, dp_of S _ _ _ _ rb h2, c.1, c.2, h.val S (.bl _)⟩
    · cases e : strEq a b with
      | none => rw [e] at h; exact h.elim
      | some k =>
        rw [e] at h
        obtain ⟨x, y, rfl, rfl, rfl⟩ := strEq_ok e
        cases ra.str_inv; cases rb.str_inv
        refine .inr ⟨scal_str, ?_⟩
        rw [str_dec]
        exact OpO.val S h (.bl _)
  · exact h.elim
def isNon : D → Bool
  | .non => true
  | _ => false
def mIs : Op2 := fun a b M => match b with
  | .non => some (.bl (isNon a), M)
  | .bl c => match a with
    | .bl b => some (.bl (b == c), M)
    | _ => none
  | _ => none
def mIsNot : Op2 := fun a b M => match b with
  | .non => some (.bl (!isNon a), M)
  | .bl c => match a with
    | .bl b => some (.bl (!(b == c)), M)
    | _ => none
  | _ => none
theorem isNon_v {K : PySem.W.Frag} {ι : List Addr} {H : Hp} {d : D} {v : V} (r : Rp K ι H d v) : decide (v = .non) = isNon d := by
  cases r <;> simp [isNon]
theorem o_is {X : Cx} : OpR X (compareOp .Is) (rD2 X.K mIs) := by
  refine OpR.imp (op_isN.or op_is_bl) fun x y H Q h => ?_
  obtain ⟨ι, M, a, b, S, ra, rb, h⟩ := h
  unfold mIs at h
  split at h
  · cases rb.non_inv
    exact .inl ⟨rfl, by rw [isNon_v ra]; exact h.val S (.bl _)⟩
  · cases rb.bl_inv
    split at h
    · cases ra.bl_inv
      refine .inr ⟨_, _, rfl, rfl, ?_⟩
      rw [show ∀ a b : Bool, decide (a = b) = (a == b) from by decide]
      exact h.val S (.bl _)
    · exact h.elim
  · exact h.elim
theorem o_isNot {X : Cx} : OpR X (compareOp .IsNot) (rD2 X.K mIsNot) := by
  refine OpR.imp (op_notN.or op_isnot_bl) fun x y H Q h => ?_
  obtain ⟨ι, M, a, b, S, ra, rb, h⟩ := h
  unfold mIsNot at h
  split at h
  · cases rb.non_inv
    exact .inl ⟨rfl, by rw [isNon_v ra]; exact h.val S (.bl _)⟩
  · cases rb.bl_inv
    split at h
    · cases ra.bl_inv
      refine .inr ⟨_, _, rfl, rfl, ?_⟩
      rw [show ∀ a b : Bool, decide (a = b) = (a == b) from by decide]
      exact h.val S (.bl _)
    · exact h.elim
  · exact h.elim
def flatD : D → Bool
  | .non => true
  | .bl _ => true
  | .int _ => true
  | .str _ => true
  | _ => false
def eqF : D → D → Bool
  | .non, .non => true
  | .bl a, .bl b => a == b
  | .bl a, .int b => (if a then 1 else 0) == b
  | .int a, .bl b => a == (if b then 1 else 0)
  | .int a, .int b => a == b
  | .str a, .str b => a == b
  | _, _ => false
def inF (x : D) (xs : List D) : Bool := xs.any fun y => eqF y x
section
variable {K : PySem.W.Frag} {ι : List Addr} {H : Hp} {M : Mem}
theorem flat_v {d : D} {v : V} (r : Rp K ι H d v) : flatV v = flatD d := by cases r <;> rfl
theorem flat_all : ∀ {ds : List D} {vs : List V}, RpA K ι H ds vs → vs.all flatV = ds.all flatD
  | _, _, .nil => rfl
  | _, _, .cons r t => by rw [List.all_cons, List.all_cons, flat_v r, flat_all t]
theorem eqF_v {d e : D} {v u : V} (r : Rp K ι H d v) (q : Rp K ι H e u) : eqV v u = eqF d e := by cases r <;> cases q <;> rfl
theorem inF_v {d : D} {v : V} (r : Rp K ι H d v) : ∀ {ds : List D} {vs : List V}, RpA K ι H ds vs → inV v vs = inF d ds
  | _, _, .nil => rfl
  | _, _, .cons q t => by
    show (eqV _ _ || _) = (eqF _ _ || _)
    rw [eqF_v q r]
    congr 1
    exact inF_v r t
end
def inD (M : Mem) (a b : D) : Option Bool := match a, b with
  | .str x, .str z => if h : x.cps.size = 1 then some (decide (x.cps[0] ∈ z.cps.toList)) else none
  | d, .tup xs => if flatD d = true ∧ xs.all flatD = true then some (inF d xs) else none
  | d, .ref n => match seqAt M n with
    | some xs => if flatD d = true ∧ xs.all flatD = true then some (inF d xs) else none
    | none => none
  | _, _ => none
def mIn : Op2 := fun a b M => (inD M a b).map fun k => (.bl k, M)
def mNotIn : Op2 := fun a b M => (inD M a b).map fun k => (.bl (!k), M)
theorem str1 {x : Str} (h : x.cps.size = 1) : x = ⟨#[x.cps[0]]⟩ := by
  obtain ⟨⟨l⟩⟩ := x
  match l, h with
  | [c], _ => rfl
theorem o_in {X : Cx} : OpR X (compareOp .In) (rD2 X.K mIn) := by
  refine OpR.imp (op_in_sign.or op_in_seq) fun x y H Q h => ?_
  obtain ⟨ι, M, a, b, S, ra, rb, h⟩ := h
  unfold mIn inD at h
  split at h
  · cases ra.str_inv; cases rb.str_inv
    split at h
    · rename_i c
      exact .inl ⟨_, _, congrArg V.str (str1 c), rfl, h.val S (.bl _)⟩
    · exact h.elim
  · obtain ⟨p, vs, rfl, t1, r1⟩ := rb.tup_inv
    split at h
    · rename_i c
      refine .inr ⟨_, vs, rfl, .inr t1, by rw [flat_v ra]; exact c.1, by rw [flat_all r1]; exact c.2, ?_⟩
      rw [inF_v ra r1]
      exact h.val S (.bl _)
    · exact h.elim
  · obtain ⟨p, rfl, hp⟩ := rb.ref_inv
    split at h
    · rename_i m
      obtain ⟨vs, h1, r1⟩ := S.seq hp m
      split at h
      · rename_i c
        refine .inr ⟨_, vs, rfl, .inl h1, by rw [flat_v ra]; exact c.1, by rw [flat_all r1]; exact c.2, ?_⟩
        rw [inF_v ra r1]
        exact h.val S (.bl _)
      · exact h.elim
    · exact h.elim
  · exact h.elim
theorem o_notIn {X : Cx} : OpR X (compareOp .NotIn) (rD2 X.K mNotIn) := by
  refine OpR.imp (op_notIn_sign.or op_notIn_seq) fun x y H Q h => ?_
  obtain ⟨ι, M, a, b, S, ra, rb, h⟩ := h
  unfold mNotIn inD at h
  split at h
  · cases ra.str_inv; cases rb.str_inv
    split at h
    · rename_i c
      exact .inl ⟨_, _, congrArg V.str (str1 c), rfl, h.val S (.bl _)⟩
    · exact h.elim
  · obtain ⟨p, vs, rfl, t1, r1⟩ := rb.tup_inv
    split at h
    · rename_i c
      refine .inr ⟨_, vs, rfl, .inr t1, by rw [flat_v ra]; exact c.1, by rw [flat_all r1]; exact c.2, ?_⟩
      rw [inF_v ra r1]
      exact h.val S (.bl _)
    · exact h.elim
  · obtain ⟨p, rfl, hp⟩ := rb.ref_inv
    split at h
    · rename_i m
      obtain ⟨vs, h1, r1⟩ := S.seq hp m
      split at h
      · rename_i c
        refine .inr ⟨_, vs, rfl, .inl h1, by rw [flat_v ra]; exact c.1, by rw [flat_all r1]; exact c.2, ?_⟩
        rw [inF_v ra r1]
        exact h.val S (.bl _)
      · exact h.elim
    · exact h.elim
  · exact h.elim
def mIdx : Op2 := fun a b M => match a, b with
  | .tup xs, .int i => (atI xs i).map fun d => (d, M)
  | .ref n, .int i => match seqAt M n with
    | some xs => (atI xs i).map fun d => (d, M)
    | none => none
  | .str z, .int i => if z.length ≤ sizeLine then (atI z.cps.toList i).map fun c => (.str ⟨#[c]⟩, M) else none
  | _, _ => none
section
variable {K : PySem.W.Frag} {ι : List Addr} {H : Hp} {M : Mem}
theorem atI_v {ds : List D} {vs : List V} {i : Int} {d : D} (r : RpA K ι H ds vs) (h : atI ds i = some d) : ∃ v, atI vs i = some v ∧ Rp K ι H d v := by
  unfold atI at h ⊢
  rw [← r.length]
  cases q : ixN ds.length i with
  | none => rw [q] at h; cases h
  | some j =>
    rw [q] at h
    exact r.get (i := j) h
end
theorem ix_D {X : Cx} : IxR X (rD2 X.K mIdx) := by
  refine IxR.imp ix_seq fun x y H Q h => ?_
  obtain ⟨ι, M, a, b, S, ra, rb, h⟩ := h
  unfold mIdx at h
  split at h
  · cases rb.int_inv
    obtain ⟨p, vs, rfl, t1, r1⟩ := ra.tup_inv
    rename_i xs i
    cases q : atI xs i with
    | none => rw [q] at h; exact h.elim
    | some d =>
      rw [q] at h
      obtain ⟨v, e, rv⟩ := atI_v r1 q
      exact .inr (.inl ⟨_, _, _, v, rfl, rfl, t1, e, h.val S rv⟩)
  · cases rb.int_inv
    obtain ⟨p, rfl, hp⟩ := ra.ref_inv
    split at h
    · rename_i xs m
      obtain ⟨vs, h1, r1⟩ := S.seq hp m
      rename_i i _
      cases q : atI xs i with
      | none => rw [q] at h; exact h.elim
      | some d =>
        rw [q] at h
        obtain ⟨v, e, rv⟩ := atI_v r1 q
        exact .inl ⟨_, _, _, v, rfl, rfl, h1, e, h.val S rv⟩
    · exact h.elim
  · cases ra.str_inv; cases rb.int_inv
    split at h
    · rename_i z i c
      cases q : atI z.cps.toList i with
      | none => rw [q] at h; exact h.elim
      | some d =>
        rw [q] at h
        exact .inr (.inr ⟨_, _, _, rfl, rfl, c, q, h.val S (.str _)⟩)
    · exact h.elim
  · exact h.elim
/-- the items from lo to hi -/
def cutL {α : Type} (xs : List α) (lo hi : Option Int) : List α := (xs.drop (HT.sIx xs.length 0 lo)).take (HT.sIx xs.length xs.length hi - HT.sIx xs.length 0 lo)
def mSl : D → Option Int → Option Int → Mem → Option (D × Mem) := fun d lo hi M => match d with
  | .tup xs => some (.tup (cutL xs lo hi), M)
  | .ref n => match seqAt M n with
    | some xs => some (.ref M.length, M ++ [.lst (cutL xs lo hi)])
    | none => none
  | .str z => if z.length ≤ sizeLine then some (.str (cutS z lo hi), M) else none
  | _ => none
section
variable {K : PySem.W.Frag} {ι : List Addr} {H : Hp} {M : Mem}
theorem cut_v {ds : List D} {vs : List V} {lo hi : Option Int} (r : RpA K ι H ds vs) : RpA K ι H (cutL ds lo hi) (cutV vs lo hi) := by
  unfold cutL cutV
  rw [← r.length]
  exact (r.drop _).take _
theorem cut_whole {α : Type} {xs : List α} {lo hi : Option Int} (h : HT.sIx xs.length 0 lo = 0 ∧ HT.sIx xs.length xs.length hi = xs.length) : cutL xs lo hi = xs := by
  unfold cutL
  rw [h.1, h.2]
  simp
end
theorem sl_D {X : Cx} : SlR X (rDSl X.K mSl) := by
  refine SlR.imp ((sl_tupA.or sl_list).or sl_str) fun x lo hi H Q h => ?_
  obtain ⟨ι, M, a, S, ra, h⟩ := h
  unfold mSl at h
  split at h
  · obtain ⟨p, vs, rfl, t1, r1⟩ := ra.tup_inv
    refine .inl (.inl ⟨_, vs, rfl, t1, fun e => ?_, fun _ => h.newTup S (cut_v r1)⟩)
    refine h.val S (.tup t1 ?_)
    rw [← r1.length] at e
    rw [cut_whole e]
    exact r1
  · obtain ⟨p, rfl, hp⟩ := ra.ref_inv
    split at h
    · rename_i m
      obtain ⟨vs, h1, r1⟩ := S.seq hp m
      exact .inl (.inr ⟨_, vs, rfl, h1, h.newLst S (cut_v r1)⟩)
    · exact h.elim
  · cases ra.str_inv
    split at h
    · exact .inr ⟨_, rfl, by assumption, h.val S (.str _)⟩
    · exact h.elim
  · exact h.elim
end TL
end
section
namespace TL
open PySem PySem.Spec PyProof.Rows L2
def eVar (i : Nat) : ME := fun env M => match env[i]? with
  | some (some d) => .ok d M
  | _ => .stuck
def eC (d : D) : ME := fun _ M => .ok d M
def eBin (f : Op2) (a b : ME) : ME := fun env M => (a env M).bind fun x M1 => (b env M1).bind fun y M2 => liftO (f x y M2)
def eUn (f : Op1) (a : ME) : ME := fun env M => (a env M).bind fun x M1 => liftO (f x M1)
def kBl {β : Type} (d : D) (f : Bool → Out β) : Out β := match d with
  | .bl k => f k
  | _ => .stuck
@[simp] theorem kBl_bl {β : Type} (k : Bool) (f : Bool → Out β) : kBl (.bl k) f = f k := rfl
def eChain (f g : Op2) (a b c : ME) : ME := fun env M => (a env M).bind fun x M1 => (b env M1).bind fun y M2 => (liftO (f x y M2)).bind fun z M3 => kBl z fun k =>
  if k = true then (c env M3).bind fun w M4 => liftO (g y w M4) else .ok (.bl false) M3
def eAnd (a b : ME) : ME := fun env M => (a env M).bind fun x M1 => kBl x fun k => if k = true then b env M1 else .ok (.bl false) M1
def eOr (a b : ME) : ME := fun env M => (a env M).bind fun x M1 => kBl x fun k => if k = true then .ok (.bl true) M1 else b env M1
def eNot (a : ME) : ME := fun env M => (a env M).bind fun x M1 => kBl x fun k => .ok (.bl (!k)) M1
def eIf (t : MT) (a b : ME) : ME := fun env M => (t env M).bind fun k M1 => if k = true then a env M1 else b env M1
def truD (M : Mem) (d : D) : Option Bool := match d with
  | .non => some false
  | .bl b => some b
  | .int i => some (i != 0)
  | .str x => if x.length ≤ sizeLine then some ((x.length : Int) != 0) else none
  | .tup xs => some (!xs.isEmpty)
  | .ref n => (seqAt M n).map fun xs => !xs.isEmpty
  | .err _ => none
def tB (e : ME) : MT := fun env M => (e env M).bind fun d M1 => kBl d fun k => .ok k M1
def tTru (e : ME) : MT := fun env M => (e env M).bind fun d M1 => match truD M1 d with
  | some k => .ok k M1
  | none => .stuck
def tAnd (a b : MT) : MT := fun env M => (a env M).bind fun k M1 => if k = true then b env M1 else .ok false M1
def tOr (a b : MT) : MT := fun env M => (a env M).bind fun k M1 => if k = true then .ok true M1 else b env M1
def tNot (a : MT) : MT := fun env M => (a env M).bind fun k M1 => .ok (!k) M1
def aNil : MA := fun _ M => .ok [] M
def aCons (a : ME) (r : MA) : MA := fun env M => (a env M).bind fun x M1 => (r env M1).bind fun xs M2 => .ok (x :: xs) M2
def eTup (a : MA) : ME := fun env M => (a env M).bind fun xs M1 => if xs.length ≤ 1000 then .ok (.tup xs) M1 else .stuck
def eLst (a : MA) : ME := fun env M => (a env M).bind fun xs M1 => if xs.length ≤ 1000 then .ok (.ref M1.length) (M1 ++ [.lst xs]) else .stuck
def eCall (m : List D → Mem → Out D) (a : MA) : ME := fun env M => (a env M).bind m
def eCallO (f : OpN) (a : MA) : ME := fun env M => (a env M).bind fun xs M1 => liftO (f xs M1)
def kInt {β : Type} (d : D) (f : Int → Out β) : Out β := match d with
  | .int k => f k
  | _ => .stuck
@[simp] theorem kInt_int {β : Type} (k : Int) (f : Int → Out β) : kInt (.int k) f = f k := rfl
/-- a slice's part -/
abbrev MO' := Env → Mem → Out (Option Int)
def oNone : MO' := fun _ M => .ok none M
def oSome (a : ME) : MO' := fun env M => (a env M).bind fun x M1 => kInt x fun i => .ok (some i) M1
def eSl (a : ME) (lo hi : MO') : ME := fun env M => (a env M).bind fun x M1 => (lo env M1).bind fun l M2 => (hi env M2).bind fun h M3 => liftO (mSl x l h M3)
section
variable {K : PySem.W.Frag} {W : Value → Option Addr → Hp → Prop} {ι : List Addr} {H : Hp} {M : Mem}
theorem OutP.val {α : Type} {a : α} {R : α → Mem → List Addr → Hp → Prop} (S : SR K ι H M) (h : OutP K W ι H (.ok a M) R) : R a M ι H := h ι H Ext.refl S
theorem kBl_inv {β : Type} {d : D} {f : Bool → Out β} {R : β → Mem → List Addr → Hp → Prop} (h : OutP K W ι H (kBl d f) R) : ∃ k, d = .bl k ∧ OutP K W ι H (f k) R := by
  cases d with
  | bl k => exact ⟨k, rfl, h⟩
  | _ => exact h.elim
theorem kInt_inv {β : Type} {d : D} {f : Int → Out β} {R : β → Mem → List Addr → Hp → Prop} (h : OutP K W ι H (kInt d f) R) : ∃ k, d = .int k ∧ OutP K W ι H (f k) R := by
  cases d with
  | int k => exact ⟨k, rfl, h⟩
  | _ => exact h.elim
end
section
variable {X : Cx} {W : WX} {k : Nat}
variable {a b c e : Expr} {es : List Expr} {ma mb mc me : ME} {mas : MA} {pos : Pos} {mt mu : MT}
theorem d_var {i : Nat} {x : Str} (hN : X.N[i]? = some x := by rfl) (hv : Vis X.env.scope x := by first | exact Or.inl rfl | exact Or.inr (Or.inl rfl) | exact Or.inr (Or.inr rfl)) (hd : (x == ("__debug__" : Str)) = false := by decide)
    (hcd : (x == ("__classdict__" : Str)) = false := by decide) : PE X (.Name x pos) (LE X.K W (eVar i)) := (pe_var hN hv hd hcd).imp fun σ H Q ⟨ι, env, M, S, R, h⟩ => by
  unfold eVar at h
  split at h
  · rename_i d e
    obtain ⟨v, h1, h2⟩ := R.get e
    exact ⟨v, h1, h.val S v h2⟩
  · exact h.elim
theorem d_int {i : Int} {j : Nat} : PE X (.Constant (.int i) j pos) (LE X.K W (eC (.int i))) := pe_int.imp fun σ H Q ⟨ι, env, M, S, R, h⟩ => h.val S _ (.int i)
theorem d_str {x : Str} {j : Nat} : PE X (.Constant (.str x) j pos) (LE X.K W (eC (.str x))) := pe_str.imp fun σ H Q ⟨ι, env, M, S, R, h⟩ => h.val S _ (.str x)
theorem d_bl {x : Bool} {j : Nat} : PE X (.Constant (.bool x) j pos) (LE X.K W (eC (.bl x))) := pe_bl.imp fun σ H Q ⟨ι, env, M, S, R, h⟩ => h.val S _ (.bl x)
theorem d_non {j : Nat} : PE X (.Constant .none j pos) (LE X.K W (eC .non)) := pe_non.imp fun σ H Q ⟨ι, env, M, S, R, h⟩ => h.val S _ .non
/-- a module's constant -/
structure Glob (K : PySem.W.Frag) (mg : Str → Option Value) (x : Str) (d : D) : Prop where
  ex : ∃ (v : V) (u : Value), mg x = some u ∧ RelV v u ∧ ∀ ι H, Rp K ι H d v
theorem d_glob {x : Str} {d : D} (G : Glob X.K X.mg x d) (hg : Gl X x := by rfl) (hd : (x == ("__debug__" : Str)) = false := by decide) : PE X (.Name x pos) (LE X.K W (eC d)) := by
  obtain ⟨v, u, hm, r, q⟩ := G.ex
  exact (pe_glob hg hm r hd).imp fun σ H Q ⟨ι, env, M, S, R, h⟩ => h.val S v (q ι H)
/-- two in a row -/
theorem le_bin {r : R2} {f : Op2} (hr : ∀ x y H Q, rD2 X.K f x y H Q → r x y H Q) {σ : L2.St} {H : Hp} {Q : VK} (h : LE X.K W (eBin f ma mb) σ H Q) : tOp r (LE X.K W ma) (LE X.K W mb) σ H Q := by
  obtain ⟨ι, env, M, S, R, h⟩ := h
  exact ⟨ι, env, M, S, R, (OutP.bind h).imp fun x M1 ι1 H1 e1 S1 h1 v rv => ⟨ι1, env, M1, S1, R.ext e1, (OutP.bind h1).imp fun y M2 ι2 H2 e2 S2 h2 u ru =>
    hr _ _ _ _ ⟨ι2, M2, x, y, S2, rv.ext e2, ru, OpO.of h2⟩⟩⟩
theorem d_bin {op : Operator} {f : Op2} (ho : OpR X (binaryOp op) (rD2 X.K f)) (ha : PE X a (LE X.K W ma)) (hb : PE X b (LE X.K W mb)) : PE X (.BinOp a op b pos) (LE X.K W (eBin f ma mb)) :=
  (pe_op ho ha hb).imp fun σ H Q h => le_bin (fun _ _ _ _ z => z) h
theorem d_cmp {op : CmpOp} {f : Op2} (ho : OpR X (compareOp op) (rD2 X.K f)) (ha : PE X a (LE X.K W ma)) (hb : PE X b (LE X.K W mb)) (hm : behindInMarks op b = false) : PE X (.Compare a [op] [b] pos) (LE X.K W (eBin f ma mb)) :=
  (pe_cmpR ho ha hb hm).imp fun σ H Q h => le_bin (fun _ _ _ _ z => z) h
theorem d_idx (ha : PE X a (LE X.K W ma)) (hb : PE X b (LE X.K W mb)) (hs : PlainIx b := by exact fun _ _ => rfl) : PE X (.Subscript a b pos) (LE X.K W (eBin mIdx ma mb)) :=
  (pe_ix ix_D ha hb hs).imp fun σ H Q h => le_bin (fun _ _ _ _ z => z) h
theorem d_un {op : UnaryOp} {f : Op1} (ho : UnR X (unaryOp op) (rD1 X.K f)) (ha : PE X a (LE X.K W ma)) : PE X (.UnaryOp op a pos) (LE X.K W (eUn f ma)) :=
  (pe_un ho ha).imp fun σ H Q ⟨ι, env, M, S, R, h⟩ => ⟨ι, env, M, S, R, (OutP.bind h).imp fun x M1 ι1 H1 e1 S1 h1 v rv => ⟨ι1, M1, x, S1, rv, OpO.of h1⟩⟩
/-- a written negative number -/
theorem le_chain {f g : Op2} {σ : L2.St} {H : Hp} {Q : VK} (h : LE X.K W (eChain f g ma mb mc) σ H Q) : tChain (rD2 X.K f) (rD2 X.K g) (LE X.K W ma) (LE X.K W mb) (LE X.K W mc) σ H Q := by
  obtain ⟨ι, env, M, S, R, h⟩ := h
  refine ⟨ι, env, M, S, R, (OutP.bind h).imp fun x M1 ι1 H1 e1 S1 h1 v rv => ⟨ι1, env, M1, S1, R.ext e1, (OutP.bind h1).imp fun y M2 ι2 H2 e2 S2 h2 u ru => ?_⟩⟩
  refine ⟨ι2, M2, x, y, S2, rv.ext e2, ru, OpO.of ((OutP.bind h2).imp fun z M3 ι3 H3 e3 S3 h3 w rw => ?_)⟩
  obtain ⟨kk, rfl, h4⟩ := kBl_inv h3
  cases rw.bl_inv
  refine ⟨kk, rfl, ?_⟩
  cases kk with
  | false =>
    refine iteF ?_
    exact h4.val S3 _ (.bl _)
  | true =>
    refine iteT ?_
    exact ⟨ι3, env, M3, S3, R.ext ((e1.trans e2).trans e3), (OutP.bind h4).imp fun q M4 ι4 H4 e4 S4 h5 p rp => ⟨ι4, M4, y, q, S4, ru.ext (e3.trans e4), rp, OpO.of h5⟩⟩
theorem d_chain {op op' : CmpOp} {f g : Op2} (ho : OpR X (compareOp op) (rD2 X.K f)) (ho' : OpR X (compareOp op') (rD2 X.K g)) (ha : PE X a (LE X.K W ma)) (hb : PE X b (LE X.K W mb)) (hc : PE X c (LE X.K W mc))
    (hm : lastMarks [op, op'] [b, c] = false := by with_unfolding_all rfl) : PE X (.Compare a [op, op'] [b, c] pos) (LE X.K W (eChain f g ma mb mc)) :=
  (pe_chain ho ho' ha hb hc hm).imp fun σ H Q h => le_chain h
theorem d_one {op : BoolOp} (ha : PE X a (LE X.K W ma)) : PE X (.BoolOp op [a] pos) (LE X.K W ma) := pe_one ha
theorem d_and {rest : List Expr} (ha : PE X a (LE X.K W ma)) (hb : PE X (.BoolOp .And (b :: rest) pos) (LE X.K W mb)) : PE X (.BoolOp .And (a :: b :: rest) pos) (LE X.K W (eAnd ma mb)) :=
  (pe_and ha hb).imp fun σ H Q ⟨ι, env, M, S, R, h⟩ => ⟨ι, env, M, S, R, (OutP.bind h).imp fun x M1 ι1 H1 e1 S1 h1 v rv => by
    obtain ⟨kk, rfl, h4⟩ := kBl_inv h1
    cases rv.bl_inv
    refine ⟨kk, rfl, ?_⟩
    cases kk with
    | false => exact iteF (h4.val S1 _ (.bl _))
    | true => exact iteT ⟨ι1, env, M1, S1, R.ext e1, h4⟩⟩
theorem d_or {rest : List Expr} (ha : PE X a (LE X.K W ma)) (hb : PE X (.BoolOp .Or (b :: rest) pos) (LE X.K W mb)) : PE X (.BoolOp .Or (a :: b :: rest) pos) (LE X.K W (eOr ma mb)) :=
  (pe_or ha hb).imp fun σ H Q ⟨ι, env, M, S, R, h⟩ => ⟨ι, env, M, S, R, (OutP.bind h).imp fun x M1 ι1 H1 e1 S1 h1 v rv => by
    obtain ⟨kk, rfl, h4⟩ := kBl_inv h1
    cases rv.bl_inv
    refine ⟨kk, rfl, ?_⟩
    cases kk with
    | false => exact iteF ⟨ι1, env, M1, S1, R.ext e1, h4⟩
    | true => exact iteT (h4.val S1 _ (.bl _))⟩
theorem d_not (ha : PE X a (LE X.K W ma)) : PE X (.UnaryOp .Not a pos) (LE X.K W (eNot ma)) :=
  (pe_not ha).imp fun σ H Q ⟨ι, env, M, S, R, h⟩ => ⟨ι, env, M, S, R, (OutP.bind h).imp fun x M1 ι1 H1 e1 S1 h1 v rv => by
    obtain ⟨kk, rfl, h4⟩ := kBl_inv h1
    cases rv.bl_inv
    exact ⟨kk, rfl, h4.val S1 _ (.bl _)⟩⟩
theorem d_ifExp (hc : PT X c (LT X.K W mt)) (ha : PE X a (LE X.K W ma)) (hb : PE X b (LE X.K W mb)) : PE X (.IfExp c a b pos) (LE X.K W (eIf mt ma mb)) :=
  (pe_ifExp hc ha hb).imp fun σ H Q ⟨ι, env, M, S, R, h⟩ => ⟨ι, env, M, S, R, (OutP.bind h).imp fun kk M1 ι1 H1 e1 S1 h1 => by
    show if kk = true then _ else _
    cases kk with
    | false => exact iteF ⟨ι1, env, M1, S1, R.ext e1, h1⟩
    | true => exact iteT ⟨ι1, env, M1, S1, R.ext e1, h1⟩⟩
theorem lt_tB {t : TE} {σ : L2.St} {H : Hp} {Q : Bool → Hp → Prop} (hk : ∀ Q, LE X.K W me σ H Q → t σ H Q) (h : LT X.K W (tB me) σ H Q) : tTest t σ H Q := by
  obtain ⟨ι, env, M, S, R, h⟩ := h
  refine hk _ ⟨ι, env, M, S, R, (OutP.bind h).imp fun x M1 ι1 H1 e1 S1 h1 v rv => ?_⟩
  obtain ⟨kk, rfl, h4⟩ := kBl_inv h1
  cases rv.bl_inv
  exact ⟨kk, rfl, h4.val S1⟩
theorem dt_cmp {op : CmpOp} {f : Op2} (ho : OpR X (compareOp op) (rD2 X.K f)) (ha : PE X a (LE X.K W ma)) (hb : PE X b (LE X.K W mb)) (hm : behindInMarks op b = false) : PT X (.Compare a [op] [b] pos) (LT X.K W (tB (eBin f ma mb))) :=
  (pt_cmpR ho ha hb hm).imp fun σ H Q h => lt_tB (fun Q h => le_bin (fun _ _ _ _ z => z) h) h
theorem dt_chain {op op' : CmpOp} {f g : Op2} (ho : OpR X (compareOp op) (rD2 X.K f)) (ho' : OpR X (compareOp op') (rD2 X.K g)) (ha : PE X a (LE X.K W ma)) (hb : PE X b (LE X.K W mb)) (hc : PE X c (LE X.K W mc))
    (hm : lastMarks [op, op'] [b, c] = false := by with_unfolding_all rfl) : PT X (.Compare a [op, op'] [b, c] pos) (LT X.K W (tB (eChain f g ma mb mc))) :=
  (pt_chain ho ho' ha hb hc hm).imp fun σ H Q h => lt_tB (fun Q h => le_chain h) h
theorem dt_and1 (ha : PT X a (LT X.K W mt)) : PW X (.BoolOp .And [a] pos) (LT X.K W mt) := pw_and1 ha
theorem dt_or1 (ha : PT X a (LT X.K W mt)) : PW X (.BoolOp .Or [a] pos) (LT X.K W mt) := pw_or1 ha
theorem dt_and {rest : List Expr} (ha : PT X a (LT X.K W mt)) (hb : PW X (.BoolOp .And (b :: rest) pos) (LT X.K W mu)) : PW X (.BoolOp .And (a :: b :: rest) pos) (LT X.K W (tAnd mt mu)) :=
  (pw_and ha hb).imp fun σ H Q ⟨ι, env, M, S, R, h⟩ => ⟨ι, env, M, S, R, (OutP.bind h).imp fun kk M1 ι1 H1 e1 S1 h1 => by
    show if kk = true then _ else _
    cases kk with
    | false => exact iteF (h1.val S1)
    | true => exact iteT ⟨ι1, env, M1, S1, R.ext e1, h1⟩⟩
theorem dt_or {rest : List Expr} (ha : PT X a (LT X.K W mt)) (hb : PW X (.BoolOp .Or (b :: rest) pos) (LT X.K W mu)) : PW X (.BoolOp .Or (a :: b :: rest) pos) (LT X.K W (tOr mt mu)) :=
  (pw_or ha hb).imp fun σ H Q ⟨ι, env, M, S, R, h⟩ => ⟨ι, env, M, S, R, (OutP.bind h).imp fun kk M1 ι1 H1 e1 S1 h1 => by
    show if kk = true then _ else _
    cases kk with
    | false => exact iteF ⟨ι1, env, M1, S1, R.ext e1, h1⟩
    | true => exact iteT (h1.val S1)⟩
theorem dt_not (ha : PT X a (LT X.K W mt)) : PT X (.UnaryOp .Not a pos) (LT X.K W (tNot mt)) :=
  (pt_not ha).imp fun σ H Q ⟨ι, env, M, S, R, h⟩ => ⟨ι, env, M, S, R, (OutP.bind h).imp fun kk M1 ι1 H1 e1 S1 h1 => OutP.val (W := W1 W σ) (R := TR Q) (a := !kk) S1 h1⟩
theorem dt_tru (ha : PE X a (LE X.K W ma)) (he : ∀ whole, isTrue a X.env whole = (do let v ← whole; standAt a.pos; holding [v] (truthy v)) := by exact fun _ => rfl) : PT X a (LT X.K W (tTru ma)) :=
  (pt_truth ha he).imp fun σ H Q ⟨ι, env, M, S, R, h⟩ => ⟨ι, env, M, S, R, (OutP.bind h).imp fun d M1 ι1 H1 e1 S1 h1 v rv => by
    revert h1
    cases q : truD M1 d with
    | none => exact fun h1 => h1.elim
    | some kk =>
      intro h1
      refine ⟨kk, ?_, h1.val S1⟩
      cases d with
      | non => cases rv.non_inv; cases q; rfl
      | bl b => cases rv.bl_inv; cases q; rfl
      | int i => cases rv.int_inv; cases q; rfl
      | err x => cases q
      | str x =>
        cases rv.str_inv
        have q' : (if x.length ≤ sizeLine then some ((x.length : Int) != 0) else none) = some kk := q
        by_cases c : x.length ≤ sizeLine
        · rw [if_pos c] at q'; cases q'; exact ⟨c, rfl⟩
        · rw [if_neg c] at q'; cases q'
      | tup xs =>
        obtain ⟨p, vs, rfl, t1, r1⟩ := rv.tup_inv
        cases q
        refine .inr (.inl ⟨vs, t1, ?_⟩)
        cases r1 <;> rfl
      | ref n =>
        obtain ⟨p, rfl, hp⟩ := rv.ref_inv
        have q' : (seqAt M1 n).map (fun xs => !xs.isEmpty) = some kk := q
        cases q2 : seqAt M1 n with
        | none => rw [q2] at q'; cases q'
        | some xs =>
          rw [q2] at q'
          cases q'
          obtain ⟨vs, h1, r1⟩ := S1.seq hp q2
          refine .inl ⟨vs, h1, ?_⟩
          cases r1 <;> rfl⟩
theorem da_nil : PA X [] (LA X.K W aNil) := pa_nil.imp fun σ H Q ⟨ι, env, M, S, R, h⟩ => h.val S _ .nil
theorem da_cons (ha : PE X e (LE X.K W me)) (hr : PA X es (LA X.K W mas)) (hs : starEach (e :: es) X.env = (false, eval e X.env) :: starEach es X.env := by rfl) : PA X (e :: es) (LA X.K W (aCons me mas)) :=
  (pa_cons ha hr hs).imp fun σ H Q ⟨ι, env, M, S, R, h⟩ => ⟨ι, env, M, S, R, (OutP.bind h).imp fun x M1 ι1 H1 e1 S1 h1 v rv => ⟨ι1, env, M1, S1, R.ext e1, (OutP.bind h1).imp fun xs M2 ι2 H2 e2 S2 h2 vs rvs => h2.val S2 _ (.cons (rv.ext e2) rvs)⟩⟩
theorem d_tup {x1 : Nat} (h : PA X es (LA X.K W mas)) : PE X (.Tuple es x1 pos) (LE X.K W (eTup mas)) :=
  (pe_tup h).imp fun σ H Q ⟨ι, env, M, S, R, h⟩ => ⟨ι, env, M, S, R, (OutP.bind h).imp fun xs M1 ι1 H1 e1 S1 h1 vs rvs => by
    have hl := rvs.length
    revert h1
    split
    · intro h1
      exact ⟨by rw [← hl, sizeLine_eq]; omega, OpO.newTup S1 (h1 : OutP X.K (W1 W σ) ι1 H1 (.ok _ _) _) rvs⟩
    · exact fun h1 => h1.elim⟩
theorem d_lst (h : PA X es (LA X.K W mas)) : PE X (.List es pos) (LE X.K W (eLst mas)) :=
  (pe_lst h).imp fun σ H Q ⟨ι, env, M, S, R, h⟩ => ⟨ι, env, M, S, R, (OutP.bind h).imp fun xs M1 ι1 H1 e1 S1 h1 vs rvs => by
    have hl := rvs.length
    revert h1
    split
    · intro h1
      exact ⟨by rw [← hl, sizeLine_eq]; omega, OpO.newLst S1 (h1 : OutP X.K (W1 W σ) ι1 H1 (.ok _ _) _) rvs⟩
    · exact fun h1 => h1.elim⟩
def LO (K : PySem.W.Frag) (W : WX) (m : MO') : TO := fun σ H Q => ∃ ι env M, SR K ι H M ∧ EnvR K ι H env σ ∧ OutP K (W1 W σ) ι H (m env M) (fun o _ _ H' => Q o H')
theorem _root_.L2.PO.imp {e : Option Expr} {t t' : TO} (h : PO X e t) (k : ∀ σ H Q, t' σ H Q → t σ H Q) : PO X e t' := ⟨fun pins s σ H Q I q => h.run pins s σ H Q I (k σ H Q q)⟩
theorem do_none : PO X none (LO X.K W oNone) := po_none.imp fun σ H Q ⟨ι, env, M, S, R, h⟩ => h.val S
theorem do_some (ha : PE X a (LE X.K W ma)) : PO X (some a) (LO X.K W (oSome ma)) :=
  (po_some ha).imp fun σ H Q ⟨ι, env, M, S, R, h⟩ => ⟨ι, env, M, S, R, (OutP.bind h).imp fun x M1 ι1 H1 e1 S1 h1 v rv => by
    obtain ⟨i, rfl, h2⟩ := kInt_inv h1
    cases rv.int_inv
    exact ⟨i, rfl, h2.val S1⟩⟩
theorem d_sl {lo hi : Option Expr} {ml mh : MO'} {p2 : Pos} (ha : PE X a (LE X.K W ma)) (hl : PO X lo (LO X.K W ml)) (hh : PO X hi (LO X.K W mh)) : PE X (.Subscript a (.Slice lo hi none p2) pos) (LE X.K W (eSl ma ml mh)) :=
  (pe_slice sl_D ha hl hh).imp fun σ H Q ⟨ι, env, M, S, R, h⟩ => ⟨ι, env, M, S, R, (OutP.bind h).imp fun x M1 ι1 H1 e1 S1 h1 v rv =>
    ⟨ι1, env, M1, S1, R.ext e1, (OutP.bind h1).imp fun l M2 ι2 H2 e2 S2 h2 => ⟨ι2, env, M2, S2, R.ext (e1.trans e2), (OutP.bind h2).imp fun h M3 ι3 H3 e3 S3 h3 => ⟨ι3, M3, x, S3, rv.ext (e2.trans e3), OpO.of h3⟩⟩⟩⟩
end
end TL
end
section
namespace TL
open PySem PySem.Spec PyProof.Rows L2
def nLen : OpN := fun ds M => match ds with
  | [.str x] => if x.length ≤ sizeLine then some (.int (x.length : Nat), M) else none
  | [.tup xs] => some (.int (xs.length : Nat), M)
  | [.ref n] => (seqAt M n).map fun xs => (.int (xs.length : Nat), M)
  | _ => none
def nMax2 : OpN := fun ds M => match ds with
  | [.int i, .int j] => some (.int (if j > i then j else i), M)
  | _ => none
def nMin2 : OpN := fun ds M => match ds with
  | [.int i, .int j] => some (.int (if j < i then j else i), M)
  | _ => none
def nList : OpN := fun ds M => match ds with
  | [.tup xs] => some (.ref M.length, M ++ [.lst xs])
  | [.ref n] => (seqAt M n).map fun xs => (.ref M.length, M ++ [.lst xs])
  | _ => none
def nTuple : OpN := fun ds M => match ds with
  | [.tup xs] => some (.tup xs, M)
  | [.ref n] => (seqAt M n).map fun xs => (.tup xs, M)
  | _ => none
section
variable {K : PySem.W.Frag} {ι : List Addr} {H : Hp} {M : Mem}
theorem RpA.one_inv {d : D} {vs : List V} (r : RpA K ι H [d] vs) : ∃ v, vs = [v] ∧ Rp K ι H d v := by
  cases r with | cons h t => cases t; exact ⟨_, rfl, h⟩
theorem RpA.two_inv {d e : D} {vs : List V} (r : RpA K ι H [d, e] vs) : ∃ v u, vs = [v, u] ∧ Rp K ι H d v ∧ Rp K ι H e u := by
  cases r with | cons h t => cases t with | cons h' t => cases t; exact ⟨_, _, rfl, h, h'⟩
end
section
variable {X : Cx}
theorem c_len : CallR X (.builtin "len") (rDN X.K nLen) := by
  refine CallR.imp call_len fun xs H Q h => ?_
  obtain ⟨ι, M, ds, S, r, h⟩ := h
  unfold nLen at h
  split at h
  · obtain ⟨v, rfl, r1⟩ := r.one_inv
    cases r1.str_inv
    split at h
    · exact ⟨_, _, rfl, ⟨by assumption, rfl⟩, h.val S (.int _)⟩
    · exact h.elim
  · obtain ⟨v, rfl, r1⟩ := r.one_inv
    obtain ⟨p, vs, rfl, t1, r2⟩ := r1.tup_inv
    exact ⟨_, _, rfl, .inr ⟨vs, t1, rfl⟩, by rw [← r2.length]; exact h.val S (.int _)⟩
  · rename_i n
    obtain ⟨v, rfl, r1⟩ := r.one_inv
    obtain ⟨p, rfl, hp⟩ := r1.ref_inv
    cases q : seqAt M n with
    | none => rw [q] at h; exact h.elim
    | some xs =>
      rw [q] at h
      obtain ⟨vs, h1, r2⟩ := S.seq hp q
      exact ⟨_, _, rfl, .inl ⟨vs, h1, rfl⟩, by rw [← r2.length]; exact h.val S (.int _)⟩
  · exact h.elim
theorem c_min2 (hc : X.calm = true) : CallR X (.builtin "min") (rDN X.K nMin2) := by
  refine CallR.imp (call_min2 hc) fun xs H Q h => ?_
  obtain ⟨ι, M, ds, S, r, h⟩ := h
  unfold nMin2 at h
  split at h
  · obtain ⟨v, u, rfl, r1, r2⟩ := r.two_inv
    cases r1.int_inv; cases r2.int_inv
    exact ⟨_, _, rfl, h.val S (.int _)⟩
  · exact h.elim
theorem c_tuple : CallR X (.type "tuple") (rDN X.K nTuple) := by
  refine CallR.imp call_tuple_of fun xs H Q h => ?_
  obtain ⟨ι, M, ds, S, r, h⟩ := h
  unfold nTuple at h
  split at h
  · obtain ⟨v, rfl, r1⟩ := r.one_inv
    obtain ⟨p, vs, rfl, t1, r2⟩ := r1.tup_inv
    exact ⟨_, vs, rfl, .inr ⟨t1, h.val S (.tup t1 r2)⟩⟩
  · rename_i n
    obtain ⟨v, rfl, r1⟩ := r.one_inv
    obtain ⟨p, rfl, hp⟩ := r1.ref_inv
    cases q : seqAt M n with
    | none => rw [q] at h; exact h.elim
    | some xs =>
      rw [q] at h
      obtain ⟨vs, h1, r2⟩ := S.seq hp q
      exact ⟨_, vs, rfl, .inl ⟨h1, h.newTup S r2⟩⟩
  · exact h.elim
end
def tyName (M : Mem) : D → Option String
  | .err _ => none
  | .non => some "NoneType"
  | .bl _ => some "bool"
  | .int _ => some "int"
  | .str _ => some "str"
  | .tup _ => some "tuple"
  | .ref n => (seqAt M n).map fun _ => "list"
def mIsi (T : String) : Op1 := fun d M => match tyName M d with
  | some t => (kitB t T).map fun b => (.bl b, M)
  | none => none
def eIsi (T : String) (a : ME) : ME := eUn (mIsi T) a
section
variable {X : Cx} {W : WX} {e : Expr} {me : ME}
theorem tyX_of {ι : List Addr} {H : Hp} {M : Mem} {d : D} {v : V} {t : String} (S : SR X.K ι H M) (r : Rp X.K ι H d v) (h : tyName M d = some t) : TyX X.K H v (.type t) := by
  cases d with
  | non => cases r.non_inv; cases h; exact .base .non
  | bl b => cases r.bl_inv; cases h; exact .base (.bl _)
  | int i => cases r.int_inv; cases h; exact .base (.int _)
  | str x => cases r.str_inv; cases h; exact .base (.str _)
  | err x => cases h
  | tup xs =>
    obtain ⟨p, vs, rfl, t1, r1⟩ := r.tup_inv
    cases h
    rcases t1 with (h | ⟨o, h⟩) | ⟨o, its, n, h1, h2, _⟩
    · exact .base (.tup h)
    · exact .fTuple h
    · exact .kTuple h1 h2
  | ref n =>
    obtain ⟨p, rfl, hp⟩ := r.ref_inv
    have h' : (seqAt M n).map (fun _ => "list") = some t := h
    cases q : seqAt M n with
    | none => rw [q] at h'; cases h'
    | some xs =>
      rw [q] at h'
      cases h'
      obtain ⟨vs, h1, r2⟩ := S.seq hp q
      rcases h1 with (h | ⟨o, h⟩) | ⟨o, its, n, h1, h2, _⟩
      · exact .base (.lst h)
      · exact .base (.frz h)
      · exact .kList h1 h2
theorem d_isi {T : Str} {U : String} {p p2 pos : Pos} (hg : Gl X "isinstance") (hm : X.mg "isinstance" = none) (hg2 : Gl X T) (hm2 : X.mg T = none) (hv : bootBuiltins T = some (.type U)) (he : PE X e (LE X.K W me))
    (hn : T ≠ "__name__" := by decide) (hd : (T == ("__debug__" : Str)) = false := by decide) (h1 : starEach [e, .Name T p2] X.env = (false, eval e X.env) :: starEach [.Name T p2] X.env := by rfl) (h2 : starEach [.Name T p2] X.env = (false, eval (.Name T p2) X.env) :: starEach [] X.env := by rfl)
    (h3 : (backTo pos (starEach [.Name T p2] X.env)).any (·.1) = false := by rfl) :
    PE X (.Call (.Name "isinstance" p) [e, .Name T p2] [] pos) (LE X.K W (eIsi U me)) :=
  (pe_callB call_isi hg hm boot_isinstance (pa_cons he (pa_cons (pe_bltn hg2 hm2 hv (v := .ty U) rfl hn hd) pa_nil h2) h1) (by decide) (by decide) h1 h3).imp fun σ H Q ⟨ι, env, M, S, R, h⟩ =>
    ⟨ι, env, M, S, R, (OutP.bind h).imp fun d M1 ι1 H1 e1 S1 h1 v rv => by
      revert h1
      unfold mIsi
      cases q : tyName M1 d with
      | none => exact fun h1 => h1.elim
      | some t =>
        intro h1
        cases q2 : kitB t U with
        | none => simp only [q2] at h1; exact h1.elim
        | some b =>
          simp only [q2] at h1
          exact ⟨v, .ty U, .type t, .type U, b, rfl, .ty U, tyX_of S1 rv q, kit_ty q2, OutP.val S1 h1 _ (.bl _)⟩⟩
end
section
variable {X : Cx} {W : WX} {e : Expr} {es : List Expr} {mas : MA} {x : Str} {p pos : Pos}
theorem d_callB {id : String} {f : OpN} (hc : CallR X (.builtin id) (rDN X.K f)) (hg : Gl X x) (hm : X.mg x = none) (hv : bootBuiltins x = some (.builtin id)) (ha : PA X (e :: es) (LA X.K W mas)) (hn : x ≠ "__name__" := by decide)
    (hd : (x == ("__debug__" : Str)) = false := by decide) (hst : starEach (e :: es) X.env = (false, eval e X.env) :: starEach es X.env := by rfl) (hpl : (backTo pos (starEach es X.env)).any (·.1) = false := by rfl) :
    PE X (.Call (.Name x p) (e :: es) [] pos) (LE X.K W (eCallO f mas)) :=
  (pe_callB hc hg hm hv ha hn hd hst hpl).imp fun σ H Q ⟨ι, env, M, S, R, h⟩ => ⟨ι, env, M, S, R, (OutP.bind h).imp fun ds M1 ι1 H1 e1 S1 h1 vs rv => ⟨ι1, M1, ds, S1, rv, OpO.of h1⟩⟩
theorem d_callTy {T : String} {f : OpN} (hc : CallR X (.type T) (rDN X.K f)) (hg : Gl X x) (hm : X.mg x = none) (hv : bootBuiltins x = some (.type T)) (ha : PA X (e :: es) (LA X.K W mas)) (hn : x ≠ "__name__" := by decide)
    (hd : (x == ("__debug__" : Str)) = false := by decide) (hst : starEach (e :: es) X.env = (false, eval e X.env) :: starEach es X.env := by rfl) (hpl : (backTo pos (starEach es X.env)).any (·.1) = false := by rfl) :
    PE X (.Call (.Name x p) (e :: es) [] pos) (LE X.K W (eCallO f mas)) :=
  (pe_callTy hc hg hm hv ha hn hd hst hpl).imp fun σ H Q ⟨ι, env, M, S, R, h⟩ => ⟨ι, env, M, S, R, (OutP.bind h).imp fun ds M1 ι1 H1 e1 S1 h1 vs rv => ⟨ι1, M1, ds, S1, rv, OpO.of h1⟩⟩
end
abbrev Fn := List D → Mem → Out D
/-- what a def of ours promises -/
def spD (K : PySem.W.Frag) (n : Nat) (m : Fn) : Sp := fun vs H Q E => vs.length = n ∧ ∃ ι ds M, SR K ι H M ∧ RpA K ι H ds vs ∧ OutP K E ι H (m ds M) (VR K Q)
structure Callee (P : Program) (w : World) (K : PySem.W.Frag) (mg : Str → Option Value) (base : Heap) (x : Str) (n k : Nat) (m : Fn) : Prop where
  ex : ∃ (f : Addr) (fd : FuncData) (ps : List Str), FnOk P w K mg base (L2N.CX P w) k f fd ps (spD K n m) ∧ mg x = some (.ref f) ∧ PySem.W.keepIn K (.ref f) = true ∧ Binds K fd ps [] ∧ ps.length = n
  len : ∀ ds M, ds.length ≠ n → m ds M = .stuck
theorem Callee.mono {P : Program} {w : World} {K : PySem.W.Frag} {mg : Str → Option Value} {base : Heap} {x : Str} {n j k : Nat} {m : Fn} (C : Callee P w K mg base x n j m) (h : j ≤ k) : Callee P w K mg base x n k m := by
  obtain ⟨f, fd, ps, F, a, b, c, d⟩ := C.ex
  exact ⟨⟨f, fd, ps, F.mono h, a, b, c, d⟩, C.len⟩
section
variable {X : Cx} {W : WX} {e : Expr} {es : List Expr} {mas : MA} {x : Str} {p pos : Pos}
theorem d_call {k k' n : Nat} {m : Fn} (C : Ctx X W k') (F : Callee X.prog X.w X.K X.mg X.base x n k m) (hk : k ≤ k') (ha : PA X (e :: es) (LA X.K W mas)) (hg : Gl X x := by rfl)
    (hdb : (x == ("__debug__" : Str)) = false := by decide) (hst : starEach (e :: es) X.env = (false, eval e X.env) :: starEach es X.env := by rfl) (hpl : (backTo pos (starEach es X.env)).any (·.1) = false := by rfl) :
    PE X (.Call (.Name x p) (e :: es) [] pos) (LE X.K W (eCall m mas)) := by
  have hlen := F.len
  obtain ⟨f, fd, ps, F, hm, kp, hb, _⟩ := F.ex
  refine (pe_callS F (C.room.mono hk) hg hm kp hb (fun σ => L2N.passAt C.tk σ) ha hdb hst hpl).imp fun σ H Q ⟨ι, env, M, S, R, h⟩ => ⟨ι, env, M, S, R, ?_⟩
  refine (OutP.bind h).imp fun ds M1 ι1 H1 e1 S1 h1 vs rv => ⟨?_, ι1, ds, M1, S1, rv, h1⟩
  rw [← rv.length]
  by_cases q : ds.length = n
  · exact q
  · rw [hlen ds M1 q] at h1
    exact h1.elim
end
def thenS {α : Type} (env : Env) (o : Out α) (f : α → Mem → SOut) : SOut := match o with
  | .ok a M => f a M
  | .exc x M => .exc x env M
  | .stuck => .stuck
@[simp] theorem thenS_ok {α : Type} (env : Env) (a : α) (M : Mem) (f : α → Mem → SOut) : thenS env (.ok a M) f = f a M := rfl
@[simp] theorem thenS_exc {α : Type} (env : Env) (x : Ex) (M : Mem) (f : α → Mem → SOut) : thenS env (.exc x M) f = .exc x env M := rfl
@[simp] theorem thenS_stuck {α : Type} (env : Env) (f : α → Mem → SOut) : thenS env .stuck f = .stuck := rfl
def nextS (o : SOut) (f : Env → Mem → SOut) : SOut := match o with
  | .next env M => f env M
  | o => o
@[simp] theorem nextS_next (env : Env) (M : Mem) (f : Env → Mem → SOut) : nextS (.next env M) f = f env M := rfl
@[simp] theorem nextS_ret (d : D) (M : Mem) (f : Env → Mem → SOut) : nextS (.ret d M) f = .ret d M := rfl
@[simp] theorem nextS_exc (x : Ex) (env : Env) (M : Mem) (f : Env → Mem → SOut) : nextS (.exc x env M) f = .exc x env M := rfl
@[simp] theorem nextS_stuck (f : Env → Mem → SOut) : nextS .stuck f = .stuck := rfl
def sNil : MS := fun env M => .next env M
def sSeq (a b : MS) : MS := fun env M => nextS (a env M) b
def sExpr (e : ME) : MS := fun env M => thenS env (e env M) fun _ M1 => .next env M1
def sRet (e : ME) : MS := fun env M => thenS env (e env M) fun d M1 => .ret d M1
def sRetN : MS := fun _ M => .ret .non M
def sIf (t : MT) (a b : MS) : MS := fun env M => thenS env (t env M) fun k M1 => if k = true then a env M1 else b env M1
/-- a target of names -/
abbrev MG := D → Env → Option Env
def gOne (i : Nat) : MG := fun d env => some (env.set i (some d))
def setAll : Env → List Nat → List D → Env
  | env, i :: is, d :: ds => setAll (env.set i (some d)) is ds
  | env, _, _ => env
def gTupD (is : List Nat) : MG := fun d env => match d with
  | .tup ds => if ds.length = is.length then some (setAll env is ds) else none
  | _ => none
def sAsg (g : MG) (e : ME) : MS := fun env M => thenS env (e env M) fun d M1 => match g d env with
  | some env' => .next env' M1
  | none => .stuck
/-- o[i] = v -/
def setD (o i v : D) (M : Mem) : Option Mem := match o, i with
  | .ref n, .int k => match M[n]? with
    | some (.lst xs) => (ixN xs.length k).map fun j => M.set n (.lst (xs.set j v))
    | _ => none
  | _, _ => none
def sSub (o i e : ME) : MS := fun env M => thenS env (e env M) fun v M1 => thenS env (o env M1) fun x M2 => thenS env (i env M2) fun y M3 => match setD x y v M3 with
  | some M4 => .next env M4
  | none => .stuck
/-- what a loop walks -/
structure Src where
  items : List D
  good : Mem → Prop
abbrev MI := Env → Mem → Out Src
open Classical in
noncomputable def forL (good : Mem → Prop) (g : MG) (b : MS) : List D → MS
  | [] => fun env M => if good M then .next env M else .stuck
  | d :: ds => fun env M => if good M then match g d env with
      | some env1 => nextS (b env1 M) (forL good g b ds)
      | none => .stuck
    else .stuck
noncomputable def sFor (i : MI) (g : MG) (b : MS) : MS := fun env M => thenS env (i env M) fun s M1 => forL s.good g b s.items env M1
section
variable {K : PySem.W.Frag} {W : WX} {ι : List Addr} {H : Hp} {M : Mem} {σ : L2.St} {env : Env} {En : Ends}
theorem thenS_out {α : Type} {o : Out α} {f : α → Mem → SOut} (R : EnvR K ι H env σ) (h : SOutP K W ι H (thenS env o f) En) : OutP K (W1 W σ) ι H o (fun a M ι1 H1 => SOutP K W ι1 H1 (f a M) En) := by
  cases o with
  | ok a M => exact fun ι1 H1 e1 S1 => SOutP.ext e1 h
  | exc x M => exact fun ι1 H1 cls dx e1 S1 ex => h ι1 σ H1 cls dx e1 S1 (R.ext e1) ex
  | stuck => exact h
theorem nextS_out {o : SOut} {f : Env → Mem → SOut} (h : SOutP K W ι H (nextS o f) En) : SOutP K W ι H o { En with nx := LS K W f En } := by
  cases o with
  | next env M => exact fun ι1 σ1 H1 e1 S1 R1 => ⟨ι1, env, M, S1, R1, SOutP.ext e1 h⟩
  | ret d M => exact h
  | exc x env M => exact h
  | stuck => exact h
theorem SOutP.next_val (S : SR K ι H M) (R : EnvR K ι H env σ) (h : SOutP K W ι H (.next env M) En) : En.nx σ H := h ι σ H Ext.refl S R
theorem SOutP.ret_val {d : D} {v : V} (S : SR K ι H M) (r : Rp K ι H d v) (h : SOutP K W ι H (.ret d M) En) : En.rt v H := h ι v H Ext.refl S r
theorem SOutP.imp {o : SOut} {En' : Ends} (h : SOutP K W ι H o En) (hn : ∀ σ H, En.nx σ H → En'.nx σ H) (hr : ∀ v H, En.rt v H → En'.rt v H) : SOutP K W ι H o En' := by
  cases o with
  | next env M => exact fun ι1 σ1 H1 e1 S1 R1 => hn _ _ (h ι1 σ1 H1 e1 S1 R1)
  | ret d M => exact fun ι1 v H1 e1 S1 R1 => hr _ _ (h ι1 v H1 e1 S1 R1)
  | exc x env M => exact h
  | stuck => exact h
end
/-- targets -/
def LG (K : PySem.W.Frag) (f : MG) : TG := fun v σ H Q => ∃ ι env d env', Rp K ι H d v ∧ EnvR K ι H env σ ∧ f d env = some env' ∧ ∀ σ', EnvR K ι H env' σ' → Q σ' H
theorem _root_.L2.PG.imp {X : Cx} {e : Expr} {t t' : TG} (h : PG X e t) (k : ∀ v σ H Q, t' v σ H Q → t v σ H Q) : PG X e t' := ⟨fun pins s σ H v u Q I r q => h.run pins s σ H v u Q I r (k v σ H Q q)⟩
def gsN : List Nat → TGs
  | [] => gNil
  | i :: is => gCons (gName i) (gsN is)
theorem gsN_ok {K : PySem.W.Frag} {ι : List Addr} {H : Hp} {Q : L2.St → Hp → Prop} : ∀ {is : List Nat} {ds : List D} {vs : List V} {env : Env} {σ : L2.St}, RpA K ι H ds vs → EnvR K ι H env σ → ds.length = is.length →
    (∀ σ', EnvR K ι H (setAll env is ds) σ' → Q σ' H) → gsN is vs σ H Q
  | [], [], _, env, σ, .nil, R, _, h => ⟨rfl, h σ R⟩
  | i :: is, d :: ds, _, env, σ, .cons r t, R, hl, h => ⟨_, _, rfl, gsN_ok (is := is) t (R.set r i) (by simpa using hl) h⟩
section
variable {X : Cx} {W : WX} {k : Nat} {st : Stmt} {rest sts body : List Stmt} {m mb : MS} {e c o i : Expr} {me mo mi : ME} {mt : MT} {pos pos' : Pos} {tgt : Expr} {g : MG}
theorem dg_name {i : Nat} {x : Str} (nd : X.N.Nodup) (hi : X.N[i]? = some x := by rfl) (hx : Loc X.env.scope x := by first | exact .inl rfl | exact .inr rfl) (hf : X.fn x = true ∨ X.env.scope.names.lookup x = some .local := by first | exact .inl rfl | exact .inr rfl) :
    PG X (.Name x pos) (LG X.K (gOne i)) := (pg_name nd hi hx hf).imp fun v σ H Q ⟨ι, env, d, env', r, R, h, q⟩ => by
  cases h
  exact q _ (R.set r i)
theorem dg_tup {is : List Nat} {n : Nat} {g : TGs} (h : PG X tgt (gTup X.K n g)) (hn : n = is.length := by rfl) (hg : g = gsN is := by rfl) : PG X tgt (LG X.K (gTupD is)) := h.imp fun v σ H Q ⟨ι, env, d, env', r, R, h, q⟩ => by
  unfold gTupD at h
  split at h
  · obtain ⟨p, vs, rfl, t1, r1⟩ := r.tup_inv
    split at h
    · rename_i hl
      cases h
      subst hn hg
      exact ⟨p, vs, rfl, t1, by rw [← r1.length]; exact hl, gsN_ok r1 R hl q⟩
    · cases h
  · cases h
theorem ds_nil : PSs X [] (LS X.K W sNil) := pss_nil.imp fun En σ H ⟨ι, env, M, S, R, h⟩ => h.next_val S R
theorem ds_cons (h1 : PS X st (LS X.K W m)) (h2 : PSs X rest (LS X.K W mb)) : PSs X (st :: rest) (LS X.K W (sSeq m mb)) :=
  (pss_cons h1 h2).imp fun En σ H ⟨ι, env, M, S, R, h⟩ => ⟨ι, env, M, S, R, nextS_out h⟩
theorem ds_one (h1 : PS X st (LS X.K W m)) : PSs X [st] (LS X.K W m) := pss_one h1
theorem ds_expr (he : PE X e (LE X.K W me)) (hs : swapsWith e none pos.line X.env = pure false := by rfl) : PS X (.Expr e pos) (LS X.K W (sExpr me)) :=
  (ps_expr he hs).imp fun En σ H ⟨ι, env, M, S, R, h⟩ => ⟨ι, env, M, S, R, (thenS_out R h).imp fun d M1 ι1 H1 e1 S1 h1 v rv => h1.next_val S1 (R.ext e1)⟩
theorem ds_ret (he : PE X e (LE X.K W me)) : PS X (.Return (some e) pos) (LS X.K W (sRet me)) :=
  (ps_ret he).imp fun En σ H ⟨ι, env, M, S, R, h⟩ => ⟨ι, env, M, S, R, (thenS_out R h).imp fun d M1 ι1 H1 e1 S1 h1 v rv => h1.ret_val S1 rv⟩
theorem ds_if {a b : List Stmt} {ma mb : MS} (hc : PT X c (LT X.K W mt)) (ha : PSs X a (LS X.K W ma)) (hb : PSs X b (LS X.K W mb)) : PS X (.If c a b pos) (LS X.K W (sIf mt ma mb)) :=
  (ps_if hc ha hb).imp fun En σ H ⟨ι, env, M, S, R, h⟩ => ⟨ι, env, M, S, R, (thenS_out R h).imp fun kk M1 ι1 H1 e1 S1 h1 => by
    show if kk = true then _ else _
    cases kk with
    | false => exact iteF ⟨ι1, env, M1, S1, R.ext e1, h1⟩
    | true => exact iteT ⟨ι1, env, M1, S1, R.ext e1, h1⟩⟩
theorem le_asg {tg : TG} {te : TE} {En : Ends} {σ : L2.St} {H : Hp} (he : ∀ Q, LE X.K W me σ H Q → te σ H Q) (hg : ∀ v σ H Q, LG X.K g v σ H Q → tg v σ H Q) (h : LS X.K W (sAsg g me) En σ H) : tAsg te tg En σ H := by
  obtain ⟨ι, env, M, S, R, h⟩ := h
  refine he _ ⟨ι, env, M, S, R, (thenS_out R h).imp fun d M1 ι1 H1 e1 S1 h1 v rv => ?_⟩
  revert h1
  cases q : g d env with
  | none => exact fun h1 => h1.elim
  | some env' => exact fun h1 => hg _ _ _ _ ⟨ι1, env, d, env', rv, R.ext e1, q, fun σ' R' => SOutP.next_val S1 R' h1⟩
theorem ds_asg (he : PE X e (LE X.K W me)) (hg : PG X tgt (LG X.K g)) (hs : swapsWithSole [tgt] e pos.line X.env = pure false := by rfl) (h2 : swappedStores [tgt] e X.env = pure none := by rfl) (h1 : (assignEach [tgt] X.env).map (·.2) = [assign tgt X.env] := by rfl) :
    PS X (.Assign [tgt] e pos) (LS X.K W (sAsg g me)) :=
  (ps_asg he hg hs h2 h1).imp fun En σ H h => le_asg (fun _ h => h) (fun _ _ _ _ h => h) h
theorem ds_set {i : Nat} {x : Str} (nd : X.N.Nodup) (he : PE X e (LE X.K W me)) (hi : X.N[i]? = some x := by rfl) (hx : Loc X.env.scope x := by first | exact .inl rfl | exact .inr rfl) (hs : swapsWith e (some (.Name x pos')) pos.line X.env = pure false := by rfl)
    (hf : X.fn x = true ∨ X.env.scope.names.lookup x = some .local := by first | exact .inl rfl | exact .inr rfl) : PS X (.Assign [.Name x pos'] e pos) (LS X.K W (sAsg (gOne i) me)) :=
  (ps_set nd hi hx he hs hf).imp fun En σ H h => le_asg (fun _ h => h) (fun v σ H Q ⟨ι, env, d, env', r, R, h, q⟩ => by cases h; exact q _ (R.set r i)) h
/-- o[i] = e -/
theorem set_D : PSet X (fun o i v H Q => ∃ ι M a b c, SR X.K ι H M ∧ Rp X.K ι H a o ∧ Rp X.K ι H b i ∧ Rp X.K ι H c v ∧ ∃ M', setD a b c M = some M' ∧ ∀ H', Ext X.K ι H ι H' → SR X.K ι H' M' → Q H') := by
  intro pins s σ H o i v ov iv u Q I ro ri rv h
  refine set_list pins s σ H o i v ov iv u Q I ro ri rv ?_
  obtain ⟨ι, M, a, b, c, S, ra, rb, rc, M', h, q⟩ := h
  unfold setD at h
  split at h
  · cases rb.int_inv
    obtain ⟨p, rfl, hp⟩ := ra.ref_inv
    split at h
    · rename_i kk _ xs m1
      obtain ⟨vs, h1, r1⟩ := S.lst hp m1
      cases q2 : ixN xs.length kk with
      | none => rw [q2] at h; cases h
      | some j =>
        rw [q2] at h
        cases h
        have nt : ¬ isTupO (H p) := by rw [h1]; exact fun z => z
        exact ⟨p, vs, kk, j, rfl, rfl, h1, by rw [← r1.length]; exact q2, q _ (Ext.upd nt) (S.write hp m1 rfl rfl ⟨_, upd_same, (r1.set rc j).ext (Ext.upd nt)⟩)⟩
    · cases h
  · cases h
theorem ds_sub (ho : PE X o (LE X.K W mo)) (hi : PE X i (LE X.K W mi)) (he : PE X e (LE X.K W me)) (hs : swapsWithSole [.Subscript o i pos'] e pos.line X.env = pure false := by rfl) (h2 : swappedStores [.Subscript o i pos'] e X.env = pure none := by rfl)
    (h1 : (assignEach [.Subscript o i pos'] X.env).map (·.2) = [assign (.Subscript o i pos') X.env] := by rfl)
    (ha : ∀ v, assign (.Subscript o i pos') X.env v = (do
      let ov ← holding [v] (eval o X.env)
      let iv ← holding [v, ov] (eval i X.env)
      standAt pos'
      holding [v, ov, iv] (setItem ov iv v)
      release [v, ov, iv] []) := by intro _; rfl) : PS X (.Assign [.Subscript o i pos'] e pos) (LS X.K W (sSub mo mi me)) :=
  (ps_asg he (pg_sub ho hi set_D ha) hs h2 h1).imp fun En σ H ⟨ι, env, M, S, R, h⟩ => ⟨ι, env, M, S, R, (thenS_out R h).imp fun v M1 ι1 H1 e1 S1 h1 vv rv =>
    ⟨ι1, env, M1, S1, R.ext e1, (thenS_out (R.ext e1) h1).imp fun x M2 ι2 H2 e2 S2 h2 xv rx => ⟨ι2, env, M2, S2, R.ext (e1.trans e2), (thenS_out (R.ext (e1.trans e2)) h2).imp fun y M3 ι3 H3 e3 S3 h3 yv ry => by
      revert h3
      cases q : setD x y v M3 with
      | none => exact fun h3 => h3.elim
      | some M4 => exact fun h3 => ⟨ι3, M3, x, y, v, S3, rx.ext e3, ry, rv.ext (e2.trans e3), M4, q, fun H' e4 S4 => h3 ι3 σ H' e4 S4 (R.ext (((e1.trans e2).trans e3).trans e4))⟩⟩⟩⟩
/-- what an iterator does -/
def SrcJ (K : PySem.W.Frag) (ι : List Addr) (H : Hp) (s : Src) (J : It) : Prop :=
  ∀ ι1 H1 M1, Ext K ι H ι1 H1 → SR K ι1 H1 M1 → s.good M1 → ∀ i : Nat, (∀ d, s.items[i]? = some d → J.go i H1 ∧ ∀ x H', J.yld i H1 x H' → Ext K ι1 H1 ι1 H' ∧ SR K ι1 H' M1 ∧ Rp K ι1 H' d x) ∧ (s.items.length ≤ i → J.stop i H1)
def LI (K : PySem.W.Frag) (W : WX) (m : MI) : TI := fun σ H R => ∃ ι env M, SR K ι H M ∧ EnvR K ι H env σ ∧ OutP K (W1 W σ) ι H (m env M) (fun s _ ι' H' => ∀ J, SrcJ K ι' H' s J → R J H')
theorem _root_.L2.PI.imp {X : Cx} {tg e : Expr} {t t' : TI} (h : PI X tg e t) (k : ∀ σ H Q, t' σ H Q → t σ H Q) : PI X tg e t' := ⟨fun pins s σ H Q I q => h.run pins s σ H Q I (k σ H Q q)⟩
theorem drop_at {α : Type} {l : List α} {i : Nat} {d : α} {ds : List α} (h : l.drop i = d :: ds) : l[i]? = some d ∧ l.drop (i + 1) = ds := by
  have h1 : (l.drop i)[0]? = some d := by rw [h]; rfl
  rw [List.getElem?_drop] at h1
  refine ⟨by simpa using h1, ?_⟩
  have h2 := congrArg (List.drop 1) h
  rw [List.drop_drop] at h2
  simpa using h2
theorem ds_for {iter : Expr} {msrc : MI} (C : Ctx X W k) (hi : PI X tgt iter (LI X.K W msrc)) (hg : PG X tgt (LG X.K g)) (hb : PSs X body (LS X.K W mb)) (hs : ∀ x, foldedSetIterable iter X.env x = pure x := by intro _; rfl) :
    PS X (.For tgt iter body [] pos) (LS X.K W (sFor msrc g mb)) :=
  (ps_for C.pass C.calm hi hg hb hs).imp fun En σ H ⟨ι, env, M, S, R, h⟩ => ⟨ι, env, M, S, R, (thenS_out R h).imp fun s M1 ι1 H1 e1 S1 h1 J hJ => by
    refine ⟨fun i m σ2 H2 => ∃ ι2 env2 M2, Ext X.K ι1 H1 ι2 H2 ∧ SR X.K ι2 H2 M2 ∧ EnvR X.K ι2 H2 env2 σ2 ∧ SOutP X.K W ι2 H2 (forL s.good g mb (s.items.drop i) env2 M2) En ∧ m = s.items.length - i,
      ⟨_, ι1, env, M1, Ext.refl, S1, R.ext e1, h1, rfl⟩, ?_⟩
    rintro i m σ2 H2 ⟨ι2, env2, M2, e2, S2, R2, h2, rfl⟩
    cases q : s.items.drop i with
    | nil =>
      rw [q] at h2
      unfold forL at h2
      split at h2
      · rename_i gd
        refine .inl ⟨((hJ ι2 H2 M2 e2 S2 gd i).2 ?_), SOutP.next_val S2 R2 h2⟩
        have := congrArg List.length q
        simp at this
        omega
      · exact h2.elim
    | cons d ds =>
      rw [q] at h2
      unfold forL at h2
      obtain ⟨hd, hds⟩ := drop_at q
      split at h2
      · rename_i gd
        obtain ⟨go, yld⟩ := (hJ ι2 H2 M2 e2 S2 gd i).1 d hd
        split at h2
        · rename_i env3 ge
          refine .inr ⟨go, fun σ' H' => ∃ ι2 env2 M2, Ext X.K ι1 H1 ι2 H' ∧ SR X.K ι2 H' M2 ∧ EnvR X.K ι2 H' env2 σ' ∧ SOutP X.K W ι2 H' (forL s.good g mb (s.items.drop (i + 1)) env2 M2) En, ?_, ?_⟩
          · rintro σ' H' ⟨ι3, env3, M3, e3, S3, R3, h3⟩
            refine ⟨s.items.length - (i + 1), ?_, ι3, env3, M3, e3, S3, R3, h3, rfl⟩
            have := (List.getElem?_eq_some_iff.mp hd).1
            omega
          · intro x H' y
            obtain ⟨e3, S3, r3⟩ := yld x H' y
            refine ⟨ι2, env2, d, env3, r3, R2.ext e3, ge, fun σ3 R3 => ⟨ι2, env3, M2, S3, R3, ?_⟩⟩
            have h3 := SOutP.ext e3 h2
            have e4 := e2.trans e3
            revert h3
            cases mb env3 M2 with
            | next env4 M4 => exact fun h3 ι4 σ4 H4 e5 S4 R4 => ⟨ι4, env4, M4, e4.trans e5, S4, R4, by rw [hds]; exact SOutP.ext e5 h3⟩
            | ret d M4 => exact fun h3 => h3
            | exc x env4 M4 => exact fun h3 => h3
            | stuck => exact fun h3 => h3
        · exact h2.elim
      · exact h2.elim⟩
end
end TL
end
section
namespace TL
open PySem PySem.Spec PyProof.Rows L2
def strItems (z : Str) : List D := z.cps.toList.map fun c => .str ⟨#[c]⟩
def srcOf (M : Mem) : D → Option Src
  | .tup xs => some ⟨xs, fun _ => True⟩
  | .str z => some ⟨strItems z, fun _ => True⟩
  | .ref n => (seqAt M n).map fun xs => ⟨xs, fun M' => seqAt M' n = some xs⟩
  | _ => none
def iAny (e : ME) : MI := fun env M => (e env M).bind fun d M1 => match srcOf M1 d with
  | some s => .ok s M1
  | none => .stuck
def rngItems (lo : Int) (n : Nat) : List D := (List.range n).map fun i => .int (lo + (i : Nat))
/-- bounds of a range; nothing reckons it -/
def RngOk (j : Int) : Prop := -(2 ^ 62) ≤ j ∧ j < 2 ^ 62
open Classical in
noncomputable def iRange1 (e : ME) : MI := fun env M => (e env M).bind fun d M1 => kInt d fun j => if RngOk j then .ok ⟨rngItems 0 j.toNat, fun _ => True⟩ M1 else .stuck
open Classical in
noncomputable def iRange2 (a b : ME) : MI := fun env M => (a env M).bind fun d M1 => (b env M1).bind fun d2 M2 => kInt d fun i => kInt d2 fun j =>
  if RngOk i ∧ RngOk j then .ok ⟨rngItems i (j - i).toNat, fun _ => True⟩ M2 else .stuck
section
variable {X : Cx} {W : WX} {tg e : Expr} {me : ME}
theorem pi_any {tl : TE} (hl : PE X e tl) : PI X tg e (fun σ H R => tl σ H fun x H1 => (∃ a, x = .ref a ∧ (∃ xs, SqT X.K H1 a xs) ∧ R (Itt X.K a) H1) ∨ (∃ a, x = .ref a ∧ (∃ xs, SqL X.K H1 a xs) ∧ R (Itl X.K a) H1) ∨ (∃ z, x = .str z ∧ R (Its z) H1)) := by
  refine ⟨fun pins s σ H R I h => ?_⟩
  refine thn (hl.run pins s σ H _ I h) fun v s1 ⟨x, H1, I1, r1, q1⟩ => ?_
  rcases q1 with ⟨a, rfl, ⟨xs, hq⟩, q⟩ | ⟨a, rfl, ⟨xs, hq⟩, q⟩ | ⟨z, rfl, q⟩
  · cases r1
    obtain ⟨its, rv, p, hz⟩ := I1.tuple hq
    refine wpAny_pyIter_tuple (show s1.heap.IsTuple a its.toArray from p) ?_
    refine ⟨s1.heap.objs.size, [s1.heap.objs.size], _, _, H1, rfl, I1.kept (t' := s1.toks) fun b o e => Heap.get?_push_of_some _ e, turn_tuple a _, ⟨_, Heap.get?_push_size _ rfl, rfl, rfl⟩, fun b hb => ?_, q⟩
    have e : b = s1.heap.objs.size := by simpa using hb
    subst e
    exact I1.fpOk (Nat.le_refl _) (I1.hok.fresh (Nat.le_refl _))
  · cases r1
    obtain ⟨its, rv, p, hz⟩ := I1.list hq
    refine wpAny_pyIter_list p.isList ?_
    refine ⟨s1.heap.objs.size, [s1.heap.objs.size], _, _, H1, rfl, I1.kept (t' := s1.toks) fun b o e => Heap.get?_push_of_some _ e, turn_list a _, ⟨_, Heap.get?_push_size _ rfl, rfl, rfl⟩, fun b hb => ?_, q⟩
    have e : b = s1.heap.objs.size := by simpa using hb
    subst e
    exact I1.fpOk (Nat.le_refl _) (I1.hok.fresh (Nat.le_refl _))
  · obtain ⟨t, rfl⟩ := r1
    cases ha : z.cps.all (· < 128)
    · exact wpAny_pyIter_wide ha (pi_one (tk := s1.toks) I1 _ (turn_str _ z t "str_iterator" (.inr rfl)) ⟨_, Heap.get?_push_size _ rfl, rfl, rfl⟩ q)
    · exact wpAny_pyIter_ascii ha (pi_one (tk := s1.toks) I1 _ (turn_str _ z t "str_ascii_iterator" (.inl rfl)) ⟨_, Heap.get?_push_size _ rfl, rfl, rfl⟩ q)
theorem srcJ_of {ι : List Addr} {H : Hp} {M : Mem} {d : D} {s : Src} {v : V} (S : SR X.K ι H M) (r : Rp X.K ι H d v) (h : srcOf M d = some s) {R : It → Hp → Prop} (q : ∀ J, SrcJ X.K ι H s J → R J H) :
    (∃ a, v = .ref a ∧ (∃ xs, SqT X.K H a xs) ∧ R (Itt X.K a) H) ∨ (∃ a, v = .ref a ∧ (∃ xs, SqL X.K H a xs) ∧ R (Itl X.K a) H) ∨ (∃ z, v = .str z ∧ R (Its z) H) := by
  cases d with
  | tup xs =>
    cases h
    obtain ⟨p, vs, rfl, t1, r1⟩ := r.tup_inv
    refine .inl ⟨p, rfl, ⟨vs, t1⟩, q _ fun ι1 H1 M1 e1 S1 _ i => ⟨fun d hd => ?_, fun hl => ⟨vs, e1.tup _ _ t1, by rw [← r1.length]; exact hl⟩⟩⟩
    obtain ⟨u, h1, h2⟩ := (r1.ext e1).get hd
    refine ⟨⟨vs, u, e1.tup _ _ t1, h1⟩, fun x H' y => ?_⟩
    obtain ⟨rfl, y2⟩ := y
    have e := y2 vs (e1.tup _ _ t1)
    rw [h1] at e; cases e
    exact ⟨Ext.refl, S1, h2⟩
  | str z =>
    cases h
    cases r.str_inv
    refine .inr (.inr ⟨z, rfl, q _ fun ι1 H1 M1 e1 S1 _ i => ⟨fun d hd => ?_, fun hl => ?_⟩⟩)
    · have hd' : (z.cps.toList.map fun c => D.str ⟨#[c]⟩)[i]? = some d := hd
      rw [List.getElem?_map] at hd'
      cases q2 : z.cps.toList[i]? with
      | none => rw [q2] at hd'; cases hd'
      | some c =>
        rw [q2] at hd'
        cases hd'
        have hi := (List.getElem?_eq_some_iff.mp q2).1
        have q3 : z.cps[i]? = some c := by rw [← Array.getElem?_toList]; exact q2
        refine ⟨by show i < z.cps.size; simpa using hi, fun x H' y => ?_⟩
        obtain ⟨rfl, c', hc, rfl⟩ := y
        rw [q3] at hc; cases hc
        exact ⟨Ext.refl, S1, .str _⟩
    · have hl' : (z.cps.toList.map fun c => D.str ⟨#[c]⟩).length ≤ i := hl
      show z.cps.size ≤ i
      simpa using hl'
  | ref n =>
    obtain ⟨p, rfl, hp⟩ := r.ref_inv
    have h' : (seqAt M n).map (fun xs => (⟨xs, fun M' => seqAt M' n = some xs⟩ : Src)) = some s := h
    cases q2 : seqAt M n with
    | none => rw [q2] at h'; cases h'
    | some xs =>
      rw [q2] at h'
      cases h'
      obtain ⟨vs, h1, r1⟩ := S.seq hp q2
      refine .inr (.inl ⟨p, rfl, ⟨vs, h1⟩, q _ fun ι1 H1 M1 e1 S1 gd i => ?_⟩)
      obtain ⟨us, g1, g2⟩ := S1.seq (e1.pre _ _ hp) gd
      refine ⟨fun d hd => ?_, fun hl => ⟨us, g1, by rw [← g2.length]; exact hl⟩⟩
      obtain ⟨u, h3, h4⟩ := g2.get hd
      refine ⟨⟨us, u, g1, h3⟩, fun x H' y => ?_⟩
      obtain ⟨rfl, y2⟩ := y
      have e := y2 us g1
      rw [h3] at e; cases e
      exact ⟨Ext.refl, S1, h4⟩
  | _ => cases h
theorem di_any (he : PE X e (LE X.K W me)) : PI X tg e (LI X.K W (iAny me)) :=
  (pi_any he).imp fun σ H R0 ⟨ι, env, M, S, R, h⟩ => ⟨ι, env, M, S, R, (OutP.bind h).imp fun d M1 ι1 H1 e1 S1 h1 v rv => by
    revert h1
    cases q : srcOf M1 d with
    | none => exact fun h1 => h1.elim
    | some s => exact fun h1 => srcJ_of S1 rv q (OutP.val S1 h1)⟩
theorem srcJ_rng {K : PySem.W.Frag} {ι : List Addr} {H : Hp} (lo : Int) (n : Nat) : SrcJ K ι H ⟨rngItems lo n, fun _ => True⟩ (Itr lo n) := fun ι1 H1 M1 e1 S1 _ i => by
  refine ⟨fun d hd => ?_, fun hl => ?_⟩
  · have hd' : ((List.range n).map fun i => D.int (lo + (i : Nat)))[i]? = some d := hd
    rw [List.getElem?_map] at hd'
    cases q : (List.range n)[i]? with
    | none => rw [q] at hd'; cases hd'
    | some j =>
      rw [q] at hd'
      cases hd'
      obtain ⟨h1, h2⟩ := List.getElem?_eq_some_iff.mp q
      have h2' : i = j := by simpa using h2
      subst h2'
      refine ⟨by show i < n; simpa using h1, fun x H' y => ?_⟩
      obtain ⟨rfl, rfl⟩ := y
      exact ⟨Ext.refl, S1, .int _⟩
  · have hl' : ((List.range n).map fun i => D.int (lo + (i : Nat))).length ≤ i := hl
    show n ≤ i
    simpa using hl'
theorem di_range1 {a : Expr} {ma : ME} {p pos : Pos} (hm : X.mg "range" = none) (ha : PE X a (LE X.K W ma)) (hg : Gl X "range" := by rfl) (hs : starEach [a] X.env = [(false, eval a X.env)] := by rfl) (hs' : starEach [a] X.env = (false, eval a X.env) :: starEach [] X.env := by rfl) :
    PI X tg (.Call (.Name "range" p) [a] [] pos) (LI X.K W (iRange1 ma)) :=
  (pi_range1 hg hm (pa_cons ha pa_nil hs') hs).imp fun σ H R0 ⟨ι, env, M, S, R, h⟩ => ⟨ι, env, M, S, R, (OutP.bind h).imp fun d M1 ι1 H1 e1 S1 h1 v rv => by
    obtain ⟨j, rfl, h2⟩ := kInt_inv h1
    cases rv.int_inv
    split at h2
    · rename_i c
      exact ⟨j, rfl, c.1, c.2, OutP.val S1 h2 _ (srcJ_rng 0 _)⟩
    · exact h2.elim⟩
theorem di_range2 {a b : Expr} {ma mb : ME} {p pos : Pos} (hm : X.mg "range" = none) (ha : PE X a (LE X.K W ma)) (hb : PE X b (LE X.K W mb)) (hg : Gl X "range" := by rfl) (hs : starEach [a, b] X.env = [(false, eval a X.env), (false, eval b X.env)] := by rfl) (hs2 : starEach [b] X.env = [(false, eval b X.env)] := by rfl)
    (hs' : starEach [a, b] X.env = (false, eval a X.env) :: starEach [b] X.env := by rfl) (hs'' : starEach [b] X.env = (false, eval b X.env) :: starEach [] X.env := by rfl) :
    PI X tg (.Call (.Name "range" p) [a, b] [] pos) (LI X.K W (iRange2 ma mb)) :=
  (pi_range2 hg hm (pa_cons ha (pa_cons hb pa_nil hs'') hs') hs hs2).imp fun σ H R0 ⟨ι, env, M, S, R, h⟩ => ⟨ι, env, M, S, R, (OutP.bind h).imp fun d M1 ι1 H1 e1 S1 h1 v rv => ⟨ι1, env, M1, S1, R.ext e1, (OutP.bind h1).imp fun d2 M2 ι2 H2 e2 S2 h2 u ru => by
    obtain ⟨i, rfl, h3⟩ := kInt_inv h2
    obtain ⟨j, rfl, h4⟩ := kInt_inv h3
    cases rv.int_inv
    cases ru.int_inv
    split at h4
    · rename_i c
      exact ⟨i, j, rfl, ⟨c.1.1, c.1.2, c.2.1, c.2.2⟩, OutP.val S2 h4 _ (srcJ_rng i _)⟩
    · exact h4.elim⟩⟩
end
def Out.nox {α : Type} (o : Out α) : Out α := match o with
  | .exc _ _ => .stuck
  | o => o
@[simp] theorem Out.nox_ok {α : Type} (a : α) (M : Mem) : (Out.ok a M).nox = .ok a M := rfl
@[simp] theorem Out.nox_stuck {α : Type} : (Out.stuck : Out α).nox = .stuck := rfl
@[simp] theorem Out.bind_assoc {α β γ : Type} (o : Out α) (f : α → Mem → Out β) (g : β → Mem → Out γ) : (o.bind f).bind g = o.bind fun a M => (f a M).bind g := by cases o <;> rfl
theorem OutP.nox {K : PySem.W.Frag} {W W' : Value → Option Addr → Hp → Prop} {ι : List Addr} {H : Hp} {α β : Type} {o : Out α} {f : α → Mem → Out β} {R : β → Mem → List Addr → Hp → Prop} (h : OutP K W ι H (o.nox.bind f) R) :
    OutP K W' ι H o (fun a M ι1 H1 => OutP K W ι1 H1 (f a M) R) := by
  cases o with
  | ok a M => exact fun ι' H' e s => OutP.ext e h
  | exc x M => exact h.elim
  | stuck => exact h
open Classical in
noncomputable def compL (good : Mem → Prop) (i : Nat) (t : MT) (e : ME) (n : Nat) (env : Env) : List D → Mem → Out Unit
  | [], M => if good M then .ok () M else .stuck
  | d :: ds, M => if good M then (t (env.set i (some d)) M).nox.bind fun k M1 => if k = true then (e (env.set i (some d)) M1).nox.bind fun y M2 => match M2[n]? with
        | some (.lst acc) => if acc.length < sizeLine then compL good i t e n env ds (M2.set n (.lst (acc ++ [y]))) else .stuck
        | _ => .stuck
      else compL good i t e n env ds M1
    else .stuck
noncomputable def eComp (i : Nat) (s : MI) (t : MT) (e : ME) : ME := fun env M => (s env M).bind fun s M1 => (compL s.good i t e M1.length env s.items (M1 ++ [.lst []])).bind fun _ M2 => .ok (.ref M1.length) M2
def tYesD : MT := fun _ M => .ok true M
abbrev W0 : WX := fun _ _ _ _ => False
theorem takesN0 {X : Cx} : L2N.Takes X W0 := fun _ _ x => by
  obtain ⟨_, _, _, _, _, _, _, _, _, _, _, _, _, _, _, _, z⟩ := x
  exact z.elim
theorem Ctx.blk {X : Cx} {W : WX} {k : Nat} (C : Ctx X W k) {s : Shared} {H : Hp} {scope : Scope} {cenv : PySem.Env} {fp : List Addr} : Ctx (X.blk s H scope cenv fp) W0 k := ⟨C.calm, C.nd, C.room, takesN0, PassesOwn.never⟩
section
variable {X : Cx} {W : WX} {k : Nat}
theorem dts_nil : PTs X [] (LT X.K W tYesD) := ⟨fun pins s σ H Q I ⟨ι, env, M, S, R, h⟩ => (pts_nil (X := X)).run pins s σ H Q I (OutP.val (W := W1 W σ) (R := TR Q) S h)⟩
theorem dts_one {c : Expr} {mt : MT} (h : PT X c (LT X.K W mt)) : PTs X [c] (LT X.K W mt) := pts_one h
theorem le_comp {i : Nat} {ms : MI} {mt : MT} {me : ME} {σ : L2.St} {H : Hp} {Q : VK} (h : LE X.K W (eComp i ms mt me) σ H Q) :
    tLc (LI X.K W ms) (gName i) (LT X.K W0 mt) (LE X.K W0 me) [i] σ H Q := by
  obtain ⟨ι, env, M, S, R, h⟩ := h
  refine ⟨ι, env, M, S, R, (OutP.bind h).imp fun s M1 ι1 H1 e1 S1 h1 J hJ => fun D hD => ?_⟩
  have S2 := S1.alloc (u := .lst []) hD ⟨[], upd_same, .nil⟩
  have e2 : Ext X.K ι1 H1 (ι1 ++ [D]) (upd H1 D (.lst [])) := Ext.more hD
  have hlen := S1.len
  have hat : (ι1 ++ [D])[M1.length]? = some D := by rw [← hlen]; simp
  have h2 := OutP.ext e2 h1
  generalize hn : M1.length = n at h2 hat
  refine ⟨fun j m H3 => ∃ ι3 M3, Ext X.K (ι1 ++ [D]) (upd H1 D (.lst [])) ι3 H3 ∧ SR X.K ι3 H3 M3 ∧ m = s.items.length - j ∧
    OutP X.K (W1 W σ) ι3 H3 ((compL s.good i mt me n env (s.items.drop j) M3).bind fun _ M4 => .ok (.ref n) M4) (VR X.K Q), ⟨_, _, _, Ext.refl, S2, rfl, by rw [List.drop_zero]; exact h2⟩, ?_⟩
  rintro j m H3 ⟨ι3, M3, e3, S3, rfl, h3⟩
  cases q : s.items.drop j with
  | nil =>
    rw [q] at h3
    unfold compL at h3
    split at h3
    · rename_i gd
      refine .inl ⟨(hJ ι3 H3 M3 (e2.trans e3) S3 gd j).2 ?_, OutP.val (W := W1 W σ) (R := VR X.K Q) (a := .ref n) S3 (show OutP X.K (W1 W σ) ι3 H3 (Out.ok (.ref n) M3) (VR X.K Q) from h3) _ (.ref (e3.pre _ _ hat))⟩
      have := congrArg List.length q
      simp at this
      omega
    · exact h3.elim
  | cons d ds =>
    rw [q] at h3
    unfold compL at h3
    obtain ⟨hd, hds⟩ := drop_at q
    split at h3
    · rename_i gd
      obtain ⟨go, yld⟩ := (hJ ι3 H3 M3 (e2.trans e3) S3 gd j).1 d hd
      refine .inr ⟨go, fun H' => ∃ ι3 M3, Ext X.K (ι1 ++ [D]) (upd H1 D (.lst [])) ι3 H' ∧ SR X.K ι3 H' M3 ∧
        OutP X.K (W1 W σ) ι3 H' ((compL s.good i mt me n env (s.items.drop (j + 1)) M3).bind fun _ M4 => .ok (.ref n) M4) (VR X.K Q), ?_, ?_⟩
      · rintro H' ⟨ι4, M4, e4, S4, h4⟩
        refine ⟨s.items.length - (j + 1), ?_, ι4, M4, e4, S4, rfl, h4⟩
        have := (List.getElem?_eq_some_iff.mp hd).1
        omega
      · intro x H' y
        obtain ⟨e4, S4, r4⟩ := yld x H' y
        have R4 : EnvR X.K ι3 H' (env.set i (some d)) ((wipe σ [i]).set i (some x)) := by
          have r0 := (((R.ext e1).ext (e2.trans e3)).ext e4)
          have r1 := (r0.unset i).set r4 i
          rw [List.set_set] at r1
          exact r1
        have h5 := OutP.ext e4 h3
        refine ⟨by show ((σ.set i none).set i (some x)).set i none = σ.set i none; rw [List.set_set, List.set_set], ι3, env.set i (some d), M3, S4, R4, ?_⟩
        have h6 := h5
        rw [Out.bind_assoc] at h6
        refine (OutP.nox (W' := W1 W0 _) h6).imp fun kk M5 ι5 H5 e5 S5 h7 => ?_
        show if kk = true then _ else _
        cases kk with
        | false =>
          refine iteF ⟨ι5, M5, (e3.trans e4).trans e5, S5, ?_⟩
          rw [hds]
          exact h7
        | true =>
          refine iteT ⟨ι5, _, M5, S5, R4.ext e5, ?_⟩
          have h8 : OutP X.K (W1 W σ) ι5 H5 (((me (env.set i (some d)) M5).nox.bind fun y M2 => match M2[n]? with
            | some (.lst acc) => if acc.length < sizeLine then compL s.good i mt me n env ds (M2.set n (.lst (acc ++ [y]))) else .stuck
            | _ => .stuck).bind fun _ M4 => .ok (.ref n) M4) (VR X.K Q) := h7
          rw [Out.bind_assoc] at h8
          refine (OutP.nox (W' := W1 W0 _) h8).imp fun y M6 ι6 H6 e6 S6 h9 v rv => ?_
          have hD6 : ι6[n]? = some D := e6.pre _ _ (e5.pre _ _ (e3.pre _ _ hat))
          revert h9
          split
          · rename_i acc ma
            split
            · rename_i hsz
              intro h9
              obtain ⟨vs, g1, g2⟩ := S6.lst hD6 ma
              refine ⟨vs, g1, by rw [← g2.length]; exact hsz, ι6, M6.set n (.lst (acc ++ [y])), ?_, ?_, ?_⟩
              · exact (((e3.trans e4).trans e5).trans e6).trans (Ext.upd (by rw [g1]; exact fun z => z))
              · exact S6.write hD6 ma rfl rfl ⟨_, upd_same, (g2.append (.cons rv .nil)).ext (Ext.upd (by rw [g1]; exact fun z => z))⟩
              · rw [hds]
                exact OutP.ext (Ext.upd (by rw [g1]; exact fun z => z)) h9
            · exact fun h9 => h9.elim
          · exact fun h9 => h9.elim
    · exact h3.elim
theorem d_comp {elt iter : Expr} {ifs : List Expr} {scope : Scope} {i : Nat} {x : Str} {px pos : Pos} {ms : MI} {mt : MT} {me : ME} (C : Ctx X W k) (hi : PI X (.Name x px) iter (LI X.K W ms)) (ok : BlkOk X.N X.env.scope scope [(x, i)])
    (hg : ∀ (s : Shared) (H : Hp) (C : Addr) (cl : List (Str × Addr)) (fp : List Addr), PG (X.blk s H scope (compEnvC scope cl C X.env) fp) (.Name x px) (gName i))
    (ht : ∀ (s : Shared) (H : Hp) (C : Addr) (cl : List (Str × Addr)) (fp : List Addr), Ctx (X.blk s H scope (compEnvC scope cl C X.env) fp) W0 k → PTs (X.blk s H scope (compEnvC scope cl C X.env) fp) ifs (LT X.K W0 mt))
    (he : ∀ (s : Shared) (H : Hp) (C : Addr) (cl : List (Str × Addr)) (fp : List Addr), Ctx (X.blk s H scope (compEnvC scope cl C X.env) fp) W0 k → PE (X.blk s H scope (compEnvC scope cl C X.env) fp) elt (LE X.K W0 me))
    (hs : ∀ x, foldedSetIterable iter X.env x = pure x := by intro _; rfl) : PE X (.ListComp elt [⟨.Name x px, iter, ifs, 0⟩] scope pos) (LE X.K W (eComp i ms mt me)) :=
  (pe_lc (own := [(x, i)]) C.calm C.nd hi ok hg (fun s H c cl fp => ht s H c cl fp C.blk) (fun s H c cl fp => he s H c cl fp C.blk) hs).imp fun σ H Q h => le_comp h
theorem ds_setComp {elt iter : Expr} {ifs : List Expr} {scope : Scope} {i j : Nat} {x y : Str} {px py pos spos : Pos} {ms : MI} {mt : MT} {me : ME} (C : Ctx X W k) (hi : PI X (.Name x px) iter (LI X.K W ms)) (ok : BlkOk X.N X.env.scope scope [(x, i)])
    (hg : ∀ (s : Shared) (H : Hp) (C : Addr) (cl : List (Str × Addr)) (fp : List Addr), PG (X.blk s H scope (compEnvC scope cl C X.env) fp) (.Name x px) (gName i))
    (ht : ∀ (s : Shared) (H : Hp) (C : Addr) (cl : List (Str × Addr)) (fp : List Addr), Ctx (X.blk s H scope (compEnvC scope cl C X.env) fp) W0 k → PTs (X.blk s H scope (compEnvC scope cl C X.env) fp) ifs (LT X.K W0 mt))
    (he : ∀ (s : Shared) (H : Hp) (C : Addr) (cl : List (Str × Addr)) (fp : List Addr), Ctx (X.blk s H scope (compEnvC scope cl C X.env) fp) W0 k → PE (X.blk s H scope (compEnvC scope cl C X.env) fp) elt (LE X.K W0 me))
    (hy : X.N[j]? = some y := by rfl) (hyl : X.env.scope.names.lookup y = some .local := by rfl)
    (hsw : swapsWith (.ListComp elt [⟨.Name x px, iter, ifs, 0⟩] scope pos) (some (.Name y py)) spos.line X.env = pure true := by exact sw_true rfl rfl rfl (by decide +kernel))
    (hs : ∀ x, foldedSetIterable iter X.env x = pure x := by intro _; rfl) : PS X (.Assign [.Name y py] (.ListComp elt [⟨.Name x px, iter, ifs, 0⟩] scope pos) spos) (LS X.K W (sAsg (gOne j) (eComp i ms mt me))) :=
  (ps_setLc (own := [(x, i)]) C.calm C.nd hy hyl hsw hi ok hg (fun s H c cl fp => ht s H c cl fp C.blk) (fun s H c cl fp => he s H c cl fp C.blk) hs).imp fun En σ H h => by
    refine le_asg (tg := gName j) (fun Q h => le_comp h) (fun v σ H Q ⟨ι, env, d, env', r, R, h, q⟩ => by cases h; exact q _ (R.set r j)) h
end
end TL
end
section
namespace TL
open PySem PySem.Spec PyProof.Rows L2
def tyD (T : String) (M : Mem) : D → Bool
  | .str _ => decide (T = "str")
  | .ref n => decide (T = "list") && (seqAt M n).isSome
  | _ => false
def eMeth (T : String) (f : D → OpN) (o : ME) (a : MA) : ME := fun env M => (o env M).bind fun x M1 => if tyD T M1 x = true then (a env M1).bind fun xs M2 => liftO (f x xs M2) else .stuck
def mAppend : D → OpN := fun d ds M => match d, ds with
  | .ref n, [y] => match M[n]? with
    | some (.lst xs) => if xs.length < sizeLine then some (.non, M.set n (.lst (xs ++ [y]))) else none
    | _ => none
  | _, _ => none
def mExtend : D → OpN := fun d ds M => match d, ds with
  | .ref n, [.ref m] => match M[n]?, M[m]? with
    | some (.lst xs), some (.lst ys) => if xs.length + ys.length ≤ sizeLine then some (.non, M.set n (.lst (xs ++ ys))) else none
    | _, _ => none
  | _, _ => none
def mPop : D → OpN := fun d ds M => match d, ds with
  | .ref n, [] => match M[n]? with
    | some (.lst xs) => (xs[xs.length - 1]?).map fun y => (y, M.set n (.lst xs.dropLast))
    | _ => none
  | _, _ => none
section
variable {K : PySem.W.Frag} {ι : List Addr} {H : Hp} {M : Mem}
theorem RpA.nil_inv {vs : List V} (r : RpA K ι H [] vs) : vs = [] := by cases r; rfl
theorem tyD_ok {T : String} {d : D} {v : V} (S : SR K ι H M) (r : Rp K ι H d v) (h : tyD T M d = true) : tyV K T v H := by
  cases d with
  | str x => cases r.str_inv; exact of_decide_eq_true (p := T = "str") h
  | ref n =>
    obtain ⟨p, rfl, hp⟩ := r.ref_inv
    obtain ⟨h1, h2⟩ := Bool.and_eq_true_iff.mp h
    cases q : seqAt M n with
    | none => rw [q] at h2; cases h2
    | some xs =>
      obtain ⟨vs, h3, _⟩ := S.seq hp q
      exact .inl ⟨of_decide_eq_true h1, vs, h3⟩
  | _ => cases h
end
section
variable {X : Cx} {W : WX} {k : Nat}
theorem m_append : MtR X "list.append" (rDM X.K mAppend) := by
  refine MtR.imp mt_append fun x xs H Q h => ?_
  obtain ⟨ι, M, d, ds, S, r, rs, h⟩ := h
  unfold mAppend at h
  split at h
  · obtain ⟨p, rfl, hp⟩ := r.ref_inv
    obtain ⟨v, rfl, rv⟩ := rs.one_inv
    split at h
    · rename_i ys m1
      obtain ⟨vs, h1, r1⟩ := S.lst hp m1
      split at h
      · exact ⟨_, vs, _, rfl, rfl, h1, by rw [← r1.length]; assumption, h.setLst S hp m1 (r1.append (.cons rv .nil)) .non⟩
      · exact h.elim
    · exact h.elim
  · exact h.elim
theorem m_extend : MtR X "list.extend" (rDM X.K mExtend) := by
  refine MtR.imp mt_extend fun x xs H Q h => ?_
  obtain ⟨ι, M, d, ds, S, r, rs, h⟩ := h
  unfold mExtend at h
  split at h
  · obtain ⟨p, rfl, hp⟩ := r.ref_inv
    obtain ⟨v, rfl, rv⟩ := rs.one_inv
    obtain ⟨q, rfl, hq⟩ := rv.ref_inv
    split at h
    · rename_i m1 m2
      obtain ⟨vs, h1, r1⟩ := S.lst hp m1
      obtain ⟨us, h2, r2⟩ := S.lst hq m2
      split at h
      · exact ⟨_, _, vs, us, rfl, rfl, h1, h2, by rw [← r1.length, ← r2.length]; assumption, h.setLst S hp m1 (r1.append r2) .non⟩
      · exact h.elim
    · exact h.elim
  · exact h.elim
theorem m_pop : MtR X "list.pop" (rDM X.K mPop) := by
  refine MtR.imp mt_pop fun x xs H Q h => ?_
  obtain ⟨ι, M, d, ds, S, r, rs, h⟩ := h
  unfold mPop at h
  split at h
  · obtain ⟨p, rfl, hp⟩ := r.ref_inv
    cases rs.nil_inv
    split at h
    · rename_i ys m1
      obtain ⟨vs, h1, r1⟩ := S.lst hp m1
      cases q : ys[ys.length - 1]? with
      | none => rw [q] at h; exact h.elim
      | some y =>
        rw [q] at h
        obtain ⟨v, g1, g2⟩ := r1.get q
        exact ⟨_, vs, v, rfl, rfl, h1, by rw [← r1.length]; exact g1, OpO.setLst S h hp m1 r1.dropLast g2⟩
    · exact h.elim
  · exact h.elim
variable {o e : Expr} {es : List Expr} {mo : ME} {mas : MA} {name : Str} {apos cpos : Pos} {T id : String} {f : D → OpN}
theorem d_meth0 (pa : PlainAttrs T) (slot : Slot T name id) (hty : typeOf (.builtin id) = pure (.type "method_descriptor")) (hm : MtR X id (rDM X.K f)) (ho : PE X o (LE X.K W mo))
    (hbase : attributeBase o name X.env (eval o X.env) = eval o X.env := by rfl) (hline : (apos.endLine == cpos.line) = true := by rfl) : PE X (.Call (.Attribute o name apos) [] [] cpos) (LE X.K W (eMeth T f mo aNil)) :=
  (pe_bm0 pa slot hty hm ho hbase hline).imp fun σ H Q ⟨ι, env, M, S, R, h⟩ => ⟨ι, env, M, S, R, (OutP.bind h).imp fun x M1 ι1 H1 e1 S1 h1 v rv => by
    split at h1
    · rename_i ht
      exact ⟨tyD_ok S1 rv ht, ι1, M1, x, [], S1, rv, .nil, OpO.of (W := W1 W σ) h1⟩
    · exact h1.elim⟩
theorem d_meth (pa : PlainAttrs T) (slot : Slot T name id) (hty : typeOf (.builtin id) = pure (.type "method_descriptor")) (hm : MtR X id (rDM X.K f)) (ho : PE X o (LE X.K W mo)) (ha : PA X (e :: es) (LA X.K W mas))
    (hbase : attributeBase o name X.env (eval o X.env) = eval o X.env := by rfl)
    (hfew : ((backTo cpos (starEach (e :: es) X.env)).all (fun x => !x.1) && (backToKw cpos (keywordEach [] X.env)).all (fun x => x.1.isSome)
      && decide ((e :: es).length + ([] : List Keyword).length + (if ([] : List Keyword).isEmpty then 0 else 1) < 30)) = true := by rfl)
    (hline : (apos.endLine == cpos.line) = true := by rfl) (hs : starEach (e :: es) X.env = (false, eval e X.env) :: starEach es X.env := by rfl) (hplain : (backTo cpos (starEach es X.env)).any (·.1) = false := by rfl) :
    PE X (.Call (.Attribute o name apos) (e :: es) [] cpos) (LE X.K W (eMeth T f mo mas)) :=
  (pe_bm pa slot hty hm ho ha hbase hfew hline hs hplain).imp fun σ H Q ⟨ι, env, M, S, R, h⟩ => ⟨ι, env, M, S, R, (OutP.bind h).imp fun x M1 ι1 H1 e1 S1 h1 v rv => by
    split at h1
    · rename_i ht
      exact ⟨tyD_ok S1 rv ht, ι1, env, M1, S1, R.ext e1, (OutP.bind h1).imp fun xs M2 ι2 H2 e2 S2 h2 us ru => ⟨ι2, M2, x, xs, S2, rv.ext e2, ru, OpO.of h2⟩⟩
    · exact h1.elim⟩
end
def blsOf : List D → Option (List Bool)
  | [] => some []
  | .bl b :: ds => (blsOf ds).map (b :: ·)
  | _ => none
def intsOf : List D → Option (List Int)
  | [] => some []
  | .int b :: ds => (intsOf ds).map (b :: ·)
  | _ => none
def minI : List Int → Int
  | [] => 0
  | [a] => a
  | a :: b :: r => min a (minI (b :: r))
theorem minI_mem : ∀ {ns : List Int}, ns ≠ [] → minI ns ∈ ns ∧ ∀ a ∈ ns, minI ns ≤ a
  | [], h => absurd rfl h
  | [a], _ => by simp [minI]
  | a :: b :: r, _ => by
    obtain ⟨h1, h2⟩ := minI_mem (ns := b :: r) (by simp)
    refine ⟨?_, fun c hc => ?_⟩
    · show min a (minI (b :: r)) ∈ _
      rcases Int.le_total a (minI (b :: r)) with q | q
      · rw [Int.min_eq_left q]; exact List.mem_cons_self
      · rw [Int.min_eq_right q]; exact List.mem_cons_of_mem _ h1
    · show min a (minI (b :: r)) ≤ c
      rcases List.mem_cons.mp hc with rfl | hc
      · exact Int.min_le_left _ _
      · exact Int.le_trans (Int.min_le_right _ _) (h2 c hc)
def nAll : OpN := fun ds M => match ds with
  | [.ref n] => match seqAt M n with
    | some xs => (blsOf xs).map fun bs => (.bl (bs.all id), M)
    | none => none
  | _ => none
def nMin : OpN := fun ds M => match ds with
  | [.ref n] => match seqAt M n with
    | some xs => match intsOf xs with
      | some ns => if ns = [] then none else some (.int (minI ns), M)
      | none => none
    | none => none
  | _ => none
section
variable {K : PySem.W.Frag} {ι : List Addr} {H : Hp} {M : Mem}
theorem bls_v : ∀ {ds : List D} {vs : List V} {bs : List Bool}, RpA K ι H ds vs → blsOf ds = some bs → vs = bs.map V.bl
  | [], _, _, .nil, e => by cases e; rfl
  | d :: ds, _, bs, .cons r t, e => by
    cases d with
    | bl b =>
      have e' : (blsOf ds).map (b :: ·) = some bs := e
      cases q : blsOf ds with
      | none => rw [q] at e'; cases e'
      | some cs =>
        rw [q] at e'
        cases e'
        cases r.bl_inv
        rw [bls_v t q]
        rfl
    | _ => cases e
theorem ints_v : ∀ {ds : List D} {vs : List V} {bs : List Int}, RpA K ι H ds vs → intsOf ds = some bs → vs = bs.map V.int
  | [], _, _, .nil, e => by cases e; rfl
  | d :: ds, _, bs, .cons r t, e => by
    cases d with
    | int b =>
      have e' : (intsOf ds).map (b :: ·) = some bs := e
      cases q : intsOf ds with
      | none => rw [q] at e'; cases e'
      | some cs =>
        rw [q] at e'
        cases e'
        cases r.int_inv
        rw [ints_v t q]
        rfl
    | _ => cases e
end
section
variable {X : Cx}
theorem c_all (hc : X.calm = true) : CallR X (.builtin "all") (rDN X.K nAll) := by
  refine CallR.imp (cr_all hc) fun xs H Q h => ?_
  obtain ⟨ι, M, ds, S, r, h⟩ := h
  unfold nAll at h
  split at h
  · obtain ⟨v, rfl, rv⟩ := r.one_inv
    obtain ⟨p, rfl, hp⟩ := rv.ref_inv
    split at h
    · rename_i ys m
      obtain ⟨vs, h1, r1⟩ := S.seq hp m
      cases q : blsOf ys with
      | none => rw [q] at h; exact h.elim
      | some bs =>
        rw [q] at h
        cases bls_v r1 q
        exact ⟨p, bs, rfl, h1, OpO.val S h (.bl _)⟩
    · exact h.elim
  · exact h.elim
theorem c_min (hc : X.calm = true) : CallR X (.builtin "min") (rDN X.K nMin) := by
  refine CallR.imp (cr_min hc) fun xs H Q h => ?_
  obtain ⟨ι, M, ds, S, r, h⟩ := h
  unfold nMin at h
  split at h
  · obtain ⟨v, rfl, rv⟩ := r.one_inv
    obtain ⟨p, rfl, hp⟩ := rv.ref_inv
    split at h
    · rename_i ys m
      obtain ⟨vs, h1, r1⟩ := S.seq hp m
      split at h
      · rename_i ns q
        cases ints_v r1 q
        split at h
        · exact h.elim
        · rename_i hne
          refine ⟨p, ns, rfl, h1, List.length_pos_iff.mpr hne, fun m hm hle => ?_⟩
          obtain ⟨k1, k2⟩ := minI_mem hne
          have : m = minI ns := Int.le_antisymm (hle _ k1) (k2 m hm)
          subst this
          exact OpO.val S h (.int _)
      · exact h.elim
    · exact h.elim
  · exact h.elim
end
def startE (n : Nat) (ds : List D) : Env := ds.map some ++ List.replicate (n - ds.length) none
def endS : SOut → Out D
  | .next _ M => .ok .non M
  | .ret d M => .ok d M
  | .exc x _ M => .exc x M
  | .stuck => .stuck
@[simp] theorem endS_next (env : Env) (M : Mem) : endS (.next env M) = .ok .non M := rfl
@[simp] theorem endS_ret (d : D) (M : Mem) : endS (.ret d M) = .ok d M := rfl
@[simp] theorem endS_exc (x : Ex) (env : Env) (M : Mem) : endS (.exc x env M) = .exc x M := rfl
@[simp] theorem endS_stuck : endS .stuck = .stuck := rfl
/-- a def of np parameters and n names -/
def fnD (np n : Nat) (b : MS) : Fn := fun ds M => if ds.length = np then endS (b (startE n ds) M) else .stuck
def noFn : Fn := fun _ _ => .stuck
theorem envR_start {K : PySem.W.Frag} {ι : List Addr} {H : Hp} : ∀ {ds : List D} {vs : List V}, RpA K ι H ds vs → ∀ r : Nat, EnvR K ι H (ds.map some ++ List.replicate r none) (vs.map some ++ List.replicate r none)
  | _, _, .nil, r => by
    induction r with
    | zero => exact .nil
    | succ r ih => exact .cons trivial ih
  | _, _, .cons h t, r => .cons h (envR_start t r)
section
variable {P : Program} {w : World} {K : PySem.W.Frag} {mg : Str → Option Value} {base : Heap}
/-- a def by its body -/
theorem okF {x qual : Str} {params : Arguments} {body : List Stmt} {scope : Scope} {f : Addr} {fd : FuncData} {N ps : List Str} {k : Nat} {mb : MS} (F : FunD K x qual params body scope [] [] f fd) (S : FnScope N ps scope)
    (hbody : ∀ (cdv : Value) (A : Around) (outer : List PySem.Env) (s : Shared) (H : Hp) (E : XK), let X := cxOf (L2N.CX P w) P w K mg base N qual scope f cdv A outer s H E
      Ctx X (fun cls d _ H => E cls d H) k → PSs X body (LS K (fun cls d _ H => E cls d H) mb)) :
    FnOk P w K mg base (L2N.CX P w) (k + 1) f fd ps (spD K ps.length (fnD ps.length N.length mb)) := by
  refine F.ok S (fun vs H Q E h => h.1) ?_
  rintro cdv A outer s H vs Q E hr ⟨hl, ι, ds, M, SS, rs, h⟩
  have C : Ctx (cxOf (L2N.CX P w) P w K mg base N qual scope f cdv A outer s H E) (fun cls d _ H => E cls d H) k := ⟨rfl, S.nd, hr, L2N.takes_of rfl rfl rfl rfl, passes_of rfl⟩
  refine ⟨_, hbody cdv A outer s H E C, ι, startE N.length ds, M, SS, ?_, ?_⟩
  · unfold startE L2.start
    rw [rs.length]
    exact envR_start rs _
  · unfold fnD at h
    rw [if_pos (by rw [rs.length]; exact hl)] at h
    revert h
    cases mb (startE N.length ds) M with
    | next env M1 => exact fun h ι1 σ1 H1 e1 S1 _ => h ι1 H1 e1 S1 _ .non
    | ret d M1 => exact fun h ι1 v H1 e1 S1 r => h ι1 H1 e1 S1 v r
    | exc y env M1 => exact fun h ι1 σ1 H1 cls dx e1 S1 _ ex => h ι1 H1 cls dx e1 S1 ex
    | stuck => exact fun h => h
theorem okD {x qual : Str} {params : Arguments} {body : List Stmt} {scope : Scope} {f : Addr} {N ps : List Str} {k : Nat} {mb : MS} (F : ∃ fd, FunD K x qual params body scope [] [] f fd) (S : FnScope N ps scope) (hm : mg x = some (.ref f))
    (hbind : ∀ (kV doc pm : Value) (an : Option Addr) (cdv ct : Value) (us : List Value), us.length = ps.length → bindArgs (PySem.W.fnOf x qual params body scope .none kV doc pm an cdv ct) ⟨us, []⟩ = pure (ps.zip us))
    (hbody : ∀ (cdv : Value) (A : Around) (outer : List PySem.Env) (s : Shared) (H : Hp) (E : XK), let X := cxOf (L2N.CX P w) P w K mg base N qual scope f cdv A outer s H E
      Ctx X (fun cls d _ H => E cls d H) k → PSs X body (LS K (fun cls d _ H => E cls d H) mb)) :
    Callee P w K mg base x ps.length (k + 1) (fnD ps.length N.length mb) := by
  obtain ⟨fd, F⟩ := F
  exact ⟨⟨f, fd, ps, okF F S hbody, hm, F.kp, F.bindsN hbind, rfl⟩, fun ds M h => if_neg h⟩
/-- nothing is promised -/
theorem noD {x qual : Str} {params : Arguments} {body : List Stmt} {scope : Scope} {f : Addr} {ps : List Str} {k : Nat} (F : ∃ fd, FunD K x qual params body scope [] [] f fd) (hm : mg x = some (.ref f))
    (hbind : ∀ (kV doc pm : Value) (an : Option Addr) (cdv ct : Value) (us : List Value), us.length = ps.length → bindArgs (PySem.W.fnOf x qual params body scope .none kV doc pm an cdv ct) ⟨us, []⟩ = pure (ps.zip us)) :
    Callee P w K mg base x ps.length k noFn := by
  obtain ⟨fd, F⟩ := F
  exact ⟨⟨f, fd, ps, ⟨fun vs H Q E h => h.1, fun A outer s H args us vs Q E _ _ _ _ h => by obtain ⟨_, ι, ds, M, _, _, z⟩ := h; exact z.elim⟩, hm, F.kp, F.bindsN hbind, rfl⟩, fun _ _ _ => rfl⟩
end
end TL
end
section
set_option maxHeartbeats 2000000
namespace TL
open PySem PySem.Spec PyProof.Rows L2
abbrev AlB : Type := Bool × List He.FnW
def obsB (ok : PySem.W.Frag → Bool) (fn : List He.DefD) (K : PySem.W.Frag) : AlB := (ok K && fn.all (fun d => d.ok K), fn.map fun d => He.fnW K d.at_)
def valB (fn : List He.DefD) : AlB := (true, fn.map He.DefD.val)
def SaysB (ok : PySem.W.Frag → Bool) (fn : List He.DefD) (K : PySem.W.Frag) : Prop := obsB ok fn K = valB fn
section
variable {ok : PySem.W.Frag → Bool} {fn : List He.DefD} {K : PySem.W.Frag}
theorem SaysB.fact (c : SaysB ok fn K) : ok K = true := (He.ba (show (ok K && fn.all fun d => d.ok K) = true from congrArg (fun z : AlB => z.1) c)).1
theorem SaysB.def_ (c : SaysB ok fn K) (i : Nat) {d : He.DefD} (h : fn[i]? = some d := by rfl) : ∃ fd, FunD K d.name d.qual d.params d.body d.scope (d.dvs K) (d.kws K) (He.fAd K d.at_) fd := by
  have c2 := (He.ba (show (ok K && fn.all fun d => d.ok K) = true from congrArg (fun z : AlB => z.1) c)).2
  have e : fn.map (fun d => He.fnW K d.at_) = fn.map He.DefD.val := congrArg (fun z : AlB => z.2) c
  have e2 : (fn.map fun d => He.fnW K d.at_)[i]? = (fn.map He.DefD.val)[i]? := by rw [e]
  rw [List.getElem?_map, List.getElem?_map, h] at e2
  exact He.DefD.funD (Option.some.inj e2) (List.all_eq_true.mp c2 d (List.mem_of_getElem? h))
/-- all of some -/
theorem all_at {α : Type} {p : α → Bool} {l : List α} (h : l.all p = true) (i : Nat) {a : α} (e : l[i]? = some a := by rfl) : p a = true := List.all_eq_true.mp h a (List.mem_of_getElem? e)
/-- the module's name x is a tuple of these -/
theorem glob_tup {h : Heap} {mg : Str → Option Value} (X : K.In h) (G : h.Ns mainGlobals mg) {x : Str} {vs : List He.Dv} {ds : List D} (c1 : (He.Fa.glo x).ok K = true) (c2 : He.tupB K x vs = true) (r : ∀ ι H, RpA K ι H ds (vs.map (He.Dv.v K))) : Glob K mg x (.tup ds) :=
  ⟨.ref (He.ga K x), _, He.glo_ok X G c1, rfl, fun ι H => .tup (He.tupB_ok c2 H) (r ι H)⟩
theorem glob_int {h : Heap} {mg : Str → Option Value} (X : K.In h) (G : h.Ns mainGlobals mg) {x : Str} {i : Int} (c : (He.Fa.int x i).ok K = true) : Glob K mg x (.int i) := by
  obtain ⟨t, e⟩ := He.int_ok X G c
  exact ⟨.int i, _, e, ⟨t, rfl⟩, fun ι H => .int i⟩
theorem glob_str {h : Heap} {mg : Str → Option Value} (X : K.In h) (G : h.Ns mainGlobals mg) {x z : Str} (c : (He.Fa.str x z).ok K = true) : Glob K mg x (.str z) := by
  obtain ⟨t, e⟩ := He.str_ok X G c
  exact ⟨.str z, _, e, ⟨t, rfl⟩, fun ι H => .str z⟩
end
theorem walk_ofW {l : PySem.W.OpenLaw} {n k : Nat} {q : Program} {loose : List Str} {XP : (Str → Option Value) → Heap → Prop} {YP : World → Heap → Prop} {d : DefRec} {CX : World → CXT} {x : Str}
    (hn : l.most = some n) (hn2 : n ≤ sizeLine) (hdf : d.params.defaults = []) (hr : Room k callerA)
    (F : ∀ (w : World) (mg : Str → Option Value) (fa : Addr) (h : Heap), YP w h → h.Ns mainGlobals mg → mg d.name = some (.ref fa) →
      ∃ (K : PySem.W.Frag) (fd : FuncData) (sp : Sp), K.In h ∧ (∀ (s : Shared) (u : Value), BindsTo s fd ⟨[u], []⟩ [(x, u)]) ∧
        (∀ (H : Hp) (a : Addr) (ns : List Int), ns.length ≤ n → Only H → SqL K H a (ns.map V.int) → sp [.ref a] H (fun v _ => v = .bl true) fun _ _ _ => False) ∧
        ∀ base : Heap, K.In base → base.Ns mainGlobals mg → FnOk l.prog w K mg base (CX w) k fa fd [x] sp)
    (hCX : ∀ (w : World) (H : Hp) (s : Shared) (e : Value) (s' : Shared), CX w [] H s (fun _ _ _ => False) e s' → False) :
    PySem.W.WalkO q loose XP YP l.row.toRowW d [] (fun f vs => PySem.call f vs) := by
  refine Att.attach_call hn hdf fun w s₀ s₁ mg mb fa o pm cd doc a vs ns G Y ho hd hcd hmg hobj hints hlen hg => ?_
  obtain ⟨K, fd, sp, KX, hb, hsp, hF⟩ := F w mg fa _ Y G.T.g hmg
  exact law_call KX G.T.g G.T.b G.T.builtins G.T.nolimit hg hobj hints (Nat.le_trans hlen hn2) hr hF hb (fun H hO hS => hsp H a ns hlen hO hS) fun H e s' => hCX w H s₁ e s'
theorem cx_false {P : Program} {w : World} {H : Hp} {s : Shared} {e : Value} {s' : Shared} (h : L2N.CX P w [] H s (fun _ _ _ => False) e s') : False := by
  obtain ⟨_, _, _, _, _, _, _, _, _, _, _, _, z⟩ := h
  exact z
theorem ints_rp {K : PySem.W.Frag} {ι : List Addr} {H : Hp} : ∀ ns : List Int, RpA K ι H (ns.map D.int) (ns.map V.int)
  | [] => .nil
  | i :: ns => .cons (.int i) (ints_rp ns)
theorem law_sp {K : PySem.W.Frag} {m : Fn} {H : Hp} {a : Addr} {ns : List Int} (hO : Only H) (hS : SqL K H a (ns.map V.int)) (h : ∃ M', m [.ref 0] [.rol (ns.map D.int)] = .ok (.bl true) M') :
    spD K 1 m [.ref a] H (fun v _ => v = .bl true) fun _ _ _ => False := by
  obtain ⟨M', h⟩ := h
  refine ⟨rfl, [a], [.ref 0], [.rol (ns.map D.int)], ⟨rfl, fun n b o h1 h2 => ?_, fun n m b o u h1 h2 h3 h4 m1 m2 => ?_⟩, .cons (.ref rfl) .nil, ?_⟩
  · match n, h1, h2 with
    | 0, h1, h2 =>
      cases h1; cases h2
      refine ⟨_, ?_, ints_rp ns⟩
      rcases hS with (h | ⟨o, h⟩) | h
      · rcases hO a with q | ⟨o, xs, q⟩ <;> rw [q] at h <;> cases h
      · exact .inl ⟨o, h⟩
      · exact .inr h
    | n + 1, h1, h2 => cases h1
  · match n, h3 with
    | 0, h3 => cases h3; cases m1
    | n + 1, h3 => cases h3
  · rw [h]
    exact fun ι' H' e s v r => r.bl_inv
end TL
end
section
namespace TL
open PySem PySem.Spec PyProof.Rows L2
theorem Ctx.hu {X : Cx} {W : WX} {k : Nat} (C : Ctx X W k) : X.A.units + 64 < cLine := C.room.units
def nInt : OpN := fun ds M => match ds with
  | [.int i] => some (.int i, M)
  | [.bl b] => some (.int (if b then 1 else 0), M)
  | _ => none
theorem c_int {X : Cx} : CallR X (.type "int") (rDN X.K nInt) := by
  refine CallR.imp call_int1 fun xs H Q h => ?_
  obtain ⟨ι, M, ds, S, r, h⟩ := h
  unfold nInt at h
  split at h
  · obtain ⟨v, rfl, rv⟩ := r.one_inv
    cases rv.int_inv
    exact .inl ⟨_, rfl, h.val S (.int _)⟩
  · obtain ⟨v, rfl, rv⟩ := r.one_inv
    cases rv.bl_inv
    exact .inr ⟨_, rfl, OpO.val S h (.int _)⟩
  · exact h.elim
end TL
end
section
namespace TL
open PySem PySem.Spec PyProof.Rows L2
section
variable {env : Env} {M : Mem}
@[simp] theorem eVar_ap {i : Nat} : eVar i env M = match env[i]? with | some (some d) => .ok d M | _ => .stuck := rfl
@[simp] theorem eC_ap {d : D} : eC d env M = .ok d M := rfl
@[simp] theorem eBin_ap {f : Op2} {a b : ME} : eBin f a b env M = (a env M).bind fun x M1 => (b env M1).bind fun y M2 => liftO (f x y M2) := rfl
@[simp] theorem eUn_ap {f : Op1} {a : ME} : eUn f a env M = (a env M).bind fun x M1 => liftO (f x M1) := rfl
@[simp] theorem eChain_ap {f g : Op2} {a b c : ME} : eChain f g a b c env M = (a env M).bind fun x M1 => (b env M1).bind fun y M2 => (liftO (f x y M2)).bind fun z M3 => kBl z fun k =>
  if k = true then (c env M3).bind fun w M4 => liftO (g y w M4) else .ok (.bl false) M3 := rfl
@[simp] theorem eAnd_ap {a b : ME} : eAnd a b env M = (a env M).bind fun x M1 => kBl x fun k => if k = true then b env M1 else .ok (.bl false) M1 := rfl
@[simp] theorem eOr_ap {a b : ME} : eOr a b env M = (a env M).bind fun x M1 => kBl x fun k => if k = true then .ok (.bl true) M1 else b env M1 := rfl
@[simp] theorem eNot_ap {a : ME} : eNot a env M = (a env M).bind fun x M1 => kBl x fun k => .ok (.bl (!k)) M1 := rfl
@[simp] theorem eIf_ap {t : MT} {a b : ME} : eIf t a b env M = (t env M).bind fun k M1 => if k = true then a env M1 else b env M1 := rfl
@[simp] theorem tB_ap {e : ME} : tB e env M = (e env M).bind fun d M1 => kBl d fun k => .ok k M1 := rfl
@[simp] theorem tTru_ap {e : ME} : tTru e env M = (e env M).bind fun d M1 => match truD M1 d with | some k => .ok k M1 | none => .stuck := rfl
@[simp] theorem tAnd_ap {a b : MT} : tAnd a b env M = (a env M).bind fun k M1 => if k = true then b env M1 else .ok false M1 := rfl
@[simp] theorem tOr_ap {a b : MT} : tOr a b env M = (a env M).bind fun k M1 => if k = true then .ok true M1 else b env M1 := rfl
@[simp] theorem tNot_ap {a : MT} : tNot a env M = (a env M).bind fun k M1 => .ok (!k) M1 := rfl
@[simp] theorem aNil_ap : aNil env M = .ok [] M := rfl
@[simp] theorem aCons_ap {a : ME} {r : MA} : aCons a r env M = (a env M).bind fun x M1 => (r env M1).bind fun xs M2 => .ok (x :: xs) M2 := rfl
@[simp] theorem eTup_ap {a : MA} : eTup a env M = (a env M).bind fun xs M1 => if xs.length ≤ 1000 then .ok (.tup xs) M1 else .stuck := rfl
@[simp] theorem eLst_ap {a : MA} : eLst a env M = (a env M).bind fun xs M1 => if xs.length ≤ 1000 then .ok (.ref M1.length) (M1 ++ [.lst xs]) else .stuck := rfl
@[simp] theorem eCall_ap {m : Fn} {a : MA} : eCall m a env M = (a env M).bind m := rfl
@[simp] theorem eCallO_ap {f : OpN} {a : MA} : eCallO f a env M = (a env M).bind fun xs M1 => liftO (f xs M1) := rfl
@[simp] theorem oNone_ap : oNone env M = .ok none M := rfl
@[simp] theorem oSome_ap {a : ME} : oSome a env M = (a env M).bind fun x M1 => kInt x fun i => .ok (some i) M1 := rfl
@[simp] theorem eSl_ap {a : ME} {lo hi : MO'} : eSl a lo hi env M = (a env M).bind fun x M1 => (lo env M1).bind fun l M2 => (hi env M2).bind fun h M3 => liftO (mSl x l h M3) := rfl
@[simp] theorem eIsi_ap {T : String} {a : ME} : eIsi T a env M = (a env M).bind fun x M1 => liftO (mIsi T x M1) := rfl
@[simp] theorem eMeth_ap {T : String} {f : D → OpN} {o : ME} {a : MA} : eMeth T f o a env M = (o env M).bind fun x M1 => if tyD T M1 x = true then (a env M1).bind fun xs M2 => liftO (f x xs M2) else .stuck := rfl
@[simp] theorem sNil_ap : sNil env M = .next env M := rfl
@[simp] theorem sSeq_ap {a b : MS} : sSeq a b env M = nextS (a env M) b := rfl
@[simp] theorem sExpr_ap {e : ME} : sExpr e env M = thenS env (e env M) fun _ M1 => .next env M1 := rfl
@[simp] theorem sRet_ap {e : ME} : sRet e env M = thenS env (e env M) fun d M1 => .ret d M1 := rfl
@[simp] theorem sRetN_ap : sRetN env M = .ret .non M := rfl
@[simp] theorem sIf_ap {t : MT} {a b : MS} : sIf t a b env M = thenS env (t env M) fun k M1 => if k = true then a env M1 else b env M1 := rfl
@[simp] theorem sAsg_ap {g : MG} {e : ME} : sAsg g e env M = thenS env (e env M) fun d M1 => match g d env with | some env' => .next env' M1 | none => .stuck := rfl
@[simp] theorem sSub_ap {o i e : ME} : sSub o i e env M = thenS env (e env M) fun v M1 => thenS env (o env M1) fun x M2 => thenS env (i env M2) fun y M3 => match setD x y v M3 with | some M4 => .next env M4 | none => .stuck := rfl
@[simp] theorem sFor_ap {i : MI} {g : MG} {b : MS} : sFor i g b env M = thenS env (i env M) fun s M1 => forL s.good g b s.items env M1 := rfl
@[simp] theorem gOne_ap {i : Nat} {d : D} : gOne i d env = some (env.set i (some d)) := rfl
@[simp] theorem tYesD_ap : tYesD env M = .ok true M := rfl
open Classical in
@[simp] theorem iRange1_ap {e : ME} : iRange1 e env M = (e env M).bind fun d M1 => kInt d fun j => if RngOk j then .ok ⟨rngItems 0 j.toNat, fun _ => True⟩ M1 else .stuck := rfl
open Classical in
@[simp] theorem iRange2_ap {a b : ME} : iRange2 a b env M = (a env M).bind fun d M1 => (b env M1).bind fun d2 M2 => kInt d fun i => kInt d2 fun j => if RngOk i ∧ RngOk j then .ok ⟨rngItems i (j - i).toNat, fun _ => True⟩ M2 else .stuck := rfl
@[simp] theorem rngOk_of {j : Int} (h0 : 0 ≤ j) (h1 : j ≤ 1000000) : RngOk j := ⟨Int.le_trans (by decide) h0, Int.lt_of_le_of_lt h1 (by decide)⟩
@[simp] theorem rngOk_nat {n : Nat} (h1 : n ≤ 1000000) : RngOk (n : Int) := rngOk_of (by omega) (by omega)
@[simp] theorem iAny_ap {e : ME} : iAny e env M = (e env M).bind fun d M1 => match srcOf M1 d with | some s => .ok s M1 | none => .stuck := rfl
@[simp] theorem eComp_ap {i : Nat} {s : MI} {t : MT} {e : ME} : eComp i s t e env M = (s env M).bind fun s M1 => (compL s.good i t e M1.length env s.items (M1 ++ [.lst []])).bind fun _ M2 => .ok (.ref M1.length) M2 := rfl
@[simp] theorem gTupD_ap {is : List Nat} {ds : List D} : gTupD is (.tup ds) env = if ds.length = is.length then some (setAll env is ds) else none := rfl
@[simp] theorem setAll_cons {i : Nat} {is : List Nat} {d : D} {ds : List D} : setAll env (i :: is) (d :: ds) = setAll (env.set i (some d)) is ds := rfl
@[simp] theorem setAll_nil {ds : List D} : setAll env [] ds = env := by cases ds <;> rfl
variable {i j : Int} {b c : Bool} {x y : Str} {xs ys : List D} {n m : Nat} {d e : D}
@[simp] theorem mAdd_int : mAdd (.int i) (.int j) M = some (.int (i + j), M) := rfl
@[simp] theorem mAdd_tup : mAdd (.tup xs) (.tup ys) M = if xs.length + ys.length ≤ sizeLine then some (.tup (xs ++ ys), M) else none := rfl
@[simp] theorem mAdd_str : mAdd (.str x) (.str y) M = if x.length + y.length ≤ sizeLine then some (.str (x ++ y), M) else none := rfl
@[simp] theorem mAdd_ref : mAdd (.ref n) (.ref m) M = match M[n]?, M[m]? with
    | some (.lst xs), some (.lst ys) => if xs.length + ys.length ≤ sizeLine then some (.ref M.length, M ++ [.lst (xs ++ ys)]) else none
    | _, _ => none := rfl
@[simp] theorem mSub_int : mSub (.int i) (.int j) M = some (.int (i - j), M) := rfl
@[simp] theorem mMod_int : mMod (.int i) (.int j) M = if 0 < j then some (.int (i % j), M) else none := rfl
@[simp] theorem mFdiv_int : mFdiv (.int i) (.int j) M = if 0 < j ∧ j < 1073741824 then some (.int (i / j), M) else none := rfl
@[simp] theorem mPow_int : mPow (.int i) (.int j) M = if 0 ≤ j ∧ j ≤ 1000000 ∧ i.natAbs < 2 ^ 64 then some (.int (i ^ j.toNat), M) else none := rfl
@[simp] theorem mMul_int : mMul (.int i) (.int j) M = @ite _ ((-(2 ^ 64) < i ∧ i < 2 ^ 64) ∨ (-(2 ^ 64) < j ∧ j < 2 ^ 64)) (Classical.propDecidable _) (some (.int (i * j), M)) none := rfl
@[simp] theorem mNeg_int : mNeg (.int i) M = some (.int (-i), M) := rfl
@[simp] theorem mLt_int : mCmp (fun i j => decide (i < j)) (.int i) (.int j) M = some (.bl (decide (i < j)), M) := rfl
@[simp] theorem mLe_int : mCmp (fun i j => decide (i ≤ j)) (.int i) (.int j) M = some (.bl (decide (i ≤ j)), M) := rfl
@[simp] theorem mGt_int : mCmp (fun i j => decide (j < i)) (.int i) (.int j) M = some (.bl (decide (j < i)), M) := rfl
@[simp] theorem mGe_int : mCmp (fun i j => decide (j ≤ i)) (.int i) (.int j) M = some (.bl (decide (j ≤ i)), M) := rfl
theorem mEq_eq : mEq d e M = (eqD M d e).map fun k => (.bl k, M) := rfl
theorem mNe_eq : mNe d e M = (eqD M d e).map fun k => (.bl (!k), M) := rfl
@[simp] theorem eqD_int : eqD M (.int i) (.int j) = some (decide (i = j)) := by
  have : (i == j) = decide (i = j) := rfl
  rw [← this]; rfl
@[simp] theorem mEq_int : mEq (.int i) (.int j) M = some (.bl (decide (i = j)), M) := by rw [mEq_eq, eqD_int]; rfl
@[simp] theorem mNe_int : mNe (.int i) (.int j) M = some (.bl (!decide (i = j)), M) := by rw [mNe_eq, eqD_int]; rfl
@[simp] theorem mIs_non : mIs d .non M = some (.bl (isNon d), M) := rfl
@[simp] theorem mIsNot_non : mIsNot d .non M = some (.bl (!isNon d), M) := rfl
@[simp] theorem mIs_bl : mIs (.bl b) (.bl c) M = some (.bl (b == c), M) := rfl
@[simp] theorem mIsNot_bl : mIsNot (.bl b) (.bl c) M = some (.bl (!(b == c)), M) := rfl
@[simp] theorem isNon_non : isNon .non = true := rfl
@[simp] theorem isNon_int : isNon (.int i) = false := rfl
@[simp] theorem isNon_bl : isNon (.bl b) = false := rfl
@[simp] theorem isNon_str : isNon (.str x) = false := rfl
@[simp] theorem isNon_tup : isNon (.tup xs) = false := rfl
@[simp] theorem isNon_ref : isNon (.ref n) = false := rfl
@[simp] theorem mIdx_tup : mIdx (.tup xs) (.int i) M = (atI xs i).map fun d => (d, M) := rfl
@[simp] theorem mIdx_ref : mIdx (.ref n) (.int i) M = match seqAt M n with | some xs => (atI xs i).map fun d => (d, M) | none => none := rfl
@[simp] theorem mSl_tup {lo hi : Option Int} : mSl (.tup xs) lo hi M = some (.tup (cutL xs lo hi), M) := rfl
@[simp] theorem mSl_ref {lo hi : Option Int} : mSl (.ref n) lo hi M = match seqAt M n with | some xs => some (.ref M.length, M ++ [.lst (cutL xs lo hi)]) | none => none := rfl
@[simp] theorem nLen_tup : nLen [.tup xs] M = some (.int (xs.length : Nat), M) := rfl
@[simp] theorem nLen_ref : nLen [.ref n] M = (seqAt M n).map fun xs => (.int (xs.length : Nat), M) := rfl
@[simp] theorem nLen_str : nLen [.str x] M = if x.length ≤ sizeLine then some (.int (x.length : Nat), M) else none := rfl
@[simp] theorem nMax2_int : nMax2 [.int i, .int j] M = some (.int (if j > i then j else i), M) := rfl
@[simp] theorem nMin2_int : nMin2 [.int i, .int j] M = some (.int (if j < i then j else i), M) := rfl
@[simp] theorem nInt_int : nInt [.int i] M = some (.int i, M) := rfl
@[simp] theorem nInt_bl : nInt [.bl b] M = some (.int (if b then 1 else 0), M) := rfl
@[simp] theorem mIsi_int {T : String} : mIsi T (.int i) M = (kitB "int" T).map fun b => (.bl b, M) := rfl
@[simp] theorem mIsi_bl {T : String} : mIsi T (.bl b) M = (kitB "bool" T).map fun b => (.bl b, M) := rfl
@[simp] theorem mIsi_str {T : String} : mIsi T (.str x) M = (kitB "str" T).map fun b => (.bl b, M) := rfl
@[simp] theorem mIsi_non {T : String} : mIsi T .non M = (kitB "NoneType" T).map fun b => (.bl b, M) := rfl
@[simp] theorem mIsi_tup {T : String} : mIsi T (.tup xs) M = (kitB "tuple" T).map fun b => (.bl b, M) := rfl
theorem mIsi_ref {T : String} (h : seqAt M n = some xs) : mIsi T (.ref n) M = (kitB "list" T).map fun b => (.bl b, M) := by
  have e : tyName M (.ref n) = some "list" := by show (seqAt M n).map (fun _ => "list") = _; rw [h]; rfl
  unfold mIsi; rw [e]
@[simp] theorem kit_ii : kitB "int" "int" = some true := by decide +kernel
@[simp] theorem kit_ib : kitB "int" "bool" = some false := by decide +kernel
@[simp] theorem kit_it : kitB "int" "tuple" = some false := by decide +kernel
@[simp] theorem kit_is : kitB "int" "str" = some false := by decide +kernel
@[simp] theorem kit_il : kitB "int" "list" = some false := by decide +kernel
@[simp] theorem kit_bi : kitB "bool" "int" = some true := by decide +kernel
@[simp] theorem kit_bb : kitB "bool" "bool" = some true := by decide +kernel
@[simp] theorem kit_bt : kitB "bool" "tuple" = some false := by decide +kernel
@[simp] theorem kit_bs : kitB "bool" "str" = some false := by decide +kernel
@[simp] theorem kit_bl : kitB "bool" "list" = some false := by decide +kernel
@[simp] theorem kit_si : kitB "str" "int" = some false := by decide +kernel
@[simp] theorem kit_sb : kitB "str" "bool" = some false := by decide +kernel
@[simp] theorem kit_st : kitB "str" "tuple" = some false := by decide +kernel
@[simp] theorem kit_ss : kitB "str" "str" = some true := by decide +kernel
@[simp] theorem kit_sl : kitB "str" "list" = some false := by decide +kernel
@[simp] theorem kit_ni : kitB "NoneType" "int" = some false := by decide +kernel
@[simp] theorem kit_nb : kitB "NoneType" "bool" = some false := by decide +kernel
@[simp] theorem kit_nt : kitB "NoneType" "tuple" = some false := by decide +kernel
@[simp] theorem kit_ns : kitB "NoneType" "str" = some false := by decide +kernel
@[simp] theorem kit_nl : kitB "NoneType" "list" = some false := by decide +kernel
@[simp] theorem kit_ti : kitB "tuple" "int" = some false := by decide +kernel
@[simp] theorem kit_tb : kitB "tuple" "bool" = some false := by decide +kernel
@[simp] theorem kit_tt : kitB "tuple" "tuple" = some true := by decide +kernel
@[simp] theorem kit_ts : kitB "tuple" "str" = some false := by decide +kernel
@[simp] theorem kit_tl : kitB "tuple" "list" = some false := by decide +kernel
@[simp] theorem kit_li : kitB "list" "int" = some false := by decide +kernel
@[simp] theorem kit_lb : kitB "list" "bool" = some false := by decide +kernel
@[simp] theorem kit_lt : kitB "list" "tuple" = some false := by decide +kernel
@[simp] theorem kit_ls : kitB "list" "str" = some false := by decide +kernel
@[simp] theorem kit_ll : kitB "list" "list" = some true := by decide +kernel
end
/-- it ends with a value, and this is so of it -/
def Ret {α : Type} (o : Out α) (P : α → Mem → Prop) : Prop := ∃ a M, o = .ok a M ∧ P a M
theorem Ret.ok {α : Type} {a : α} {M : Mem} {P : α → Mem → Prop} (h : P a M) : Ret (.ok a M) P := ⟨_, _, rfl, h⟩
theorem Ret.imp {α : Type} {o : Out α} {P Q : α → Mem → Prop} (h : Ret o P) (k : ∀ a M, P a M → Q a M) : Ret o Q := by
  obtain ⟨a, M, e, p⟩ := h
  exact ⟨a, M, e, k a M p⟩
theorem Ret.bind {α β : Type} {o : Out α} {f : α → Mem → Out β} {P : α → Mem → Prop} {Q : β → Mem → Prop} (h : Ret o P) (k : ∀ a M, P a M → Ret (f a M) Q) : Ret (o.bind f) Q := by
  obtain ⟨a, M, rfl, p⟩ := h
  exact k a M p
theorem atI_ok {α : Type} {xs : List α} {i : Int} (h0 : 0 ≤ i) (h1 : i < xs.length) : ∃ a, xs[i.toNat]? = some a ∧ atI xs i = some a := by
  have hl : i.toNat < xs.length := by omega
  refine ⟨xs[i.toNat], List.getElem?_eq_getElem hl, ?_⟩
  unfold atI ixN
  rw [if_pos h0, if_pos h1]
  exact List.getElem?_eq_getElem hl
theorem seqAt_lst {M : Mem} {n : Nat} {xs : List D} (h : M[n]? = some (.lst xs)) : seqAt M n = some xs := by unfold seqAt; rw [h]
@[simp] theorem atI_0 {α : Type} {a : α} {xs : List α} : atI (a :: xs) 0 = some a := by simp [atI, ixN]
theorem atI_lit {α : Type} {xs : List α} (k : Nat) {a : α} (h : xs[k]? = some a) : atI xs (k : Int) = some a := atI_nat h
@[simp] theorem atI_1 {α : Type} {a b : α} {xs : List α} : atI (a :: b :: xs) 1 = some b := atI_lit (xs := a :: b :: xs) 1 rfl
@[simp] theorem atI_2 {α : Type} {a b c : α} {xs : List α} : atI (a :: b :: c :: xs) 2 = some c := atI_lit (xs := a :: b :: c :: xs) 2 rfl
@[simp] theorem atI_3 {α : Type} {a b c d : α} {xs : List α} : atI (a :: b :: c :: d :: xs) 3 = some d := atI_lit (xs := a :: b :: c :: d :: xs) 3 rfl
@[simp] theorem atI_4 {α : Type} {a b c d e : α} {xs : List α} : atI (a :: b :: c :: d :: e :: xs) 4 = some e := atI_lit (xs := a :: b :: c :: d :: e :: xs) 4 rfl
@[simp] theorem atI_5 {α : Type} {a b c d e f : α} {xs : List α} : atI (a :: b :: c :: d :: e :: f :: xs) 5 = some f := atI_lit (xs := a :: b :: c :: d :: e :: f :: xs) 5 rfl
@[simp] theorem atI_6 {α : Type} {a b c d e f g : α} {xs : List α} : atI (a :: b :: c :: d :: e :: f :: g :: xs) 6 = some g := atI_lit (xs := a :: b :: c :: d :: e :: f :: g :: xs) 6 rfl
end TL
end
section
namespace TL
open PySem PySem.Spec PyProof.Rows L2
mutual
/-- no list in it, its texts are texts, at most n deep -/
def pureD : D → Nat → Bool
  | .non, _ => true
  | .bl _, _ => true
  | .int _, _ => true
  | .str x, _ => PyData.strOk x
  | .tup _, 0 => false
  | .tup xs, n + 1 => pureL xs n
  | .ref _, _ => false
  | .err _, _ => false
def pureL : List D → Nat → Bool
  | [], _ => true
  | x :: xs, n => pureD x n && pureL xs n
end
mutual
def pyD : D → PyData
  | .non => .none
  | .bl b => .bool b
  | .int i => .int i
  | .str x => .str x
  | .tup xs => .tuple (pyL xs)
  | .ref _ => .none
  | .err _ => .none
def pyL : List D → List PyData
  | [] => []
  | x :: xs => pyD x :: pyL xs
end
mutual
theorem toP_pure {M : Mem} : ∀ (d : D) (n : Nat), pureD d n = true → toP (n + 1) M d = some (pyD d)
  | .non, _, _ => rfl
  | .bl _, _, _ => rfl
  | .int _, _, _ => rfl
  | .str _, _, _ => rfl
  | .tup xs, 0, h => by simp [pureD] at h
  | .tup xs, n + 1, h => by
    have h' : pureL xs n = true := by simpa [pureD] using h
    show (optAll (toP (n + 1) M) xs).map PyData.tuple = _
    rw [toP_pureL xs n h']
    simp [pyD]
  | .ref _, _, h => by simp [pureD] at h
  | .err _, _, h => by simp [pureD] at h
theorem toP_pureL {M : Mem} : ∀ (ds : List D) (n : Nat), pureL ds n = true → optAll (toP (n + 1) M) ds = some (pyL ds)
  | [], _, _ => rfl
  | x :: xs, n, h => by
    have h' : pureD x n = true ∧ pureL xs n = true := by simpa [pureL] using h
    unfold optAll
    rw [toP_pure x n h'.1, toP_pureL xs n h'.2]
    simp [pyL]
end
mutual
theorem lay_pure : ∀ (d : D) (n : Nat), pureD d n = true → (pyD d).canLay0 = true ∧ (pyD d).depth ≤ n
  | .non, _, _ => by simp [pyD, PyData.canLay0, PyData.depth]
  | .bl _, _, _ => by simp [pyD, PyData.canLay0, PyData.depth]
  | .int _, _, _ => by simp [pyD, PyData.canLay0, PyData.depth]
  | .str x, _, h => by
    have h' : PyData.strOk x = true := by simpa [pureD] using h
    simp [pyD, PyData.canLay0, PyData.depth, h']
  | .tup xs, 0, h => by simp [pureD] at h
  | .tup xs, n + 1, h => by
    have h' : pureL xs n = true := by simpa [pureD] using h
    obtain ⟨h1, h2⟩ := lay_pureL xs n h'
    simp [pyD, PyData.canLay0, PyData.depth, h1, h2]
  | .ref _, _, h => by simp [pureD] at h
  | .err _, _, h => by simp [pureD] at h
theorem lay_pureL : ∀ (ds : List D) (n : Nat), pureL ds n = true → PyData.canLayAll0 (pyL ds) = true ∧ PyData.depthAll (pyL ds) ≤ n
  | [], _, _ => by simp [pyL, PyData.canLayAll0, PyData.depthAll]
  | x :: xs, n, h => by
    have h' : pureD x n = true ∧ pureL xs n = true := by simpa [pureL] using h
    obtain ⟨h1, h2⟩ := lay_pure x n h'.1
    obtain ⟨h3, h4⟩ := lay_pureL xs n h'.2
    simp [pyL, PyData.canLayAll0, PyData.depthAll, h1, h3]
    omega
end
theorem toP_mono {M : Mem} {f g : Nat} (h : f ≤ g) : ∀ {d : D} {p : PyData}, toP f M d = some p → toP g M d = some p := by
  induction f generalizing g with
  | zero => intro d p e; cases e
  | succ f ih =>
    intro d p e
    obtain ⟨g, rfl⟩ : ∃ k, g = k + 1 := ⟨g - 1, by omega⟩
    have ihL : ∀ {ds : List D} {ps : List PyData}, optAll (toP f M) ds = some ps → optAll (toP g M) ds = some ps := by
      intro ds
      induction ds with
      | nil => intro ps e; exact e
      | cons x xs ih2 =>
        intro ps e
        unfold optAll at e ⊢
        split at e
        · rename_i y ys h1 h2
          cases e
          rw [ih (by omega) h1, ih2 h2]
        · cases e
    cases d with
    | tup xs =>
      have e' : (optAll (toP f M) xs).map PyData.tuple = some p := e
      cases q : optAll (toP f M) xs with
      | none => rw [q] at e'; cases e'
      | some ps =>
        rw [q] at e'
        show (optAll (toP g M) xs).map PyData.tuple = some p
        rw [ihL q]; exact e'
    | ref n =>
      have e' : (match seqAt M n with | some xs => (optAll (toP f M) xs).map PyData.list | none => none) = some p := e
      show (match seqAt M n with | some xs => (optAll (toP g M) xs).map PyData.list | none => none) = some p
      cases q0 : seqAt M n with
      | none => rw [q0] at e'; cases e'
      | some xs =>
        simp only [q0] at e' ⊢
        cases q : optAll (toP f M) xs with
        | none => rw [q] at e'; cases e'
        | some ps => rw [q] at e'; rw [ihL q]; exact e'
    | _ => exact e
theorem shaped_pure {d : D} {n : Nat} (h : pureD d n = true) (hn : n ≤ 63) : SeqAt.shaped (pyD d) = true := by
  obtain ⟨h1, h2⟩ := lay_pure d n h
  unfold SeqAt.shaped
  rw [h1, Bool.true_and]
  exact decide_eq_true (by omega)
/-- == of data without memory -/
theorem eqD_pure {M : Mem} {a b : D} {n m : Nat} (ha : pureD a n = true) (hb : pureD b m = true) (hn : n ≤ 63) (hm : m ≤ 63) : eqD M a b = some (PyData.eqv (pyD a) (pyD b)) := by
  unfold eqD
  rw [toP_mono (by omega) (toP_pure (M := M) a n ha), toP_mono (by omega) (toP_pure (M := M) b m hb)]
  simp only [shaped_pure ha hn, shaped_pure hb hm, and_self, if_true]
theorem pure_mono : ∀ {d : D} {n m : Nat}, pureD d n = true → n ≤ m → pureD d m = true := by
  have h : ∀ d : D, ∀ n m, n ≤ m → pureD d n = true → pureD d m = true := by
    intro d
    refine D.rec (motive_1 := fun d => ∀ n m, n ≤ m → pureD d n = true → pureD d m = true) (motive_2 := fun ds => ∀ n m, n ≤ m → pureL ds n = true → pureL ds m = true) ?_ ?_ ?_ ?_ ?_ ?_ ?_ ?_ ?_ d
    · intros; simp [pureD]
    · intros; simp [pureD]
    · intros; simp [pureD]
    · intro x n m _ h; simpa [pureD] using h
    · intro xs ih n m hm h
      cases n with
      | zero => simp [pureD] at h
      | succ n =>
        cases m with
        | zero => omega
        | succ m =>
          have h' : pureL xs n = true := by simpa [pureD] using h
          have := ih n m (by omega) h'
          simpa [pureD] using this
    · intro n k m _ h; simp [pureD] at h
    · intro x k m _ h; simp [pureD] at h
    · intros; simp [pureL]
    · intro x xs ih1 ih2 n m hm h
      have h' : pureD x n = true ∧ pureL xs n = true := by simpa [pureL] using h
      simp [pureL, ih1 n m hm h'.1, ih2 n m hm h'.2]
  intro d n m h1 h2
  exact h d n m h2 h1
end TL
end
section
namespace TL
open PySem PySem.Spec PyProof.Rows L2
section
variable {α β : Type} {env : Env} {M : Mem} {o : Out α}
@[simp] theorem endS_thenS (f : α → Mem → SOut) : endS (thenS env o f) = o.bind fun a M => endS (f a M) := by cases o <;> rfl
@[simp] theorem nextS_thenS (f : α → Mem → SOut) (g : Env → Mem → SOut) : nextS (thenS env o f) g = thenS env o fun a M => nextS (f a M) g := by cases o <;> rfl
@[simp] theorem thenS_bind (f : α → Mem → Out β) (g : β → Mem → SOut) : thenS env (o.bind f) g = thenS env o fun a M => thenS env (f a M) g := by cases o <;> rfl
@[simp] theorem nextS_nextS (s : SOut) (f g : Env → Mem → SOut) : nextS (nextS s f) g = nextS s fun e M => nextS (f e M) g := by cases s <;> rfl
end
/-- all that stood stands -/
def Keep (M M' : Mem) : Prop := M.length ≤ M'.length ∧ ∀ n, n < M.length → M'[n]? = M[n]?
theorem Keep.refl (M : Mem) : Keep M M := ⟨Nat.le_refl _, fun _ _ => rfl⟩
theorem Keep.trans {M M1 M2 : Mem} (a : Keep M M1) (b : Keep M1 M2) : Keep M M2 := ⟨Nat.le_trans a.1 b.1, fun n h => (b.2 n (Nat.lt_of_lt_of_le h a.1)).trans (a.2 n h)⟩
theorem Keep.more (M G : Mem) : Keep M (M ++ G) := ⟨by simp, fun n h => List.getElem?_append_left h⟩
theorem Keep.at {M M' : Mem} (k : Keep M M') {n : Nat} {o : MO} (h : M[n]? = some o) : M'[n]? = some o := (k.2 n (List.getElem?_eq_some_iff.mp h).1).trans h
/-- the last one of a memory changes, all ahead stands -/
theorem Keep.setNew {M M' : Mem} {n : Nat} {o : MO} (k : Keep M M') (h : M.length ≤ n) : Keep M (M'.set n o) :=
  ⟨by rw [List.length_set]; exact k.1, fun m hm => by rw [List.getElem?_set_ne (by omega)]; exact k.2 m hm⟩
theorem at_len (M : Mem) (o : MO) : (M ++ [o])[M.length]? = some o := by simp
theorem lt_of_at {M : Mem} {n : Nat} {o : MO} (h : M[n]? = some o) : n < M.length := (List.getElem?_eq_some_iff.mp h).1
/-- what is walked over a tuple -/
@[simp] theorem srcOf_tup {M : Mem} {xs : List D} : srcOf M (.tup xs) = some ⟨xs, fun _ => True⟩ := rfl
@[simp] theorem srcOf_str {M : Mem} {x : Str} : srcOf M (.str x) = some ⟨strItems x, fun _ => True⟩ := rfl
theorem srcOf_ref {M : Mem} {n : Nat} {xs : List D} (h : seqAt M n = some xs) : srcOf M (.ref n) = some ⟨xs, fun M' => seqAt M' n = some xs⟩ := by
  show (seqAt M n).map _ = _
  rw [h]; rfl
theorem Keep.seq {M M' : Mem} (k : Keep M M') {n : Nat} {xs : List D} (h : seqAt M n = some xs) : seqAt M' n = some xs := by
  unfold seqAt at h ⊢
  cases q : M[n]? with
  | none => rw [q] at h; cases h
  | some o => rw [k.at q]; rw [q] at h; exact h
theorem forL_nil {good : Mem → Prop} {g : MG} {b : MS} {env : Env} {M : Mem} (h : good M) : forL good g b [] env M = .next env M := by unfold forL; rw [if_pos h]
theorem forL_cons {good : Mem → Prop} {g : MG} {b : MS} {d : D} {ds : List D} {env env1 : Env} {M : Mem} (h : good M) (hg : g d env = some env1) : forL good g b (d :: ds) env M = nextS (b env1 M) (forL good g b ds) := by
  conv => lhs; unfold forL
  rw [if_pos h, hg]
theorem compL_nil {good : Mem → Prop} {i n : Nat} {t : MT} {e : ME} {env : Env} {M : Mem} (h : good M) : compL good i t e n env [] M = .ok () M := by unfold compL; rw [if_pos h]
theorem compL_cons {good : Mem → Prop} {i n : Nat} {t : MT} {e : ME} {env : Env} {d : D} {ds : List D} {M : Mem} (h : good M) : compL good i t e n env (d :: ds) M = (t (env.set i (some d)) M).nox.bind fun k M1 => if k = true then (e (env.set i (some d)) M1).nox.bind fun y M2 => match M2[n]? with
        | some (.lst acc) => if acc.length < sizeLine then compL good i t e n env ds (M2.set n (.lst (acc ++ [y]))) else .stuck
        | _ => .stuck
      else compL good i t e n env ds M1 := by
  conv => lhs; unfold compL
  (rw [if_pos h]) <;> rfl
/-- a comprehension whose test and element leave the memory as it is: the items that are kept, each turned -/
theorem compL_pure {good : Mem → Prop} {i : Nat} {t : MT} {e : ME} {env : Env} {M : Mem} (p : D → Bool) (f : D → D) (hg : ∀ ys : List D, good (M ++ [.lst ys])) : ∀ (ds : List D) (acc : List D), acc.length + ds.length ≤ 1000000 →
    (∀ d ∈ ds, ∀ ys : List D, t (env.set i (some d)) (M ++ [.lst ys]) = .ok (p d) (M ++ [.lst ys]) ∧ (p d = true → e (env.set i (some d)) (M ++ [.lst ys]) = .ok (f d) (M ++ [.lst ys]))) →
    compL good i t e M.length env ds (M ++ [.lst acc]) = .ok () (M ++ [.lst (acc ++ (ds.filter p).map f)])
  | [], acc, _, _ => by rw [compL_nil (hg acc)]; simp
  | d :: ds, acc, hl, h => by
    obtain ⟨h1, h2⟩ := h d List.mem_cons_self acc
    rw [compL_cons (hg acc), h1]
    cases q : p d with
    | false =>
      simp only [Out.nox_ok, Out.bind_ok, Bool.false_eq_true, if_false]
      rw [compL_pure p f hg ds acc (by simp at hl; omega) fun d' hd => h d' (List.mem_cons_of_mem _ hd)]
      rw [List.filter_cons_of_neg (by rw [q]; simp)]
    | true =>
      simp only [Out.nox_ok, Out.bind_ok, if_true]
      rw [h2 q]
      simp only [Out.nox_ok, Out.bind_ok, at_len]
      rw [if_pos (by rw [sizeLine_eq]; simp at hl; omega)]
      have e1 : (M ++ [MO.lst acc]).set M.length (.lst (acc ++ [f d])) = M ++ [.lst (acc ++ [f d])] := by simp
      rw [e1, compL_pure p f hg ds (acc ++ [f d]) (by simp at hl ⊢; omega) fun d' hd => h d' (List.mem_cons_of_mem _ hd)]
      rw [List.filter_cons_of_pos q]
      simp
theorem eComp_pure {i : Nat} {s : MI} {t : MT} {e : ME} {env : Env} {M M1 : Mem} {src : Src} (p : D → Bool) (f : D → D) (hs : s env M = .ok src M1) (hg : ∀ ys : List D, src.good (M1 ++ [.lst ys])) (hl : src.items.length ≤ 1000000)
    (h : ∀ d ∈ src.items, ∀ ys : List D, t (env.set i (some d)) (M1 ++ [.lst ys]) = .ok (p d) (M1 ++ [.lst ys]) ∧ (p d = true → e (env.set i (some d)) (M1 ++ [.lst ys]) = .ok (f d) (M1 ++ [.lst ys]))) :
    eComp i s t e env M = .ok (.ref M1.length) (M1 ++ [.lst ((src.items.filter p).map f)]) := by
  show (s env M).bind _ = _
  rw [hs, Out.bind_ok, compL_pure p f hg src.items [] (by simpa using hl) h]
  simp
end TL
end
section
namespace TL
open PySem PySem.Spec PyProof.Rows L2
theorem toP_ref {M : Mem} {n k : Nat} {xs : List D} (h : seqAt M n = some xs) (hp : pureL xs k = true) : toP (k + 2) M (.ref n) = some (.list (pyL xs)) := by
  show (match seqAt M n with | some xs => (optAll (toP (k + 1) M) xs).map PyData.list | none => none) = _
  rw [h]
  simp only [toP_pureL xs k hp]
  rfl
theorem shaped_list {xs : List D} {k : Nat} (hp : pureL xs k = true) (hk : k ≤ 62) : SeqAt.shaped (.list (pyL xs)) = true := by
  obtain ⟨h1, h2⟩ := lay_pureL xs k hp
  unfold SeqAt.shaped
  have e : (PyData.list (pyL xs)).canLay0 = true := by simpa [PyData.canLay0] using h1
  rw [e, Bool.true_and]
  refine decide_eq_true ?_
  show PyData.depthAll (pyL xs) + 1 ≤ 64
  omega
theorem eqD_ref {M : Mem} {n m k j : Nat} {xs ys : List D} (h1 : seqAt M n = some xs) (h2 : seqAt M m = some ys) (p1 : pureL xs k = true) (p2 : pureL ys j = true) (hk : k ≤ 62) (hj : j ≤ 62) : eqD M (.ref n) (.ref m) = some (PyData.eqvAll (pyL xs) (pyL ys)) := by
  unfold eqD
  rw [toP_mono (by omega) (toP_ref h1 p1), toP_mono (by omega) (toP_ref h2 p2)]
  simp only [shaped_list p1 hk, shaped_list p2 hj, and_self, if_true, PyData.eqv]
theorem eqvAll_nil {xs : List D} : PyData.eqvAll (pyL xs) (pyL []) = xs.isEmpty := by cases xs <;> simp [pyL, PyData.eqvAll]
theorem mEq_nil {M : Mem} {n m k : Nat} {xs : List D} (h1 : seqAt M n = some xs) (h2 : seqAt M m = some []) (p1 : pureL xs k = true) (hk : k ≤ 62) : mEq (.ref n) (.ref m) M = some (.bl xs.isEmpty, M) := by
  rw [mEq_eq, eqD_ref h1 h2 p1 (show pureL [] 0 = true by simp [pureL]) hk (by omega), eqvAll_nil]; rfl
theorem tyD_list {M : Mem} {n : Nat} {xs : List D} (h : seqAt M n = some xs) : tyD "list" M (.ref n) = true := by
  show (decide ("list" = "list") && (seqAt M n).isSome) = true
  rw [h]; rfl
theorem mExtend_ok {M : Mem} {n m : Nat} {xs ys : List D} (h1 : M[n]? = some (.lst xs)) (h2 : M[m]? = some (.lst ys)) (hl : xs.length + ys.length ≤ 1000000) : mExtend (.ref n) [.ref m] M = some (.non, M.set n (.lst (xs ++ ys))) := by
  show (match M[n]?, M[m]? with | some (.lst xs), some (.lst ys) => if xs.length + ys.length ≤ sizeLine then some (D.non, M.set n (.lst (xs ++ ys))) else none | _, _ => none) = _
  rw [h1, h2]
  exact if_pos (by rw [sizeLine_eq]; omega)
theorem mAppend_ok {M : Mem} {n : Nat} {xs : List D} {y : D} (h1 : M[n]? = some (.lst xs)) (hl : xs.length ≤ 1000000) : mAppend (.ref n) [y] M = some (.non, M.set n (.lst (xs ++ [y]))) := by
  show (match M[n]? with | some (.lst xs) => if xs.length < sizeLine then some (D.non, M.set n (.lst (xs ++ [y]))) else none | _ => none) = _
  rw [h1]
  exact if_pos (by rw [sizeLine_eq]; omega)
theorem mAdd_lists {M : Mem} {n m : Nat} {xs ys : List D} (h1 : M[n]? = some (.lst xs)) (h2 : M[m]? = some (.lst ys)) (hl : xs.length + ys.length ≤ 1000000) : mAdd (.ref n) (.ref m) M = some (.ref M.length, M ++ [.lst (xs ++ ys)]) := by
  rw [mAdd_ref, h1, h2]
  exact if_pos (by rw [sizeLine_eq]; omega)
@[simp] theorem truD_bl {M : Mem} {b : Bool} : truD M (.bl b) = some b := rfl
@[simp] theorem truD_int {M : Mem} {i : Int} : truD M (.int i) = some (i != 0) := rfl
@[simp] theorem truD_non {M : Mem} : truD M .non = some false := rfl
@[simp] theorem mEq_non_int {M : Mem} {i : Int} : mEq .non (.int i) M = some (.bl false, M) := by
  rw [mEq_eq, eqD_pure (n := 0) (m := 0) (by simp [pureD]) (by simp [pureD]) (by decide) (by decide)]; simp [pyD, PyData.eqv]
@[simp] theorem mEq_int_non {M : Mem} {i : Int} : mEq (.int i) .non M = some (.bl false, M) := by
  rw [mEq_eq, eqD_pure (n := 0) (m := 0) (by simp [pureD]) (by simp [pureD]) (by decide) (by decide)]; simp [pyD, PyData.eqv]
@[simp] theorem mEq_bl {M : Mem} {b c : Bool} : mEq (.bl b) (.bl c) M = some (.bl (b == c), M) := by
  rw [mEq_eq, eqD_pure (n := 0) (m := 0) (by simp [pureD]) (by simp [pureD]) (by decide) (by decide)]; simp [pyD, PyData.eqv]
/-- texts are held against one another -/
theorem eqD_str {M : Mem} {x y : Str} : eqD M (.str x) (.str y) = some (decide (x = y)) := by
  unfold eqD
  show (if SeqAt.shaped (.str x) = true ∧ SeqAt.shaped (.str y) = true then some (PyData.eqv (.str x) (.str y)) else strEq (.str x) (.str y)) = _
  split
  · simp only [PyData.eqv]
    rfl
  · rfl
theorem mEq_text {M : Mem} {x y : Str} : mEq (.str x) (.str y) M = some (.bl (decide (x = y)), M) := by rw [mEq_eq, eqD_str]; rfl
theorem mNe_text {M : Mem} {x y : Str} : mNe (.str x) (.str y) M = some (.bl (!decide (x = y)), M) := by rw [mNe_eq, eqD_str]; rfl
end TL
end
section
namespace TL
open PySem PySem.Spec PyProof.Rows L2
theorem compL_keep {good : Mem → Prop} {i n : Nat} {t : MT} {e : ME} {env : Env} (p : D → Bool) (f : D → D) (M0 : Mem) (hg : ∀ M', Keep M0 M' → good M') (hn : M0.length ≤ n) : ∀ (ds acc : List D) (M : Mem), Keep M0 M → M[n]? = some (.lst acc) → acc.length + ds.length ≤ 1000000 →
    (∀ d ∈ ds, ∀ M', Keep M0 M' → ∃ M1, t (env.set i (some d)) M' = .ok (p d) M1 ∧ Keep M' M1 ∧ (p d = true → ∃ M2, e (env.set i (some d)) M1 = .ok (f d) M2 ∧ Keep M1 M2)) →
    ∃ M2, compL good i t e n env ds M = .ok () M2 ∧ Keep M0 M2 ∧ M2[n]? = some (.lst (acc ++ (ds.filter p).map f))
  | [], acc, M, k, ha, _, _ => ⟨M, compL_nil (hg M k), k, by simpa using ha⟩
  | d :: ds, acc, M, k, ha, hl, h => by
    obtain ⟨M1, e1, k1, h2⟩ := h d List.mem_cons_self M k
    rw [compL_cons (hg M k), e1]
    have k01 := k.trans k1
    cases q : p d with
    | false =>
      simp only [Out.nox_ok, Out.bind_ok, Bool.false_eq_true, if_false]
      obtain ⟨M2, e2, k2, a2⟩ := compL_keep p f M0 hg hn ds acc M1 k01 (k1.at ha) (by simp at hl; omega) fun d' hd => h d' (List.mem_cons_of_mem _ hd)
      exact ⟨M2, e2, k2, by rw [List.filter_cons_of_neg (by rw [q]; simp)]; exact a2⟩
    | true =>
      obtain ⟨M2, e2, k2⟩ := h2 q
      simp only [Out.nox_ok, Out.bind_ok, if_true, e2]
      have a2 := k2.at (k1.at ha)
      simp only [a2]
      rw [if_pos (by rw [sizeLine_eq]; simp at hl; omega)]
      obtain ⟨M3, e3, k3, a3⟩ := compL_keep p f M0 hg hn ds (acc ++ [f d]) (M2.set n (.lst (acc ++ [f d]))) ((k01.trans k2).setNew hn) (List.getElem?_set_self (lt_of_at a2)) (by simp at hl ⊢; omega) fun d' hd => h d' (List.mem_cons_of_mem _ hd)
      refine ⟨M3, e3, k3, ?_⟩
      rw [List.filter_cons_of_pos q]
      simpa using a3
theorem mem_rng {lo : Int} {n : Nat} {d : D} (h : d ∈ rngItems lo n) : ∃ k : Nat, k < n ∧ d = .int (lo + k) := by
  obtain ⟨k, hk, rfl⟩ := List.mem_map.mp h
  exact ⟨k, List.mem_range.mp hk, rfl⟩
theorem rng_length {lo : Int} {n : Nat} : (rngItems lo n).length = n := by simp [rngItems]
end TL
end
section
namespace TL
open PySem PySem.Spec PyProof.Rows L2
/-- a statement that is never reached -/
def sStk : MS := fun _ _ => .stuck
end TL
namespace TL
open PySem PySem.Spec PyProof.Rows L2
open Classical in
noncomputable def eTupRg1 (e : ME) : ME := fun env M => (e env M).bind fun d M1 => kInt d fun j => if RgOk 0 j then .ok (.tup (rngItems 0 j.toNat)) M1 else .stuck
open Classical in
noncomputable def eLstRg1 (e : ME) : ME := fun env M => (e env M).bind fun d M1 => kInt d fun j => if RgOk 0 j then .ok (.ref M1.length) (M1 ++ [.lst (rngItems 0 j.toNat)]) else .stuck
open Classical in
noncomputable def eTupRg2 (a b : ME) : ME := fun env M => (a env M).bind fun d M1 => (b env M1).bind fun d2 M2 => kInt d fun i => kInt d2 fun j => if RgOk i j then .ok (.tup (rngItems i (j - i).toNat)) M2 else .stuck
open Classical in
noncomputable def eLstRg2 (a b : ME) : ME := fun env M => (a env M).bind fun d M1 => (b env M1).bind fun d2 M2 => kInt d fun i => kInt d2 fun j => if RgOk i j then .ok (.ref M2.length) (M2 ++ [.lst (rngItems i (j - i).toNat)]) else .stuck
end TL
end
section
set_option maxHeartbeats 4000000
namespace TL
open PySem PySem.Spec PyProof.Rows L2
/-- where a suite stands: the exception at a is being handled, and is tracked as itself -/
abbrev Cx.suiteT (X : Cx) (a : Addr) (pn : List (Addr × Obj)) : Cx := { X with A := X.A.mark (some (.ref a)), calm := false, pn := pn, xe := fun _ _ => False }
theorem errO_ok {P : Program} {w : World} {H : Hp} {h : Heap} {a : Addr} {oe : Obj} (e : h.get? a = some oe) : ObjOk P w H h a (errO oe) := ⟨e, trivial, ⟨_, e⟩, fun _ _ _ _ => trivial⟩
section
variable {X : Cx} {pins : List (Addr × Obj)} {σ : L2.St} {H : Hp} {s : Shared}
/-- an untracked object, younger than the def's call, is tracked from now on as itself -/
theorem Inv.adopt (I : Inv X pins σ H s) {a : Addr} {oe : Obj} {vs : Array Value} (young : ∀ o, X.s_0.heap.get? a ≠ some o) (apart : ∀ p ∈ X.pn ++ pins, p.1 ≠ a) (ha : s.heap.get? a = some oe) (hd : oe.data = .fields vs) (na : H a = none) (frame : a ≠ X.env.locals) :
    Inv X pins σ (upd H a (errO oe)) s := by
  have other : ∀ {b : Addr} {o : HO}, H b = some o → upd H a (errO oe) b = some o := fun {b o} e => by rw [upd_ne (ne_of_none e na)]; exact e
  have off : ∀ {b : Addr}, b ≠ a → H b = none → upd H a (errO oe) b = none := fun hb e => by rw [upd_ne hb]; exact e
  exact
    { ok := I.ok, os := I.os, bare := I.bare, loc := I.loc, cell := I.cell, len := I.len
      base :=
        { keep := I.base.keep, slot := I.base.slot, there := I.base.there
          free := fun b o e n hx => off (fun z => young o (z ▸ e)) (I.base.free b o e n hx)
          tups := fun b xs e => other (I.base.tups b xs e)
          frzs := fun b o u e => other (I.base.frzs b o u e)
          tbls := fun b ps e => (I.base.tbls b ps e).imp fun _ z => other z }
      free := off (Ne.symm frame) I.free
      freeC := fun x c e => off (fun z => by
        obtain ⟨v, o, e1, e2⟩ := I.cell x c e
        rw [z, ha] at e1
        cases e1
        rw [hd] at e2
        cases e2) (I.freeC x c e)
      pin := fun p hp => ⟨(I.pin p hp).1, off (apart p hp) (I.pin p hp).2.1, (I.pin p hp).2.2⟩
      hok := fun b o e => by
        by_cases hb : b = a
        · subst hb
          rw [upd_same] at e
          cases e
          exact errO_ok ha
        · rw [upd_ne hb] at e
          exact (I.hok b o e).stay (fun _ _ _ q => q) (fun c hc => other hc) fun c xs hc => other hc }
/-- into the suite -/
theorem Inv.goSuite (I : Inv X pins σ H s) (a : Addr) : Inv (Cx.suiteT X a (X.pn ++ pins)) [] σ H s :=
  { ok := I.ok.suite a _, os := I.os, bare := I.bare, base := I.base, loc := I.loc, cell := I.cell, free := I.free, freeC := I.freeC, hok := I.hok, len := I.len
    pin := fun p hp => I.pin p (List.append_nil (X.pn ++ pins) ▸ hp) }
/-- out of the suite -/
theorem Inv.goOut {a : Addr} {pn' : List (Addr × Obj)} (ok : X.Ok) (I : Inv (Cx.suiteT X a (X.pn ++ pins)) pn' σ H s) : Inv X pins σ H s :=
  { ok := ok, os := I.os, bare := I.bare, base := I.base, loc := I.loc, cell := I.cell, free := I.free, freeC := I.freeC, hok := I.hok, len := I.len
    pin := fun p hp => I.pin p (List.mem_append.mpr (.inl hp)) }
end
/-- an exception has come down at a in the frame of X: what is so of the state, the record of its way in whatever form -/
structure Down (X : Cx) (pins : List (Addr × Obj)) (σ : L2.St) (H : Hp) (a : Addr) (cls : Value) (d : Option Addr) (B : Heap) (s : Shared) (h : Heap) : Prop where
  fl : HandSPX.FlyingZ B (X.env :: X.outer) a (L2N.Zn cls d) h
  inv : ∀ g, HandSPX.FlyingZ B (X.env :: X.outer) a (L2N.Zn cls d) g → h.UpToSlots g → Inv X pins σ H { s with heap := g }
  up : ∀ g, HandSPX.HeldZ B (X.env :: X.outer) a (L2N.Zn cls d) X.env.locals g → h.UpToSlots g → ∀ W : WX, W cls d σ H → L2N.XE X W (.ref a) { s with heap := g }
  free : H a = none
  young : ∀ o, X.s_0.heap.get? a ≠ some o
  apart : ∀ p ∈ X.pn ++ pins, p.1 ≠ a
  frame : a ≠ X.env.locals
section
variable {X : Cx} {pins : List (Addr × Obj)} {σ : L2.St} {H : Hp} {a : Addr} {cls : Value} {d : Option Addr} {B : Heap} {s : Shared} {h g : Heap}
theorem Down.move (D : Down X pins σ H a cls d B s h) (fl : HandSPX.FlyingZ B (X.env :: X.outer) a (L2N.Zn cls d) g) (u : h.UpToSlots g) : Down X pins σ H a cls d B s g :=
  { D with fl := fl, inv := fun g' f' u' => D.inv g' f' (u.trans u'), up := fun g' f' u' => D.up g' f' (u.trans u') }
theorem Down.here (D : Down X pins σ H a cls d B s h) : Inv X pins σ H { s with heap := h } := D.inv h D.fl (Heap.UpToSlots.refl h)
/-- the suite begins: the exception is tracked -/
theorem Down.suite (D : Down X pins σ H a cls d B s h) : ∃ oe : Obj, L2N.Zn cls d oe ∧ (∃ vs, oe.data = .fields vs) ∧ Inv (Cx.suiteT X a (X.pn ++ pins)) [] σ (upd H a (errO oe)) { s with heap := h } := by
  obtain ⟨oe, vs, at_, z, dt⟩ := D.fl.there
  exact ⟨oe, z, ⟨vs, dt⟩, Inv.goSuite (Inv.adopt D.here D.young D.apart at_ dt D.free D.frame) a⟩
/-- the clause's class is read -/
theorem Down.reads {x : Str} {c : Value} {np : Pos} (D : Down X pins σ H a cls d B s h) (hc : Names X x c) {Q : Value → Shared → Prop} {E : Value → Shared → Prop} (q : Q c { s with heap := h }) :
    wpAny (model X.prog X.w) (X.A.mark (some (.ref a))) (eval (.Name x np) X.env) Q E { s with heap := h } := by
  have I : Inv (Cx.suiteT X a (X.pn ++ pins)) [] σ H { s with heap := h } := Inv.goSuite D.here a
  obtain ⟨g, nd, m | ⟨m, v, nn⟩⟩ := hc
  · exact ld_glob I g m q nd
  · exact ld_blt I g m v q nn nd
/-- the clause's class is held against it -/
theorem Down.fits {c : Value} {b : Bool} (D : Down X pins σ H a cls d B s h) (e : PySem.W.exmOne X.K cls c = some b) : PySem.W.Looks (model X.prog X.w) h (excMatches (.ref a) c) b := by
  obtain ⟨oe, vs, at_, z, dt⟩ := D.fl.there
  refine PySem.W.exm_one D.here.kIn ?_ e
  intro A Q E s1 k q
  exact wpAny_typeOf_ref (k _ _ at_) (z.1 ▸ q)
/-- no clause takes it: it goes on -/
theorem Down.on {W : WX} {Q : Flow → Shared → Prop} (D : Down X pins σ H a cls d B s h) (hf : X.env.frame = some X.env.locals) (tk : L2N.Takes X W) (w : W cls d σ H) :
    wpAny (model X.prog X.w) X.A (handleBy (.ref a) X.env []) Q X.xe { s with heap := h } := by
  obtain ⟨_, _, _, oe, vs, T, _, _, at_, _, dt, v1, _⟩ := D.fl
  have last : wpAny (model X.prog X.w) X.A (setFlight (.ref a) X.env.frame) (fun _ t => wpAny (model X.prog X.w) X.A (throw (.ref a) : Sem Flow) Q X.xe t) X.xe { s with heap := h } := by
    rw [hf]
    exact HandSPX.setFlight_upZ D.fl fun g hg ug => wpAny_throw (tk _ _ (D.up g hg ug W w))
  apply wpAny_handleBy_nil
  show wpAny _ _ (PySem.passOn _ _ _) _ _ _
  unfold PySem.passOn
  apply wpAny_bind
  refine wpAny_field at_ dt v1 ?_
  rw [if_neg (by simp)]
  first
    | exact wpAny_bind last
    | exact wpAny_bind (wpAny_pure (wpAny_bind last))
end
/-- what was raised in the body of a try, where it is caught -/
theorem caught {X : Cx} {pins : List (Addr × Obj)} {W : WX} {u : Value} {s : Shared} {xe : Value → Shared → Prop} {Q : Unit → Shared → Prop} {E : Value → Shared → Prop} (ok : X.Ok) (hex : X.ex = []) (hs : X.stack = X.env :: X.outer) (hf : X.env.frame = some X.env.locals)
    (x : L2N.XE (X.tr (X.pn ++ pins) xe) W u s) (go : ∀ (a : Addr) (cls : Value) (d : Option Addr) (B : Heap) (σ : L2.St) (H : Hp) (h : Heap), u = .ref a → W cls d σ H → Down X pins σ H a cls d B s h → Q () { s with heap := h }) :
    wpAny (model X.prog X.w) X.A (noteFrame u X.env) (fun _ t => wpAny (model X.prog X.w) X.A (setFlight u none) Q E t) E s := by
  obtain ⟨a, B, s1, pn1, σ1, H1, cls, d, rfl, I1, ground, up1, sky, free, os1, bare1, w1⟩ := x
  have I : Inv X pins σ1 H1 s1 := I1.ofTry ok
  have fr : X.A.frames = some (X.env :: X.outer) := hs ▸ ok.frames
  have sk : Sky B (X.env :: X.outer) a (L2N.Zn cls d) X.env.locals s.heap := hs ▸ sky
  refine L2N.Sky.land L2N.Zn.steady fr hf sk fun h fl up2 => go a cls d B σ1 H1 h rfl w1 ?_
  have inv : ∀ g, HandSPX.FlyingZ B (X.env :: X.outer) a (L2N.Zn cls d) g → h.UpToSlots g → Inv X pins σ1 H1 { s with heap := g } := fun g fg ug => I.landed ground fg.1 ((up1.trans up2).trans ug) os1 bare1
  obtain ⟨oe, vs, at_, _, dt⟩ := fl.there
  have noFrame : a ∉ frs (X.env :: X.outer) := by
    intro m
    obtain ⟨_, o, e, nf⟩ := fl.2.2.1.mem m
    rw [at_] at e
    cases e
    exact nf _ dt
  have nL : a ≠ X.env.locals := fun z => noFrame (List.mem_filterMap.mpr ⟨X.env, List.mem_cons_self, z ▸ hf⟩)
  have old : ∀ b o, s1.heap.get? b = some o → b ∉ frs (X.env :: X.outer) → b ≠ a := by
    intro b o e nb z
    have e2 := ground b o e (hs ▸ nb)
    rw [z, fl.2.1] at e2
    cases e2
  refine { fl := fl, inv := inv, free := free, frame := nL, up := fun g fg ug V v => ?_, young := fun o e => ?_, apart := fun p hp => ?_ }
  · exact ⟨a, B, s1, pins, σ1, H1, cls, d, rfl, I, ground, (up1.trans up2).trans ug, .inr (.inr (hs ▸ fg)), free, os1, bare1, v⟩
  · obtain ⟨o1, e1⟩ := I.base.there a o e (hex ▸ List.not_mem_nil)
    exact old a o1 e1 noFrame rfl
  · obtain ⟨e1, _, n1, n2, _⟩ := I.pin p hp
    refine old p.1 p.2 e1 fun m => ?_
    exact (List.mem_cons.mp (I.stkSub p.1 (hs ▸ m))).elim n1 n2
/-- a clause: its class, its slot, its suite -/
structure Hd where
  c : Value
  slot : Option Nat
  ts : TS
def setO (σ : L2.St) (i : Option Nat) (v : Option V) : L2.St := match i with
  | some i => σ.set i v
  | none => σ
/-- behind a suite its name goes -/
def goneD (D : Ends) (i : Option Nat) : Ends := { nx := fun σ H => D.nx (setO σ i none) H, rt := D.rt, bk := fun σ H => D.bk (setO σ i none) H, ct := fun σ H => D.ct (setO σ i none) H }
def wHds (K : PySem.W.Frag) (Wout : WX) (D : Ends) : List Hd → WX
  | [] => Wout
  | hd :: r => fun cls d σ H => ∃ b, PySem.W.exmOne K cls hd.c = some b ∧
    (b = true → ∀ (a : Addr) (oe : Obj), H a = none → Zc cls d oe → (∃ vs, oe.data = .fields vs) → hd.ts (goneD D hd.slot) (setO σ hd.slot (some (.ref a))) (upd H a (errO oe))) ∧
    (b = false → wHds K Wout D r cls d σ H)
inductive HdsT (X : Cx) : List ExceptHandler → List Hd → Prop
  | nil : HdsT X [] []
  | one {x : Str} {c : Value} {ts : TS} {b0 : Stmt} {su : List Stmt} {np pos' : Pos} {hds : List ExceptHandler} {l : List Hd} (hc : Names X x c)
      (hsu : ∀ (a : Addr) (pn : List (Addr × Obj)), PSs (Cx.suiteT X a pn) (b0 :: su) ts) (r : HdsT X hds l) :
      HdsT X (.ExceptHandler (some (.Name x np)) none (b0 :: su) pos' :: hds) (⟨c, none, ts⟩ :: l)
  | as {x n : Str} {i : Nat} {c : Value} {ts : TS} {b0 : Stmt} {su : List Stmt} {np pos' : Pos} {hds : List ExceptHandler} {l : List Hd} (hc : Names X x c) (hi : X.N[i]? = some n) (hln : X.env.kindOf n = some .local)
      (hsu : ∀ (a : Addr) (pn : List (Addr × Obj)), PSs (Cx.suiteT X a pn) (b0 :: su) ts) (r : HdsT X hds l) :
      HdsT X (.ExceptHandler (some (.Name x np)) (some n) (b0 :: su) pos' :: hds) (⟨c, some i, ts⟩ :: l)
section
variable {X : Cx} {pins : List (Addr × Obj)} {D : Ends}
/-- how a suite's end is the try's end, where nothing is to be undone -/
theorem end_plain {a : Addr} {f : Flow} {s : Shared} (ok : X.Ok) (e : SP (Cx.suiteT X a (X.pn ++ pins)) [] (goneD D none) f s) : SP X pins D f s := by
  cases f with
  | ret u => exact e.imp fun _ e => e.imp fun _ e => e.imp fun _ e => ⟨Inv.goOut ok e.1, e.2⟩
  | next => exact e.imp fun _ e => e.imp fun _ e => ⟨Inv.goOut ok e.1, e.2⟩
  | brk => exact e.imp fun _ e => e.imp fun _ e => ⟨Inv.goOut ok e.1, e.2⟩
  | cont => exact e.imp fun _ e => e.imp fun _ e => ⟨Inv.goOut ok e.1, e.2⟩
/-- .. where the name goes -/
theorem end_named {a : Addr} {i : Nat} {n : Str} {pos : Pos} {f : Flow} {s : Shared} {E : Value → Shared → Prop} (ok : X.Ok) (hN : X.N.Nodup) (hi : X.N[i]? = some n) (hln : X.env.kindOf n = some .local)
    (e : SP (Cx.suiteT X a (X.pn ++ pins)) [] (goneD D (some i)) f s) : wpAny (model X.prog X.w) X.A (do bindName X.env n .none; unbindBehindTheSuite X.env n pos) (fun _ t => SP X pins D f t) E s := by
  cases f with
  | ret u =>
    obtain ⟨v, σ, H, I, r, q⟩ := e
    exact gone_ok (Inv.goOut ok I) hN hi hln fun t J => ⟨v, _, H, J, r, q⟩
  | next =>
    obtain ⟨σ, H, I, q⟩ := e
    exact gone_ok (Inv.goOut ok I) hN hi hln fun t J => ⟨_, H, J, q⟩
  | brk =>
    obtain ⟨σ, H, I, q⟩ := e
    exact gone_ok (Inv.goOut ok I) hN hi hln fun t J => ⟨_, H, J, q⟩
  | cont =>
    obtain ⟨σ, H, I, q⟩ := e
    exact gone_ok (Inv.goOut ok I) hN hi hln fun t J => ⟨_, H, J, q⟩
/-- the clauses, one after the other -/
theorem clauses {Wout : WX} {σ : L2.St} {H : Hp} {a : Addr} {cls : Value} {d : Option Addr} {B : Heap} {s : Shared} {h : Heap} (ok : X.Ok) (hf : X.env.frame = some X.env.locals) (hN : X.N.Nodup) (tk : L2N.Takes X Wout) (Dn : Down X pins σ H a cls d B s h) :
    ∀ {hds : List ExceptHandler} {l : List Hd}, HdsT X hds l → wHds X.K Wout D l cls d σ H → wpAny (model X.prog X.w) X.A (handleBy (.ref a) X.env hds) (SP X pins D) X.xe { s with heap := h }
  | _, _, .nil, w => Dn.on hf tk w
  | _, _, .one hc hsu r, ⟨b, e, yes, no⟩ => by
    apply wpAny_handleBy_cons (h := codeAny_handlers_test (Dn.reads hc ((Dn.fits e).here ?_)))
    · exact fun q => by cases q
    cases b with
    | false => exact clauses ok hf hN tk Dn r (no rfl)
    | true =>
      apply codeAny_handlers_suite
      refine HandSPX.lands_againZ Dn.fl fun g fg ug => ?_
      obtain ⟨oe, z, dt, I⟩ := (Dn.move fg ug).suite
      exact wpAny_mono ((hsu a _).run _ _ _ _ _ I (yes rfl a oe Dn.free z.zc dt)) (fun f t e => end_plain ok e) fun _ _ z => z.elim
  | _, _, .as hc hi hln hsu r, ⟨b, e, yes, no⟩ => by
    apply wpAny_handleBy_cons (h := codeAny_handlers_test (Dn.reads hc ((Dn.fits e).here ?_)))
    · exact fun q => by cases q
    cases b with
    | false => exact clauses ok hf hN tk Dn r (no rfl)
    | true =>
      apply codeAny_handlers_suite_as
      refine HandSPX.lands_againZ Dn.fl fun g fg ug => ?_
      obtain ⟨oe, z, dt, I⟩ := (Dn.move fg ug).suite
      refine store_ok (X := Cx.suiteT X a (X.pn ++ pins)) (v := .ref a) I hN hi (.inl hln) rfl (fun t J => ?_) (.inr hln)
      exact wpAny_mono ((hsu a _).run _ _ _ _ _ J (yes rfl a oe Dn.free z.zc dt)) (fun f t e => end_named ok hN hi hln e) fun _ _ z => z.elim
end
section
variable {X : Cx} {body : List Stmt} {h0 : ExceptHandler} {hds : List ExceptHandler} {l : List Hd} {pos : Pos} {tb : WX → TS} {Wout : WX}
theorem ps_tryT (hex : X.ex = []) (hs : X.stack = X.env :: X.outer) (hf : X.env.frame = some X.env.locals) (hN : X.N.Nodup) (tk : L2N.Takes X Wout)
    (hb : ∀ (W : WX) (pn : List (Addr × Obj)) (xe : Value → Shared → Prop), L2N.Takes (X.tr pn xe) W → PassesOwn (model X.prog X.w) X.A X.env xe → PSs (X.tr pn xe) body (tb W))
    (hh : HdsT X (h0 :: hds) l) : PS X (.Try body (h0 :: hds) [] [] pos) (fun D σ H => tb (wHds X.K Wout D l) D σ H) := by
  constructor
  intro pins s σ H D I h
  apply wpAny_Try_except
  have B := hb (wHds X.K Wout D l) (X.pn ++ pins) (fun e s1 => wpAny (model X.prog X.w) X.A (noteFrame e X.env) (fun _ s2 => wpAny (model X.prog X.w) X.A (setFlight e none)
    (fun _ s3 => wpAny (model X.prog X.w) X.A (handleBy e X.env (h0 :: hds)) (SP X pins D) X.xe s3) X.xe s2) X.xe s1)
    (fun u t x => caught I.ok hex hs hf x fun a cls d B σ1 H1 g eu w Dn => by subst eu; exact clauses I.ok hf hN tk Dn hh w) PassesOwn.looking
  refine wpAny_mono (B.run [] s σ H D (I.toTry _) h) (fun f t e => ?_) fun _ _ z => z
  cases f with
  | ret u => exact e.imp fun _ e => e.imp fun _ e => e.imp fun _ e => ⟨e.1.ofTry I.ok, e.2⟩
  | next => exact wpAny_execs_nil (e.imp fun _ e => e.imp fun _ e => ⟨e.1.ofTry I.ok, e.2⟩)
  | brk => exact e.imp fun _ e => e.imp fun _ e => ⟨e.1.ofTry I.ok, e.2⟩
  | cont => exact e.imp fun _ e => e.imp fun _ e => ⟨e.1.ofTry I.ok, e.2⟩
end
/-- own exception classes: all stand right under ScoreError -/
def subX (c C : Str) : Bool := c == C || (C == "ScoreError" || C == "ValueError")
def setE (env : TL.Env) (i : Option Nat) (d : Option D) : TL.Env := match i with
  | some i => env.set i d
  | none => env
def undoS (i : Option Nat) : SOut → SOut
  | .next env M => .next (setE env i none) M
  | .ret d M => .ret d M
  | _ => .stuck
structure HdM where
  C : Str
  slot : Option Nat
  m : MS
def hdsRun (x : Ex) : List HdM → MS
  | [] => fun env M => .exc x env M
  | h :: r => fun env M => if subX x.cls h.C = true then undoS h.slot (h.m (setE env h.slot (some (.err x))) M) else hdsRun x r env M
def sTry (cl : List Str) (b : MS) (hs : List HdM) : MS := fun env M => match b env M with
  | .exc x env1 M1 => if x.cls ∈ cl then hdsRun x hs env1 M1 else .stuck
  | o => o
/-- what is known of the classes -/
def ExSub (K : PySem.W.Frag) (cl hl : List Str) : Prop := ∀ c ∈ cl, ∀ C ∈ hl, PySem.W.exmOne K (.ref (He.ga K c)) (.ref (He.ga K C)) = some (subX c C)
/-- the context of a suite, or of a def called from one -/
structure CtxH (X : Cx) (W : WX) (k : Nat) : Prop where
  nd : X.N.Nodup
  room : L2H.RoomH k X.A
  tk : L2N.Takes X W
theorem CtxH.hu {X : Cx} {W : WX} {k : Nat} (C : CtxH X W k) : X.A.units + 64 < cLine := by have := C.room.un; omega
inductive HdsM (X : Cx) (cl : List Str) : List ExceptHandler → List HdM → Prop
  | nil : HdsM X cl [] []
  | one {x : Str} {m : MS} {b₀ : Stmt} {suite : List Stmt} {np pos' : Pos} {hds : List ExceptHandler} {l : List HdM} (hg : Gl X x) (hdb : (x == ("__debug__" : Str)) = false) (hm : X.mg x = some (.ref (He.ga X.K x))) (hsub : ∀ c ∈ cl, PySem.W.exmOne X.K (.ref (He.ga X.K c)) (.ref (He.ga X.K x)) = some (subX c x))
      (hsu : ∀ (a : Addr) (pn : List (Addr × Obj)), PSs (Cx.suiteT X a pn) (b₀ :: suite) (LS X.K W0 m)) (r : HdsM X cl hds l) :
      HdsM X cl (.ExceptHandler (some (.Name x np)) none (b₀ :: suite) pos' :: hds) (⟨x, none, m⟩ :: l)
  | as {x n : Str} {i : Nat} {m : MS} {b₀ : Stmt} {suite : List Stmt} {np pos' : Pos} {hds : List ExceptHandler} {l : List HdM} (hg : Gl X x) (hdb : (x == ("__debug__" : Str)) = false) (hm : X.mg x = some (.ref (He.ga X.K x))) (hsub : ∀ c ∈ cl, PySem.W.exmOne X.K (.ref (He.ga X.K c)) (.ref (He.ga X.K x)) = some (subX c x))
      (hi : X.N[i]? = some n) (hln : X.env.kindOf n = some .local)
      (hsu : ∀ (a : Addr) (pn : List (Addr × Obj)), PSs (Cx.suiteT X a pn) (b₀ :: suite) (LS X.K W0 m)) (r : HdsM X cl hds l) :
      HdsM X cl (.ExceptHandler (some (.Name x np)) (some n) (b₀ :: suite) pos' :: hds) (⟨x, some i, m⟩ :: l)
def HdM.hd (K : PySem.W.Frag) (h : HdM) : Hd := ⟨.ref (He.ga K h.C), h.slot, LS K W0 h.m⟩
theorem HdsM.hds {X : Cx} {cl : List Str} : ∀ {hs : List ExceptHandler} {l : List HdM}, HdsM X cl hs l → HdsT X hs (l.map (HdM.hd X.K))
  | _, _, .nil => .nil
  | _, _, .one hg hdb hm _ hsu r => .one ⟨hg, hdb, .inl hm⟩ hsu r.hds
  | _, _, .as hg hdb hm _ hi hln hsu r => .as ⟨hg, hdb, .inl hm⟩ hi hln hsu r.hds
theorem HdsM.sub {X : Cx} {cl : List Str} : ∀ {hs : List ExceptHandler} {l : List HdM}, HdsM X cl hs l → ∀ h ∈ l, ∀ c ∈ cl, PySem.W.exmOne X.K (.ref (He.ga X.K c)) (.ref (He.ga X.K h.C)) = some (subX c h.C)
  | _, _, .nil, h, hh => nomatch hh
  | _, _, .one hg hdb hm hs hsu r, h, hh => by
    rcases List.mem_cons.mp hh with rfl | hh
    · exact hs
    · exact r.sub h hh
  | _, _, .as hg hdb hm hs hi hln hsu r, h, hh => by
    rcases List.mem_cons.mp hh with rfl | hh
    · exact hs
    · exact r.sub h hh
section
variable {K : PySem.W.Frag} {W : WX} {En : Ends}
theorem EnvR.setO {ι : List Addr} {H : Hp} {d : D} {v : V} (r : Rp K ι H d v) {env : TL.Env} {σ : L2.St} (R : EnvR K ι H env σ) (i : Option Nat) : EnvR K ι H (setE env i (some d)) (TL.setO σ i (some v)) := by
  cases i with
  | none => exact R
  | some i => exact R.set r i
theorem EnvR.unsetO {ι : List Addr} {H : Hp} {env : TL.Env} {σ : L2.St} (R : EnvR K ι H env σ) (i : Option Nat) : EnvR K ι H (setE env i none) (TL.setO σ i none) := by
  cases i with
  | none => exact R
  | some i => exact R.unset i
theorem wHds_of {x : Ex} {cl : List Str} (hx : x.cls ∈ cl) {cls : Value} {dx : Option Addr} {ι : List Addr} {σ : L2.St} {H : Hp} {env : TL.Env} {M : Mem} (S : SR K ι H M) (R : EnvR K ι H env σ) (ex : ExR K ι x cls dx H) :
    ∀ {l : List HdM}, (∀ h ∈ l, ∀ c ∈ cl, PySem.W.exmOne K (.ref (He.ga K c)) (.ref (He.ga K h.C)) = some (subX c h.C)) → SOutP K W ι H (hdsRun x l env M) En → wHds K W En (l.map (HdM.hd K)) cls dx σ H
  | [], _, h => h ι σ H cls dx Ext.refl S R ex
  | hd :: l, hs, h => by
    obtain ⟨ec, ed⟩ := ex
    have h0 : SOutP K W ι H (if subX x.cls hd.C = true then undoS hd.slot (hd.m (setE env hd.slot (some (.err x))) M) else hdsRun x l env M) En := h
    refine ⟨subX x.cls hd.C, by rw [ec]; exact hs hd List.mem_cons_self _ hx, fun hb a oe na hz hv => ?_, fun hb => ?_⟩
    · rw [if_pos hb] at h0
      obtain ⟨vs, hv⟩ := hv
      have e1 : Ext K ι H ι (upd H a (errO oe)) := Ext.new na
      have h1 := SOutP.ext e1 h0
      have er : ErrAt K (upd H a (errO oe)) a x := by
        refine ⟨oe, vs, upd_same, hz.1.trans ec, hv, rfl, ?_⟩
        rw [hz.2]
        rcases ed with ed | ⟨i, d, e1, e2, e3⟩
        · exact .inl ed
        · exact .inr ⟨i, d, e1, e2, by rw [upd_ne (ne_of_none e3 na)]; exact e3⟩
      refine ⟨ι, _, M, S.new na, (R.ext e1).setO (.err er) hd.slot, ?_⟩
      revert h1
      cases hd.m (setE env hd.slot (some (.err x))) M with
      | next env2 M2 => exact fun h1 ι2 σ2 H2 e2 S2 R2 => h1 ι2 _ H2 e2 S2 (R2.unsetO hd.slot)
      | ret d M2 => exact fun h1 => h1
      | exc y env2 M2 => exact fun h1 => h1.elim
      | stuck => exact fun h1 => h1
    · rw [if_neg (by rw [hb]; exact Bool.false_ne_true)] at h0
      exact wHds_of hx S R ⟨ec, ed⟩ (fun h hh => hs h (List.mem_cons_of_mem _ hh)) h0
end
section
variable {X : Cx} {W : WX} {k : Nat} {body : List Stmt} {h₀ : ExceptHandler} {hds : List ExceptHandler} {l : List HdM} {cl : List Str} {mb : MS} {pos : Pos}
theorem Ctx.tr {X : Cx} {W : WX} {k : Nat} (C : Ctx X W k) {W' : WX} {pn : List (Addr × Obj)} {xe : Value → Shared → Prop} (tk : L2N.Takes (X.tr pn xe) W') (ps : PassesOwn (model X.prog X.w) X.A X.env xe) : Ctx (X.tr pn xe) W' k :=
  ⟨C.calm, C.nd, C.room, tk, ps⟩
theorem ds_try (C : Ctx X W k) (hb : ∀ (W' : WX) (pn : List (Addr × Obj)) (xe : Value → Shared → Prop), Ctx (X.tr pn xe) W' k → PSs (X.tr pn xe) body (LS X.K W' mb)) (hh : HdsM X cl (h₀ :: hds) l)
    (hex : X.ex = [] := by rfl) (hs : X.stack = X.env :: X.outer := by rfl) (hf : X.env.frame = some X.env.locals := by rfl) : PS X (.Try body (h₀ :: hds) [] [] pos) (LS X.K W (sTry cl mb l)) :=
  (ps_tryT hex hs hf C.nd C.tk (tb := fun W' => LS X.K W' mb) (fun W' pn xe tk ps => hb W' pn xe (C.tr tk ps)) hh.hds).imp fun En σ H ⟨ι, env, M, S, R, h⟩ => ⟨ι, env, M, S, R, by
    unfold sTry at h
    revert h
    cases mb env M with
    | next env1 M1 => exact fun h => h
    | ret d M1 => exact fun h => h
    | stuck => exact fun h => h
    | exc x env1 M1 =>
      intro h ι1 σ1 H1 cls dx e1 S1 R1 ex
      have h0 : SOutP X.K W ι H (if x.cls ∈ cl then hdsRun x l env1 M1 else .stuck) En := h
      by_cases hx : x.cls ∈ cl
      · rw [if_pos hx] at h0
        exact wHds_of hx S1 R1 ex hh.sub (SOutP.ext e1 h0)
      · rw [if_neg hx] at h0
        exact h0.elim⟩
theorem ctxH_suite (C : Ctx X W k) {a : Addr} {pn : List (Addr × Obj)} : CtxH (Cx.suiteT X a pn) W0 k := ⟨C.nd, ⟨C.room.dp, C.room.un⟩, takesN0⟩
end
/-- what a def promises there: nothing that it does asks what is handled -/
structure FnT (P : Program) (w : World) (K : PySem.W.Frag) (mg : Str → Option Value) (base : Heap) (CX : CXT) (k : Nat) (f : Addr) (fd : FuncData) (ps : List Str) (sp : Sp) : Prop where
  len : ∀ vs H Q E, sp vs H Q E → vs.length = ps.length
  run : ∀ (A : Around) (outer : List PySem.Env) (s : Shared) (H : Hp) (args : Args) (us : List Value) (vs : List V) (Q : VK) (E : XK), L2H.RoomH k A → Env0 P w K mg base A outer s H → BindsTo s fd args (ps.zip us) → Vals vs us → sp vs H Q E →
    codeAny (model P w) A (.call (.ref f) args) (CR CX outer P w H s Q E) s
/-- its body's context -/
def cxT (CX : CXT) (P : Program) (w : World) (K : PySem.W.Frag) (mg : Str → Option Value) (base : Heap) (N : List Str) (qual : Str) (scope : Scope) (f : Addr) (cd : Value) (A : Around) (outer : List PySem.Env) (s : Shared) (H : Hp) (E : XK) : Cx :=
  { cxOf CX P w K mg base N qual scope f cd A outer s H E with calm := false }
/-- an exception that is handled around changes nothing of where things stand -/
theorem env0_mark {P : Program} {w : World} {K : PySem.W.Frag} {mg : Str → Option Value} {base : Heap} {A : Around} {outer : List PySem.Env} {s : Shared} {H : Hp} (e : Env0 P w K mg base A outer s H) : Env0 P w K mg base { A with handled := none } outer s H :=
  { e with frames := e.frames }
theorem ok_mark {CX : CXT} {P : Program} {w : World} {K : PySem.W.Frag} {mg : Str → Option Value} {base : Heap} {N : List Str} {qual : Str} {scope : Scope} {f : Addr} {cd : Value} {A : Around} {outer : List PySem.Env} {s : Shared} {H : Hp} {E : XK}
    (o : (cxOf CX P w K mg base N qual scope f cd { A with handled := none } outer s H E).Ok) : (cxT CX P w K mg base N qual scope f cd A outer s H E).Ok :=
  { mod := o.mod, kind := o.kind, glob := o.glob, blt := o.blt, above := o.above, inj := o.inj, has := o.has, cab := o.cab, hd := fun z => (Bool.false_ne_true z).elim, frames := o.frames, stk := o.stk, exf := o.exf, bs := o.bs, bsz := o.bsz, noex := o.noex, exfs := o.exfs, funs := o.funs, frf := o.frf }
section
variable {P : Program} {w : World} {K : PySem.W.Frag} {mg : Str → Option Value} {base : Heap} {x qual : Str} {params : Arguments} {body : List Stmt} {scope : Scope} {f : Addr} {fd : FuncData} {N ps : List Str} {k : Nat} {CX : CXT} {sp : Sp}
theorem fnT (F : FunD K x qual params body scope [] [] f fd) (S : FnScope N ps scope) (len : ∀ vs H Q E, sp vs H Q E → vs.length = ps.length)
    (hbody : ∀ (cd : Value) (A : Around) (outer : List PySem.Env) (s : Shared) (H : Hp) (vs : List V) (Q : VK) (E : XK), L2H.RoomH k (A.deeper (envOfC qual scope s.heap.objs.size f cd)) → sp vs H Q E →
      ∃ t, PSs (cxT CX P w K mg base N qual scope f cd A outer s H E) body t ∧ t { nx := fun _ H' => Q .non H', rt := Q } (L2.start N vs) H) : FnT P w K mg base CX (k + 1) f fd ps sp where
  len := len
  run A outer s H args us vs Q E room e0 bound vals want := by
    obtain ⟨_, _, _, _, _, _, _, cd, _, _, rfl, at_, code, _, _⟩ := F.ex
    have held : ∀ b o, base.get? b = some o → s.heap.get? b = some o := fun b o e => (e0.bs b o e).1
    have inK := e0.mod.kin.keeps held
    have lim := e0.mod.nolimit.keeps held
    refine codeAny_call_function room.depth (inK f _ at_) rfl S.co S.gen rfl (PySem.W.codeRec_of inK code) (bound _ _ _ _ (wpAny_newFunctionEnv_cells S.kind ?_ ?_))
    · intro y hy
      have m : y.1 ∈ ps := (List.of_mem_zip (show (y.1, y.2) ∈ ps.zip us from hy)).1
      exact (S.par y.1 m).imp id fun q => ⟨q, PySem.W.cellsFrom_some _ _ _ (.inl q)⟩
    · intro env ee s1 call
      subst ee
      refine ⟨lim.keeps call.toInCall.keep, codeAny_func ?_⟩
      have J := inv_start (CX := CX) (E := E) S (A := { A with handled := none }) rfl (env0_mark e0) (len _ _ _ _ want) vals call
      have I : Inv (cxT CX P w K mg base N qual scope f cd A outer s H E) [] (L2.start N vs) H s1 :=
        { ok := ok_mark J.ok, os := J.os, bare := J.bare, base := J.base, loc := J.loc, cell := J.cell, free := J.free, freeC := J.freeC, pin := J.pin, hok := J.hok, len := J.len }
      obtain ⟨t, run, q⟩ := hbody cd A outer s H vs Q E (room.deeper _) want
      refine wpAny_mono (run.run [] s1 _ H _ I q) (fun fl s2 e => ?_) fun _ _ e => e
      cases fl with
      | next => obtain ⟨_, H2, I2, q2⟩ := e; exact ⟨.non, H2, I2.os, I2.bare, I2.base, I2.hok, rfl, q2⟩
      | ret u => obtain ⟨v, _, H2, I2, r2, q2⟩ := e; exact ⟨v, H2, I2.os, I2.bare, I2.base, I2.hok, r2, q2⟩
      | brk => exact e.elim fun _ e => e.elim fun _ e => e.2.elim
      | cont => exact e.elim fun _ e => e.elim fun _ e => e.2.elim
end
structure CalleeT (P : Program) (w : World) (K : PySem.W.Frag) (mg : Str → Option Value) (base : Heap) (x : Str) (n k : Nat) (m : Fn) : Prop where
  ex : ∃ (f : Addr) (fd : FuncData) (ps : List Str), FnT P w K mg base (L2N.CX P w) k f fd ps (spD K n m) ∧ mg x = some (.ref f) ∧ PySem.W.keepIn K (.ref f) = true ∧ Binds K fd ps [] ∧ ps.length = n
  len : ∀ ds M, ds.length ≠ n → m ds M = .stuck
section
variable {P : Program} {w : World} {K : PySem.W.Frag} {mg : Str → Option Value} {base : Heap}
theorem okT {x qual : Str} {params : Arguments} {body : List Stmt} {scope : Scope} {f : Addr} {N ps : List Str} {k : Nat} {mb : MS} (F : ∃ fd, FunD K x qual params body scope [] [] f fd) (S : FnScope N ps scope) (hm : mg x = some (.ref f))
    (hbind : ∀ (kV doc pm : Value) (an : Option Addr) (cdv ct : Value) (us : List Value), us.length = ps.length → bindArgs (PySem.W.fnOf x qual params body scope .none kV doc pm an cdv ct) ⟨us, []⟩ = pure (ps.zip us))
    (hbody : ∀ (cdv : Value) (A : Around) (outer : List PySem.Env) (s : Shared) (H : Hp) (E : XK), let X := cxT (L2N.CX P w) P w K mg base N qual scope f cdv A outer s H E
      CtxH X (fun cls d _ H => E cls d H) k → PSs X body (LS K (fun cls d _ H => E cls d H) mb)) :
    CalleeT P w K mg base x ps.length (k + 1) (fnD ps.length N.length mb) := by
  obtain ⟨fd, F⟩ := F
  refine ⟨⟨f, fd, ps, fnT F S (fun vs H Q E h => h.1) ?_, hm, F.kp, F.bindsN hbind, rfl⟩, fun ds M h => if_neg h⟩
  rintro cdv A outer s H vs Q E hr ⟨hl, ι, ds, M, SS, rs, h⟩
  refine ⟨_, hbody cdv A outer s H E ⟨S.nd, hr, L2N.takes_of rfl rfl rfl rfl⟩, ι, startE N.length ds, M, SS, ?_, ?_⟩
  · unfold startE L2.start
    rw [rs.length]
    exact envR_start rs _
  · unfold fnD at h
    rw [if_pos (by rw [rs.length]; exact hl)] at h
    revert h
    cases mb (startE N.length ds) M with
    | next env M1 => exact fun h ι1 σ1 H1 e1 S1 _ => h ι1 H1 e1 S1 _ .non
    | ret d M1 => exact fun h ι1 v H1 e1 S1 r => h ι1 H1 e1 S1 v r
    | exc y env M1 => exact fun h ι1 σ1 H1 cls dx e1 S1 _ ex => h ι1 H1 cls dx e1 S1 ex
    | stuck => exact fun h => h
end
section
variable {X : Cx} {W : WX} {e : Expr} {es : List Expr} {mas : MA} {x : Str} {p pos : Pos}
/-- such a call -/
theorem pe_callT {CX : CXT} {k : Nat} {f : Addr} {fd : FuncData} {ps : List Str} {sp : Sp} {E : L2.St → XK} {t : TA} (F : FnT X.prog X.w X.K X.mg X.base CX k f fd ps sp) (room : L2H.RoomH k X.A) (hg : Gl X x) (hm : X.mg x = some (.ref f)) (kp : PySem.W.keepIn X.K (.ref f) = true) (bi : Binds X.K fd ps [])
    (ps' : ∀ σ, PassesAt CX X σ (E σ)) (ha : PA X (e :: es) t) (hdb : (x == ("__debug__" : Str)) = false) (st : starEach (e :: es) X.env = (false, eval e X.env) :: starEach es X.env) (pl : (backTo pos (starEach es X.env)).any (·.1) = false) :
    PE X (.Call (.Name x p) (e :: es) [] pos) (tCallS sp E t) where
  run pins s σ H Q I want := by
    apply wpAny_Call_Name_kw
    refine ld_glob I hg hm ?_ hdb
    refine PySem.W.callWith_K (h₀ := X.base) I.ok.mod.kin kp ?_ st pl
    refine thn (ha.run pos pins s σ H _ I want) ?_
    rintro us s1 ⟨vs, H1, I1, vals, q⟩
    refine ⟨I1.kIn, ?_⟩
    have many : (us ++ []).length = ps.length := by rw [List.append_nil, ← vals.length]; exact F.len _ _ _ _ q
    have bound : BindsTo s1 fd ⟨us, []⟩ (ps.zip us) := by
      have b := bi s1 us I1.kIn many
      rwa [List.append_nil] at b
    apply wpAny_call
    refine codeAny_mono (F.run X.A X.stack s1 H1 _ us vs Q (E σ) room I1.env0 bound vals q) ?_
    rintro (er | fl) s2 e2
    · exact ps' σ pins H1 s1 er s2 I1 e2
    · cases fl with
      | ret u => exact I1.after e2
      | next => exact e2.elim
      | brk => exact e2.elim
      | cont => exact e2.elim
theorem d_callT {k k' n : Nat} {m : Fn} (C : CtxH X W k') (F : CalleeT X.prog X.w X.K X.mg X.base x n k m) (hk : k ≤ k') (ha : PA X (e :: es) (LA X.K W mas)) (hg : Gl X x := by rfl)
    (hdb : (x == ("__debug__" : Str)) = false := by decide) (hst : starEach (e :: es) X.env = (false, eval e X.env) :: starEach es X.env := by rfl) (hpl : (backTo pos (starEach es X.env)).any (·.1) = false := by rfl) :
    PE X (.Call (.Name x p) (e :: es) [] pos) (LE X.K W (eCall m mas)) := by
  have hlen := F.len
  obtain ⟨f, fd, ps, F, hm, kp, hb, _⟩ := F.ex
  refine (pe_callT F (C.room.mono hk) hg hm kp hb (fun σ => L2N.passAt C.tk σ) ha hdb hst hpl).imp fun σ H Q ⟨ι, env, M, S, R, h⟩ => ⟨ι, env, M, S, R, ?_⟩
  refine (OutP.bind h).imp fun ds M1 ι1 H1 e1 S1 h1 vs rv => ⟨?_, ι1, ds, M1, S1, rv, h1⟩
  rw [← rv.length]
  by_cases q : ds.length = n
  · exact q
  · rw [hlen ds M1 q] at h1
    exact h1.elim
end
end TL
end
section
set_option maxHeartbeats 4000000
namespace TL
open PySem PySem.Spec PyProof.Rows L2
/-- what a class says, so that isinstance and fields of its instances go the usual way -/
def isCB (K : PySem.W.Frag) (c : Str) : Bool :=
  He.eqO (PySem.W.findIn K (.ref (He.ga K c)) "__class__") (some (some (.builtin "object.__class__"))) && (xfB K (He.ga K c) &&
    (decide (PySem.W.mroIn K (He.ga K c) (.type "object") = some true) && (He.eqO (PySem.W.specialIn K (.builtin "object.__class__") "__get__") (some (some (.builtin "getset_descriptor.__get__"))) && decide (PySem.W.takesIn K (.builtin "object.__class__") = some true))))
structure IsC (K : PySem.W.Frag) (C : Addr) : Prop where
  x : XfC K C
  cl : PySem.W.findIn K (.ref C) "__class__" = some (some (.builtin "object.__class__"))
  mro : PySem.W.mroIn K C (.type "object") = some true
  get : PySem.W.specialIn K (.builtin "object.__class__") "__get__" = some (some (.builtin "getset_descriptor.__get__"))
  take : PySem.W.takesIn K (.builtin "object.__class__") = some true
theorem isCB_ok {K : PySem.W.Frag} {c : Str} (h : isCB K c = true) : IsC K (He.ga K c) := by
  obtain ⟨h1, h⟩ := He.ba h
  obtain ⟨h2, h⟩ := He.ba h
  obtain ⟨h3, h⟩ := He.ba h
  obtain ⟨h4, h5⟩ := He.ba h
  exact ⟨xfB_ok h2, He.eqO_ok h1, of_decide_eq_true h3, He.eqO_ok h4, of_decide_eq_true h5⟩
theorem IsC.kit {K : PySem.W.Frag} {C x : Addr} {ox : Obj} {od : Option Obj} (T : IsC K C) : PySem.W.KitX K (.ref x) (.ref C) (fun h => PySem.W.InstAt h x ox C od) :=
  PySem.W.kitx_exc (by obtain ⟨cd, hc, _⟩ := PySem.W.any_some T.x.hdC; rw [hc]; rfl) T.x.ga T.x.gg T.x.exC T.cl T.get T.take T.mro
/-- the classes cl, held against the classes hl and ValueError -/
def isTB (K : PySem.W.Frag) (cl hl : List Str) : Bool := cl.all fun c => isCB K c && (decide (PySem.W.kitOne K (.ref (He.ga K c)) (.type "ValueError") = some true) && hl.all fun C => decide (PySem.W.kitOne K (.ref (He.ga K c)) (.ref (He.ga K C)) = some (subX c C)))
structure IsT (K : PySem.W.Frag) (cl hl : List Str) : Prop where
  c : ∀ c ∈ cl, IsC K (He.ga K c)
  v : ∀ c ∈ cl, PySem.W.kitOne K (.ref (He.ga K c)) (.type "ValueError") = some true
  h : ∀ c ∈ cl, ∀ C ∈ hl, PySem.W.kitOne K (.ref (He.ga K c)) (.ref (He.ga K C)) = some (subX c C)
theorem isTB_ok {K : PySem.W.Frag} {cl hl : List Str} (h : isTB K cl hl = true) : IsT K cl hl := by
  have h' := fun c hc => He.ba (List.all_eq_true.mp h c hc)
  exact ⟨fun c hc => isCB_ok (h' c hc).1, fun c hc => of_decide_eq_true (He.ba (h' c hc).2).1, fun c hc C hC => of_decide_eq_true (List.all_eq_true.mp (He.ba (h' c hc).2).2 C hC)⟩
/-- .. held by except clauses -/
def exSubB (K : PySem.W.Frag) (cl hl : List Str) : Bool := cl.all fun c => hl.all fun C => decide (PySem.W.exmOne K (.ref (He.ga K c)) (.ref (He.ga K C)) = some (subX c C))
theorem exSubB_ok {K : PySem.W.Frag} {cl hl : List Str} (h : exSubB K cl hl = true) : ExSub K cl hl := fun c hc C hC => of_decide_eq_true (List.all_eq_true.mp (List.all_eq_true.mp h c hc) C hC)
theorem ExSub.of {K : PySem.W.Frag} {cl hl : List Str} (h : ExSub K cl hl) {C : Str} (hC : C ∈ hl) : ∀ c ∈ cl, PySem.W.exmOne K (.ref (He.ga K c)) (.ref (He.ga K C)) = some (subX c C) := fun c hc => h c hc C hC
section
variable {X : Cx} {W : WX} {pins : List (Addr × Obj)} {σ : L2.St} {H : Hp} {s : Shared}
theorem err_inst (I : L2.Inv X pins σ H s) {a : Addr} {x : Ex} (h : ErrAt X.K H a x) : ∃ oe od, PySem.W.InstAt s.heap a oe (He.ga X.K x.cls) od := by
  obtain ⟨oe, vs, h1, h2, h3, h4, h5⟩ := h
  have h6 : s.heap.get? a = some oe := (I.hok a _ h1).1
  have no : PySem.W.notCls oe = true := by unfold PySem.W.notCls; rw [h3]
  rcases h5 with ⟨_, h5⟩ | ⟨i, d, _, h5, h7⟩
  · exact ⟨oe, none, ⟨h6, h2, no, by rw [h5]; trivial⟩⟩
  · obtain ⟨mA, hns, _⟩ := (show ObjOk X.prog X.w H s.heap d (.xd _) from I.hok d _ h7)
    obtain ⟨od, ho, _⟩ := lookIn_ns hns
    exact ⟨oe, some od, ⟨h6, h2, no, by rw [h5]; exact ho⟩⟩
/-- the classes asked for: own ones by name, ValueError -/
def clsV (K : PySem.W.Frag) (C : Str) : V := if C = "ValueError" then .ty "ValueError" else .ref (He.ga K C)
def clsU (K : PySem.W.Frag) (C : Str) : Value := if C = "ValueError" then .type "ValueError" else .ref (He.ga K C)
theorem cls_rel {K : PySem.W.Frag} {C : Str} {u : Value} (r : RelV (clsV K C) u) : u = clsU K C := by
  unfold clsV at r
  unfold clsU
  by_cases h : C = "ValueError"
  · rw [if_pos h] at r ⊢; exact r
  · rw [if_neg h] at r ⊢; exact r
theorem IsT.one {K : PySem.W.Frag} {cl hl : List Str} (T : IsT K cl hl) {c C : Str} (hc : c ∈ cl) (hC : C = "ValueError" ∨ C ∈ hl) : PySem.W.kitOne K (.ref (He.ga K c)) (clsU K C) = some (subX c C) := by
  unfold clsU
  by_cases h : C = "ValueError"
  · rw [if_pos h, T.v c hc, h]; simp [subX]
  · rw [if_neg h]; exact T.h c hc C (hC.resolve_left h)
def rErr (K : PySem.W.Frag) (cl : List Str) (C : Str) : List V → Hp → VK → Prop := fun xs H Q => ∃ (a : Addr) (x : Ex), xs = [.ref a, clsV K C] ∧ ErrAt K H a x ∧ x.cls ∈ cl ∧ Q (.bl (subX x.cls C)) H
theorem c_isErr {cl hl : List Str} (T : IsT X.K cl hl) {C : Str} (hC : C = "ValueError" ∨ C ∈ hl) : CallR X (.builtin "isinstance") (rErr X.K cl C) := by
  intro pins s σ H xs us Q I r h
  obtain ⟨a, x, rfl, he, hc, q⟩ := h
  obtain ⟨u1, u2, rfl, r1, r2⟩ := vals2 r
  obtain rfl : u1 = Value.ref a := r1
  obtain rfl := cls_rel r2
  obtain ⟨oe, od, J⟩ := err_inst I he
  exact PySem.W.kia_one (T.c _ hc).kit I.kIn J (T.one hc hC) (fun z => nomatch z) fun tk => ⟨.bl _, H, I.tok tk, rfl, q⟩
theorem IsT.any {K : PySem.W.Frag} {cl hl : List Str} (T : IsT K cl hl) {c : Str} (hc : c ∈ cl) : ∀ {Cs : List Str}, (∀ C ∈ Cs, C = "ValueError" ∨ C ∈ hl) → PySem.W.kitAny K (.ref (He.ga K c)) (Cs.map (clsU K)) = some (Cs.any (subX c))
  | [], _ => rfl
  | C :: Cs, h => by
    refine kitAny_cons (T.one hc (h C List.mem_cons_self)) (fun e => ?_) fun e => ?_
    · rw [T.any hc fun C' h' => h C' (List.mem_cons_of_mem _ h')]; simp [e]
    · simp [e]
end
def mIsE (cl : List Str) (C : Str) : Op1 := fun d M => match d with
  | .err x => if x.cls ∈ cl then some (.bl (subX x.cls C), M) else none
  | _ => none
def mIsEs (cl Cs : List Str) : Op1 := fun d M => match d with
  | .err x => if x.cls ∈ cl then some (.bl (Cs.any (subX x.cls)), M) else none
  | _ => none
def eIsE (cl : List Str) (C : Str) (a : ME) : ME := eUn (mIsE cl C) a
def eIsEs (cl Cs : List Str) (a : ME) : ME := eUn (mIsEs cl Cs) a
section
variable {X : Cx} {W : WX} {e : Expr} {me : ME} {p p2 p3 pos : Pos}
theorem Rp.err_inv {K : PySem.W.Frag} {ι : List Addr} {H : Hp} {x : Ex} {v : V} (r : Rp K ι H (.err x) v) : ∃ a, v = .ref a ∧ ErrAt K H a x := by cases r with | err h => exact ⟨_, rfl, h⟩
/-- a class by its name -/
theorem pe_cls {C : Str} (hg : Gl X C) (hm : (C = "ValueError" ∧ X.mg C = none) ∨ (C ≠ "ValueError" ∧ X.mg C = some (.ref (He.ga X.K C)))) (hd : (C == ("__debug__" : Str)) = false := by decide) : PE X (.Name C p2) (tC (clsV X.K C)) := by
  rcases hm with ⟨rfl, hm⟩ | ⟨hn, hm⟩
  · exact pe_bltn hg hm PyProof.Rows.Boot.«ValueError» (v := clsV X.K "ValueError") (by rw [show clsV X.K "ValueError" = .ty "ValueError" from if_pos rfl]; rfl) (by decide) hd
  · refine pe_glob hg hm ?_ hd
    rw [show clsV X.K C = .ref (He.ga X.K C) from if_neg hn]
    rfl
theorem d_isE {cl hl : List Str} {C : Str} (T : IsT X.K cl hl) (hC : C = "ValueError" ∨ C ∈ hl) (hi : X.mg "isinstance" = none) (hm : (C = "ValueError" ∧ X.mg C = none) ∨ (C ≠ "ValueError" ∧ X.mg C = some (.ref (He.ga X.K C)))) (he : PE X e (LE X.K W me))
    (hgi : Gl X "isinstance" := by rfl) (hg : Gl X C := by rfl) (hd : (C == ("__debug__" : Str)) = false := by decide)
    (h1 : starEach [e, .Name C p2] X.env = (false, eval e X.env) :: starEach [.Name C p2] X.env := by rfl) (h2 : starEach [.Name C p2] X.env = (false, eval (.Name C p2) X.env) :: starEach [] X.env := by rfl)
    (h3 : (backTo pos (starEach [.Name C p2] X.env)).any (·.1) = false := by rfl) : PE X (.Call (.Name "isinstance" p) [e, .Name C p2] [] pos) (LE X.K W (eIsE cl C me)) :=
  (pe_callB (c_isErr T hC) hgi hi boot_isinstance (pa_cons he (pa_cons (pe_cls hg hm hd) pa_nil h2) h1) (by decide) (by decide) h1 h3).imp fun σ H Q ⟨ι, env, M, S, R, h⟩ => ⟨ι, env, M, S, R, (OutP.bind h).imp fun d M1 ι1 H1 e1 S1 h1 v rv => by
    cases d with
    | err x =>
      obtain ⟨a, rfl, hx⟩ := rv.err_inv
      have h2 : OutP X.K (W1 W σ) ι1 H1 (liftO (if x.cls ∈ cl then some (D.bl (subX x.cls C), M1) else none)) (VR X.K Q) := h1
      by_cases hc : x.cls ∈ cl
      · rw [if_pos hc] at h2
        exact ⟨a, x, rfl, hx, hc, OutP.val S1 h2 _ (.bl _)⟩
      · rw [if_neg hc] at h2
        exact h2.elim
    | _ => exact h1.elim⟩
def mAt : Op1 := fun d M => match d with
  | .err x => x.at_.map fun i => (.int i, M)
  | _ => none
/-- classes whose instances bear at: cl, all of those that are made with it -/
def atB (K : PySem.W.Frag) (cl : List Str) : Bool := cl.all fun c => xfB K (He.ga K c) && He.eqO (PySem.W.findIn K (.ref (He.ga K c)) "at") (some none)
def eAt (cl : List Str) (a : ME) : ME := fun env M => (a env M).bind fun d M1 => match d with
  | .err x => if x.cls ∈ cl then liftO (mAt (.err x) M1) else .stuck
  | _ => .stuck
theorem d_at {cl : List Str} (T : atB X.K cl = true) (he : PE X e (LE X.K W me)) (hb : attributeBase e "at" X.env (eval e X.env) = eval e X.env := by rfl) : PE X (.Attribute e "at" pos) (LE X.K W (eAt cl me)) := by
  constructor
  rintro pins s σ H Q I ⟨ι, env, M, S, R, h⟩
  refine attr_of hb (thn (he.run pins s σ H _ I ⟨ι, env, M, S, R, (OutP.bind h).imp (R' := VR X.K fun v H1 => ∃ a x i, v = .ref a ∧ ErrAt X.K H1 a x ∧ x.cls ∈ cl ∧ x.at_ = some i ∧ Q (.int i) H1) fun d M1 ι1 H1 e1 S1 h1 v rv => ?_⟩) ?_)
  · cases d with
    | err x =>
      obtain ⟨a, rfl, hx⟩ := rv.err_inv
      have h2 : OutP X.K (W1 W σ) ι1 H1 (if x.cls ∈ cl then liftO (x.at_.map fun i => (D.int i, M1)) else .stuck) (VR X.K Q) := h1
      by_cases hc : x.cls ∈ cl
      · rw [if_pos hc] at h2
        cases ea : x.at_ with
        | none => rw [ea] at h2; exact h2.elim
        | some i => rw [ea] at h2; exact ⟨a, x, i, rfl, hx, hc, ea, OutP.val S1 h2 _ (.int _)⟩
      · rw [if_neg hc] at h2
        exact h2.elim
    | _ => exact h1.elim
  · rintro u s1 ⟨v, H1, I1, rx, a, x, i, rfl, hx, hc, ea, q⟩
    obtain rfl : u = Value.ref a := rx
    obtain ⟨T1, T2⟩ := He.ba (List.all_eq_true.mp T _ hc)
    have T1 := xfB_ok T1
    obtain ⟨oe, vs, h1, h2, h3, h4, h5⟩ := hx
    have h6 : s1.heap.get? a = some oe := (I1.hok a _ h1).1
    rcases h5 with ⟨h5, _⟩ | ⟨i', d, h5, h7, h8⟩
    · rw [ea] at h5; cases h5
    rw [ea] at h5
    cases h5
    obtain ⟨mA, hns, hr⟩ := (show ObjOk X.prog X.w H1 s1.heap d (.xd _) from I1.hok d _ h8)
    obtain ⟨od, ho, hl⟩ := lookIn_ns hns
    obtain ⟨w, hw, rw'⟩ := RelO.some_of (v := V.int i) (o := mA "at") (by have := hr "at"; simpa [List.lookup] using this)
    have no : PySem.W.notCls oe = true := by unfold PySem.W.notCls; rw [h3]
    have J : PySem.W.InstAt s1.heap a oe (He.ga X.K x.cls) (some od) := ⟨h6, h2, no, by rw [h7]; exact ho⟩
    exact HandSPX.exc_get I1.kIn J T1.ga T1.gg T1.exC (PySem.W.findObj_own T1.hdC (He.eqO_ok T2) rfl (by rw [hl, hw])) (handed_of rw') ⟨.int i, H1, I1.tok _, rw', q⟩
end
end TL
end
section
set_option maxHeartbeats 4000000
namespace TL
open PySem PySem.Spec PyProof.Rows L2
def mCount : D → OpN := fun d ds M => match d, ds with
  | .ref n, [y] => match seqAt M n with
    | some xs => if flatD y = true ∧ xs.all flatD = true then some (.int ((xs.countP fun x => eqF x y : Nat) : Int), M) else none
    | none => none
  | _, _ => none
def mIndex : D → OpN := fun d ds M => match d, ds with
  | .ref n, [y] => match seqAt M n with
    | some xs => if flatD y = true ∧ xs.all flatD = true then (xs.findIdx? fun x => eqF x y).map fun j => (.int ((j : Nat) : Int), M) else none
    | none => none
  | _, _ => none
theorem countP_V {x : V} : ∀ {xs : List V} {us : List Value}, Vals xs us → xs.all flatV = true → us.countP (eqU x) = xs.countP fun y => eqV y x
  | _, _, .nil, _ => rfl
  | y :: xs, u :: us, .cons r t, f => by
    obtain ⟨f1, f2⟩ := Bool.and_eq_true_iff.mp (List.all_cons ▸ f)
    rw [List.countP_cons, List.countP_cons, countP_V t f2, eqU_of r f1]
theorem countP_D {K : PySem.W.Frag} {ι : List Addr} {H : Hp} {d : D} {v : V} (r : Rp K ι H d v) : ∀ {ds : List D} {vs : List V}, RpA K ι H ds vs → (vs.countP fun y => eqV y v) = ds.countP fun x => eqF x d
  | _, _, .nil => rfl
  | _, _, .cons q t => by rw [List.countP_cons, List.countP_cons, countP_D r t, eqF_v q r]
section
variable {X : Cx}
theorem m_count : MtR X "list.count" (rDM X.K mCount) := by
  intro pins s σ H x xs v us Q I rx rxs h
  obtain ⟨ι, M, d, ds, S, r, rs, h⟩ := h
  unfold mCount at h
  split at h
  · obtain ⟨p, rfl, hp⟩ := r.ref_inv
    obtain ⟨y', rfl, ry⟩ := rs.one_inv
    split at h
    · rename_i m
      obtain ⟨vs, h1, r1⟩ := S.seq hp m
      split at h
      · rename_i y c
        obtain rfl : v = Value.ref p := rx
        obtain ⟨uy, rfl, ru⟩ := rxs.one
        have fy : flatV y' = true := by rw [flat_v ry]; exact c.1
        have fs : vs.all flatV = true := by rw [flat_all r1]; exact c.2
        obtain ⟨its, rv, ⟨⟨o1, o2, o3, o4⟩, n, ho, hc, hdn, hd⟩, hlen⟩ := I.list h1
        simp only at hc hd
        subst hc hd
        refine call_meets PySem.F.slot_list_count ⟨_, ho, rfl⟩ PySem.F.entry_list_count (PySem.F.args_list_count_2 _ _) (SeqAt.list_countAt p its.toArray n o2 o4 uy (eqU y')) ⟨ho, fun u hu => mem_eqAt ru fy rv fs u (by simpa using hu), ?_⟩
        have e : its.toArray.toList.countP (eqU y') = _ := (countP_V rv fs).trans (countP_D ry r1)
        refine ⟨.int _, H, I.tok _, ⟨s.toks, ?_⟩, h.val S (.int _)⟩
        show Value.int ((its.toArray.toList.countP (eqU y') : Nat) : Int) s.toks = _
        rw [e]
      · exact h.elim
    · exact h.elim
  · exact h.elim
theorem m_index : MtR X "list.index" (rDM X.K mIndex) := by
  refine MtR.imp mt_index fun x xs H Q h => ?_
  obtain ⟨ι, M, d, ds, S, r, rs, h⟩ := h
  unfold mIndex at h
  split at h
  · rename_i n y
    obtain ⟨p, rfl, hp⟩ := r.ref_inv
    obtain ⟨y', rfl, ry⟩ := rs.one_inv
    split at h
    · rename_i xs0 m
      obtain ⟨vs, h1, r1⟩ := S.seq hp m
      split at h
      · rename_i c
        cases q : xs0.findIdx? fun x => eqF x y with
        | none => rw [q] at h; exact h.elim
        | some j =>
          rw [q] at h
          obtain ⟨hj, e1, e2⟩ := List.findIdx?_eq_some_iff_getElem.mp q
          obtain ⟨z, g1, g2⟩ := r1.get (List.getElem?_eq_getElem hj)
          refine ⟨p, vs, y', j, z, rfl, rfl, h1, by rw [flat_v ry]; exact c.1, by rw [flat_all r1]; exact c.2, g1, by rw [eqF_v g2 ry]; exact e1, fun k z' hk hz => ?_, OpO.val S h (.int _)⟩
          obtain ⟨z2, g3, g4⟩ := r1.get (List.getElem?_eq_getElem (show k < xs0.length by omega))
          rw [g3] at hz
          cases hz
          rw [eqF_v g4 ry]
          have := e2 k hk
          simpa using this
      · exact h.elim
    · exact h.elim
  · exact h.elim
end
end TL
end
section
namespace TL
open PySem PySem.Spec PyProof.Rows L2
section
variable {env : Env} {M : Mem} {a b e : ME}
@[simp] theorem sStk_ap : sStk env M = .stuck := rfl
open Classical in
@[simp] theorem eTupRg1_ap : eTupRg1 e env M = (e env M).bind fun d M1 => kInt d fun j => if RgOk 0 j then .ok (.tup (rngItems 0 j.toNat)) M1 else .stuck := rfl
open Classical in
@[simp] theorem eLstRg1_ap : eLstRg1 e env M = (e env M).bind fun d M1 => kInt d fun j => if RgOk 0 j then .ok (.ref M1.length) (M1 ++ [.lst (rngItems 0 j.toNat)]) else .stuck := rfl
open Classical in
@[simp] theorem eTupRg2_ap : eTupRg2 a b env M = (a env M).bind fun d M1 => (b env M1).bind fun d2 M2 => kInt d fun i => kInt d2 fun j => if RgOk i j then .ok (.tup (rngItems i (j - i).toNat)) M2 else .stuck := rfl
open Classical in
@[simp] theorem eLstRg2_ap : eLstRg2 a b env M = (a env M).bind fun d M1 => (b env M1).bind fun d2 M2 => kInt d fun i => kInt d2 fun j => if RgOk i j then .ok (.ref M2.length) (M2 ++ [.lst (rngItems i (j - i).toNat)]) else .stuck := rfl
end
theorem intsOf_map : ∀ ns : List Int, intsOf (ns.map D.int) = some ns
  | [] => rfl
  | n :: ns => by
    show (intsOf (ns.map D.int)).map (n :: ·) = _
    rw [intsOf_map ns]; rfl
theorem blsOf_map : ∀ bs : List Bool, blsOf (bs.map D.bl) = some bs
  | [] => rfl
  | b :: bs => by
    show (blsOf (bs.map D.bl)).map (b :: ·) = _
    rw [blsOf_map bs]; rfl
theorem nMin_ints {M : Mem} {n : Nat} {ns : List Int} (h : seqAt M n = some (ns.map D.int)) (hne : ns ≠ []) : nMin [.ref n] M = some (.int (minI ns), M) := by
  show (match seqAt M n with
    | some xs => match intsOf xs with
      | some ns => if ns = [] then none else some (D.int (minI ns), M)
      | none => none
    | none => none) = _
  rw [h]
  simp only [intsOf_map]
  rw [if_neg hne]
theorem nAll_bls {M : Mem} {n : Nat} {bs : List Bool} (h : seqAt M n = some (bs.map D.bl)) : nAll [.ref n] M = some (.bl (bs.all id), M) := by
  show (match seqAt M n with
    | some xs => (blsOf xs).map fun (bs : List Bool) => (D.bl (bs.all id), M)
    | none => none) = _
  rw [h]
  simp only [blsOf_map]
  rfl
theorem nTuple_ref {M : Mem} {n : Nat} {xs : List D} (h : seqAt M n = some xs) : nTuple [.ref n] M = some (.tup xs, M) := by
  show (seqAt M n).map (fun xs => (D.tup xs, M)) = _
  rw [h]; rfl
end TL
end
section
namespace TL
open PySem PySem.Spec PyProof.Rows L2
/-- this value, and all that stood stands -/
abbrev Gives (M : Mem) (d : D) : D → Mem → Prop := fun d' M' => d' = d ∧ Keep M M'
theorem gives_of {o : Out D} {M : Mem} {d : D} (h : Ret o (Gives M d)) : ∃ M', o = .ok d M' ∧ Keep M M' := by
  obtain ⟨d', M', e, rfl, k⟩ := h
  exact ⟨M', e, k⟩
/-- how a block ends: with names and a memory, or with a value -/
def SRet (o : SOut) (N : TL.Env → Mem → Prop) (R : D → Mem → Prop) : Prop := match o with
  | .next e M => N e M
  | .ret d M => R d M
  | .exc _ _ _ => False
  | .stuck => False
section
variable {N N' : TL.Env → Mem → Prop} {R R' : D → Mem → Prop} {o : SOut} {env : TL.Env} {M : Mem}
theorem SRet.next (h : N env M) : SRet (.next env M) N R := h
theorem SRet.ret {d : D} (h : R d M) : SRet (.ret d M) N R := h
theorem SRet.imp (h : SRet o N R) (hn : ∀ e M, N e M → N' e M) (hr : ∀ d M, R d M → R' d M) : SRet o N' R' := by
  cases o with
  | next e M => exact hn _ _ h
  | ret d M => exact hr _ _ h
  | exc x e M => exact h
  | stuck => exact h
theorem SRet.nextS {f : TL.Env → Mem → SOut} (h : SRet o (fun e M => SRet (f e M) N R) R) : SRet (nextS o f) N R := by
  cases o with
  | next e M => exact h
  | ret d M => exact h
  | exc x e M => exact h
  | stuck => exact h
theorem Ret.endS {Q : D → Mem → Prop} (h : SRet o (fun _ M => Q .non M) Q) : Ret (endS o) Q := by
  cases o with
  | next e M => exact .ok h
  | ret d M => exact .ok h
  | exc x e M => exact h.elim
  | stuck => exact h.elim
theorem SRet.thenI {α : Type} {p : Out α} {f : α → Mem → SOut} {P : α → Mem → Prop} (h : Ret p P) (k : ∀ a M, P a M → SRet (f a M) N R) : SRet (TL.thenS env p f) N R := by
  obtain ⟨a, M, rfl, h⟩ := h
  exact k a M h
/-- a for by its invariant -/
theorem SRet.for_ {good : Mem → Prop} {g : MG} {b : MS} {ds : List D} (Inv : List D → TL.Env → Mem → Prop) (h0 : Inv ds env M) (hgood : ∀ ds env M, Inv ds env M → good M)
    (step : ∀ d ds env M, Inv (d :: ds) env M → ∃ env1, g d env = some env1 ∧ SRet (b env1 M) (Inv ds) R) (done : ∀ env M, Inv [] env M → N env M) : SRet (forL good g b ds env M) N R := by
  induction ds generalizing env M with
  | nil => rw [forL_nil (hgood _ _ _ h0)]; exact done _ _ h0
  | cons d ds ih =>
    obtain ⟨env1, hg, hs⟩ := step d ds env M h0
    rw [forL_cons (hgood _ _ _ h0) hg]
    exact SRet.nextS (hs.imp (fun e M h => ih h) fun d M h => h)
/-- a for with what follows it -/
theorem SRet.forN {good : Mem → Prop} {g : MG} {b : MS} {ds : List D} {k : TL.Env → Mem → SOut} (Inv : List D → TL.Env → Mem → Prop) (h0 : Inv ds env M) (hgood : ∀ ds env M, Inv ds env M → good M)
    (step : ∀ d ds env M, Inv (d :: ds) env M → ∃ env1, g d env = some env1 ∧ SRet (b env1 M) (Inv ds) R) (done : ∀ env M, Inv [] env M → SRet (k env M) N R) : SRet (TL.nextS (forL good g b ds env M) k) N R :=
  SRet.nextS (SRet.for_ Inv h0 hgood step done)
end
section
variable {good : Mem → Prop} {i n : Nat} {t : MT} {e : ME} {env : TL.Env} {ds : List D} {M0 : Mem}
/-- a comprehension: what stood stands, the items turned -/
theorem Ret.comp {P : Unit → Mem → Prop} (f : D → D) (hg : ∀ M', Keep M0 M' → good M') (hl : ds.length ≤ 1000000)
    (h : ∀ d ∈ ds, ∀ M', Keep M0 M' → Ret (e (env.set i (some d)) M') (Gives M' (f d)))
    (k : ∀ M2, Keep M0 M2 → M2[M0.length]? = some (.lst (ds.map f)) → P () M2) : Ret (compL good i tYesD e M0.length env ds (M0 ++ [.lst []])) P := by
  obtain ⟨M2, e2, k2, a2⟩ := compL_keep (n := M0.length) (t := tYesD) (e := e) (i := i) (env := env) (fun _ => true) f M0 hg (Nat.le_refl _) ds [] (M0 ++ [.lst []]) (Keep.more _ _) (at_len _ _) (by simpa using hl) fun d hd M' k' =>
    ⟨M', rfl, Keep.refl _, fun _ => gives_of (h d hd M' k')⟩
  refine ⟨(), M2, e2, k M2 k2 ?_⟩
  rw [List.filter_eq_self.mpr (fun _ _ => rfl)] at a2
  simpa using a2
theorem Ret.compF {P : Unit → Mem → Prop} (p : D → Bool) (f : D → D) (hg : ∀ M', Keep M0 M' → good M') (hl : ds.length ≤ 1000000)
    (h : ∀ d ∈ ds, ∀ M', Keep M0 M' → Ret (t (env.set i (some d)) M') (fun b M1 => b = p d ∧ Keep M' M1 ∧ (b = true → Ret (e (env.set i (some d)) M1) (Gives M1 (f d)))))
    (k : ∀ M2, Keep M0 M2 → M2[M0.length]? = some (.lst ((ds.filter p).map f)) → P () M2) : Ret (compL good i t e M0.length env ds (M0 ++ [.lst []])) P := by
  obtain ⟨M2, e2, k2, a2⟩ := compL_keep (n := M0.length) (t := t) (e := e) (i := i) (env := env) p f M0 hg (Nat.le_refl _) ds [] (M0 ++ [.lst []]) (Keep.more _ _) (at_len _ _) (by simpa using hl) fun d hd M' k' => by
    obtain ⟨b, M1, e1, rfl, k1, h1⟩ := h d hd M' k'
    exact ⟨M1, e1, k1, fun hp => gives_of (h1 hp)⟩
  exact ⟨(), M2, e2, k M2 k2 (by simpa using a2)⟩
end
end TL
end
section
namespace TL
open PySem PySem.Spec PyProof.Rows L2
section
variable {env : TL.Env} {M : Mem} {a : ME} {x : Ex} {i : Nat} {d : D} {b m : MS} {cl : List Str} {hs : List HdM} {C : Str} {sl : Option Nat}
@[simp] theorem sTry_ap : sTry cl b hs env M = match b env M with
  | .exc x env1 M1 => if x.cls ∈ cl then hdsRun x hs env1 M1 else .stuck
  | o => o := rfl
@[simp] theorem hdsRun_nil : hdsRun x [] env M = .exc x env M := rfl
@[simp] theorem hdsRun_cons : hdsRun x (⟨C, sl, m⟩ :: hs) env M = if subX x.cls C = true then undoS sl (m (setE env sl (some (.err x))) M) else hdsRun x hs env M := rfl
@[simp] theorem undoS_next : undoS sl (.next env M) = .next (setE env sl none) M := rfl
@[simp] theorem undoS_ret : undoS sl (.ret d M) = .ret d M := rfl
@[simp] theorem undoS_stuck : undoS sl .stuck = .stuck := rfl
@[simp] theorem setE_none {o : Option D} : setE env none o = env := rfl
@[simp] theorem setE_some {o : Option D} : setE env (some i) o = env.set i o := rfl
@[simp] theorem eIsE_ap : eIsE cl C a env M = (a env M).bind fun d M1 => liftO (mIsE cl C d M1) := rfl
@[simp] theorem eIsEs_ap {Cs : List Str} : eIsEs cl Cs a env M = (a env M).bind fun d M1 => liftO (mIsEs cl Cs d M1) := rfl
@[simp] theorem mIsE_err : mIsE cl C (.err x) M = if x.cls ∈ cl then some (.bl (subX x.cls C), M) else none := rfl
@[simp] theorem mIsEs_err {Cs : List Str} : mIsEs cl Cs (.err x) M = if x.cls ∈ cl then some (.bl (Cs.any (subX x.cls)), M) else none := rfl
@[simp] theorem isNon_err : isNon (.err x) = false := rfl
@[simp] theorem Out.bind_match {α β : Type} (x : Ex) (M : Mem) (f : α → Mem → Out β) : (Out.exc x M : Out α).bind f = .exc x M := rfl
end
section
variable {M : Mem} {xs : List D} {n : Nat} {k : Int}
@[simp] theorem nList_tup : nList [.tup xs] M = some (.ref M.length, M ++ [.lst xs]) := rfl
@[simp] theorem nList_ref : nList [.ref n] M = (seqAt M n).map fun xs => (.ref M.length, M ++ [.lst xs]) := rfl
@[simp] theorem nTuple_tup : nTuple [.tup xs] M = some (.tup xs, M) := rfl
end
theorem lt_of_seq {M : Mem} {n : Nat} {xs : List D} (h : seqAt M n = some xs) : n < M.length := by
  unfold seqAt at h
  cases q : M[n]? with
  | none => rw [q] at h; cases h
  | some o => exact lt_of_at q
/-- it raises this, all that stood stands -/
def Throws {α : Type} (o : Out α) (M : Mem) (x : Ex) : Prop := ∃ M', o = .exc x M' ∧ Keep M M'
/-- one of a list at a drawn place -/
theorem pick_at {M : Mem} {n : Nat} {xs : List D} {r : Int} (hn : seqAt M n = some xs) (h0 : 0 ≤ r) (h1 : r < xs.length) : ∃ d, d ∈ xs ∧ mIdx (.ref n) (.int r) M = some (d, M) := by
  obtain ⟨d, g1, g2⟩ := atI_ok h0 h1
  refine ⟨d, List.mem_of_getElem? g1, ?_⟩
  show (match seqAt M n with | some xs => (atI xs r).map fun d => (d, M) | none => none) = _
  rw [hn]
  simp only [g2]
  rfl
end TL
end
section
set_option maxHeartbeats 4000000
namespace TL
open PySem PySem.Spec PyProof.Rows L2
def strsOf : List D → Option (List Str)
  | [] => some []
  | .str b :: ds => (strsOf ds).map (b :: ·)
  | _ => none
theorem strsOf_map : ∀ ns : List Str, strsOf (ns.map D.str) = some ns
  | [] => rfl
  | n :: ns => by
    show (strsOf (ns.map D.str)).map (n :: ·) = _
    rw [strsOf_map ns]; rfl
def joinO (a : Str) (xs : List D) : Option Str := match strsOf xs with
  | some ys => if (ys.map (·.length)).sum + ys.length * a.length ≤ sizeLine then some (Txt.join a ys) else none
  | none => none
def mJoin : D → OpN := fun d ds M => match d, ds with
  | .str a, [.ref n] => match seqAt M n with
    | some xs => (joinO a xs).map fun z => (.str z, M)
    | none => none
  | .str a, [.tup xs] => (joinO a xs).map fun z => (.str z, M)
  | _, _ => none
def mFind : D → OpN := fun d ds M => match d, ds with
  | .str a, [.str b] => some (.int (Txt.find a b), M)
  | _, _ => none
def mSplit : D → OpN := fun d ds M => match d, ds with
  | .str a, [.str b] => if (b.length == 0) = false ∧ a.length + 2 ≤ sizeLine then some (.ref M.length, M ++ [.lst ((Txt.split a b).map D.str)]) else none
  | _, _ => none
def mPartition : D → OpN := fun d ds M => match d, ds with
  | .str a, [.str b] => if (b.length == 0) = false ∧ a.length ≤ sizeLine then some (.tup [.str (Txt.partition a b).1, .str (Txt.partition a b).2.1, .str (Txt.partition a b).2.2], M) else none
  | _, _ => none
def mUpper : D → OpN := fun d ds M => match d, ds with
  | .str a, [] => if a.length ≤ 5592405 then some (.str (Txt.upper a), M) else none
  | _, _ => none
def nStr : OpN := fun ds M => match ds with
  | [.int i] => if i.natAbs.log2 < 1920 then some (.str (toString i), M) else none
  | [.str x] => some (.str x, M)
  | _ => none
def nIntS : OpN := fun ds M => match ds with
  | [.str a] => match PySem.intText? a with
    | some n => if a.length ≤ 640 then some (.int n, M) else none
    | none => none
  | _ => none
section
variable {K : PySem.W.Frag} {ι : List Addr} {H : Hp} {M : Mem}
theorem strs_v : ∀ {ds : List D} {vs : List V} {bs : List Str}, RpA K ι H ds vs → strsOf ds = some bs → vs = bs.map V.str
  | [], _, _, .nil, e => by cases e; rfl
  | d :: ds, _, bs, .cons r t, e => by
    cases d with
    | str b =>
      have e' : (strsOf ds).map (b :: ·) = some bs := e
      cases q : strsOf ds with
      | none => rw [q] at e'; cases e'
      | some cs =>
        rw [q] at e'
        cases e'
        cases r.str_inv
        rw [strs_v t q]
        rfl
    | _ => cases e
theorem strs_rp : ∀ ns : List Str, RpA K ι H (ns.map D.str) (ns.map V.str)
  | [] => .nil
  | i :: ns => .cons (.str i) (strs_rp ns)
end
section
variable {X : Cx}
theorem m_join : MtR X "str.join" (rDM X.K mJoin) := by
  refine MtR.imp mt_join fun x xs H Q h => ?_
  obtain ⟨ι, M, d, ds, S, r, rs, h⟩ := h
  unfold mJoin at h
  split at h
  · rename_i a n
    cases r.str_inv
    obtain ⟨v, rfl, rv⟩ := rs.one_inv
    obtain ⟨p, rfl, hp⟩ := rv.ref_inv
    cases q : seqAt M n with
    | none => rw [q] at h; exact h.elim
    | some ys =>
      simp only [q] at h
      obtain ⟨vs, h1, r1⟩ := S.seq hp q
      unfold joinO at h
      cases q2 : strsOf ys with
      | none => simp only [q2] at h; exact h.elim
      | some zs =>
        simp only [q2] at h
        cases strs_v r1 q2
        by_cases c : (zs.map (·.length)).sum + zs.length * a.length ≤ sizeLine
        · simp only [if_pos c] at h
          exact ⟨a, p, zs, rfl, rfl, .inl h1, by rw [sizeLine_eq] at c; exact c, OpO.val S h (.str _)⟩
        · simp only [if_neg c] at h
          exact h.elim
  · rename_i a ys
    cases r.str_inv
    obtain ⟨v, rfl, rv⟩ := rs.one_inv
    obtain ⟨p, vs, rfl, t1, r1⟩ := rv.tup_inv
    unfold joinO at h
    cases q2 : strsOf ys with
    | none => simp only [q2] at h; exact h.elim
    | some zs =>
      simp only [q2] at h
      cases strs_v r1 q2
      by_cases c : (zs.map (·.length)).sum + zs.length * a.length ≤ sizeLine
      · simp only [if_pos c] at h
        exact ⟨a, p, zs, rfl, rfl, .inr t1, by rw [sizeLine_eq] at c; exact c, OpO.val S h (.str _)⟩
      · simp only [if_neg c] at h
        exact h.elim
  · exact h.elim
theorem m_find : MtR X "str.find" (rDM X.K mFind) := by
  refine MtR.imp mt_find fun x xs H Q h => ?_
  obtain ⟨ι, M, d, ds, S, r, rs, h⟩ := h
  unfold mFind at h
  split at h
  · cases r.str_inv
    obtain ⟨v, rfl, rv⟩ := rs.one_inv
    cases rv.str_inv
    exact ⟨_, _, rfl, rfl, h.val S (.int _)⟩
  · exact h.elim
theorem m_split : MtR X "str.split" (rDM X.K mSplit) := by
  refine MtR.imp mt_split fun x xs H Q h => ?_
  obtain ⟨ι, M, d, ds, S, r, rs, h⟩ := h
  unfold mSplit at h
  split at h
  · cases r.str_inv
    obtain ⟨v, rfl, rv⟩ := rs.one_inv
    cases rv.str_inv
    split at h
    · rename_i c
      exact ⟨_, _, rfl, rfl, c.1, c.2, h.newLst S (strs_rp _)⟩
    · exact h.elim
  · exact h.elim
theorem m_partition : MtR X "str.partition" (rDM X.K mPartition) := by
  refine MtR.imp mt_partition fun x xs H Q h => ?_
  obtain ⟨ι, M, d, ds, S, r, rs, h⟩ := h
  unfold mPartition at h
  split at h
  · cases r.str_inv
    obtain ⟨v, rfl, rv⟩ := rs.one_inv
    cases rv.str_inv
    split at h
    · rename_i c
      exact ⟨_, _, rfl, rfl, c.1, c.2, h.newTup S (.cons (.str _) (.cons (.str _) (.cons (.str _) .nil)))⟩
    · exact h.elim
  · exact h.elim
theorem CallR.both {f : Value} {r1 r2 : List V → Hp → VK → Prop} (h1 : CallR X f r1) (h2 : CallR X f r2) : CallR X f (fun xs H Q => r1 xs H Q ∨ r2 xs H Q) :=
  fun pins s σ H xs us Q I r h => h.elim (h1 pins s σ H xs us Q I r) (h2 pins s σ H xs us Q I r)
theorem c_str : CallR X (.type "str") (rDN X.K nStr) := by
  refine CallR.imp (CallR.both call_str_int SkE.call_str_str) fun xs H Q h => ?_
  obtain ⟨ι, M, ds, S, r, h⟩ := h
  unfold nStr at h
  split at h
  · obtain ⟨v, rfl, rv⟩ := r.one_inv
    cases rv.int_inv
    split at h
    · exact .inl ⟨_, rfl, by assumption, h.val S (.str _)⟩
    · exact h.elim
  · obtain ⟨v, rfl, rv⟩ := r.one_inv
    cases rv.str_inv
    exact .inr ⟨_, rfl, h.val S (.str _)⟩
  · exact h.elim
theorem c_intS : CallR X (.type "int") (rDN X.K nIntS) := by
  refine CallR.imp call_int_str fun xs H Q h => ?_
  obtain ⟨ι, M, ds, S, r, h⟩ := h
  unfold nIntS at h
  split at h
  · rename_i a
    obtain ⟨v, rfl, rv⟩ := r.one_inv
    cases rv.str_inv
    cases q : PySem.intText? a with
    | none => simp only [q] at h; exact h.elim
    | some n =>
      simp only [q] at h
      by_cases c : a.length ≤ 640
      · simp only [if_pos c] at h
        exact ⟨a, n, rfl, q, c, OpO.val S h (.int _)⟩
      · simp only [if_neg c] at h
        exact h.elim
  · exact h.elim
end
section
variable {M : Mem} {a b : Str} {n : Nat} {xs : List D} {i : Int}
theorem mJoin_ref : mJoin (.str a) [.ref n] M = match seqAt M n with
    | some xs => (joinO a xs).map fun z => (.str z, M)
    | none => none := rfl
@[simp] theorem mFind_str : mFind (.str a) [.str b] M = some (.int (Txt.find a b), M) := rfl
@[simp] theorem mSplit_str : mSplit (.str a) [.str b] M = if (b.length == 0) = false ∧ a.length + 2 ≤ sizeLine then some (.ref M.length, M ++ [.lst ((Txt.split a b).map D.str)]) else none := rfl
@[simp] theorem mPartition_str : mPartition (.str a) [.str b] M = if (b.length == 0) = false ∧ a.length ≤ sizeLine then some (.tup [.str (Txt.partition a b).1, .str (Txt.partition a b).2.1, .str (Txt.partition a b).2.2], M) else none := rfl
@[simp] theorem mUpper_str : mUpper (.str a) [] M = if a.length ≤ 5592405 then some (.str (Txt.upper a), M) else none := rfl
@[simp] theorem nStr_int : nStr [.int i] M = if i.natAbs.log2 < 1920 then some (.str (toString i), M) else none := rfl
@[simp] theorem nStr_str : nStr [.str a] M = some (.str a, M) := rfl
@[simp] theorem tyD_str : tyD "str" M (.str a) = true := rfl
theorem joinO_strs {ys : List Str} (h : (ys.map (·.length)).sum + ys.length * a.length ≤ 1000000) : joinO a (ys.map D.str) = some (Txt.join a ys) := by
  unfold joinO
  simp only [strsOf_map]
  exact if_pos (by rw [sizeLine_eq]; omega)
end
end TL
end
section
namespace TLQ
open PySem PySem.Spec PyProof.Rows L2 TL
/-- a thing that is left alone -/
inductive Held {α : Sort _} : α → Type
  | mk (a : α) : Held a
def bindQ {α β : Type} (o : Out α) (f : α → Mem → Out β) (_ : Held f) : Out β := o.bind f
def thenQ {α : Type} (env : TL.Env) (o : Out α) (f : α → Mem → SOut) (_ : Held f) : SOut := thenS env o f
def nextQ (o : SOut) (f : TL.Env → Mem → SOut) (_ : Held f) : SOut := nextS o f
def kBlQ {β : Type} (d : D) (f : Bool → Out β) (_ : Held f) : Out β := kBl d f
def kIntQ {β : Type} (d : D) (f : Int → Out β) (_ : Held f) : Out β := kInt d f
section
variable {α β : Type} {env : TL.Env} {M : Mem}
@[scoped simp ↓] theorem bind_held {o : Out α} {f : α → Mem → Out β} : o.bind f = bindQ o f (.mk f) := rfl
@[scoped simp ↓] theorem then_held {o : Out α} {f : α → Mem → SOut} : thenS env o f = thenQ env o f (.mk f) := rfl
@[scoped simp ↓] theorem next_held {o : SOut} {f : TL.Env → Mem → SOut} : nextS o f = nextQ o f (.mk f) := rfl
@[scoped simp ↓] theorem kBl_held {d : D} {f : Bool → Out β} : kBl d f = kBlQ d f (.mk f) := rfl
@[scoped simp ↓] theorem kInt_held {d : D} {f : Int → Out β} : kInt d f = kIntQ d f (.mk f) := rfl
@[scoped simp] theorem bindQ_ok {a : α} {f : α → Mem → Out β} {u : Held f} : bindQ (.ok a M) f u = f a M := rfl
@[scoped simp] theorem bindQ_exc {x : Ex} {f : α → Mem → Out β} {u : Held f} : bindQ (.exc x M : Out α) f u = .exc x M := rfl
@[scoped simp] theorem bindQ_stuck {f : α → Mem → Out β} {u : Held f} : bindQ (.stuck : Out α) f u = .stuck := rfl
@[scoped simp] theorem bindQ_bindQ {γ : Type} {o : Out α} {f : α → Mem → Out β} {g : β → Mem → Out γ} {u : Held f} {v : Held g} : bindQ (bindQ o f u) g v = bindQ o (fun a M => (f a M).bind g) (.mk _) := Out.bind_assoc o f g
@[scoped simp] theorem thenQ_ok {a : α} {f : α → Mem → SOut} {u : Held f} : thenQ env (.ok a M) f u = f a M := rfl
@[scoped simp] theorem thenQ_exc {x : Ex} {f : α → Mem → SOut} {u : Held f} : thenQ env (.exc x M : Out α) f u = .exc x env M := rfl
@[scoped simp] theorem thenQ_stuck {f : α → Mem → SOut} {u : Held f} : thenQ env (.stuck : Out α) f u = .stuck := rfl
@[scoped simp] theorem thenQ_bindQ {o : Out α} {f : α → Mem → Out β} {g : β → Mem → SOut} {u : Held f} {v : Held g} : thenQ env (bindQ o f u) g v = thenQ env o (fun a M => thenS env (f a M) g) (.mk _) := thenS_bind f g
@[scoped simp] theorem nextQ_next {f : TL.Env → Mem → SOut} {u : Held f} : nextQ (.next env M) f u = f env M := rfl
@[scoped simp] theorem nextQ_ret {d : D} {f : TL.Env → Mem → SOut} {u : Held f} : nextQ (.ret d M) f u = .ret d M := rfl
@[scoped simp] theorem nextQ_exc {x : Ex} {f : TL.Env → Mem → SOut} {u : Held f} : nextQ (.exc x env M) f u = .exc x env M := rfl
@[scoped simp] theorem nextQ_stuck {f : TL.Env → Mem → SOut} {u : Held f} : nextQ .stuck f u = .stuck := rfl
@[scoped simp] theorem nextQ_thenQ {o : Out α} {f : α → Mem → SOut} {g : TL.Env → Mem → SOut} {u : Held f} {v : Held g} : nextQ (thenQ env o f u) g v = thenQ env o (fun a M => nextS (f a M) g) (.mk _) := nextS_thenS f g
@[scoped simp] theorem nextQ_nextQ {o : SOut} {f g : TL.Env → Mem → SOut} {u : Held f} {v : Held g} : nextQ (nextQ o f u) g v = nextQ o (fun e M => nextS (f e M) g) (.mk _) := nextS_nextS o f g
@[scoped simp] theorem endS_thenQ {o : Out α} {f : α → Mem → SOut} {u : Held f} : endS (thenQ env o f u) = bindQ o (fun a M => endS (f a M)) (.mk _) := endS_thenS f
@[scoped simp] theorem kBlQ_bl {b : Bool} {f : Bool → Out β} {u : Held f} : kBlQ (.bl b) f u = f b := rfl
@[scoped simp] theorem kIntQ_int {i : Int} {f : Int → Out β} {u : Held f} : kIntQ (.int i) f u = f i := rfl
@[scoped simp] theorem undoS_thenQ {sl : Option Nat} {o : Out α} {f : α → Mem → SOut} {u : Held f} (h : ∀ x M, o ≠ .exc x M) : undoS sl (thenQ env o f u) = thenQ env o (fun a M => undoS sl (f a M)) (.mk _) := by
  cases o with
  | ok a M => rfl
  | exc x M => exact absurd rfl (h x M)
  | stuck => rfl
variable {N : TL.Env → Mem → Prop} {R : D → Mem → Prop}
theorem Ret.bindQ {o : Out α} {f : α → Mem → Out β} {u : Held f} {P : α → Mem → Prop} {Q : β → Mem → Prop} (h : Ret o P) (k : ∀ a M, P a M → Ret (f a M) Q) : Ret (TLQ.bindQ o f u) Q := Ret.bind h k
theorem SRet.thenQ {o : Out α} {f : α → Mem → SOut} {u : Held f} {P : α → Mem → Prop} (h : Ret o P) (k : ∀ a M, P a M → SRet (f a M) N R) : SRet (TLQ.thenQ env o f u) N R := SRet.thenI h k
theorem SRet.forQ {good : Mem → Prop} {g : MG} {b : MS} {ds : List D} {k : TL.Env → Mem → SOut} {u : Held k} (Inv : List D → TL.Env → Mem → Prop) (h0 : Inv ds env M) (hgood : ∀ ds env M, Inv ds env M → good M)
    (step : ∀ d ds env M, Inv (d :: ds) env M → ∃ env1, g d env = some env1 ∧ SRet (b env1 M) (Inv ds) R) (done : ∀ env M, Inv [] env M → SRet (k env M) N R) : SRet (TLQ.nextQ (forL good g b ds env M) k u) N R := SRet.forN Inv h0 hgood step done
theorem SRet.nextQ {o : SOut} {f : TL.Env → Mem → SOut} {u : Held f} (h : SRet o (fun e M => SRet (f e M) N R) R) : SRet (TLQ.nextQ o f u) N R := SRet.nextS h
end
@[scoped simp] theorem str_inj {a b : String} : Str.ofString a = Str.ofString b ↔ a = b := by
  refine ⟨fun h => ?_, fun h => by rw [h]⟩
  rw [Str.ofString_eq_toList, Str.ofString_eq_toList] at h
  have h1 := congrArg (fun s : Str => s.cps.toList) h
  simp only at h1
  have h2 : a.toList = b.toList := (List.map_inj_right fun c d e => Char.ext (UInt32.toNat_inj.mp e)).mp h1
  exact String.toList_inj.mp h2
@[scoped simp] theorem str_beq {a b : String} : (Str.ofString a == Str.ofString b) = decide (a = b) := by
  by_cases h : a = b
  · subst h; simp
  · have : Str.ofString a ≠ Str.ofString b := fun e => h (str_inj.mp e)
    simp [h]
section
variable {M : Mem} {n : Nat} {y : D}
@[scoped simp] theorem mCount_ap : mCount (.ref n) [y] M = match seqAt M n with
    | some xs => if flatD y = true ∧ xs.all flatD = true then some (.int ((xs.countP fun x => eqF x y : Nat) : Int), M) else none
    | none => none := rfl
@[scoped simp] theorem mIndex_ap : mIndex (.ref n) [y] M = match seqAt M n with
    | some xs => if flatD y = true ∧ xs.all flatD = true then (xs.findIdx? fun x => eqF x y).map fun j => (.int ((j : Nat) : Int), M) else none
    | none => none := rfl
@[scoped simp] theorem tyD_ref : tyD "list" M (.ref n) = (seqAt M n).isSome := by show (decide ("list" = "list") && (seqAt M n).isSome) = _; simp
@[scoped simp] theorem mNe_bl {b c : Bool} : mNe (.bl b) (.bl c) M = some (.bl (!(b == c)), M) := by
  rw [mNe_eq, eqD_pure (n := 0) (m := 0) (by simp [pureD]) (by simp [pureD]) (by decide) (by decide)]; simp [pyD, PyData.eqv]
@[scoped simp] theorem flat_bl {b : Bool} : flatD (.bl b) = true := rfl
@[scoped simp] theorem flat_int {b : Int} : flatD (.int b) = true := rfl
@[scoped simp] theorem flat_str {b : Str} : flatD (.str b) = true := rfl
@[scoped simp] theorem flat_non : flatD .non = true := rfl
@[scoped simp] theorem eqF_bl {b c : Bool} : eqF (.bl b) (.bl c) = (b == c) := rfl
@[scoped simp] theorem eqF_int {b c : Int} : eqF (.int b) (.int c) = (b == c) := rfl
@[scoped simp] theorem eqF_str {b c : Str} : eqF (.str b) (.str c) = (b == c) := rfl
/-- a place behind a memory -/
theorem seq_new {G : Mem} {k : Nat} : seqAt (M ++ G) (M.length + k) = seqAt G k := by unfold seqAt; rw [List.getElem?_append_right (by omega)]; simp
theorem seq_new0 {G : Mem} : seqAt (M ++ G) M.length = seqAt G 0 := by unfold seqAt; rw [List.getElem?_append_right (by omega)]; simp
end
@[scoped simp] theorem line_is : sizeLine = 16777216 := sizeLine_eq
theorem strOk_of (s : String) : PyData.strOk (Str.ofString s) = true := by
  rw [Str.ofString_eq_toList]
  unfold PyData.strOk
  rw [← Array.all_toList]
  simp only [List.all_map, List.all_eq_true]
  intro c _
  have h := c.valid
  have e : c.toNat = c.val.toNat := rfl
  refine decide_eq_true ?_
  show c.toNat < 0x110000
  rw [e]
  rcases h with h | h <;> simp at h ⊢ <;> omega
@[scoped simp] theorem mEq_str {x y : String} {M : Mem} : mEq (.str (Str.ofString x)) (.str (Str.ofString y)) M = some (.bl (decide (x = y)), M) := by
  rw [mEq_eq, eqD_pure (n := 0) (m := 0) (by simp [pureD, strOk_of]) (by simp [pureD, strOk_of]) (by decide) (by decide)]; simp [pyD, PyData.eqv]
@[scoped simp] theorem mNe_str {x y : String} {M : Mem} : mNe (.str (Str.ofString x)) (.str (Str.ofString y)) M = some (.bl (!decide (x = y)), M) := by
  rw [mNe_eq, eqD_pure (n := 0) (m := 0) (by simp [pureD, strOk_of]) (by simp [pureD, strOk_of]) (by decide) (by decide)]; simp [pyD, PyData.eqv]
end TLQ
end
section
set_option maxHeartbeats 4000000
namespace TL
open PySem PySem.Spec PyProof.Rows L2
/-- room, and nothing being shown -/
structure RoomG (k : Nat) (A : Around) : Prop where
  room : Room k A
  gd : A.guards = some []
theorem RoomG.mono {j k : Nat} {A : Around} (r : RoomG k A) (h : j ≤ k) : RoomG j A := ⟨r.room.mono h, r.gd⟩
theorem RoomG.deeper {k : Nat} {A : Around} (r : RoomG (k + 1) A) (env : PySem.Env) : RoomG k (A.deeper env) := ⟨r.room.deeper env, r.gd⟩
structure CtxG (X : Cx) (W : WX) (k : Nat) : Prop where
  ctx : Ctx X W k
  gd : X.A.guards = some []
end TL
end
section
set_option maxHeartbeats 4000000
namespace TL
open PySem PySem.Spec PyProof.Rows L2
theorem CtxG.blk {X : Cx} {W : WX} {k : Nat} (C : CtxG X W k) {s : Shared} {H : Hp} {scope : Scope} {cenv : PySem.Env} {fp : List Addr} : CtxG (X.blk s H scope cenv fp) W0 k := ⟨C.ctx.blk, C.gd⟩
end TL
namespace TL
open PySem PySem.Spec PyProof.Rows L2
end TL
end
section
set_option maxHeartbeats 4000000
namespace TL
open PySem PySem.Spec PyProof.Rows L2
/-- the data of a thing and of what it holds -/
def datL (f : D → Option PyData) : List D → Option (List PyData)
  | [] => some []
  | x :: xs => match f x, datL f xs with
    | some d, some ds => some (d :: ds)
    | _, _ => none
def dat : Nat → Mem → D → Option PyData
  | 0, _, _ => none
  | n + 1, M, d => match d with
    | .non => some .none
    | .bl b => some (.bool b)
    | .int i => some (.int i)
    | .str x => some (.str x)
    | .tup xs => (datL (dat n M) xs).map PyData.tuple
    | .ref a => match seqAt M a with
      | some xs => (datL (dat n M) xs).map PyData.list
      | none => none
    | _ => none
end TL
end
section
set_option maxHeartbeats 4000000
namespace TL
open PySem PySem.Spec PyProof.Rows L2
theorem datL_imp {f g : D → Option PyData} (h : ∀ (d : D) (x : PyData), f d = some x → g d = some x) : ∀ (xs : List D) (ds : List PyData), datL f xs = some ds → datL g xs = some ds
  | [], _, e => e
  | d :: xs, ds, e => by
    unfold datL at e ⊢
    cases e1 : f d with
    | none => rw [e1] at e; cases e
    | some y =>
      cases e2 : datL f xs with
      | none => rw [e1, e2] at e; cases e
      | some ys =>
        rw [e1, e2] at e
        rw [h d y e1, datL_imp h xs ys e2]
        exact e
theorem dat_keep {M M' : Mem} (k : Keep M M') : ∀ (n : Nat) (d : D) (x : PyData), dat n M d = some x → dat n M' d = some x
  | 0, _, _, e => nomatch e
  | n + 1, d, x, e => by
    cases d with
    | tup xs =>
      obtain ⟨ds, e1, rfl⟩ := Option.map_eq_some_iff.mp (show (datL (dat n M) xs).map PyData.tuple = some x from e)
      show (datL (dat n M') xs).map PyData.tuple = _
      rw [datL_imp (dat_keep k n) xs ds e1]
      rfl
    | ref m =>
      have e' : (match seqAt M m with | some xs => (datL (dat n M) xs).map PyData.list | none => none) = some x := e
      show (match seqAt M' m with | some xs => (datL (dat n M') xs).map PyData.list | none => none) = some x
      cases q : seqAt M m with
      | none => rw [q] at e'; cases e'
      | some xs =>
        rw [q] at e'
        obtain ⟨ds, e1, rfl⟩ := Option.map_eq_some_iff.mp e'
        rw [k.seq q]
        simp only
        rw [datL_imp (dat_keep k n) xs ds e1]
        rfl
    | _ => exact e
/-- a thing that repr can show -/
def Shows (M : Mem) (d : D) (t : Str) : Prop := ∃ x, dat 40 M d = some x ∧ x.showable = true ∧ x.shown.length ≤ sizeLine ∧ t = x.shown
theorem Shows.keep {M M' : Mem} {d : D} {t : Str} (k : Keep M M') (h : Shows M d t) : Shows M' d t := by
  obtain ⟨x, e, r⟩ := h
  exact ⟨x, dat_keep k 40 d x e, r⟩
theorem Shows.of {M : Mem} {d : D} {x : PyData} (e : dat 40 M d = some x) (s : x.showable = true) (l : x.leavesShort 200 = true) (h : x.weight ≤ 10000) : Shows M d x.shown := by
  refine ⟨x, e, s, ?_, rfl⟩
  have h1 := PyData.shown_le 200 (by decide) x l
  rw [sizeLine_eq]
  omega
theorem int_short {i : Int} (h : i.natAbs < 10 ^ 60) : (PyData.int i).leavesShort 200 = true := by
  have h1 := int_text_length_le10 (a := i) (k := 60) (by decide) h
  show decide ((PyData.int i).shown.length ≤ 200) = true
  refine decide_eq_true ?_
  have h2 : (Str.ofString (toString i)).length ≤ 200 := by
    clear h
    rw [PySem.ofString_length]
    omega
  exact h2
end TL
end
section
set_option maxHeartbeats 4000000
namespace TL
open PySem PySem.Spec PyProof.Rows L2
/-- it can be shown: at most n deep, of weight w -/
def Sh (M : Mem) (n w : Nat) (d : D) : Prop := ∃ x, dat n M d = some x ∧ (x.showable = true ∧ x.canLay0 = true) ∧ x.leavesShort 200 = true ∧ x.weight ≤ w
def ShL (M : Mem) (n w : Nat) (ds : List D) : Prop := ∃ xs, datL (dat n M) ds = some xs ∧ (PyData.showableAll xs = true ∧ PyData.canLayAll0 xs = true) ∧ PyData.leavesShortAll 200 xs = true ∧ PyData.weightAll xs ≤ w
section
variable {M M' : Mem} {n w v : Nat} {d : D} {ds es : List D}
theorem Sh.non : Sh M (n + 1) 0 .non := ⟨.none, rfl, ⟨rfl, rfl⟩, rfl, Nat.le_refl _⟩
theorem Sh.bl {b : Bool} : Sh M (n + 1) 0 (.bl b) := ⟨.bool b, rfl, ⟨rfl, rfl⟩, rfl, Nat.le_refl _⟩
theorem Sh.int {i : Int} (h : i.natAbs < 10 ^ 60) : Sh M (n + 1) 201 (.int i) := by
  have l : i.natAbs.log2 < 200 := by
    by_cases z : i.natAbs = 0
    · rw [z]; decide
    · exact (Nat.log2_lt z).mpr (Nat.lt_trans h (by decide))
  refine ⟨.int i, rfl, ⟨decide_eq_true (by omega), rfl⟩, int_short h, ?_⟩
  show (if i == 0 then 0 else i.natAbs.log2 + 1) ≤ 201
  split <;> omega
theorem Sh.str {x : Str} (h : PyData.strOk x = true) : Sh M (n + 1) x.cps.size (.str x) := by
  refine ⟨.str x, rfl, ⟨rfl, h⟩, ?_, Nat.le_refl _⟩
  show (x.cps.toList.all fun c => decide (c < 16 ^ 8)) = true
  unfold PyData.strOk at h
  rw [← Array.all_toList] at h
  simp only [List.all_eq_true, decide_eq_true_eq] at h ⊢
  exact fun c hc => Nat.lt_trans (h c hc) (by decide)
theorem Sh.le (h : Sh M n w d) (l : w ≤ v) : Sh M n v d := by
  obtain ⟨x, a, b, c, e⟩ := h
  exact ⟨x, a, b, c, Nat.le_trans e l⟩
theorem ShL.le (h : ShL M n w ds) (l : w ≤ v) : ShL M n v ds := by
  obtain ⟨x, a, b, c, e⟩ := h
  exact ⟨x, a, b, c, Nat.le_trans e l⟩
theorem ShL.nil : ShL M n 0 [] := ⟨[], rfl, ⟨rfl, rfl⟩, rfl, Nat.le_refl _⟩
theorem ShL.cons (h : Sh M n w d) (t : ShL M n v ds) : ShL M n (w + 1 + v) (d :: ds) := by
  obtain ⟨x, a, ⟨b, g⟩, c, e⟩ := h
  obtain ⟨xs, a', ⟨b', g'⟩, c', e'⟩ := t
  refine ⟨x :: xs, ?_, ?_, ?_, ?_⟩
  · unfold datL; rw [a, a']
  · exact ⟨by show (x.showable && PyData.showableAll xs) = true; rw [b, b']; rfl, by show (x.canLay0 && PyData.canLayAll0 xs) = true; rw [g, g']; rfl⟩
  · show (x.leavesShort 200 && PyData.leavesShortAll 200 xs) = true; rw [c, c']; rfl
  · show x.weight + 1 + PyData.weightAll xs ≤ _; omega
theorem ShL.append (h : ShL M n w ds) (t : ShL M n v es) : ShL M n (w + v) (ds ++ es) := by
  induction ds generalizing w with
  | nil => exact t.le (by omega)
  | cons d ds ih =>
    obtain ⟨xs, a, ⟨b, g⟩, c, e⟩ := h
    unfold datL at a
    cases q1 : dat n M d with
    | none => rw [q1] at a; cases a
    | some y =>
      cases q2 : datL (dat n M) ds with
      | none => rw [q1, q2] at a; cases a
      | some ys =>
        rw [q1, q2] at a
        cases a
        obtain ⟨b1, b2⟩ := Bool.and_eq_true_iff.mp (show (y.showable && PyData.showableAll ys) = true from b)
        obtain ⟨g1, g2⟩ := Bool.and_eq_true_iff.mp (show (y.canLay0 && PyData.canLayAll0 ys) = true from g)
        obtain ⟨c1, c2⟩ := Bool.and_eq_true_iff.mp (show (y.leavesShort 200 && PyData.leavesShortAll 200 ys) = true from c)
        have e' : y.weight + 1 + PyData.weightAll ys ≤ w := e
        exact (ShL.cons (w := y.weight) ⟨y, q1, ⟨b1, g1⟩, c1, Nat.le_refl _⟩ (ih (w := PyData.weightAll ys) ⟨ys, q2, ⟨b2, g2⟩, c2, Nat.le_refl _⟩)).le (by omega)
theorem Sh.tup (h : ShL M n w ds) : Sh M (n + 1) w (.tup ds) := by
  obtain ⟨xs, a, b, c, e⟩ := h
  refine ⟨.tuple xs, ?_, b, c, e⟩
  show (datL (dat n M) ds).map PyData.tuple = _
  rw [a]; rfl
theorem Sh.ref {m : Nat} (hm : seqAt M m = some ds) (h : ShL M n w ds) : Sh M (n + 1) w (.ref m) := by
  obtain ⟨xs, a, b, c, e⟩ := h
  refine ⟨.list xs, ?_, b, c, e⟩
  show (match seqAt M m with | some xs => (datL (dat n M) xs).map PyData.list | none => none) = _
  rw [hm]
  simp only [a]
  rfl
theorem ShL.all (h : ∀ d ∈ ds, Sh M n w d) : ShL M n ((w + 1) * ds.length) ds := by
  induction ds with
  | nil => exact .nil
  | cons d ds ih =>
    refine (ShL.cons (h d List.mem_cons_self) (ih fun x hx => h x (List.mem_cons_of_mem _ hx))).le ?_
    rw [List.length_cons, Nat.mul_add]
    omega
theorem Sh.keep (k : Keep M M') (h : Sh M n w d) : Sh M' n w d := by
  obtain ⟨x, a, r⟩ := h
  exact ⟨x, dat_keep k n d x a, r⟩
theorem ShL.keep (k : Keep M M') (h : ShL M n w ds) : ShL M' n w ds := by
  obtain ⟨x, a, r⟩ := h
  exact ⟨x, datL_imp (dat_keep k n) ds x a, r⟩
end
theorem datL_optAll {f g : D → Option PyData} (h : ∀ d x, f d = some x → g d = some x) : ∀ (xs : List D) (ps : List PyData), datL f xs = some ps → optAll g xs = some ps
  | [], _, e => e
  | x :: xs, ps, e => by
    unfold datL at e
    unfold optAll
    cases e1 : f x with
    | none => rw [e1] at e; cases e
    | some y =>
      cases e2 : datL f xs with
      | none => rw [e1, e2] at e; cases e
      | some ys =>
        rw [e1, e2] at e
        rw [h x y e1, datL_optAll h xs ys e2]
        exact e
theorem dat_toP {M : Mem} : ∀ (n : Nat) (d : D) (x : PyData), dat n M d = some x → toP n M d = some x
  | 0, _, _, e => nomatch e
  | n + 1, d, x, e => by
    cases d with
    | tup xs =>
      obtain ⟨ps, e1, rfl⟩ := Option.map_eq_some_iff.mp (show (datL (dat n M) xs).map PyData.tuple = some x from e)
      show (optAll (toP n M) xs).map PyData.tuple = _
      rw [datL_optAll (dat_toP n) xs ps e1]
      rfl
    | ref m =>
      have e' : (match seqAt M m with | some xs => (datL (dat n M) xs).map PyData.list | none => none) = some x := e
      show (match seqAt M m with | some xs => (optAll (toP n M) xs).map PyData.list | none => none) = some x
      cases q : seqAt M m with
      | none => rw [q] at e'; cases e'
      | some xs =>
        rw [q] at e'
        obtain ⟨ps, e1, rfl⟩ := Option.map_eq_some_iff.mp e'
        simp only
        rw [datL_optAll (dat_toP n) xs ps e1]
        rfl
    | _ => exact e
theorem datL_depth {f : D → Option PyData} {n : Nat} (h : ∀ d x, f d = some x → x.depth ≤ n) : ∀ (xs : List D) (ps : List PyData), datL f xs = some ps → PyData.depthAll ps ≤ n
  | [], _, e => by cases e; exact Nat.zero_le _
  | x :: xs, ps, e => by
    unfold datL at e
    cases e1 : f x with
    | none => rw [e1] at e; cases e
    | some y =>
      cases e2 : datL f xs with
      | none => rw [e1, e2] at e; cases e
      | some ys =>
        rw [e1, e2] at e
        cases e
        exact Nat.max_le.mpr ⟨h x y e1, datL_depth h xs ys e2⟩
theorem dat_depth {M : Mem} : ∀ (n : Nat) (d : D) (x : PyData), dat n M d = some x → x.depth ≤ n
  | 0, _, _, e => nomatch e
  | n + 1, d, x, e => by
    cases d with
    | tup xs =>
      obtain ⟨ps, e1, rfl⟩ := Option.map_eq_some_iff.mp (show (datL (dat n M) xs).map PyData.tuple = some x from e)
      exact Nat.succ_le_succ (datL_depth (dat_depth n) xs ps e1)
    | ref m =>
      have e' : (match seqAt M m with | some xs => (datL (dat n M) xs).map PyData.list | none => none) = some x := e
      cases q : seqAt M m with
      | none => rw [q] at e'; cases e'
      | some xs =>
        rw [q] at e'
        obtain ⟨ps, e1, rfl⟩ := Option.map_eq_some_iff.mp e'
        exact Nat.succ_le_succ (datL_depth (dat_depth n) xs ps e1)
    | non => cases e; exact Nat.zero_le _
    | bl b => cases e; exact Nat.zero_le _
    | int i => cases e; exact Nat.zero_le _
    | str y => cases e; exact Nat.zero_le _
    | err y => cases e
/-- what can be shown can be held against other things -/
theorem Sh.shaped {M : Mem} {w : Nat} {d : D} (h : Sh M 40 w d) : (toP 64 M d).isSome = true ∧ ∀ p, toP 64 M d = some p → SeqAt.shaped p = true := by
  obtain ⟨x, a, ⟨_, g⟩, _⟩ := h
  have e := toP_mono (f := 40) (g := 64) (by decide) (dat_toP 40 d x a)
  refine ⟨by rw [e]; rfl, fun p hp => ?_⟩
  rw [e] at hp
  cases hp
  unfold SeqAt.shaped
  rw [g, Bool.true_and]
  exact decide_eq_true (Nat.le_trans (dat_depth 40 d x a) (by decide))
end TL
end
section
set_option maxHeartbeats 4000000
namespace TL
open PySem PySem.Spec PyProof.Rows L2
/-- how many of these are not seen before -/
def fresh {κ : Type} [DecidableEq κ] (S : κ → Bool) : List κ → Nat
  | [] => 0
  | x :: xs => (if S x then 0 else 1) + fresh (fun y => S y || decide (y = x)) xs
def mLenSet : Op1 := fun d M => match d with
  | .ref n => match seqAt M n with
    | some xs => match strsOf xs with
      | some ys => if ys.length ≤ 1000 then some (.int (fresh (fun _ => false) ys : Nat), M) else none
      | none => none
    | none => none
  | _ => none
def eLenSet (a : ME) : ME := eUn mLenSet a
@[simp] theorem eLenSet_ap {a : ME} {env : TL.Env} {M : Mem} : eLenSet a env M = (a env M).bind fun d M1 => liftO (mLenSet d M1) := rfl
end TL
end
section
set_option maxHeartbeats 4000000
namespace TL
open PySem PySem.Spec PyProof.Rows L2
def putD (f : Str) (d : D) : List (Str × D) → List (Str × D)
  | [] => [(f, d)]
  | (g, x) :: r => if g = f then (g, d) :: r else (g, x) :: putD f d r
section
variable {K : PySem.W.Frag} {ι : List Addr} {H : Hp}
theorem RpF.put {f : Str} {d : D} {v : V} (r : Rp K ι H d v) : ∀ {fs : List (Str × D)} {vs : List (Str × V)}, RpF K ι H fs vs → RpF K ι H (putD f d fs) (putF f v vs)
  | _, _, .nil => .cons r .nil
  | _, _, .cons (x := x) h t => by
    unfold putD putF
    by_cases e : x = f
    · rw [if_pos e, if_pos e]; exact .cons r t
    · rw [if_neg e, if_neg e]; exact .cons h (RpF.put r t)
theorem RpF.look {f : Str} : ∀ {fs : List (Str × D)} {vs : List (Str × V)}, RpF K ι H fs vs → ∀ d, fs.lookup f = some d → ∃ v, vs.lookup f = some v ∧ Rp K ι H d v
  | _, _, .nil, d, e => nomatch e
  | _, _, .cons (x := x) (v := v) h t, d, e => by
    by_cases q : f = x
    · subst q
      simp only [List.lookup, beq_self_eq_true] at e
      cases e
      exact ⟨v, by simp [List.lookup], h⟩
    · have q' : (f == x) = false := by simpa using q
      simp only [List.lookup, q'] at e
      obtain ⟨u, e1, e2⟩ := RpF.look t d e
      exact ⟨u, by simp only [List.lookup, q']; exact e1, e2⟩
theorem RpF.lookN {f : Str} : ∀ {fs : List (Str × D)} {vs : List (Str × V)}, RpF K ι H fs vs → fs.lookup f = none → vs.lookup f = none
  | _, _, .nil, e => rfl
  | _, _, .cons (x := x) h t, e => by
    by_cases q : f = x
    · subst q
      simp [List.lookup] at e
    · have q' : (f == x) = false := by simpa using q
      simp only [List.lookup, q'] at e ⊢
      exact RpF.lookN t e
theorem RpF.length : ∀ {fs : List (Str × D)} {vs : List (Str × V)}, RpF K ι H fs vs → fs.length = vs.length
  | _, _, .nil => rfl
  | _, _, .cons _ t => congrArg (· + 1) t.length
end
/-- the object there, of that class -/
def insAt (M : Mem) (c : Str) (n : Nat) : Option (List (Str × D)) := match M[n]? with
  | some (.ins c' fs) => if c' = c then some fs else none
  | _ => none
theorem insAt_some {M : Mem} {c : Str} {n : Nat} {fs : List (Str × D)} (h : insAt M c n = some fs) : M[n]? = some (.ins c fs) := by
  unfold insAt at h
  split at h
  · rename_i c' fs' e
    split at h
    · rename_i z
      subst z
      cases h
      exact e
    · cases h
  · cases h
theorem insAt_of {M : Mem} {c : Str} {n : Nat} {fs : List (Str × D)} (h : M[n]? = some (.ins c fs)) : insAt M c n = some fs := by
  unfold insAt
  rw [h]
  exact if_pos rfl
/-- a field of objects of that class -/
structure FldF (K : PySem.W.Frag) (c f : Str) : Prop where
  cls : Cls K (He.ga K c)
  no : NoAttr K (He.ga K c) f
/-- x.f -/
def mFld (c f : Str) : Op1 := fun d M => match d with
  | .ref n => match insAt M c n with
    | some fs => (fs.lookup f).map fun v => (v, M)
    | none => none
  | _ => none
def eFld (c f : Str) (e : ME) : ME := eUn (mFld c f) e
/-- x.f = v -/
def putO (c f : Str) (x v : D) (M : Mem) : Option Mem := match x with
  | .ref n => match insAt M c n with
    | some fs => if fs.length < 1000 then some (M.set n (.ins c (putD f v fs))) else none
    | none => none
  | _ => none
def sFldD (c f : Str) (o e : ME) : MS := fun env M => thenS env (e env M) fun v M1 => thenS env (o env M1) fun x M2 => match putO c f x v M2 with
  | some M3 => .next env M3
  | none => .stuck
section
variable {X : Cx} {W : WX} {k : Nat} {c f : Str} {e o : Expr} {me mo : ME} {pos pos' : Pos}
theorem d_fld (F : FldF X.K c f) (he : PE X e (LE X.K W me)) (hb : attributeBase e f X.env (eval e X.env) = eval e X.env := by rfl) : PE X (.Attribute e f pos) (LE X.K W (eFld c f me)) :=
  (pe_fld he hb).imp fun σ H Q ⟨ι, env, M, S, R, h⟩ => ⟨ι, env, M, S, R, (OutP.bind h).imp fun d M1 ι1 H1 e1 S1 h1 v rv => by
    revert h1
    unfold mFld
    cases d with
    | ref n =>
      obtain ⟨a, rfl, ha⟩ := rv.ref_inv
      cases q : insAt M1 c n with
      | none => intro h1; simp only [q] at h1; exact h1.elim
      | some fs =>
        obtain ⟨dx, vs, h2, h3⟩ := S1.ok n a _ ha (insAt_some q)
        cases q2 : fs.lookup f with
        | none => intro h1; simp only [q, q2] at h1; exact h1.elim
        | some d =>
          intro h1
          simp only [q, q2] at h1
          obtain ⟨v, e4, r4⟩ := h3.look d q2
          exact ⟨a, _, dx, vs, v, rfl, h2, F.cls, F.no, e4, OutP.val S1 h1 _ r4⟩
    | _ => exact fun h1 => h1.elim⟩
theorem ds_fld (F : FldF X.K c f) (ho : PE X o (LE X.K W mo)) (he : PE X e (LE X.K W me)) (hs : swapsWith e (some (.Attribute o f pos')) pos.line X.env = pure false := by rfl) :
    PS X (.Assign [.Attribute o f pos'] e pos) (LS X.K W (sFldD c f mo me)) :=
  (ps_fld ho he hs).imp fun En σ H ⟨ι, env, M, S, R, h⟩ => ⟨ι, env, M, S, R, (thenS_out R h).imp fun v M1 ι1 H1 e1 S1 h1 u ru =>
    ⟨ι1, env, M1, S1, R.ext e1, (thenS_out (R.ext e1) h1).imp fun x M2 ι2 H2 e2 S2 h2 y ry => by
      revert h2
      unfold putO
      cases x with
      | ref n =>
        obtain ⟨a, rfl, ha⟩ := ry.ref_inv
        cases q : insAt M2 c n with
        | none => intro h2; simp only [q] at h2; exact h2.elim
        | some fs =>
          obtain ⟨dx, vs, h3, h4⟩ := S2.ok n a _ ha (insAt_some q)
          by_cases q2 : fs.length < 1000
          · intro h2
            simp only [q, if_pos q2] at h2
            refine ⟨a, _, dx, vs, rfl, h3, F.cls, F.no, by rw [← h4.length]; exact q2, ?_⟩
            have k0 := S2.ok n a _ ha (insAt_some q)
            have nt := k0.notTup (u := .ins c fs) rfl
            have ex : Ext X.K ι2 H2 ι2 (L2.upd H2 a (.ins (He.ga X.K c) dx (putF f u vs))) := Ext.upd nt
            have r4 := (RpF.put (f := f) ((ru.ext e2).ext ex) (h4.ext ex))
            exact h2 ι2 σ _ ex (S2.write ha (insAt_some q) rfl rfl ⟨dx, _, upd_same, r4⟩) (((R.ext e1).ext e2).ext ex)
          · intro h2
            simp only [q, if_neg q2] at h2
            exact h2.elim
      | _ => exact fun h2 => h2.elim⟩⟩
end
/-- a method of that class; dd: what stands for arguments left out -/
structure CalleeM (P : Program) (w : World) (K : PySem.W.Frag) (mg : Str → Option Value) (base : Heap) (c m : Str) (n k : Nat) (dd : List D) (fn : Fn) : Prop where
  ex : ∃ (fd : FuncData) (ps : List Str) (dvs : List V) (ds : List Value), FnOk P w K mg base (L2N.CX P w) k (He.ma K (He.ga K c) m) fd ps (spD K n fn) ∧ Binds K fd ps ds ∧ Vals dvs ds ∧ (∀ ι H, RpA K ι H dd dvs)
  len : ∀ ds M, ds.length ≠ n → fn ds M = .stuck
  cls : Cls K (He.ga K c)
  meth : Meth K (He.ga K c) m (He.ma K (He.ga K c) m)
theorem CalleeM.mono {P : Program} {w : World} {K : PySem.W.Frag} {mg : Str → Option Value} {base : Heap} {c m : Str} {n j k : Nat} {dd : List D} {fn : Fn} (C : CalleeM P w K mg base c m n j dd fn) (h : j ≤ k) : CalleeM P w K mg base c m n k dd fn := by
  obtain ⟨fd, ps, dvs, ds, F, a, b, d⟩ := C.ex
  exact ⟨⟨fd, ps, dvs, ds, F.mono h, a, b, d⟩, C.len, C.cls, C.meth⟩
/-- x.m(..) -/
def eMeM (c m : Str) (dd : List D) (fn : Fn) (o : ME) (mas : MA) : ME := fun env M => (o env M).bind fun x M1 => match x with
  | .ref n => match insAt M1 c n with
    | some fs => if (fs.lookup m).isNone = true then (mas env M1).bind fun ds M2 => fn (.ref n :: (ds ++ dd)) M2 else .stuck
    | none => .stuck
  | _ => .stuck
/-- C(..): a new object, then its __init__ -/
def eMake (c : Str) (dd : List D) (fn : Fn) (mas : MA) : ME := fun env M => (mas env M).bind fun ds M1 => (fn (.ref M1.length :: (ds ++ dd)) (M1 ++ [.ins c []])).bind fun d M2 => match d with
  | .non => .ok (.ref M1.length) M2
  | _ => .stuck
section
variable {X : Cx} {k : Nat} {g C : Addr} {fd : FuncData} {ps : List Str} {sp : Sp} {dvs : List V} {ds : List Value} {E : L2.St → XK} {x m : Str} {p pos apos : Pos} {e o : Expr} {es : List Expr} {ta : TE} {t : TA} {CX : CXT}
def tMethX (C : Addr) (m : Str) (sp : Sp) (dvs : List V) (E : L2.St → XK) (ta : TE) (t : TA) : TE := fun σ H Q => ta σ H fun x H1 => ∃ a dx fs, x = .ref a ∧ H1 a = some (.ins C dx fs) ∧ fs.lookup m = none ∧
  t σ H1 fun vs H2 => sp (x :: (vs ++ dvs)) H2 Q (E σ)
theorem pe_methX {pl : Sem Bool} (he : PE X o ta) (c : Cls X.K C) (hm : Meth X.K C m g) (F : FnOk X.prog X.w X.K X.mg X.base CX k g fd ps sp) (room : Room k X.A) (hb : Binds X.K fd ps ds) (hd : Vals dvs ds) (hx : ∀ σ, PassesAt CX X σ (E σ)) (ha : PA X (e :: es) t)
    (hst : starEach (e :: es) X.env = (false, eval e X.env) :: starEach es X.env) (hpl : (backTo pos (starEach es X.env)).any (·.1) = false)
    (ht : eval (.Call (.Attribute o m apos) (e :: es) [] pos) X.env = (eval o X.env >>= fun ov => standAt apos.atName >>= fun _ => holding [ov] (getMethod ov m pl) >>= fun y => callWith pos y.1 y.2 (backTo pos (starEach (e :: es) X.env)) (backToKw pos (keywordEach [] X.env)))) :
    PE X (.Call (.Attribute o m apos) (e :: es) [] pos) (tMethX C m sp dvs E ta t) := by
  refine ⟨fun pins s σ H Q I h => PySem.W.methodCall_KW (pl := pl) (thn (he.run pins s σ H _ I h) ?_) ht⟩
  rintro u s1 ⟨x, H1, I1, rx, a, dx, fs, rfl, ea, l, q⟩
  obtain rfl : u = Value.ref a := rx
  refine getmeth_ok I1 ea c hm l (PySem.W.callWith_K (first := [.ref a]) (h₀ := X.base) I.ok.mod.kin hm.kp (thn (ha.run pos pins s1 σ H1 _ I1 q) ?_) hst hpl)
  rintro us s2 ⟨vs, H2, I2, r, q2⟩
  exact ⟨I2.kIn, run_fnSD (us := .ref a :: us) (vs := .ref a :: vs) F room hb hd (hx σ) I2 (.cons rfl r) q2⟩
theorem pe_methX0 {pl : Sem Bool} (he : PE X o ta) (c : Cls X.K C) (hm : Meth X.K C m g) (F : FnOk X.prog X.w X.K X.mg X.base CX k g fd ps sp) (room : Room k X.A) (hb : Binds X.K fd ps ds) (hd : Vals dvs ds) (hx : ∀ σ, PassesAt CX X σ (E σ))
    (ht : eval (.Call (.Attribute o m apos) [] [] pos) X.env = (eval o X.env >>= fun ov => standAt apos.atName >>= fun _ => holding [ov] (getMethod ov m pl) >>= fun y => callWith pos y.1 y.2 (backTo pos (starEach [] X.env)) (backToKw pos (keywordEach [] X.env)))) :
    PE X (.Call (.Attribute o m apos) [] [] pos) (tMethX C m sp dvs E ta tNil) := by
  refine ⟨fun pins s σ H Q I h => PySem.W.methodCall_KW (pl := pl) (thn (he.run pins s σ H _ I h) ?_) ht⟩
  rintro u s1 ⟨x, H1, I1, rx, a, dx, fs, rfl, ea, l, q⟩
  obtain rfl : u = Value.ref a := rx
  refine getmeth_ok I1 ea c hm l (PySem.W.callWith_K0 (first := [.ref a]) I1.kIn hm.kp ?_)
  exact run_fnSD (us := [.ref a]) (vs := [.ref a]) F room hb hd (hx σ) I1 (.cons rfl .nil) q
def tMakeX (C : Addr) (sp : Sp) (dvs : List V) (E : L2.St → XK) (t : TA) : TE := fun σ H Q => t σ H fun vs H1 => ∀ x dx, H1 x = none → H1 dx = none → dx ≠ x →
  sp (.ref x :: (vs ++ dvs)) (L2.upd (L2.upd H1 dx (.own x)) x (.ins C dx [])) (fun v H2 => v = .non ∧ Q (.ref x) H2) (E σ)
theorem run_makeX {pins : List (Addr × Obj)} {σ : L2.St} {H : Hp} {s : Shared} {Q : VK} {us : List Value} {vs : List V} (Mm : Mk X.K C g) (F : FnOk X.prog X.w X.K X.mg X.base CX k g fd ps sp) (room : Room (k + 1) X.A) (hb : Binds X.K fd ps ds) (hd : Vals dvs ds)
    (hx : PassesAt CX X σ (E σ)) (I : Inv X pins σ H s) (r : Vals vs us)
    (want : ∀ x dx, H x = none → H dx = none → dx ≠ x → sp (.ref x :: (vs ++ dvs)) (L2.upd (L2.upd H dx (.own x)) x (.ins C dx [])) (fun v H2 => v = .non ∧ Q (.ref x) H2) (E σ)) :
    wpAny (model X.prog X.w) X.A (call (.ref C) us) (EP X pins σ Q) X.xe s := by
  have fresh1 : H (s.heap.objs.size + 1) = none := I.hok.fresh (Nat.le_succ _)
  have fresh0 : H s.heap.objs.size = none := I.hok.fresh (Nat.le_refl _)
  have w1 := want _ _ fresh1 fresh0 (Nat.ne_of_lt (Nat.lt_succ_self _))
  have J := Inv.made (C := C) I
  have rr : Vals (V.ref (s.heap.objs.size + 1) :: (vs ++ dvs)) (Value.ref (s.heap.objs.size + 1) :: (us ++ ds)) := .cons rfl (r.append hd)
  have many : (Value.ref (s.heap.objs.size + 1) :: us ++ ds).length = ps.length := (rr.length.symm.trans (F.len _ _ _ _ w1))
  have runs := F.run _ X.stack _ _ ⟨Value.ref (s.heap.objs.size + 1) :: us, []⟩ _ _ _ (E σ) (room.make C us []) (J.env0.make C us []) (hb _ (Value.ref (s.heap.objs.size + 1) :: us) J.kIn many) rr w1
  refine wpAny_call (make_map (f := g) I.kIn Mm.makes Mm.init (beq_iff_eq.mp Mm.fn) (codeAny_mono runs ?_))
  rintro (er | fl) s2 q2
  · exact hx pins _ _ er s2 J q2
  · cases fl with
    | ret u =>
      obtain ⟨v, H2, I2, rv, rfl, q3⟩ := J.after q2
      exact ⟨rv, ⟨V.ref (s.heap.objs.size + 1), H2, I2, rfl, q3⟩⟩
    | next => exact q2.elim
    | brk => exact q2.elim
    | cont => exact q2.elim
theorem pe_makeX (Mm : Mk X.K C g) (F : FnOk X.prog X.w X.K X.mg X.base CX k g fd ps sp) (room : Room (k + 1) X.A) (hg : Gl X x) (hm : X.mg x = some (.ref C)) (hb : Binds X.K fd ps ds) (hd : Vals dvs ds) (hx : ∀ σ, PassesAt CX X σ (E σ))
    (ha : PA X (e :: es) t) (hdb : (x == ("__debug__" : Str)) = false) (hst : starEach (e :: es) X.env = (false, eval e X.env) :: starEach es X.env) (hpl : (backTo pos (starEach es X.env)).any (·.1) = false) :
    PE X (.Call (.Name x p) (e :: es) [] pos) (tMakeX C sp dvs E t) := by
  refine ⟨fun pins s σ H Q I h => wpAny_Call_Name_kw (ld_glob I hg hm ?_ hdb)⟩
  refine PySem.W.callWith_K (h₀ := X.base) I.ok.mod.kin Mm.kp (thn (ha.run pos pins s σ H _ I h) ?_) hst hpl
  rintro us s1 ⟨vs, H1, I1, r, q⟩
  exact ⟨I1.kIn, run_makeX Mm F room hb hd (hx σ) I1 r q⟩
end
section
variable {X : Cx} {W : WX} {e o : Expr} {es : List Expr} {mo : ME} {mas : MA} {c m x : Str} {p pos apos : Pos} {dd : List D} {fn : Fn}
theorem meth_le {n : Nat} {dvs : List V} {t : TA} {σ : L2.St} {H : Hp} {Q : VK} (len : ∀ ds M, ds.length ≠ n → fn ds M = .stuck) (hr : ∀ ι H, RpA X.K ι H dd dvs) (ht : ∀ σ H Q, LA X.K W mas σ H Q → t σ H Q)
    (h : LE X.K W (eMeM c m dd fn mo mas) σ H Q) : tMethX (He.ga X.K c) m (spD X.K n fn) dvs (fun σ cls d H => W cls d σ H) (LE X.K W mo) t σ H Q := by
  obtain ⟨ι, env, M, S, R, h⟩ := h
  refine ⟨ι, env, M, S, R, (OutP.bind h).imp fun x M1 ι1 H1 e1 S1 h1 v rv => ?_⟩
  revert h1
  cases x with
  | ref j =>
    obtain ⟨a, rfl, ha⟩ := rv.ref_inv
    cases q : insAt M1 c j with
    | none => intro h1; simp only [q] at h1; exact h1.elim
    | some fs =>
      obtain ⟨dx, vs, h2, h3⟩ := S1.ok j a _ ha (insAt_some q)
      cases q2 : fs.lookup m with
      | some z => intro h1; simp only [q, q2] at h1; exact h1.elim
      | none =>
        intro h1
        simp only [q, q2] at h1
        have h1' : OutP X.K (W1 W σ) ι1 H1 ((mas env M1).bind fun ds M2 => fn (.ref j :: (ds ++ dd)) M2) (VR X.K Q) := h1
        refine ⟨a, dx, vs, rfl, h2, h3.lookN q2, ht _ _ _ ⟨ι1, env, M1, S1, R.ext e1, (OutP.bind h1').imp fun ds M2 ι2 H2 e2 S2 h4 us ru => ?_⟩⟩
        have ra : RpA X.K ι2 H2 (.ref j :: (ds ++ dd)) (.ref a :: (us ++ dvs)) := .cons (.ref (e2.pre _ _ ha)) (ru.append (hr ι2 H2))
        refine ⟨?_, ι2, _, M2, S2, ra, h4⟩
        rw [← ra.length]
        by_cases z : (D.ref j :: (ds ++ dd)).length = n
        · exact z
        · rw [len _ _ z] at h4
          exact h4.elim
  | _ => exact fun h1 => h1.elim
theorem d_meM {k k' n : Nat} (C : Ctx X W k') (F : CalleeM X.prog X.w X.K X.mg X.base c m n k dd fn) (hk : k ≤ k') (ho : PE X o (LE X.K W mo)) (ha : PA X (e :: es) (LA X.K W mas)) {pl : Sem Bool}
    (hst : starEach (e :: es) X.env = (false, eval e X.env) :: starEach es X.env := by rfl) (hpl : (backTo pos (starEach es X.env)).any (·.1) = false := by rfl)
    (ht : eval (.Call (.Attribute o m apos) (e :: es) [] pos) X.env = (eval o X.env >>= fun ov => standAt apos.atName >>= fun _ => holding [ov] (getMethod ov m pl) >>= fun y => callWith pos y.1 y.2 (backTo pos (starEach (e :: es) X.env)) (backToKw pos (keywordEach [] X.env))) := by rfl) :
    PE X (.Call (.Attribute o m apos) (e :: es) [] pos) (LE X.K W (eMeM c m dd fn mo mas)) := by
  obtain ⟨fd, ps, dvs, ds, F1, hb, hd, hr⟩ := F.ex
  exact (pe_methX (pl := pl) ho F.cls F.meth F1 (C.room.mono hk) hb hd (fun σ => L2N.passAt C.tk σ) ha hst hpl ht).imp fun σ H Q h => meth_le F.len hr (fun _ _ _ z => z) h
theorem d_meM0 {k k' n : Nat} (C : Ctx X W k') (F : CalleeM X.prog X.w X.K X.mg X.base c m n k dd fn) (hk : k ≤ k') (ho : PE X o (LE X.K W mo)) {pl : Sem Bool}
    (ht : eval (.Call (.Attribute o m apos) [] [] pos) X.env = (eval o X.env >>= fun ov => standAt apos.atName >>= fun _ => holding [ov] (getMethod ov m pl) >>= fun y => callWith pos y.1 y.2 (backTo pos (starEach [] X.env)) (backToKw pos (keywordEach [] X.env))) := by rfl) :
    PE X (.Call (.Attribute o m apos) [] [] pos) (LE X.K W (eMeM c m dd fn mo aNil)) := by
  obtain ⟨fd, ps, dvs, ds, F1, hb, hd, hr⟩ := F.ex
  exact (pe_methX0 (pl := pl) ho F.cls F.meth F1 (C.room.mono hk) hb hd (fun σ => L2N.passAt C.tk σ) ht).imp fun σ H Q h => meth_le (mas := aNil) F.len hr (fun σ H Q ⟨ι, env, M, S, R, h⟩ => h ι H Ext.refl S [] .nil) h
end
/-- a class that is made, by its __init__ -/
structure CalleeI (P : Program) (w : World) (K : PySem.W.Frag) (mg : Str → Option Value) (base : Heap) (c : Str) (n k : Nat) (dd : List D) (fn : Fn) : Prop where
  i : CalleeM P w K mg base c "__init__" n k dd fn
  mkr : Mk K (He.ga K c) (He.ma K (He.ga K c) "__init__")
  mg : mg c = some (.ref (He.ga K c))
section
variable {X : Cx} {W : WX} {e o : Expr} {es : List Expr} {mas : MA} {c : Str} {p pos : Pos} {dd : List D} {fn : Fn}
theorem make_le {n : Nat} {dvs : List V} {t : TA} {σ : L2.St} {H : Hp} {Q : VK} (len : ∀ ds M, ds.length ≠ n → fn ds M = .stuck) (hr : ∀ ι H, RpA X.K ι H dd dvs) (ht : ∀ σ H Q, LA X.K W mas σ H Q → t σ H Q)
    (h : LE X.K W (eMake c dd fn mas) σ H Q) : tMakeX (He.ga X.K c) (spD X.K n fn) dvs (fun σ cls d H => W cls d σ H) t σ H Q := by
  obtain ⟨ι, env, M, S, R, h⟩ := h
  refine ht _ _ _ ⟨ι, env, M, S, R, (OutP.bind h).imp fun ds M1 ι1 H1 e1 S1 h1 us ru => ?_⟩
  intro x dx nx nd ne
  have nx' : L2.upd H1 dx (.own x) x = none := by rw [upd_ne (Ne.symm ne)]; exact nx
  have g1 : Ext X.K ι1 H1 ι1 (L2.upd H1 dx (.own x)) := Ext.new nd
  have g2 : Ext X.K ι1 (L2.upd H1 dx (.own x)) (ι1 ++ [x]) (L2.upd (L2.upd H1 dx (.own x)) x (.ins (He.ga X.K c) dx [])) := Ext.more nx'
  have S2 : SR X.K (ι1 ++ [x]) (L2.upd (L2.upd H1 dx (.own x)) x (.ins (He.ga X.K c) dx [])) (M1 ++ [.ins c []]) := (S1.new nd).alloc nx' ⟨dx, [], upd_same, .nil⟩
  have at0 : (ι1 ++ [x])[M1.length]? = some x := by rw [← S1.len]; simp
  have h2 := OutP.ext (g1.trans g2) h1
  have ra : RpA X.K (ι1 ++ [x]) (L2.upd (L2.upd H1 dx (.own x)) x (.ins (He.ga X.K c) dx [])) (.ref M1.length :: (ds ++ dd)) (.ref x :: (us ++ dvs)) :=
    .cons (.ref at0) ((ru.ext (g1.trans g2)).append (hr _ _))
  refine ⟨?_, _, _, _, S2, ra, (OutP.bind h2).imp fun d M2 ι2 H2 e2 S3 h3 v rv => ?_⟩
  · rw [← ra.length]
    by_cases z : (D.ref M1.length :: (ds ++ dd)).length = n
    · exact z
    · rw [len _ _ z] at h2
      exact h2.elim
  · revert h3
    cases d with
    | non =>
      intro h3
      exact ⟨rv.non_inv, OutP.val S3 h3 _ (.ref (e2.pre _ _ at0))⟩
    | _ => exact fun h3 => h3.elim
theorem d_make {k k' n : Nat} (C : Ctx X W k') (F : CalleeI X.prog X.w X.K X.mg X.base c n k dd fn) (hk : k + 1 ≤ k') (ha : PA X (e :: es) (LA X.K W mas)) (hg : Gl X c := by rfl)
    (hdb : (c == ("__debug__" : Str)) = false := by decide) (hst : starEach (e :: es) X.env = (false, eval e X.env) :: starEach es X.env := by rfl) (hpl : (backTo pos (starEach es X.env)).any (·.1) = false := by rfl) :
    PE X (.Call (.Name c p) (e :: es) [] pos) (LE X.K W (eMake c dd fn mas)) := by
  obtain ⟨fd, ps, dvs, ds, F1, hb, hd, hr⟩ := F.i.ex
  exact (pe_makeX F.mkr F1 (C.room.mono hk) hg F.mg hb hd (fun σ => L2N.passAt C.tk σ) ha hdb hst hpl).imp fun σ H Q h => make_le F.i.len hr (fun _ _ _ z => z) h
end
section
variable {P : Program} {w : World} {K : PySem.W.Frag} {mg : Str → Option Value} {base : Heap}
theorem okFd {x qual : Str} {params : Arguments} {body : List Stmt} {scope : Scope} {dvs : List V} {f : Addr} {fd : FuncData} {N ps : List Str} {k : Nat} {mb : MS} (F : FunD K x qual params body scope dvs [] f fd) (S : FnScope N ps scope)
    (hbody : ∀ (cdv : Value) (A : Around) (outer : List PySem.Env) (s : Shared) (H : Hp) (E : XK), let X := cxOf (L2N.CX P w) P w K mg base N qual scope f cdv A outer s H E
      Ctx X (fun cls d _ H => E cls d H) k → PSs X body (LS K (fun cls d _ H => E cls d H) mb)) :
    FnOk P w K mg base (L2N.CX P w) (k + 1) f fd ps (spD K ps.length (fnD ps.length N.length mb)) := by
  refine F.ok S (fun vs H Q E h => h.1) ?_
  rintro cdv A outer s H vs Q E room ⟨many, ι, ds, M, SS, rs, h⟩
  have C : Ctx (cxOf (L2N.CX P w) P w K mg base N qual scope f cdv A outer s H E) (fun cls d _ H => E cls d H) k := ⟨rfl, S.nd, room, L2N.takes_of rfl rfl rfl rfl, passes_of rfl⟩
  have h' : OutP K E ι H (endS (mb (startE N.length ds) M)) (VR K Q) := by
    unfold fnD at h
    rwa [if_pos (by rw [rs.length]; exact many)] at h
  have R0 : EnvR K ι H (startE N.length ds) (L2.start N vs) := by
    unfold startE L2.start
    rw [rs.length]
    exact envR_start rs _
  refine ⟨_, hbody cdv A outer s H E C, ι, startE N.length ds, M, SS, R0, ?_⟩
  clear h
  revert h'
  cases mb (startE N.length ds) M with
  | next env M1 => exact fun h ι1 σ1 H1 e1 S1 _ => h ι1 H1 e1 S1 _ .non
  | ret d M1 => exact fun h ι1 v H1 e1 S1 r => h ι1 H1 e1 S1 v r
  | exc y env M1 => exact fun h ι1 σ1 H1 cls dx e1 S1 _ ex => h ι1 H1 cls dx e1 S1 ex
  | stuck => exact fun h => h
/-- a method, all arguments written -/
theorem okM {c m x qual : Str} {params : Arguments} {body : List Stmt} {scope : Scope} {N ps : List Str} {k : Nat} {mb : MS} (F : ∃ fd, FunD K x qual params body scope [] [] (He.ma K (He.ga K c) m) fd) (S : FnScope N ps scope) (hc : Cls K (He.ga K c)) (hm : Meth K (He.ga K c) m (He.ma K (He.ga K c) m))
    (hbind : ∀ (kV doc pm : Value) (an : Option Addr) (cdv ct : Value) (us : List Value), us.length = ps.length → bindArgs (PySem.W.fnOf x qual params body scope .none kV doc pm an cdv ct) ⟨us, []⟩ = pure (ps.zip us))
    (hbody : ∀ (cdv : Value) (A : Around) (outer : List PySem.Env) (s : Shared) (H : Hp) (E : XK), let X := cxOf (L2N.CX P w) P w K mg base N qual scope (He.ma K (He.ga K c) m) cdv A outer s H E
      Ctx X (fun cls d _ H => E cls d H) k → PSs X body (LS K (fun cls d _ H => E cls d H) mb)) :
    CalleeM P w K mg base c m ps.length (k + 1) [] (fnD ps.length N.length mb) := by
  obtain ⟨fd, F⟩ := F
  exact ⟨⟨fd, ps, [], [], okFd F S hbody, F.bindsN hbind, .nil, fun _ _ => .nil⟩, fun ds M h => if_neg h, hc, hm⟩
/-- nothing is promised -/
theorem noM {c m x qual : Str} {params : Arguments} {body : List Stmt} {scope : Scope} {ps : List Str} {k : Nat} (F : ∃ fd, FunD K x qual params body scope [] [] (He.ma K (He.ga K c) m) fd) (hc : Cls K (He.ga K c)) (hm : Meth K (He.ga K c) m (He.ma K (He.ga K c) m))
    (hbind : ∀ (kV doc pm : Value) (an : Option Addr) (cdv ct : Value) (us : List Value), us.length = ps.length → bindArgs (PySem.W.fnOf x qual params body scope .none kV doc pm an cdv ct) ⟨us, []⟩ = pure (ps.zip us)) :
    CalleeM P w K mg base c m ps.length k [] noFn := by
  obtain ⟨fd, F⟩ := F
  exact ⟨⟨fd, ps, [], [], ⟨fun vs H Q E h => h.1, fun A outer s H args us vs Q E _ _ _ _ h => by obtain ⟨_, ι, ds, M, _, _, z⟩ := h; exact z.elim⟩, F.bindsN hbind, .nil, fun _ _ => .nil⟩, fun _ _ _ => rfl, hc, hm⟩
end
section
variable {M : Mem} {n : Nat} {c f m : Str} {fs : List (Str × D)}
theorem mFld_at {v : D} (h : M[n]? = some (.ins c fs)) (hv : fs.lookup f = some v) : mFld c f (.ref n) M = some (v, M) := by
  simp only [mFld, insAt_of h, hv, Option.map_some]
theorem putO_at {v : D} (h : M[n]? = some (.ins c fs)) (hl : fs.length < 1000) : putO c f (.ref n) v M = some (M.set n (.ins c (putD f v fs))) := by
  simp only [putO, insAt_of h]
  exact if_pos hl
end
/-- a class's statements -/
def clsB (s : Stmt) : List Stmt := match s with
  | .ClassDef (body := b) .. => b
  | _ => []
/-- x.index(y), y found -/
def mSIndex : D → OpN := fun d ds M => match d, ds with
  | .str x, [.str y] => match Builtin.Str.occurrences x y 0 x.length 1 with
    | i :: _ => some (.int (i : Nat), M)
    | [] => none
  | _, _ => none
theorem m_sindex {X : Cx} : MtR X "str.index" (rDM X.K mSIndex) := by
  refine MtR.imp mt_sindex fun x xs H Q h => ?_
  obtain ⟨ι, M, d, ds, S, r, rs, h⟩ := h
  unfold mSIndex at h
  split at h
  · cases r.str_inv
    obtain ⟨v, rfl, rv⟩ := rs.one_inv
    cases rv.str_inv
    split at h
    · rename_i e
      exact ⟨_, _, _, _, rfl, rfl, e, h.val S (.int _)⟩
    · exact h.elim
  · exact h.elim
def meR (c m : Str) (dd : List D) (fn : Fn) (mas : MA) (env : Env) (x : D) (M1 : Mem) : Out D := match x with
  | .ref n => match insAt M1 c n with
    | some fs => if (fs.lookup m).isNone = true then (mas env M1).bind fun ds M2 => fn (.ref n :: (ds ++ dd)) M2 else .stuck
    | none => .stuck
  | _ => .stuck
def putS (env : Env) (o : Option Mem) : SOut := match o with
  | some M => .next env M
  | none => .stuck
def noneO (d x : D) (M : Mem) : Out D := match d with
  | .non => .ok x M
  | _ => .stuck
section
variable {M : Mem} {n : Nat} {c f m : Str} {fs : List (Str × D)} {dd : List D} {fn : Fn} {mas : MA} {env : Env} {o e : ME}
@[simp] theorem eMeM_ap : eMeM c m dd fn o mas env M = (o env M).bind fun x M1 => meR c m dd fn mas env x M1 := rfl
@[simp] theorem eFld_ap : eFld c f e env M = (e env M).bind fun d M1 => liftO (mFld c f d M1) := rfl
@[simp] theorem sFldD_ap : sFldD c f o e env M = thenS env (e env M) fun v M1 => thenS env (o env M1) fun x M2 => putS env (putO c f x v M2) := rfl
@[simp] theorem putS_some : putS env (some M) = .next env M := rfl
@[simp] theorem eMake_ap : eMake c dd fn mas env M = (mas env M).bind fun ds M1 => (fn (.ref M1.length :: (ds ++ dd)) (M1 ++ [.ins c []])).bind fun d M2 => noneO d (.ref M1.length) M2 := rfl
@[simp] theorem noneO_non {x : D} : noneO .non x M = .ok x M := rfl
theorem meR_at (h : M[n]? = some (.ins c fs)) (hl : fs.lookup m = none) : meR c m dd fn mas env (.ref n) M = (mas env M).bind fun ds M2 => fn (.ref n :: (ds ++ dd)) M2 := by
  simp only [meR, insAt_of h, hl]
  rfl
end
end TL
end
section
set_option maxHeartbeats 4000000
namespace TL
open PySem PySem.Spec PyProof.Rows L2
/-- the class's object -/
def clsOB (K : PySem.W.Frag) (C : Addr) : Bool := match K.lookup C with
  | some ⟨.type "type", _, .cls cd, sl⟩ =>
    (match cd.mro, sl.toList with
    | .ref C' :: bm, [_, _, _, _, some (.builtin n), _] => C' == C && (n == "ValueError.__new__" && (cd.hasDict && (!cd.hasDel && PySem.HandSPX.refsVE bm)))
    | _, _ => false)
  | _ => false
theorem clsOB_ok {K : PySem.W.Frag} {C : Addr} (h : clsOB K C = true) :
    ∃ nm q N bs bm sn sub ab col dd k0 k1 k2 k3 k5, K.lookup C = some (excClassObj nm q C N bs bm true sn sub ab col dd k0 k1 k2 k3 k5 "ValueError.__new__") ∧ PySem.HandSPX.refsVE bm = true := by
  unfold clsOB at h
  split at h
  case h_2 => cases h
  rename_i dd cd sl e
  split at h
  case h_2 => cases h
  rename_i C' bm k0 k1 k2 k3 n k5 e1 e2
  obtain ⟨z1, h⟩ := He.ba h
  obtain ⟨z2, h⟩ := He.ba h
  obtain ⟨z3, h⟩ := He.ba h
  obtain ⟨z4, z5⟩ := He.ba h
  obtain rfl : C' = C := eq_of_beq z1
  obtain rfl : n = "ValueError.__new__" := eq_of_beq z2
  obtain ⟨nm, bs, mro, ns, qn, hdd, sn, sub, ab, col, del⟩ := cd
  dsimp only at e1 z3 z4
  subst e1 z3
  have z4' : del = false := by simpa using z4
  subst z4'
  obtain ⟨l⟩ := sl
  dsimp only at e2
  subst e2
  exact ⟨nm, qn, ns, bs, bm, sn, sub, ab, col, dd, k0, k1, k2, k3, k5, e, z5⟩
def oexB (K : PySem.W.Frag) (c : Str) : Bool := clsOB K (He.ga K c) && (He.eqO (PySem.W.findIn K (.ref (He.ga K c)) "__setattr__") (some (some (.builtin "object.__setattr__"))) &&
  (decide (PySem.W.subIn K (.ref (He.ga K c)) (.type "BaseException") = some true) && (decide (PySem.W.typeIn K (.ref (He.ga K c)) = some (.type "type")) &&
  (PySem.W.keepIn K (.ref (He.ga K c)) && He.eqO (PySem.W.findIn K (.ref (He.ga K c)) "at") (some none)))))
/-- the class that is asked for its __init__ -/
def baseB (K : PySem.W.Frag) (S : Str) : Bool := decide (PySem.W.specialIn K (.ref (He.ga K S)) "__getattribute__" = some (some (.builtin "type.__getattribute__"))) && (PySem.W.readsIn K (He.ga K S) (.type "type") &&
  (match PySem.W.findCls K (.ref (He.ga K S)) (.type "type") "__init__" with
    | some (.val (.builtin n)) => n == "ValueError.__init__"
    | _ => false))
/-- an own class with such an __init__ -/
structure ExI (K : PySem.W.Frag) (mg : Str → Option Value) (c : Str) : Prop where
  g : mg c = some (.ref (He.ga K c))
  T : OexC K (He.ga K c)
  m : Meth K (He.ga K c) "__init__" (He.ma K (He.ga K c) "__init__")
  no : NoAttr K (He.ga K c) "at"
structure BaseI (K : PySem.W.Frag) (mg : Str → Option Value) (S : Str) : Prop where
  g : mg S = some (.ref (He.ga K S))
  ga : PySem.W.specialIn K (.ref (He.ga K S)) "__getattribute__" = some (some (.builtin "type.__getattribute__"))
  rd : PySem.W.readsIn K (He.ga K S) (.type "type") = true
  v : PySem.W.findCls K (.ref (He.ga K S)) (.type "type") "__init__" = some (.val (.builtin "ValueError.__init__"))
theorem exI_of {K : PySem.W.Frag} {h : Heap} {mg : Str → Option Value} (X : K.In h) (G : h.Ns mainGlobals mg) {c : Str} (c1 : (He.Fa.glo c).ok K = true) (c2 : (He.Fa.meth c "__init__").ok K = true) (c3 : oexB K c = true) : ExI K mg c := by
  obtain ⟨h1, h⟩ := He.ba c3
  obtain ⟨h2, h⟩ := He.ba h
  obtain ⟨h3, h⟩ := He.ba h
  obtain ⟨h4, h⟩ := He.ba h
  obtain ⟨h5, h6⟩ := He.ba h
  exact ⟨He.glo_ok X G c1, ⟨clsOB_ok h1, He.eqO_ok h2, of_decide_eq_true h3, of_decide_eq_true h4, h5⟩, He.meth_ok c2, He.eqO_ok h6⟩
theorem baseI_of {K : PySem.W.Frag} {h : Heap} {mg : Str → Option Value} (X : K.In h) (G : h.Ns mainGlobals mg) {S : Str} (c1 : (He.Fa.glo S).ok K = true) (c2 : baseB K S = true) : BaseI K mg S := by
  obtain ⟨h1, h⟩ := He.ba c2
  obtain ⟨h2, h3⟩ := He.ba h
  refine ⟨He.glo_ok X G c1, of_decide_eq_true h1, h2, ?_⟩
  revert h3
  cases q : PySem.W.findCls K (.ref (He.ga K S)) (.type "type") "__init__" with
  | none => exact fun h => nomatch h
  | some r =>
    cases r with
    | val v =>
      cases v with
      | builtin n =>
        intro h3
        have h4 : n = "ValueError.__init__" := eq_of_beq h3
        rw [h4]
      | _ => exact fun h => nomatch h
    | _ => exact fun h => nomatch h
def obsCG (n : Nat) (ok : PySem.W.Frag → Bool) (fn : List He.DefD) (g : Addr → Option Obj) : AlB := obsB ok fn (He.frG g (He.asD g n ++ [cStatics]))
def hookC (n : Nat) (ok : PySem.W.Frag → Bool) (fn : List He.DefD) : PySem.W.Hook where
  α := AlB
  obs s := obsCG n ok fn s.heap.get?
  val _ := valB fn
  says _ h := ∃ K : PySem.W.Frag, K.In h ∧ SaysB ok fn K
  of _ _ e := ⟨_, He.frG_in, e⟩
  keeps _ _ _ := fun ⟨K, hK, c⟩ k => ⟨K, PySem.W.Frag.In.keeps hK k, c⟩
theorem obsCG_eq {n : Nat} {ok : PySem.W.Frag → Bool} {fn : List He.DefD} {g : Addr → Option Obj} {s : Shared} (h : ∀ a, g a = s.heap.get? a) : obsCG n ok fn g = (hookC n ok fn).obs s := by
  obtain rfl : g = s.heap.get? := funext h
  rfl
section
variable {X : Cx} {e : Expr} {es : List Expr} {ta : TA} {S : Str} {p1 p2 pos : Pos}
theorem handed_VI : PySem.W.handedIn (.builtin "ValueError.__init__") = true := by decide +kernel
/-- S.__init__(self, ..) -/
theorem pe_baseI {pl : Sem Bool} (B : BaseI X.K X.mg S) (ha : PA X (e :: es) ta) (hg : Gl X S := by rfl) (hdb : (S == ("__debug__" : Str)) = false := by decide)
    (hc : eval (.Call (.Attribute (.Name S p1) "__init__" p2) (e :: es) [] pos) X.env = (do
      let o ← eval (.Name S p1) X.env
      standAt p2.atName
      let (fn, us) ← holding [o] (getMethod o "__init__" pl)
      callWith pos fn us (backTo pos (starEach (e :: es) X.env)) (backToKw pos (keywordEach [] X.env))) := by rfl)
    (he : starEach (e :: es) X.env = (false, eval e X.env) :: starEach es X.env := by rfl) (hpl : (backTo pos (starEach es X.env)).any (·.1) = false := by rfl) :
    PE X (.Call (.Attribute (.Name S p1) "__init__" p2) (e :: es) [] pos) (tVeI X.K ta) := by
  constructor
  intro pins s σ H Q I want
  refine PySem.W.methodCall_KW (ld_glob I hg B.g ?_ hdb) hc
  refine PySem.W.method_cls I.kIn B.ga ?_
  refine PySem.W.cls_value I.kIn B.rd B.v handed_VI ?_
  show wpAny _ _ (callWith pos (.builtin "ValueError.__init__") [] _ []) _ _ _
  refine PyProof.Rows.callWith_method1 ?_ he hpl
  refine thn (ha.run pos pins _ σ H _ (I.tok _) want) ?_
  rintro us s1 ⟨vs, H1, I1, r1, a, C, ws, rfl, few, T, ea, q⟩
  cases r1 with
  | @cons _ u0 _ ur ra rest =>
    have ua : u0 = Value.ref a := ra
    subst ua
    refine oinit_ok T I1 ea ?_ fun s' J => ⟨.non, H1, J, rfl, q⟩
    have := Paired.length rest
    rw [sizeLine_eq]
    omega
end
/-- what such an __init__ promises -/
def spIni (C : Addr) : Sp := fun vs H Q _ => ∃ (a : Addr) (y : V), vs = [.ref a, y] ∧ H a = some (exo a C none) ∧ ∀ dx, H dx = none → dx ≠ a → Q .non (upd (upd H dx (exd dx [(("at" : Str), y)])) a (exo a C (some dx)))
section
variable {P : Program} {w : World} {K : PySem.W.Frag} {mg : Str → Option Value} {base : Heap}
/-- what it keeps, and how it is called -/
structure IniC (P : Program) (w : World) (K : PySem.W.Frag) (mg : Str → Option Value) (base : Heap) (c : Str) (k : Nat) : Prop where
  ex : ∃ fd, FnOk P w K mg base (L2N.CX P w) k (He.ma K (He.ga K c) "__init__") fd ["self", "at"] (spIni (He.ga K c)) ∧ Binds K fd ["self", "at"] []
theorem iniOk {c x qual : Str} {m : Str} {params : Arguments} {body : List Stmt} {scope : Scope} {k : Nat} (E1 : ExI K mg c) (F : ∃ fd, FunD K x qual params body scope [] [] (He.ma K (He.ga K c) "__init__") fd) (S : FnScope ["self", "at"] ["self", "at"] scope)
    (hbind : ∀ (kV doc pm : Value) (an : Option Addr) (cdv ct : Value) (us : List Value), us.length = 2 → bindArgs (PySem.W.fnOf x qual params body scope .none kV doc pm an cdv ct) ⟨us, []⟩ = pure ((["self", "at"] : List Str).zip us))
    (hbody : ∀ (cdv : Value) (A : Around) (outer : List PySem.Env) (s : Shared) (H : Hp) (E : XK),
      PSs (cxOf (L2N.CX P w) P w K mg base ["self", "at"] qual scope (He.ma K (He.ga K c) "__init__") cdv A outer s H E) body (tSeq (tDrop (tVeI K (tCons (tVar 0) (tCons (tC (.str m)) tNil)))) (tOst K "at" (tVar 0) (tVar 1)))) :
    IniC P w K mg base c (k + 1) := by
  obtain ⟨fd, F⟩ := F
  refine ⟨fd, ?_, F.bindsN hbind⟩
  refine F.ok S (fun vs H Q E h => by obtain ⟨a, y, rfl, _⟩ := h; rfl) ?_
  rintro cdv A outer s H vs Q E hr ⟨a, y, rfl, ha, hq⟩
  refine ⟨_, hbody cdv A outer s H E, ?_⟩
  refine ⟨.ref a, rfl, a, He.ga K c, [.str m], rfl, (show (1 : Nat) ≤ 1000 by decide), E1.T, ha, ?_⟩
  exact ⟨y, rfl, .ref a, rfl, a, He.ga K c, rfl, E1.T, E1.no, .inl ⟨ha, fun dx h1 h2 => hq dx h1 h2⟩⟩
end
section
variable {X : Cx} {CX : CXT} {c : Str} {e : Expr} {ta : TA} {k : Nat} {fd : FuncData} {ps : List Str} {p pos : Pos}
/-- c(e) -/
theorem pmk_ini (F : ExI X.K X.mg c) (F1 : FnOk X.prog X.w X.K X.mg X.base CX k (He.ma X.K (He.ga X.K c) "__init__") fd ps (spIni (He.ga X.K c))) (room : Room (k + 1) X.A) (hb : Binds X.K fd ps []) (hx : Passes CX X (fun _ _ _ => False))
    (ha : PA X [e] ta) (hg : Gl X c := by rfl) (hdb : (c == ("__debug__" : Str)) = false := by decide) (he : starEach [e] X.env = (false, eval e X.env) :: starEach [] X.env := by rfl) (hpl : (backTo pos (starEach [] X.env)).any (·.1) = false := by rfl) :
    L2N.PMk X (.Call (.Name c p) [e] [] pos) (tMkO (He.ga X.K c) (spIni (He.ga X.K c)) [] ta) := by
  intro pins s σ H Q I want
  have T := F.T
  obtain ⟨nm, q, N, bs, bm, sn, sub, ab, col, dd, k0, k1, k2, k3, k5, look, tail⟩ := T.cls
  generalize hC : He.ga X.K c = C at *
  have g := F.g
  rw [hC] at g
  apply wpAny_Call_Name_kw
  refine ld_glob I hg g ?_ hdb
  refine PySem.W.callWith_K (h₀ := X.base) I.ok.mod.kin T.kC ?_ he hpl
  refine thn (ha.run pos pins s σ H _ I want) ?_
  rintro us s1 ⟨vs, H1, I1, vals, few, wish⟩
  refine ⟨I1.kIn, ?_⟩
  show wpAny _ X.A (call (.ref C) us) _ _ _
  obtain ⟨hp, gg, dr, tk, os⟩ := s1
  have le : hp.objs.size ≤ hp.objs.size + 1 := by omega
  have new := I1.hok.fresh (a := hp.objs.size + 1) le
  have hq := wish (hp.objs.size + 1) new
  rw [List.append_nil] at hq
  -- the args' tuple and the exception stand there
  let h2 := (hp.push (PySem.W.kdv_tup us)).push (PySem.HandSPX.excO C hp.objs.size)
  have old : ∀ b o, hp.get? b = some o → h2.get? b = some o := fun b o z => by
    apply Heap.get?_push_of_some
    exact Heap.get?_push_of_some _ z
  have at_ : h2.get? (hp.objs.size + 1) = some (PySem.HandSPX.excO C hp.objs.size) := by
    show (Heap.push _ _).get? _ = _
    heap_get
  have I2 : Inv X pins σ (upd H1 (hp.objs.size + 1) (exo (hp.objs.size + 1) C none)) ⟨h2, gg, dr, tk, os⟩ := I1.laid (t' := tk) old le (exo_ok at_)
  have vals2 : Vals (V.ref (hp.objs.size + 1) :: vs) (Value.ref (hp.objs.size + 1) :: us) := .cons rfl vals
  have many : (Value.ref (hp.objs.size + 1) :: us ++ []).length = ps.length := by
    rw [List.append_nil, ← vals2.length]
    exact F1.len _ _ _ _ hq
  have few2 : us.length ≤ sizeLine := by
    have := Paired.length vals
    rw [sizeLine_eq]
    omega
  have bound := hb _ (Value.ref (hp.objs.size + 1) :: us) I2.kIn many
  rw [List.append_nil] at bound
  have m1 : PySem.W.findIn X.K (.ref C) "__init__" = some (some (.ref (He.ma X.K C "__init__"))) := by
    have := F.m.at_
    rwa [hC] at this
  have m2 : PySem.W.typeIn X.K (.ref (He.ma X.K C "__init__")) = some (.type "function") := by
    have := F.m.fn
    rw [hC] at this
    exact eq_of_beq this
  have F1' := F1
  apply wpAny_call
  refine PySem.HandSPX.call_own PySem.F.excBase_ValueError (fun Y => PySem.HandSPX.refsVE_contains Y bm tail) (I1.kIn _ _ look) (PySem.W.looks_findIn I1.kIn m1) (fun u => PySem.W.bind_fn I1.kIn u m2) few2 ?_
  refine codeAny_mono (F1.run _ X.stack _ _ ⟨Value.ref (hp.objs.size + 1) :: us, []⟩ (Value.ref (hp.objs.size + 1) :: us) _ _ (fun _ _ _ => False) (room.make C us []) (I2.env0.make C us []) bound vals2 hq) ?_
  rintro (er | fl) s' end_
  · exact hx pins σ _ _ er s' I2 end_
  cases fl with
  | ret u =>
    obtain ⟨v, H2, os2, bare2, un2, ok2, rv, ev, d, fs, ea, ed, nd, q2⟩ := end_
    subst ev
    obtain ⟨g2, gens2, d2, t2, os'⟩ := s'
    obtain ⟨t0, G, J, kG, gone, oe, na⟩ := mk_end0 (d2 := d2) (t2 := t2) I1 le old un2 ok2 os2 bare2 ea ed nd
    refine ⟨rv, hp.objs.size + 1, _, _, ⟨G, gens2, d2, t2, os'⟩, _, .ref C, some d, rfl, J, kG, gone, oe, ⟨rfl, rfl, fun vs z => ?_⟩, rfl, rfl, na, rfl, bare2, raises_own T.exC T.tyC, q2⟩
    cases z
    rfl
  | next => exact end_.elim
  | brk => exact end_.elim
  | cont => exact end_.elim
end
/-- the two names of such an __init__ -/
theorem pe_self {X : Cx} {p : Pos} (hN : X.N[0]? = some ("self" : Str) := by rfl) (hv : Vis X.env.scope "self" := by first | exact Or.inl rfl | exact Or.inr (Or.inl rfl)) : PE X (.Name "self" p) (tVar 0) := pe_var hN hv
theorem pe_at {X : Cx} {p : Pos} (hN : X.N[1]? = some ("at" : Str) := by rfl) (hv : Vis X.env.scope "at" := by first | exact Or.inl rfl | exact Or.inr (Or.inl rfl)) : PE X (.Name "at" p) (tVar 1) := pe_var hN hv
def sRaiseI (c : Str) (e : ME) : MS := fun env M => match e env M with
  | .ok (.int i) M1 => .exc ⟨c, some i⟩ env M1
  | .exc x M1 => .exc x env M1
  | _ => .stuck
section
variable {X : Cx} {W : WX} {k k' : Nat} {c : Str} {e : Expr} {me : ME} {fd : FuncData} {ps : List Str} {p pos pos2 : Pos}
theorem ds_raiseI (C : Ctx X W k') (F : ExI X.K X.mg c) (F1 : IniC X.prog X.w X.K X.mg X.base c k) (hk : k + 1 ≤ k')
    (he : PE X e (LE X.K W me)) (hg : Gl X c := by rfl) (hdb : (c == ("__debug__" : Str)) = false := by decide) (hst : starEach [e] X.env = (false, eval e X.env) :: starEach [] X.env := by rfl) (hpl : (backTo pos (starEach [] X.env)).any (·.1) = false := by rfl) :
    PS X (.Raise (some (.Call (.Name c p) [e] [] pos)) none pos2) (LS X.K W (sRaiseI c me)) := by
  obtain ⟨fd, F1, hb⟩ := F1.ex
  refine (L2N.ps_raise C.calm C.tk (pmk_ini F F1 (C.room.mono hk) hb (L2N.passes_call C.tk fun _ _ _ _ z => z.elim) (da_cons he da_nil hst) hg hdb hst hpl)).imp fun En σ H want => ?_
  obtain ⟨ι, env, M, S, R, h⟩ := want
  refine ⟨ι, env, M, S, R, ?_⟩
  revert h
  unfold sRaiseI aCons aNil
  cases q : me env M with
  | stuck => exact fun h => h
  | exc x M1 => exact fun h ι1 H1 cls dx e1 S1 ex => h ι1 σ H1 cls dx e1 S1 (R.ext e1) ex
  | ok d M1 =>
    cases d with
    | int i =>
      intro h ι1 H1 e1 S1 vs rv
      cases rv with
      | cons r0 rn =>
        cases rn
        cases r0
        refine ⟨(show (1 : Nat) ≤ 1000 by decide), fun a na => ⟨a, .int i, rfl, upd_same, fun dx hd ne => ⟨rfl, dx, _, upd_same, by rw [upd_ne ne]; exact upd_same, by rw [upd_ne ne] at hd; exact hd, ?_⟩⟩⟩
        have hd' : H1 dx = none := by rw [upd_ne ne] at hd; exact hd
        have eH : upd (del (upd (upd (upd H1 a (exo a (He.ga X.K c) none)) dx (exd dx [(("at" : Str), V.int i)])) a (exo a (He.ga X.K c) (some dx))) a) dx (.xd [(("at" : Str), V.int i)]) = upd H1 dx (.xd [(("at" : Str), V.int i)]) := by
          funext b
          by_cases c1 : b = dx
          · rw [c1, upd_same, upd_same]
          · rw [upd_ne c1, upd_ne c1]
            by_cases c2 : b = a
            · rw [c2, del_same, na]
            · rw [del_ne c2, upd_ne c2, upd_ne c1, upd_ne c2]
        rw [eH]
        have e2 : Ext X.K ι1 H1 ι1 (upd H1 dx (.xd [(("at" : Str), V.int i)])) := Ext.new hd'
        exact h ι1 σ _ _ _ (e1.trans e2) (S1.new hd') (R.ext (e1.trans e2)) ⟨rfl, .inr ⟨i, dx, rfl, rfl, upd_same⟩⟩
    | _ => exact fun h => h.elim
end
section
variable {env : TL.Env} {M : Mem} {c : Str} {e : ME}
theorem sRaiseI_ap {i : Int} {M1 : Mem} (h : e env M = .ok (.int i) M1) : sRaiseI c e env M = .exc ⟨c, some i⟩ env M1 := by
  unfold sRaiseI
  rw [h]
end
end TL
end
section
namespace TLP
open PySem TL
section
variable {t : MT} {a b t2 rest : MS} {env env' : TL.Env} {M M' : Mem} {e : ME} {gg : MG} {v : D} {i : Nat}
theorem ifT (h : t env M = .ok true M') : (sSeq (sIf t a b) rest) env M = (sSeq a rest) env M' := by
  show nextS (thenS env (t env M) fun k M1 => if k = true then a env M1 else b env M1) rest = _
  rw [h] <;> rfl
theorem ifF (h : t env M = .ok false M') : (sSeq (sIf t a b) rest) env M = (sSeq b rest) env M' := by
  show nextS (thenS env (t env M) fun k M1 => if k = true then a env M1 else b env M1) rest = _
  rw [h] <;> rfl
theorem ifN (h : t env M = .ok false M') : (sSeq (sIf t a sNil) rest) env M = rest env M' := by rw [ifF h] <;> rfl
theorem ifT1 (h : t env M = .ok true M') : (sIf t a b) env M = a env M' := by
  show thenS env (t env M) (fun k M1 => if k = true then a env M1 else b env M1) = _
  rw [h] <;> rfl
theorem ifF1 (h : t env M = .ok false M') : (sIf t a b) env M = b env M' := by
  show thenS env (t env M) (fun k M1 => if k = true then a env M1 else b env M1) = _
  rw [h] <;> rfl
theorem asgG (h : e env M = .ok v M') (hg : gg v env = some env') : (sSeq (sAsg gg e) rest) env M = rest env' M' := by
  show nextS (thenS env (e env M) fun d M1 => match gg d env with | some env' => .next env' M1 | none => .stuck) rest = _
  rw [h]
  show nextS (match gg v env with | some env' => .next env' M' | none => .stuck) rest = _
  rw [hg] <;> rfl
theorem asg (h : e env M = .ok v M') : (sSeq (sAsg (gOne i) e) rest) env M = rest (env.set i (some v)) M' := asgG h rfl
theorem expr (h : e env M = .ok v M') : (sSeq (sExpr e) rest) env M = rest env M' := by
  show nextS (thenS env (e env M) fun d M1 => .next env M1) rest = _
  rw [h] <;> rfl
theorem any_ (h : a env M = .next env' M') : (sSeq a rest) env M = rest env' M' := by
  show nextS (a env M) rest = _
  rw [h] <;> rfl
theorem asgX {x : Ex} (h : e env M = .exc x M') : (sSeq (sAsg gg e) rest) env M = .exc x env M' := by
  show nextS (thenS env (e env M) fun d M1 => match gg d env with | some env' => .next env' M1 | none => .stuck) rest = _
  rw [h] <;> rfl
theorem retX {x : Ex} (h : e env M = .exc x M') : (sRet e) env M = .exc x env M' := by
  show thenS env (e env M) (fun d M1 => .ret d M1) = _
  rw [h] <;> rfl
theorem ifX {x : Ex} (h : t env M = .exc x M') : (sSeq (sIf t a b) rest) env M = .exc x env M' := by
  show nextS (thenS env (t env M) fun k M1 => if k = true then a env M1 else b env M1) rest = _
  rw [h] <;> rfl
theorem anyX {x : Ex} (h : a env M = .exc x env' M') : (sSeq a rest) env M = .exc x env' M' := by
  show nextS (a env M) rest = _
  rw [h] <;> rfl
theorem assoc : (sSeq (sSeq a b) t2) env M = (sSeq a (sSeq b t2)) env M := nextS_nextS (a env M) b t2
theorem ret (h : e env M = .ok v M') : (sRet e) env M = .ret v M' := by
  show thenS env (e env M) (fun d M1 => .ret d M1) = _
  rw [h] <;> rfl
theorem ret1 (h : e env M = .ok v M') : (sSeq (sRet e) rest) env M = .ret v M' := by
  show nextS (sRet e env M) rest = _
  rw [ret h] <;> rfl
end
end TLP
end
section
set_option maxHeartbeats 4000000
namespace LW
open PySem PySem.Spec PyProof.Rows L2 TL
def top (i : Nat) : Stmt := PySem.Challenge.pw_tally_k45_what_writes_no_game.main.body.getD i (.Pass ⟨0, 0, 0, 0⟩)
abbrev st_BadWord_new : Stmt := (clsB (top 10)).getD 0 (.Pass ⟨0, 0, 0, 0⟩)
abbrev st_is_between : Stmt := top 15
abbrev st_is_throw_name : Stmt := top 16
abbrev st_words_of : Stmt := top 23
abbrev st_show_rule : Stmt := top 24
abbrev st_count_of : Stmt := top 25
abbrev st_Reader_new : Stmt := (clsB (top 26)).getD 0 (.Pass ⟨0, 0, 0, 0⟩)
abbrev st_Reader_word : Stmt := (clsB (top 26)).getD 1 (.Pass ⟨0, 0, 0, 0⟩)
abbrev st_Reader_count : Stmt := (clsB (top 26)).getD 2 (.Pass ⟨0, 0, 0, 0⟩)
abbrev st_Reader_is_dash : Stmt := (clsB (top 26)).getD 3 (.Pass ⟨0, 0, 0, 0⟩)
abbrev st_Reader_rule : Stmt := (clsB (top 26)).getD 4 (.Pass ⟨0, 0, 0, 0⟩)
abbrev st_Reader_last : Stmt := (clsB (top 26)).getD 5 (.Pass ⟨0, 0, 0, 0⟩)
abbrev st_read_rule : Stmt := top 27
abbrev st_throw_word : Stmt := top 29
abbrev st_show_game : Stmt := top 30
abbrev st_number_by : Stmt := top 31
abbrev st_throw_by : Stmt := top 32
abbrev st_numbers_in : Stmt := top 33
abbrev st_throws_in : Stmt := top 34
abbrev st_rally_in : Stmt := top 35
abbrev st_read_game : Stmt := top 36
abbrev st_l_tape : Stmt := top 38
abbrev st_l_draw : Stmt := top 39
abbrev st_l_great : Stmt := top 40
abbrev st_l_unit : Stmt := top 41
abbrev st_l_rule : Stmt := top 42
abbrev st_l_any_rule : Stmt := top 43
abbrev st_l_names : Stmt := top 44
abbrev st_l_throws : Stmt := top 45
abbrev st_l_down : Stmt := top 46
abbrev st_l_lane : Stmt := top 47
abbrev st_l_game : Stmt := top 48
abbrev st_l_rule_words : Stmt := top 49
abbrev st_l_game_words : Stmt := top 50
abbrev st_l_own : Stmt := top 51
abbrev st_l_number : Stmt := top 52
abbrev st_l_rule_wrong : Stmt := top 53
abbrev st_l_throw_name : Stmt := top 54
abbrev st_l_wrong : Stmt := top 55
abbrev st_l_spoilt : Stmt := top 56
abbrev st_l_read : Stmt := top 57
abbrev st_l_right : Stmt := top 58
abbrev st_law : Stmt := top 59
def hcls : List Str := ["BadWord", "ScoreError"]
def icls : List Str := ["BadWord", "Falls", "NoDeed", "NoGame", "NoLine", "NoPins", "NoSide", "NoThrow", "Over", "TooMany"]
def fn : List He.DefD := [⟨("BadWord", some "__init__"), "__init__", "BadWord.__init__", defArgs st_BadWord_new, defBody st_BadWord_new, defScope st_BadWord_new, [], []⟩, ⟨("is_between", none), "is_between", "is_between", defArgs st_is_between, defBody st_is_between, defScope st_is_between, [], []⟩, ⟨("is_throw_name", none), "is_throw_name", "is_throw_name", defArgs st_is_throw_name, defBody st_is_throw_name, defScope st_is_throw_name, [], []⟩, ⟨("words_of", none), "words_of", "words_of", defArgs st_words_of, defBody st_words_of, defScope st_words_of, [], []⟩, ⟨("show_rule", none), "show_rule", "show_rule", defArgs st_show_rule, defBody st_show_rule, defScope st_show_rule, [], []⟩, ⟨("count_of", none), "count_of", "count_of", defArgs st_count_of, defBody st_count_of, defScope st_count_of, [], []⟩, ⟨("Reader", some "__init__"), "__init__", "Reader.__init__", defArgs st_Reader_new, defBody st_Reader_new, defScope st_Reader_new, [], []⟩, ⟨("Reader", some "word"), "word", "Reader.word", defArgs st_Reader_word, defBody st_Reader_word, defScope st_Reader_word, [], []⟩, ⟨("Reader", some "count"), "count", "Reader.count", defArgs st_Reader_count, defBody st_Reader_count, defScope st_Reader_count, [], []⟩, ⟨("Reader", some "is_dash"), "is_dash", "Reader.is_dash", defArgs st_Reader_is_dash, defBody st_Reader_is_dash, defScope st_Reader_is_dash, [], []⟩, ⟨("Reader", some "rule"), "rule", "Reader.rule", defArgs st_Reader_rule, defBody st_Reader_rule, defScope st_Reader_rule, [], []⟩, ⟨("Reader", some "last"), "last", "Reader.last", defArgs st_Reader_last, defBody st_Reader_last, defScope st_Reader_last, [], []⟩, ⟨("read_rule", none), "read_rule", "read_rule", defArgs st_read_rule, defBody st_read_rule, defScope st_read_rule, [], []⟩, ⟨("throw_word", none), "throw_word", "throw_word", defArgs st_throw_word, defBody st_throw_word, defScope st_throw_word, [], []⟩, ⟨("show_game", none), "show_game", "show_game", defArgs st_show_game, defBody st_show_game, defScope st_show_game, [], []⟩, ⟨("number_by", none), "number_by", "number_by", defArgs st_number_by, defBody st_number_by, defScope st_number_by, [], []⟩, ⟨("throw_by", none), "throw_by", "throw_by", defArgs st_throw_by, defBody st_throw_by, defScope st_throw_by, [], []⟩, ⟨("numbers_in", none), "numbers_in", "numbers_in", defArgs st_numbers_in, defBody st_numbers_in, defScope st_numbers_in, [], []⟩, ⟨("throws_in", none), "throws_in", "throws_in", defArgs st_throws_in, defBody st_throws_in, defScope st_throws_in, [], []⟩, ⟨("rally_in", none), "rally_in", "rally_in", defArgs st_rally_in, defBody st_rally_in, defScope st_rally_in, [], []⟩, ⟨("read_game", none), "read_game", "read_game", defArgs st_read_game, defBody st_read_game, defScope st_read_game, [], []⟩, ⟨("_law_tape", none), "_law_tape", "_law_tape", defArgs st_l_tape, defBody st_l_tape, defScope st_l_tape, [], []⟩, ⟨("_law_draw", none), "_law_draw", "_law_draw", defArgs st_l_draw, defBody st_l_draw, defScope st_l_draw, [], []⟩, ⟨("_law_great", none), "_law_great", "_law_great", defArgs st_l_great, defBody st_l_great, defScope st_l_great, [], []⟩, ⟨("_law_unit", none), "_law_unit", "_law_unit", defArgs st_l_unit, defBody st_l_unit, defScope st_l_unit, [], []⟩, ⟨("_law_rule", none), "_law_rule", "_law_rule", defArgs st_l_rule, defBody st_l_rule, defScope st_l_rule, [], []⟩, ⟨("_law_any_rule", none), "_law_any_rule", "_law_any_rule", defArgs st_l_any_rule, defBody st_l_any_rule, defScope st_l_any_rule, [], []⟩, ⟨("_law_names", none), "_law_names", "_law_names", defArgs st_l_names, defBody st_l_names, defScope st_l_names, [], []⟩, ⟨("_law_throws", none), "_law_throws", "_law_throws", defArgs st_l_throws, defBody st_l_throws, defScope st_l_throws, [], []⟩, ⟨("_law_down", none), "_law_down", "_law_down", defArgs st_l_down, defBody st_l_down, defScope st_l_down, [], []⟩, ⟨("_law_lane", none), "_law_lane", "_law_lane", defArgs st_l_lane, defBody st_l_lane, defScope st_l_lane, [], []⟩, ⟨("_law_game", none), "_law_game", "_law_game", defArgs st_l_game, defBody st_l_game, defScope st_l_game, [], []⟩, ⟨("_law_rule_words", none), "_law_rule_words", "_law_rule_words", defArgs st_l_rule_words, defBody st_l_rule_words, defScope st_l_rule_words, [], []⟩, ⟨("_law_game_words", none), "_law_game_words", "_law_game_words", defArgs st_l_game_words, defBody st_l_game_words, defScope st_l_game_words, [], []⟩, ⟨("_law_own", none), "_law_own", "_law_own", defArgs st_l_own, defBody st_l_own, defScope st_l_own, [], []⟩, ⟨("_law_number", none), "_law_number", "_law_number", defArgs st_l_number, defBody st_l_number, defScope st_l_number, [], []⟩, ⟨("_law_rule_wrong", none), "_law_rule_wrong", "_law_rule_wrong", defArgs st_l_rule_wrong, defBody st_l_rule_wrong, defScope st_l_rule_wrong, [], []⟩, ⟨("_law_throw_name", none), "_law_throw_name", "_law_throw_name", defArgs st_l_throw_name, defBody st_l_throw_name, defScope st_l_throw_name, [], []⟩, ⟨("_law_wrong", none), "_law_wrong", "_law_wrong", defArgs st_l_wrong, defBody st_l_wrong, defScope st_l_wrong, [], []⟩, ⟨("_law_spoilt", none), "_law_spoilt", "_law_spoilt", defArgs st_l_spoilt, defBody st_l_spoilt, defScope st_l_spoilt, [], []⟩, ⟨("_law_read", none), "_law_read", "_law_read", defArgs st_l_read, defBody st_l_read, defScope st_l_read, [], []⟩, ⟨("_law_right", none), "_law_right", "_law_right", defArgs st_l_right, defBody st_l_right, defScope st_l_right, [], []⟩, ⟨("law", none), "law", "law", defArgs st_law, defBody st_law, defScope st_law, [], []⟩]
def fa : List He.Fa := [.meth "BadWord" "__init__", .glo "is_between", .glo "is_throw_name", .glo "words_of", .glo "show_rule", .glo "count_of", .meth "Reader" "__init__", .meth "Reader" "word", .meth "Reader" "count", .meth "Reader" "is_dash", .meth "Reader" "rule", .meth "Reader" "last", .glo "read_rule", .glo "throw_word", .glo "show_game", .glo "number_by", .glo "throw_by", .glo "numbers_in", .glo "throws_in", .glo "rally_in", .glo "read_game", .glo "_law_tape", .glo "_law_draw", .glo "_law_great", .glo "_law_unit", .glo "_law_rule", .glo "_law_any_rule", .glo "_law_names", .glo "_law_throws", .glo "_law_down", .glo "_law_lane", .glo "_law_game", .glo "_law_rule_words", .glo "_law_game_words", .glo "_law_own", .glo "_law_number", .glo "_law_rule_wrong", .glo "_law_throw_name", .glo "_law_wrong", .glo "_law_spoilt", .glo "_law_read", .glo "_law_right", .glo "law", .free "ValueError", .free "all", .free "bool", .free "int", .free "isinstance", .free "len", .free "min", .free "range", .free "str", .free "tuple", .cls "Reader", .noat "Reader" "at", .noat "Reader" "many", .noat "Reader" "words", .mkr "Reader", .glo "Reader", .glo "BadWord", .glo "Falls", .glo "NoDeed", .glo "NoGame", .glo "NoLine", .glo "NoPins", .glo "NoSide", .glo "NoThrow", .glo "Over", .glo "ScoreError", .glo "TooMany", .glo "BadWord", .meth "BadWord" "__init__", .glo "ScoreError", .str "LETTERS" "abcdefghijklmnopqrstuvwxyz", .str "FIGURES_downs" "0123456789", .glo "POINT", .int "GREATEST" 99, .int "MOST_UNITS" 10, .int "MOST_DEEP" 4, .str "FIGURES_rulewords" "0123456789"]
def okB (K : PySem.W.Frag) : Bool := fa.all (fun f => f.ok K) && oexB K "BadWord" && baseB K "ScoreError" && exSubB K ["NoThrow", "NoPins", "NoSide", "Over", "NoGame", "NoDeed", "TooMany", "NoLine", "BadWord", "Falls"] hcls && isTB K ["NoThrow", "NoPins", "NoSide", "Over", "NoGame", "NoDeed", "TooMany", "NoLine", "BadWord", "Falls"] icls && atB K ["BadWord", "Falls"] && He.tupB K "POINT" [.str "point"]
abbrev R : PySem.W.OpenRow := PySem.W.OpenLaw.row PySem.Challenge.rw_tally_k45_what_writes_no_game
abbrev hk : PySem.W.Hook := hookC 4 okB fn
def ob (s : PySem.W.SharedT) : AlB := obsCG 4 okB fn (HandSHeadRun.getT s)
theorem ob_eq (s : PySem.W.SharedT) : ob s = hk.obs s.abs := obsCG_eq (HandSHeadRun.getT_eq s)
def loose0 : List Str := ["ScoreError", "NoThrow", "NoPins", "NoSide", "Over", "NoGame", "NoDeed", "TooMany", "NoLine", "BadWord", "Falls", "LETTERS", "FIGURES_downs", "is_between", "is_throw_name", "POINT", "GREATEST", "MOST_UNITS", "MOST_DEEP", "FIGURES_rulewords", "words_of", "show_rule", "count_of", "Reader", "read_rule", "throw_word", "show_game", "number_by", "throw_by", "numbers_in"]
def loose1 : List Str := ["throws_in", "rally_in", "read_game", "_law_tape", "_law_draw", "_law_great", "_law_unit", "_law_rule", "_law_any_rule", "_law_names", "_law_throws", "_law_down", "_law_lane", "_law_game", "_law_rule_words", "_law_game_words", "_law_own", "_law_number", "_law_rule_wrong", "_law_throw_name", "_law_wrong", "_law_spoilt", "_law_read", "_law_right"]
abbrev loose : List Str := loose0 ++ loose1
theorem run (w : World) : HandSHeadRun.RunEq R (PySem.W.view R.prog [59]) hk ob 9000 loose w := by
  intro os
  kernel_rfl
end LW
end
section
namespace RL
open PySem PySem.Spec PyProof.Rows L2 TL
inductive Rule where
  | point
  | unit (to lead : Int) (cap : Option Int) (inner : Rule)
  | unitL (to lead cap : Int) (inner last : Rule)
  deriving DecidableEq
def capD : Option Int → D
  | none => .non
  | some c => .int c
abbrev pointD : D := .tup [.str "point"]
namespace Rule
def toD : Rule → D
  | point => pointD
  | unit to lead cap inner => .tup [.str "unit", .int to, .int lead, capD cap, inner.toD, .non]
  | unitL to lead cap inner last => .tup [.str "unit", .int to, .int lead, .int cap, inner.toD, last.toD]
/-- units within one another -/
def depth : Rule → Nat
  | point => 0
  | unit _ _ _ inner => inner.depth + 1
  | unitL _ _ _ inner last => max inner.depth last.depth + 1
/-- how many units -/
def units : Rule → Nat
  | point => 0
  | unit _ _ _ inner => inner.units + 1
  | unitL _ _ _ inner last => inner.units + last.units + 1
/-- numbers within their bounds -/
def good : Rule → Prop
  | point => True
  | unit to lead cap inner => 1 ≤ to ∧ to ≤ 99 ∧ 1 ≤ lead ∧ lead ≤ 99 ∧ (∀ c, cap = some c → to ≤ c ∧ c ≤ 99) ∧ inner.good
  | unitL to lead cap inner last => 1 ≤ to ∧ to ≤ 99 ∧ 1 ≤ lead ∧ lead ≤ 99 ∧ to ≤ cap ∧ cap ≤ 99 ∧ inner.good ∧ last.good
theorem ok_unit : PyData.strOk ("unit" : Str) = true := by decide +kernel
theorem ok_point : PyData.strOk ("point" : Str) = true := by decide +kernel
theorem pure_toD : ∀ r : Rule, pureD r.toD (r.depth + 1) = true
  | point => by simp [toD, depth, pureD, pureL, ok_point]
  | unit to lead cap inner => by
    have h := pure_toD inner
    cases cap <;> simp [toD, depth, pureD, pureL, capD, ok_unit, h]
  | unitL to lead cap inner last => by
    have h := pure_mono (pure_toD inner) (show inner.depth + 1 ≤ max inner.depth last.depth + 1 by omega)
    have h' := pure_mono (pure_toD last) (show last.depth + 1 ≤ max inner.depth last.depth + 1 by omega)
    simp [toD, depth, pureD, pureL, ok_unit, h, h']
theorem eqv_point (r : Rule) : PyData.eqv (pyD r.toD) (pyD pointD) = decide (r = point) := by
  cases r <;> simp [toD, pyD, pyL, PyData.eqv, PyData.eqvAll]
end Rule
theorem pure_point : pureD pointD 1 = true := by simp [pureD, pureL, Rule.ok_point]
theorem eq_point {M : Mem} {r : Rule} (h : r.depth ≤ 60) : eqD M r.toD pointD = some (decide (r = .point)) := by
  rw [eqD_pure r.pure_toD pure_point (by omega) (by omega), Rule.eqv_point]
theorem mEq_point {M : Mem} {r : Rule} (h : r.depth ≤ 60) : mEq r.toD (.tup [.str "point"]) M = some (.bl (decide (r = .point)), M) := by rw [mEq_eq, eq_point h]; rfl
@[simp] theorem isNon_capD {c : Option Int} : isNon (capD c) = c.isNone := by cases c <;> rfl
@[simp] theorem isNon_toD {r : Rule} : isNon r.toD = false := by cases r <;> rfl
end RL
end
section
set_option maxHeartbeats 4000000
namespace CM
open PySem PySem.Spec PyProof.Rows L2 TL RL
noncomputable section
def b_l_tape : MS := (sSeq (sAsg (gOne 1) (eC (.int 0)))
    (sSeq (sIf (tB (eBin mGt (eCallO nLen (aCons (eVar 0) aNil)) (eC (.int 0)))) (sAsg (gOne 1) (eBin mMod (eBin mIdx (eVar 0) (eC (.int 0))) (eC (.int 2)))) sNil)
    (sRet (eLst (aCons (eVar 0) (aCons (eC (.int 0)) (aCons (eC (.int 0)) (aCons (eVar 1) aNil))))))))
def m_l_tape : Fn := fnD 1 2 b_l_tape
def b_l_draw : MS := (sSeq (sAsg (gOne 2) (eBin mIdx (eVar 0) (eC (.int 0))))
    (sSeq (sAsg (gOne 3) (eBin mIdx (eVar 0) (eC (.int 1))))
    (sSeq (sSub (eVar 0) (eC (.int 1)) (eBin mAdd (eVar 3) (eC (.int 1))))
    (sSeq (sAsg (gOne 4) (eC (.int 0)))
    (sSeq (sIf (tB (eBin mGt (eCallO nLen (aCons (eVar 2) aNil)) (eC (.int 0)))) (sAsg (gOne 4) (eBin mIdx (eVar 2) (eBin mMod (eIf (tB (eBin mEq (eBin mIdx (eVar 0) (eC (.int 3))) (eC (.int 1)))) (eBin mFdiv (eVar 3) (eC (.int 60))) (eVar 3)) (eCallO nLen (aCons (eVar 2) aNil))))) sNil)
    (sSeq (sIf (tB (eBin mEq (eBin mIdx (eVar 0) (eC (.int 3))) (eC (.int 1)))) (sSeq (sIf (tB (eBin mEq (eBin mMod (eVar 3) (eC (.int 60))) (eC (.int 0)))) (sSub (eVar 0) (eC (.int 2)) (eBin mFdiv (eVar 4) (eC (.int 2)))) sNil)
    (sSeq (sAsg (gOne 6) (eBin mIdx (eVar 0) (eC (.int 2))))
    (sSeq (sSub (eVar 0) (eC (.int 2)) (eBin mFdiv (eVar 6) (eVar 1)))
    (sRet (eBin mMod (eVar 6) (eVar 1)))))) sNil)
    (sSeq (sAsg (gOne 5) (eBin mMod (eBin mMul (eBin mAdd (eBin mMod (eVar 4) (eC (.int 1000003))) (eC (.int 1))) (eBin mAdd (eBin mAdd (eBin mMul (eBin mMod (eVar 3) (eC (.int 997))) (eC (.int 7919))) (eC (.int 104729))) (eVar 3))) (eC (.int 1000033))))
    (sSeq (sAsg (gOne 5) (eBin mMod (eBin mAdd (eBin mAdd (eBin mMul (eVar 5) (eVar 5)) (eBin mMul (eC (.int 3)) (eVar 5))) (eVar 3)) (eC (.int 999983))))
    (sRet (eBin mMod (eBin mMod (eBin mMul (eVar 5) (eC (.int 48271))) (eC (.int 65537))) (eVar 1)))))))))))
def m_l_draw : Fn := fnD 2 7 b_l_draw
def b_l_unit (r_l_unit : Fn) (r_l_rule : Fn) : MS := (sSeq (sAsg (gOne 3) (eBin mAdd (eC (.int 1)) (eCall m_l_draw (aCons (eVar 0) (aCons (eBin mIdx (eLst (aCons (eC (.int 3)) (aCons (eC (.int 5)) (aCons (eC (.int 99)) aNil)))) (eBin mFdiv (eCall m_l_draw (aCons (eVar 0) (aCons (eC (.int 20)) aNil))) (eC (.int 8)))) aNil)))))
    (sSeq (sAsg (gOne 4) (eBin mAdd (eC (.int 1)) (eCall m_l_draw (aCons (eVar 0) (aCons (eBin mIdx (eLst (aCons (eC (.int 2)) (aCons (eC (.int 3)) (aCons (eC (.int 99)) aNil)))) (eBin mFdiv (eCall m_l_draw (aCons (eVar 0) (aCons (eC (.int 20)) aNil))) (eC (.int 9)))) aNil)))))
    (sSeq (sAsg (gOne 5) (eC .non))
    (sSeq (sAsg (gOne 6) (eC .non))
    (sSeq (sIf (tB (eBin mEq (eCall m_l_draw (aCons (eVar 0) (aCons (eC (.int 2)) aNil))) (eC (.int 1)))) (sAsg (gOne 5) (eCallO nMin2 (aCons (eC (.int 99)) (aCons (eBin mAdd (eVar 3) (eCall m_l_draw (aCons (eVar 0) (aCons (eC (.int 4)) aNil)))) aNil)))) sNil)
    (sSeq (sAsg (gOne 7) (eCall r_l_rule (aCons (eVar 0) (aCons (eBin mSub (eVar 1) (eC (.int 1))) (aCons (eVar 2) aNil)))))
    (sSeq (sIf (tAnd (tB (eBin mIsNot (eVar 5) (eC .non))) (tB (eBin mGt (eCall m_l_draw (aCons (eVar 0) (aCons (eC (.int 3)) aNil))) (eC (.int 0))))) (sAsg (gOne 6) (eCall r_l_rule (aCons (eVar 0) (aCons (eCallO nMin2 (aCons (eBin mSub (eVar 1) (eC (.int 1))) (aCons (eVar 2) aNil))) (aCons (eVar 2) aNil))))) sNil)
    (sRet (eTup (aCons (eC (.str "unit")) (aCons (eVar 3) (aCons (eVar 4) (aCons (eVar 5) (aCons (eVar 7) (aCons (eVar 6) aNil)))))))))))))))
def b_l_rule (r_l_unit : Fn) (r_l_rule : Fn) : MS := (sSeq (sIf (tOr (tB (eBin mEq (eVar 1) (eC (.int 0)))) (tB (eBin mEq (eCall m_l_draw (aCons (eVar 0) (aCons (eC (.int 7)) aNil))) (eC (.int 3))))) (sRet (eTup (aCons (eC (.str "point")) aNil))) sNil)
    (sRet (eCall r_l_unit (aCons (eVar 0) (aCons (eVar 1) (aCons (eVar 2) aNil))))))
def g_l_unit : Nat → Fn × Fn
  | 0 => (noFn, noFn)
  | n + 1 => (fnD 3 8 (b_l_unit ((g_l_unit n).1) ((g_l_unit n).2)), fnD 3 3 (b_l_rule ((g_l_unit n).1) ((g_l_unit n).2)))
def m_l_unit (n : Nat) : Fn := (g_l_unit n).1
def m_l_rule (n : Nat) : Fn := (g_l_unit n).2
def b_l_any_rule : MS := (sSeq (sAsg (gOne 1) (eCall m_l_draw (aCons (eVar 0) (aCons (eC (.int 6)) aNil))))
    (sRet (eCall (m_l_rule 14) (aCons (eVar 0) (aCons (eBin mIdx (eLst (aCons (eC (.int 2)) (aCons (eC (.int 1)) (aCons (eC (.int 2)) (aCons (eC (.int 3)) (aCons (eC (.int 3)) (aCons (eC (.int 4)) aNil))))))) (eVar 1)) (aCons (eBin mIdx (eLst (aCons (eC (.int 3)) (aCons (eC (.int 3)) (aCons (eC (.int 3)) (aCons (eC (.int 3)) (aCons (eC (.int 1)) (aCons (eC (.int 1)) aNil))))))) (eVar 1)) aNil))))))
def m_l_any_rule : Fn := fnD 1 2 b_l_any_rule
end
/-- a tape at t -/
def Tape (M : Mem) (t : Nat) : Prop := ∃ (s : Nat) (ns : List Int) (spot left way : Int), M[t]? = some (.lst [.ref s, .int spot, .int left, .int way]) ∧ M[s]? = some (.rol (ns.map D.int)) ∧ ns.length ≤ 63 ∧ 0 ≤ spot
theorem cell_at {ns : List Int} (h : ns ≠ []) {k : Int} (hk : 0 ≤ k) : ∃ c : Int, atI (ns.map D.int) (k % (ns.length : Int)) = some (.int c) := by
  have hl : 0 < ns.length := List.length_pos_iff.mpr h
  have h1 : 0 ≤ k % (ns.length : Int) := Int.emod_nonneg _ (by omega)
  have h2 : k % (ns.length : Int) < ns.length := Int.emod_lt_of_pos _ (by omega)
  obtain ⟨a, e1, e2⟩ := atI_ok (xs := ns.map D.int) h1 (by rw [List.length_map]; exact h2)
  rw [List.getElem?_map] at e1
  cases q : ns[(k % (ns.length : Int)).toNat]? with
  | none => rw [q] at e1; cases e1
  | some c => rw [q] at e1; cases e1; exact ⟨c, e2⟩
def Drew (M : Mem) (t s : Nat) (spot many : Int) (d : D) (M' : Mem) : Prop := ∃ x l w : Int, d = .int (x % many) ∧ M' = M.set t (.lst [.ref s, .int (spot + 1), .int l, .int w])
theorem draw_ok {M : Mem} {t : Nat} {many : Int} (T : Tape M t) (h0 : 0 < many) (h1 : many < 1073741824) :
    Ret (m_l_draw [.ref t, .int many] M) (fun d M' => ∃ (r : Int) (o : MO), d = .int r ∧ M' = M.set t o ∧ 0 ≤ r ∧ r < many ∧ Tape (M.set t o) t) := by
  obtain ⟨s, ns, spot, left, way, ht, hs, hl, hp⟩ := T
  have hne : t ≠ s := by rintro rfl; rw [ht] at hs; cases hs
  have lt : t < M.length := (List.getElem?_eq_some_iff.mp ht).1
  have e : m_l_draw [.ref t, .int many] M = endS (b_l_draw [some (.ref t), some (.int many), none, none, none, none, none] M) := rfl
  suffices h : Ret (m_l_draw [.ref t, .int many] M) (Drew M t s spot many) by
    refine h.imp fun d M' ⟨x, l, w, h1, h2⟩ => ⟨_, _, h1, h2, Int.emod_nonneg _ (by omega), Int.emod_lt_of_pos _ h0, s, ns, spot + 1, l, w, by rw [List.getElem?_set_self lt], by rw [List.getElem?_set_ne hne]; exact hs, hl, by omega⟩
  rw [e]
  unfold b_l_draw
  have bnd : ∀ (x m : Int), 0 < m → 0 ≤ x % m ∧ x % m < m := fun x m h => ⟨Int.emod_nonneg _ (by omega), Int.emod_lt_of_pos _ h⟩
  have k1 : ∀ (x j : Int) (M : Mem), mMul (.int (x % 1000033)) (.int j) M = some (.int (x % 1000033 * j), M) := fun x j M => by
    rw [mMul_int, if_pos]; have := bnd x 1000033 (by decide); omega
  have k2 : ∀ (x j : Int) (M : Mem), mMul (.int (x % 1000003 + 1)) (.int j) M = some (.int ((x % 1000003 + 1) * j), M) := fun x j M => by
    rw [mMul_int, if_pos]; have := bnd x 1000003 (by decide); omega
  have k3 : ∀ (x j : Int) (M : Mem), mMul (.int (x % 997)) (.int j) M = some (.int (x % 997 * j), M) := fun x j M => by
    rw [mMul_int, if_pos]; have := bnd x 997 (by decide); omega
  have k4 : ∀ (j : Int) (M : Mem), mMul (.int 3) (.int j) M = some (.int (3 * j), M) := fun j M => by
    rw [mMul_int, if_pos]; omega
  have k5 : ∀ (x j : Int) (M : Mem), mMul (.int (x % 999983)) (.int j) M = some (.int (x % 999983 * j), M) := fun x j M => by
    rw [mMul_int, if_pos]; have := bnd x 999983 (by decide); omega
  have k0 : ∀ (j : Int) (M : Mem), mMul (.int 1) (.int j) M = some (.int (1 * j), M) := fun j M => by
    rw [mMul_int, if_pos]; omega
  have h2 : spot / 60 ≥ 0 := by omega
  by_cases hns : ns = []
  · subst hns
    by_cases hw : way = 1
    · by_cases h60 : spot % 60 = 0
      · simp [seqAt, ht, setD, ixN, List.getElem?_set_self lt, List.getElem?_set_ne hne, hs, hw, h60, h0, h1]
        first | exact .ok ⟨_, _, _, rfl, rfl⟩ | exact .ok ⟨0, _, _, by simp, rfl⟩
      · simp [seqAt, ht, setD, ixN, List.getElem?_set_self lt, List.getElem?_set_ne hne, hs, hw, h60, h0, h1]
        first | exact .ok ⟨_, _, _, rfl, rfl⟩ | exact .ok ⟨0, _, _, by simp, rfl⟩
    · simp [seqAt, ht, setD, ixN, List.getElem?_set_self lt, List.getElem?_set_ne hne, hs, hw, h0, h1, -mMul_int, k0, k1, k2, k3, k4, k5]
      first | exact .ok ⟨_, _, _, rfl, rfl⟩ | exact .ok ⟨0, _, _, by simp, rfl⟩
  · have hlen : 0 < ns.length := List.length_pos_iff.mpr hns
    have hlen' : (0 : Int) < (ns.length : Int) := by omega
    obtain ⟨c1, e1⟩ := cell_at hns hp
    obtain ⟨c2, e2⟩ := cell_at hns h2
    by_cases hw : way = 1
    · by_cases h60 : spot % 60 = 0
      · simp [seqAt, ht, setD, ixN, List.getElem?_set_self lt, List.getElem?_set_ne hne, hs, hw, h60, h0, h1, e1, e2, hlen, hlen']
        first | exact .ok ⟨_, _, _, rfl, rfl⟩ | exact .ok ⟨0, _, _, by simp, rfl⟩
      · simp [seqAt, ht, setD, ixN, List.getElem?_set_self lt, List.getElem?_set_ne hne, hs, hw, h60, h0, h1, e1, e2, hlen, hlen']
        first | exact .ok ⟨_, _, _, rfl, rfl⟩ | exact .ok ⟨0, _, _, by simp, rfl⟩
    · simp [seqAt, ht, setD, ixN, List.getElem?_set_self lt, List.getElem?_set_ne hne, hs, hw, h0, h1, e1, e2, hlen, hlen', -mMul_int, k0, k1, k2, k3, k4, k5]
      first | exact .ok ⟨_, _, _, rfl, rfl⟩ | exact .ok ⟨0, _, _, by simp, rfl⟩
/-- the tape at t goes on, all else stands -/
structure Adv (t : Nat) (M M' : Mem) : Prop where
  tape : Tape M' t
  len : M.length ≤ M'.length
  keep : ∀ n, n < M.length → n ≠ t → M'[n]? = M[n]?
theorem Tape.lt {M : Mem} {t : Nat} (T : Tape M t) : t < M.length := by obtain ⟨s, ns, spot, left, way, ht, _⟩ := T; exact lt_of_at ht
theorem Tape.keep {M M' : Mem} {t : Nat} (T : Tape M t) (k : Keep M M') : Tape M' t := by
  obtain ⟨s, ns, spot, left, way, ht, hs, h⟩ := T
  exact ⟨s, ns, spot, left, way, k.at ht, k.at hs, h⟩
theorem Adv.trans {t : Nat} {M M1 M2 : Mem} (a : Adv t M M1) (b : Adv t M1 M2) : Adv t M M2 :=
  ⟨b.tape, Nat.le_trans a.len b.len, fun n h hn => (b.keep n (Nat.lt_of_lt_of_le h a.len) hn).trans (a.keep n h hn)⟩
theorem Adv.of {t : Nat} {M M1 : Mem} (T : Tape M t) (k : Keep M M1) : Adv t M M1 := ⟨T.keep k, k.1, fun n h _ => k.2 n h⟩
theorem Adv.refl {t : Nat} {M : Mem} (T : Tape M t) : Adv t M M := .of T (.refl M)
theorem Adv.at {t : Nat} {M M1 : Mem} (a : Adv t M M1) {n : Nat} {o : MO} (h : M[n]? = some o) (hn : n ≠ t) : M1[n]? = some o := (a.keep n (lt_of_at h) hn).trans h
theorem Adv.seq {t : Nat} {M M1 : Mem} (a : Adv t M M1) {n : Nat} {xs : List D} (h : seqAt M n = some xs) (hn : n ≠ t) : seqAt M1 n = some xs := by
  unfold seqAt at h ⊢
  cases q : M[n]? with
  | none => rw [q] at h; cases h
  | some o => rw [a.at q hn]; rw [q] at h; exact h
/-- what a drawn number is -/
def DrawQ (t : Nat) (M : Mem) (many : Int) (d : D) (M' : Mem) : Prop := ∃ r : Int, d = .int r ∧ 0 ≤ r ∧ r < many ∧ Adv t M M'
theorem draw {M : Mem} {t : Nat} {many : Int} (T : Tape M t) (h0 : 0 < many) (h1 : many < 1073741824) : Ret (m_l_draw [.ref t, .int many] M) (DrawQ t M many) :=
  (draw_ok T h0 h1).imp fun d M' ⟨r, o, h1, h2, h3, h4, h5⟩ => ⟨r, h1, h3, h4, by rw [h2]; exact h5, by rw [h2, List.length_set]; omega, fun n hn hne => by rw [h2, List.getElem?_set_ne (Ne.symm hne)]⟩
/-- the tape is made -/
theorem tape_ok {M : Mem} {s : Nat} {ns : List Int} (hs : M[s]? = some (.rol (ns.map D.int))) (hl : ns.length ≤ 63) : ∃ way : Int, m_l_tape [.ref s] M = .ok (.ref M.length) (M ++ [.lst [.ref s, .int 0, .int 0, .int way]]) := by
  have e : m_l_tape [.ref s] M = endS (b_l_tape [some (.ref s), none] M) := rfl
  rw [e]
  unfold b_l_tape
  by_cases hns : ns = []
  · subst hns
    exact ⟨0, by simp [seqAt, hs]⟩
  · have hlen : 0 < ns.length := List.length_pos_iff.mpr hns
    obtain ⟨c, hc⟩ : ∃ c : Int, atI (ns.map D.int) 0 = some (.int c) := by
      cases ns with
      | nil => exact absurd rfl hns
      | cons a r => exact ⟨a, by simp⟩
    exact ⟨c % 2, by simp [seqAt, hs, hlen, hc]⟩
theorem tape_at {M : Mem} {s : Nat} {ns : List Int} (hs : M[s]? = some (.rol (ns.map D.int))) (hl : ns.length ≤ 63) {way : Int} : Tape (M ++ [.lst [.ref s, .int 0, .int 0, .int way]]) M.length :=
  ⟨s, ns, 0, 0, way, at_len _ _, (Keep.more M _).at hs, hl, Int.le_refl 0⟩
/-- most units of a drawn rule -/
def ub : Nat → Nat → Nat
  | 0, _ => 0
  | d + 1, thin => 1 + ub d thin + ub (min d thin) thin
theorem ub_succ (d thin : Nat) : ub (d + 1) thin = 1 + ub d thin + ub (min d thin) thin := by rw [ub]
def RuleQ (t : Nat) (M : Mem) (deep thin : Nat) (d : D) (M' : Mem) : Prop := ∃ r : Rule, d = r.toD ∧ r.good ∧ r.depth ≤ deep ∧ r.units ≤ ub deep thin ∧ Adv t M M'
def RuleOk (f : Fn) (deep : Nat) : Prop := ∀ (M : Mem) (t thin : Nat), Tape M t → Ret (f [.ref t, .int (deep : Nat), .int (thin : Nat)] M) (RuleQ t M deep thin)
theorem pick3 {a b c k : Int} (h0 : 0 ≤ k) (h1 : k < 3) : ∃ v : Int, (v = a ∨ v = b ∨ v = c) ∧ atI [D.int a, .int b, .int c] k = some (.int v) := by
  rcases (show k = 0 ∨ k = 1 ∨ k = 2 by omega) with rfl | rfl | rfl
  · exact ⟨a, .inl rfl, by simp⟩
  · exact ⟨b, .inr (.inl rfl), by simp⟩
  · exact ⟨c, .inr (.inr rfl), by simp⟩
theorem unit_ok {ru rr : Fn} {deep : Nat} (ih : ∀ d ≤ deep, RuleOk rr d) : RuleOk (fnD 3 8 (b_l_unit ru rr)) (deep + 1) := by
  intro M t thin T
  show Ret (endS (b_l_unit ru rr [some (.ref t), some (.int (deep + 1 : Nat)), some (.int (thin : Nat)), none, none, none, none, none] M)) _
  unfold b_l_unit
  have n1 : M.length ≠ t := fun e => by have := T.lt; omega
  simp
  refine Ret.bind (draw (T.keep (Keep.more M _)) (by decide) (by decide)) ?_
  rintro _ M1 ⟨r1, rfl, h0, h1, A1⟩
  have l1 := A1.at (at_len M _) n1
  obtain ⟨v1, hv1, ev1⟩ := pick3 (a := 3) (b := 5) (c := 99) (k := r1 / 8) (by omega) (by omega)
  simp [seqAt, l1, ev1]
  refine Ret.bind (draw A1.tape (by omega) (by omega)) ?_
  rintro _ M2 ⟨r2, rfl, h2, h3, A2⟩
  have a2 := (Adv.of T (Keep.more M _)).trans (A1.trans A2)
  have n2 : M2.length ≠ t := fun e => by have := A2.tape.lt; omega
  simp
  refine Ret.bind (draw (A2.tape.keep (Keep.more M2 _)) (by decide) (by decide)) ?_
  rintro _ M3 ⟨r3, rfl, h4, h5, A3⟩
  have l3 := A3.at (at_len M2 _) n2
  obtain ⟨v2, hv2, ev2⟩ := pick3 (a := 2) (b := 3) (c := 99) (k := r3 / 9) (by omega) (by omega)
  simp [seqAt, l3, ev2]
  refine Ret.bind (draw A3.tape (by omega) (by omega)) ?_
  rintro _ M4 ⟨r4, rfl, h6, h7, A4⟩
  have a4 := a2.trans ((Adv.of A2.tape (Keep.more M2 _)).trans (A3.trans A4))
  simp
  refine Ret.bind (draw A4.tape (by decide) (by decide)) ?_
  rintro _ M5 ⟨r5, rfl, h8, h9, A5⟩
  have a5 := a4.trans A5
  have em : (if thin < deep then (thin : Int) else (deep : Int)) = ((min deep thin : Nat) : Int) := by split <;> omega
  by_cases c5 : r5 = 1
  · simp [c5]
    refine Ret.bind (draw A5.tape (by decide) (by decide)) ?_
    rintro _ M6 ⟨r6, rfl, h10, h11, A6⟩
    have a6 := a5.trans A6
    simp
    refine Ret.bind (ih deep (Nat.le_refl _) M6 t thin A6.tape) ?_
    rintro _ M7 ⟨inner, rfl, g1, g2, g3, A7⟩
    refine Ret.bind (draw A7.tape (by decide) (by decide)) ?_
    rintro _ M8 ⟨r8, rfl, h12, h13, A8⟩
    have a8 := a6.trans (A7.trans A8)
    simp
    by_cases c8 : 0 < r8
    · simp [c8, em]
      refine Ret.bind (ih (min deep thin) (Nat.min_le_left _ _) M8 t thin A8.tape) ?_
      rintro _ M9 ⟨last, rfl, g4, g5, g6, A9⟩
      refine .ok ⟨.unitL (1 + r2) (1 + r4) (if 1 + r2 + r6 < 99 then 1 + r2 + r6 else 99) inner last, rfl, ⟨by omega, by omega, by omega, by omega, by split <;> omega, by split <;> omega, g1, g4⟩, ?_, ?_, a8.trans A9⟩
      · show max inner.depth last.depth + 1 ≤ deep + 1
        have := Nat.min_le_left deep thin
        omega
      · show inner.units + last.units + 1 ≤ _
        rw [ub_succ]
        omega
    · simp [c8]
      refine .ok ⟨.unit (1 + r2) (1 + r4) (some (if 1 + r2 + r6 < 99 then 1 + r2 + r6 else 99)) inner, rfl, ⟨by omega, by omega, by omega, by omega, fun c hc => by cases hc; constructor <;> split <;> omega, g1⟩, ?_, ?_, a8⟩
      · show inner.depth + 1 ≤ deep + 1
        omega
      · show inner.units + 1 ≤ _
        rw [ub_succ]
        omega
  · simp [c5]
    refine Ret.bind (ih deep (Nat.le_refl _) M5 t thin A5.tape) ?_
    rintro _ M7 ⟨inner, rfl, g1, g2, g3, A7⟩
    refine .ok ⟨.unit (1 + r2) (1 + r4) none inner, rfl, ⟨by omega, by omega, by omega, by omega, fun c hc => (nomatch hc), g1⟩, ?_, ?_, a5.trans A7⟩
    · show inner.depth + 1 ≤ deep + 1
      omega
    · show inner.units + 1 ≤ _
      rw [ub_succ]
      omega
theorem rule_step {ru rr : Fn} {deep : Nat} (ih : ∀ d, deep = d + 1 → RuleOk ru deep) : RuleOk (fnD 3 3 (b_l_rule ru rr)) deep := by
  intro M t thin T
  show Ret (endS (b_l_rule ru rr [some (.ref t), some (.int (deep : Nat)), some (.int (thin : Nat))] M)) _
  unfold b_l_rule
  cases deep with
  | zero =>
    simp
    exact .ok ⟨.point, rfl, trivial, Nat.le_refl _, Nat.zero_le _, .refl T⟩
  | succ deep =>
    have ne : ¬ ((deep : Int) + 1 = 0) := by omega
    simp [ne]
    refine Ret.bind (draw T (by decide) (by decide)) ?_
    rintro _ M1 ⟨r1, rfl, h0, h1, A1⟩
    by_cases c : r1 = 3
    · simp [c]
      exact .ok ⟨.point, rfl, trivial, Nat.zero_le _, Nat.zero_le _, A1⟩
    · simp [c]
      obtain ⟨d, M2, e, r, h1, h2, h3, h4, A2⟩ := ih deep rfl M1 t thin A1.tape
      rw [show ((deep + 1 : Nat) : Int) = (deep : Int) + 1 from by omega] at e
      rw [e]
      simp
      exact .ok ⟨r, h1, h2, h3, h4, A1.trans A2⟩
theorem rule_ok : ∀ (n deep : Nat), 2 * deep + 1 ≤ n → RuleOk (m_l_rule n) deep
  | 0, deep, h => by omega
  | n + 1, deep, h => by
    refine rule_step fun d hd => ?_
    match n, h with
    | 0, h => omega
    | n + 1, h =>
      subst hd
      exact unit_ok fun d' hd' => rule_ok n d' (by omega)
def AnyRuleQ (t : Nat) (M : Mem) (d : D) (M' : Mem) : Prop := ∃ r : Rule, d = r.toD ∧ r.good ∧ r.depth ≤ 4 ∧ r.units ≤ 7 ∧ Adv t M M'
theorem any_rule {M : Mem} {t : Nat} (T : Tape M t) : Ret (m_l_any_rule [.ref t] M) (AnyRuleQ t M) := by
  show Ret (endS (b_l_any_rule [some (.ref t), none] M)) _
  unfold b_l_any_rule
  simp
  refine Ret.bind (draw T (by decide) (by decide)) ?_
  rintro _ M1 ⟨r1, rfl, h0, h1, A1⟩
  obtain ⟨dp, th, e1, e2, hdp, hub⟩ : ∃ dp th : Nat, atI [D.int 2, D.int 1, D.int 2, D.int 3, D.int 3, D.int 4] r1 = some (.int dp) ∧ atI [D.int 3, D.int 3, D.int 3, D.int 3, D.int 1, D.int 1] r1 = some (.int th) ∧ dp ≤ 4 ∧ ub dp th ≤ 7 := by
    rcases (show r1 = 0 ∨ r1 = 1 ∨ r1 = 2 ∨ r1 = 3 ∨ r1 = 4 ∨ r1 = 5 by omega) with rfl | rfl | rfl | rfl | rfl | rfl
    · exact ⟨2, 3, by simp, by simp, by decide, by simp [ub]⟩
    · exact ⟨1, 3, by simp, by simp, by decide, by simp [ub]⟩
    · exact ⟨2, 3, by simp, by simp, by decide, by simp [ub]⟩
    · exact ⟨3, 3, by simp, by simp, by decide, by simp [ub]⟩
    · exact ⟨3, 1, by simp, by simp, by decide, by simp [ub]⟩
    · exact ⟨4, 1, by simp, by simp, by decide, by simp [ub]⟩
  simp [seqAt, e1, e2]
  refine Ret.bind (rule_ok 14 dp (by omega) _ t th (A1.tape.keep (Keep.more _ _))) ?_
  rintro _ M2 ⟨r, rfl, g1, g2, g3, A2⟩
  exact .ok ⟨r, rfl, g1, by omega, by omega, A1.trans ((Adv.of A1.tape (Keep.more _ _)).trans A2)⟩
end CM
end
section
namespace RL
open PySem PySem.Spec PyProof.Rows L2 TL
namespace Rule
def to : Rule → Int
  | point => 0
  | unit t _ _ _ => t
  | unitL t _ _ _ _ => t
def lead : Rule → Int
  | point => 0
  | unit _ l _ _ => l
  | unitL _ l _ _ _ => l
def cap : Rule → Option Int
  | point => none
  | unit _ _ c _ => c
  | unitL _ _ c _ _ => some c
def inner : Rule → Rule
  | point => point
  | unit _ _ _ i => i
  | unitL _ _ _ i _ => i
def last : Rule → Option Rule
  | unitL _ _ _ _ l => some l
  | _ => none
end Rule
def lastD : Option Rule → D
  | none => .non
  | some l => l.toD
theorem toD_unit : ∀ {r : Rule}, r ≠ .point → r.toD = .tup [.str "unit", .int r.to, .int r.lead, capD r.cap, r.inner.toD, lastD r.last]
  | .point, h => absurd rfl h
  | .unit _ _ _ _, _ => rfl
  | .unitL _ _ _ _ _, _ => rfl
theorem depth_inner {r : Rule} (h : r ≠ .point) : r.inner.depth < r.depth := by
  cases r with
  | point => exact absurd rfl h
  | unit _ _ _ i => simp [Rule.inner, Rule.depth]
  | unitL _ _ _ i l => simp [Rule.inner, Rule.depth]; omega
theorem depth_last {r l : Rule} (h : r.last = some l) : l.depth < r.depth := by
  cases r with
  | unitL _ _ _ i l' => simp [Rule.last] at h; subst h; simp [Rule.depth]; omega
  | _ => simp [Rule.last] at h
theorem cap_last {r l : Rule} (h : r.last = some l) : ∃ c, r.cap = some c := by
  cases r with
  | unitL _ _ c _ _ => exact ⟨c, rfl⟩
  | _ => simp [Rule.last] at h
/-- the rule by which a unit goes on at some counts -/
def within (r : Rule) (z o : Int) : Rule := match r.last, r.cap with
  | some l, some c => if z = c - 1 ∧ o = c - 1 then l else r.inner
  | _, _ => r.inner
theorem depth_within {r : Rule} (h : r ≠ .point) (z o : Int) : (within r z o).depth < r.depth := by
  unfold within
  split
  · rename_i l c hl hc
    split
    · exact depth_last hl
    · exact depth_inner h
  · exact depth_inner h
inductive Stand where
  | nil
  | st (zero one : Int) (within : Stand)
  deriving DecidableEq
namespace Stand
def toD : Stand → D
  | nil => .tup []
  | st z o w => .tup [.int z, .int o, w.toD]
def depth : Stand → Nat
  | nil => 0
  | st _ _ w => w.depth + 1
theorem pure_toD : ∀ s : Stand, pureD s.toD (s.depth + 1) = true
  | nil => by simp [toD, depth, pureD, pureL]
  | st z o w => by simp [toD, depth, pureD, pureL, pure_toD w]
end Stand
/-- the first stand -/
def begunR (r : Rule) : Stand := if h : r = .point then .nil else .st 0 0 (begunR (within r 0 0))
termination_by r.depth
decreasing_by exact depth_within h 0 0
theorem begunR_point : begunR .point = .nil := by rw [begunR]; simp
theorem begunR_unit {r : Rule} (h : r ≠ .point) : begunR r = .st 0 0 (begunR (within r 0 0)) := by rw [begunR]; simp [h]
/-- whether a unit is won by a count -/
def wonR (r : Rule) (own other : Int) : Bool := decide (r.cap = some own) || (decide (r.to ≤ own) && decide (r.lead ≤ own - other))
/-- a stand has the rule's form -/
def Fits : Rule → Stand → Prop
  | _, .nil => True
  | r, .st z o w => r ≠ .point ∧ Fits (within r z o) w
/-- a stand that is not won: it has a place for the next rally -/
def Open : Rule → Stand → Prop
  | r, .nil => r = .point
  | r, .st z o w => r ≠ .point ∧ Open (within r z o) w
theorem open_begun : ∀ (n : Nat) (r : Rule), r.depth ≤ n → Open r (begunR r)
  | n, r, hn => by
    by_cases h : r = .point
    · subst h; rw [begunR_point]; exact rfl
    · have hd := depth_within h 0 0
      match n with
      | 0 => omega
      | n + 1 =>
        rw [begunR_unit h]
        exact ⟨h, open_begun n _ (by omega)⟩
def bump (z o : Int) (side : Bool) : Int × Int := if side then (z, o + 1) else (z + 1, o)
def ownC (p : Int × Int) (side : Bool) : Int := if side then p.2 else p.1
def otherC (p : Int × Int) (side : Bool) : Int := if side then p.1 else p.2
/-- behind a rally: the stand, whether it is won; side true is 1 -/
def ralliedR : Rule → Stand → Bool → Stand × Bool
  | _, .nil, _ => (.nil, true)
  | r, .st z o w, side =>
    let q := ralliedR (within r z o) w side
    if q.2 then
      let p := bump z o side
      if wonR r (ownC p side) (otherC p side) then (.st p.1 p.2 .nil, true) else (.st p.1 p.2 (begunR (within r p.1 p.2)), false)
    else (.st z o q.1, false)
theorem open_rallied : ∀ {s : Stand} {r : Rule} {side : Bool}, Open r s → (ralliedR r s side).2 = false → Open r (ralliedR r s side).1
  | .nil, r, side, h, e => by simp [ralliedR] at e
  | .st z o w, r, side, h, e => by
    have ih := open_rallied (side := side) h.2
    simp only [ralliedR] at e ⊢
    split at e
    · rename_i hq
      split at e
      · cases e
      · rename_i hw
        rw [if_pos hq, if_neg hw]
        exact ⟨h.1, open_begun _ _ (Nat.le_refl _)⟩
    · rename_i hq
      rw [if_neg hq]
      exact ⟨h.1, ih (by simpa using hq)⟩
end RL
end
section
set_option maxHeartbeats 4000000
namespace CM
open PySem PySem.Spec PyProof.Rows L2 TL RL
theorem fits_depth : ∀ {s : Stand} {r : Rule}, Fits r s → s.depth ≤ r.depth
  | .nil, _, _ => Nat.zero_le _
  | .st z o w, r, h => by
    have := fits_depth h.2
    have := depth_within h.1 z o
    simp only [Stand.depth]; omega
theorem Open.fits : ∀ {s : Stand} {r : Rule}, Open r s → Fits r s
  | .nil, _, _ => trivial
  | .st _ _ _, _, h => ⟨h.1, Open.fits h.2⟩
end CM
end
section
namespace RL
open PySem PySem.Spec PyProof.Rows L2 TL CM
/-- counts of open units lie below the cap -/
def Below : Rule → Stand → Prop
  | _, .nil => True
  | r, .st z o w => 0 ≤ z ∧ 0 ≤ o ∧ (∀ c, r.cap = some c → z < c ∧ o < c) ∧ Below (within r z o) w
theorem good_inner {r : Rule} (h : r.good) : r.inner.good := by
  cases r with
  | point => exact h
  | unit _ _ _ i => exact h.2.2.2.2.2
  | unitL _ _ _ i l => exact h.2.2.2.2.2.2.1
theorem good_last {r l : Rule} (h : r.good) (e : r.last = some l) : l.good := by
  cases r with
  | unitL _ _ _ i l' => simp [Rule.last] at e; subst e; exact h.2.2.2.2.2.2.2
  | _ => simp [Rule.last] at e
theorem good_within {r : Rule} (h : r.good) (z o : Int) : (within r z o).good := by
  unfold within
  split
  · split
    · exact good_last h (by assumption)
    · exact good_inner h
  · exact good_inner h
theorem good_cap {r : Rule} (h : r.good) (hp : r ≠ .point) {c : Int} (e : r.cap = some c) : r.to ≤ c ∧ 1 ≤ c ∧ c ≤ 99 := by
  cases r with
  | point => exact absurd rfl hp
  | unit to lead cap i => simp [Rule.cap] at e; obtain ⟨h1, _, _, _, h5, _⟩ := h; have := h5 c e; simp [Rule.to]; omega
  | unitL to lead cap i l => simp [Rule.cap] at e; obtain ⟨h1, _, _, _, h5, h6, _⟩ := h; simp [Rule.to]; omega
theorem below_begun : ∀ (n : Nat) (r : Rule), r.depth ≤ n → r.good → Below r (begunR r)
  | n, r, hn, hg => by
    by_cases h : r = .point
    · subst h; rw [begunR_point]; exact trivial
    · have hd := depth_within h 0 0
      match n with
      | 0 => omega
      | n + 1 =>
        rw [begunR_unit h]
        exact ⟨Int.le_refl _, Int.le_refl _, fun c hc => by have := good_cap hg h hc; omega, below_begun n _ (by omega) (good_within hg 0 0)⟩
theorem below_rallied : ∀ {s : Stand} {r : Rule} {side : Bool}, r.good → Open r s → Below r s → (ralliedR r s side).2 = false → Below r (ralliedR r s side).1
  | .nil, r, side, hg, h, hb, e => by simp [ralliedR] at e
  | .st z o w, r, side, hg, h, hb, e => by
    have ih := below_rallied (side := side) (good_within hg z o) h.2 hb.2.2.2
    simp only [ralliedR] at e ⊢
    split at e
    · rename_i hq
      split at e
      · cases e
      · rename_i hw
        rw [if_pos hq, if_neg hw]
        refine ⟨?_, ?_, fun c hc => ?_, below_begun _ _ (Nat.le_refl _) (good_within hg _ _)⟩
        · have := hb.1; cases side <;> simp [bump] <;> omega
        · have := hb.2.1; cases side <;> simp [bump] <;> omega
        · obtain ⟨h1, h2⟩ := hb.2.2.1 c hc
          have hw' : wonR r (ownC (bump z o side) side) (otherC (bump z o side) side) = false := by simpa using hw
          unfold wonR at hw'
          rw [hc] at hw'
          cases side <;> simp [bump, ownC, otherC] at hw' ⊢ <;> omega
    · rename_i hq
      rw [if_neg hq]
      exact ⟨hb.1, hb.2.1, hb.2.2.1, ih (by simpa using hq)⟩
/-- the stand behind a row in which nobody wins -/
def runS (r : Rule) : Stand → List Bool → Stand
  | s, [] => s
  | s, x :: xs => runS r (ralliedR r s x).1 xs
/-- nobody wins along the row -/
def Alive (r : Rule) : Stand → List Bool → Prop
  | _, [] => True
  | s, x :: xs => (ralliedR r s x).2 = false ∧ Alive r (ralliedR r s x).1 xs
theorem runS_append {r : Rule} : ∀ (xs ys : List Bool) (s : Stand), runS r s (xs ++ ys) = runS r (runS r s xs) ys
  | [], _, _ => rfl
  | x :: xs, ys, s => by simp only [List.cons_append, runS]; exact runS_append xs ys _
theorem alive_open {r : Rule} (hg : r.good) : ∀ {xs : List Bool} {s : Stand}, Open r s → Below r s → Alive r s xs → Open r (runS r s xs) ∧ Below r (runS r s xs)
  | [], _, h, b, _ => ⟨h, b⟩
  | x :: xs, s, h, b, a => alive_open (s := (ralliedR r s x).1) hg (open_rallied h a.1) (below_rallied hg h b a.1) a.2
end RL
end
section
set_option maxHeartbeats 4000000
namespace CM
open PySem PySem.Spec PyProof.Rows L2 TL RL
noncomputable section
def b_l_alike (r_l_alike : Fn) : MS := (sSeq (sIf (tTru (eIsi "tuple" (eVar 1))) (sSeq (sIf (tOr (tNot (tTru (eIsi "tuple" (eVar 0)))) (tB (eBin mNe (eCallO nLen (aCons (eVar 0) aNil)) (eCallO nLen (aCons (eVar 1) aNil))))) (sRet (eC (.bl false))) sNil)
    (sRet (eBin mNotIn (eC (.bl false)) (eComp 2 (iRange1 (eCallO nLen (aCons (eVar 1) aNil))) tYesD (eCall r_l_alike (aCons (eBin mIdx (eVar 0) (eVar 2)) (aCons (eBin mIdx (eVar 1) (eVar 2)) aNil))))))) sNil)
    (sSeq (sIf (tTru (eIsi "bool" (eVar 1))) (sRet (eAnd (eIsi "bool" (eVar 0)) (eBin mEq (eVar 0) (eVar 1)))) sNil)
    (sRet (eAnd (eIsi "int" (eVar 0)) (eAnd (eNot (eIsi "bool" (eVar 0))) (eBin mEq (eVar 0) (eVar 1)))))))
def m_l_alike : Nat → Fn
  | 0 => noFn
  | n + 1 => fnD 2 3 (b_l_alike (m_l_alike n))
end
section
variable {r : Rule} {M : Mem}
theorem ix1 (h : r ≠ .point) : mIdx r.toD (.int 1) M = some (.int r.to, M) := by rw [toD_unit h]; simp
theorem ix2 (h : r ≠ .point) : mIdx r.toD (.int 2) M = some (.int r.lead, M) := by rw [toD_unit h]; simp
end
@[simp] theorem isNon_lastD {l : Option Rule} : isNon (lastD l) = l.isNone := by cases l <;> simp [lastD]
/-- all but the list at e stand -/
def KeepX (e : Nat) (M M' : Mem) : Prop := M.length ≤ M'.length ∧ ∀ n, n < M.length → n ≠ e → M'[n]? = M[n]?
theorem KeepX.refl (e : Nat) (M : Mem) : KeepX e M M := ⟨Nat.le_refl _, fun _ _ _ => rfl⟩
theorem KeepX.trans {e : Nat} {M M1 M2 : Mem} (a : KeepX e M M1) (b : KeepX e M1 M2) : KeepX e M M2 := ⟨Nat.le_trans a.1 b.1, fun n h hn => (b.2 n (Nat.lt_of_lt_of_le h a.1) hn).trans (a.2 n h hn)⟩
theorem Keep.x {e : Nat} {M M1 : Mem} (a : Keep M M1) : KeepX e M M1 := ⟨a.1, fun n h _ => a.2 n h⟩
theorem KeepX.at {e : Nat} {M M' : Mem} (k : KeepX e M M') {n : Nat} {o : MO} (h : M[n]? = some o) (hn : n ≠ e) : M'[n]? = some o := (k.2 n (lt_of_at h) hn).trans h
theorem KeepX.set (e : Nat) (M : Mem) (o : MO) : KeepX e M (M.set e o) := ⟨by rw [List.length_set]; omega, fun n _ hn => List.getElem?_set_ne (Ne.symm hn)⟩
theorem KeepX.setNew {e : Nat} {M M' : Mem} {n : Nat} {o : MO} (k : KeepX e M M') (h : M.length ≤ n) : KeepX e M (M'.set n o) :=
  ⟨by rw [List.length_set]; exact k.1, fun m hm hn => by rw [List.getElem?_set_ne (by omega)]; exact k.2 m hm hn⟩
theorem Adv.setNew {t : Nat} {M M' : Mem} {k : Nat} {o : MO} (a : Adv t M M') (h : M.length ≤ k) (hk : k ≠ t) (hnl : ∀ s, M'[t]? = some (.lst s) → ∀ q, s[0]? = some (.ref q) → q ≠ k) : Adv t M (M'.set k o) := by
  obtain ⟨⟨s, ns, spot, left, way, ht, hs, hl, hp⟩, h1, h2⟩ := a
  refine ⟨⟨s, ns, spot, left, way, by rw [List.getElem?_set_ne hk]; exact ht, ?_, hl, hp⟩, by rw [List.length_set]; exact h1, fun n hn hne => by rw [List.getElem?_set_ne (by omega)]; exact h2 n hn hne⟩
  rw [List.getElem?_set_ne (Ne.symm (hnl _ ht s rfl))]
  exact hs
/-- a list of ours is no tape's script -/
theorem Adv.setLst {t : Nat} {M M' : Mem} {k : Nat} {xs : List D} {o : MO} (a : Adv t M M') (h : M.length ≤ k) (hk : k ≠ t) (hx : M'[k]? = some (.lst xs)) : Adv t M (M'.set k o) := by
  refine a.setNew h hk fun s hs q hq e => ?_
  obtain ⟨⟨s', ns, spot, left, way, ht, hs', _⟩, _⟩ := a
  rw [ht] at hs
  cases hs
  cases hq
  subst e
  rw [hx] at hs'
  cases hs'
end CM
end
section
set_option maxHeartbeats 4000000
namespace CM
open PySem PySem.Spec PyProof.Rows L2 TL RL
theorem cutL_to {α : Type} {xs : List α} {k : Nat} (h : k ≤ xs.length) : cutL xs none (some (k : Int)) = xs.take k := by
  unfold cutL
  rw [HT.sIx_nat, HT.sIx_none, Nat.min_eq_left h]
  simp
/-- the stand behind so many rallies -/
def standAt (r : Rule) (ys : List Bool) (k : Nat) : Stand := runS r (begunR r) (ys.take k)
theorem standAt_zero {r : Rule} {ys : List Bool} : standAt r ys 0 = begunR r := rfl
theorem standAt_succ {r : Rule} {ys : List Bool} {k : Nat} (h : k < ys.length) : standAt r ys (k + 1) = (ralliedR r (standAt r ys k) ys[k]).1 := by
  unfold standAt
  rw [List.take_succ_eq_append_getElem h, runS_append]
  rfl
/-- a row that is played on, ended or not -/
structure Walk (r : Rule) (ys : List Bool) (ended : Bool) : Prop where
  alive : ∀ k, k < ys.length → Alive r (begunR r) (ys.take k)
  won : ∀ k (h : k < ys.length), (ralliedR r (standAt r ys k) ys[k]).2 = (ended && decide (k + 1 = ys.length))
theorem Walk.open {r : Rule} {ys : List Bool} {b : Bool} (w : Walk r ys b) (hg : r.good) {k : Nat} (hk : k < ys.length) : Open r (standAt r ys k) ∧ Below r (standAt r ys k) :=
  alive_open hg (open_begun _ _ (Nat.le_refl _)) (below_begun _ _ (Nat.le_refl _) hg) (w.alive k hk)
theorem fits_rallied : ∀ {s : Stand} {r : Rule} {side : Bool}, Open r s → Fits r (ralliedR r s side).1 ∧ (r = .point ↔ (ralliedR r s side).1 = .nil)
  | .nil, r, side, h => ⟨trivial, fun _ => rfl, fun _ => h⟩
  | .st z o w, r, side, h => by
    have ih := fits_rallied (side := side) h.2
    simp only [ralliedR]
    split
    · split
      · exact ⟨⟨h.1, trivial⟩, fun e => absurd e h.1, fun e => by cases e⟩
      · exact ⟨⟨h.1, CM.Open.fits (open_begun _ _ (Nat.le_refl _))⟩, fun e => absurd e h.1, fun e => by cases e⟩
    · exact ⟨⟨h.1, ih.1⟩, fun e => absurd e h.1, fun e => by cases e⟩
theorem open_nil : ∀ {s : Stand} {r : Rule}, Open r s → (r = .point ↔ s = .nil)
  | .nil, r, h => ⟨fun _ => rfl, fun _ => h⟩
  | .st z o w, r, h => ⟨fun e => absurd e h.1, fun e => by cases e⟩
theorem Walk.fits {r : Rule} {ys : List Bool} {b : Bool} (w : Walk r ys b) (hg : r.good) {k : Nat} (hk : k ≤ ys.length) : Fits r (standAt r ys k) ∧ (r = .point ↔ standAt r ys k = .nil) := by
  cases k with
  | zero =>
    rw [standAt_zero]
    have h := open_begun _ r (Nat.le_refl _)
    exact ⟨CM.Open.fits h, open_nil h⟩
  | succ k =>
    rw [standAt_succ (by omega)]
    exact fits_rallied (w.open hg (by omega)).1
theorem Walk.depth {r : Rule} {ys : List Bool} {b : Bool} (w : Walk r ys b) (hg : r.good) {k : Nat} (hk : k ≤ ys.length) : (standAt r ys k).depth ≤ r.depth := fits_depth (w.fits hg hk).1
/-- the stands along a row -/
def standsD (r : Rule) (ys : List Bool) (n : Nat) : List D := ((List.range n).map (standAt r ys)).map Stand.toD
@[simp] theorem standsD_length {r : Rule} {ys : List Bool} {n : Nat} : (standsD r ys n).length = n := by simp [standsD]
def Tru (d : D) (_ : Mem) : Prop := d = .bl true
theorem rng_cons (lo : Int) (n : Nat) : rngItems lo (n + 1) = .int lo :: rngItems (lo + 1) n := by
  unfold rngItems
  rw [List.range_succ_eq_map]
  simp only [List.map_cons, List.map_map]
  congr 1
  · simp
  · refine List.map_congr_left fun k _ => ?_
    simp only [Function.comp]
    congr 1
    omega
theorem mNe_bl {M : Mem} (b c : Bool) : mNe (.bl b) (.bl c) M = some (.bl (b != c), M) := by
  rw [mNe_eq, eqD_pure (n := 0) (m := 0) (by simp [pureD]) (by simp [pureD]) (by omega) (by omega)]
  cases b <;> cases c <;> simp [pyD, PyData.eqv]
end CM
end
section
set_option maxHeartbeats 4000000
namespace RB
open PySem PySem.Spec PyProof.Rows L2 TL RL CM
structure LRow where
  done : Int
  ball : Int
  up : Int
  near : Int
  far : Int
  extra : Int
  total : Int
def LRow.toD (r : LRow) : D := .tup [.int r.done, .int r.ball, .int r.up, .int r.near, .int r.far, .int r.extra, .int r.total]
/-- a frame of a sheet: where it begins, where it ends, how many balls it earns -/
structure Fr where
  b : Nat
  e : Nat
  q : Nat
/-- a sheet, read: the frames done, the first ball of one begun -/
structure Sh where
  g : List Fr
  h : Option Int
def push (P : Int) (n L : Nat) (s : Sh) (p : Int) : Sh := match s.h with
  | some a => ⟨s.g ++ [⟨L - 1, L + 1, if a + p = P then 1 else 0⟩], none⟩
  | none => if s.g.length < n then (if p = P then ⟨s.g ++ [⟨L, L + 1, 2⟩], none⟩ else ⟨s.g, some p⟩) else s
/-- how many frames still earn the ball that comes behind m -/
def cnt (g : List Fr) (m : Nat) : Nat := (g.filter fun f => decide (m < f.e + f.q)).length
def own (bs : List Int) (f : Fr) : Int := ((bs.drop f.b).take (f.e - f.b)).sum
def more (bs : List Int) (f : Fr) : Int := ((bs.drop f.e).take f.q).sum
def tot (bs : List Int) (s : Sh) : Int := (s.g.map fun f => own bs f + more bs f).sum + s.h.getD 0
/-- what is known of a sheet -/
structure Ok (P : Int) (n : Nat) (bs : List Int) (s : Sh) : Prop where
  ends : ∀ f ∈ s.g, f.b ≤ f.e ∧ f.e ≤ bs.length ∧ f.q ≤ 2
  len : s.g.length ≤ n
  half : ∀ a, s.h = some a → s.g.length < n ∧ 1 ≤ bs.length ∧ bs[bs.length - 1]? = some a ∧ 0 ≤ a ∧ a < P
/-- the last frame -/
def lastF (s : Sh) : Fr := s.g.getLastD ⟨0, 0, 0⟩
/-- balls behind the last frame that are still to come -/
def ex (n : Nat) (bs : List Int) (s : Sh) : Int := if s.h = none ∧ s.g.length = n then (lastF s).q - ((bs.length - (lastF s).e : Nat) : Int) else 0
def upR (P : Int) (n : Nat) (bs : List Int) (s : Sh) : Int := match s.h with
  | some a => P - a
  | none => if 0 < ex n bs s ∧ (lastF s).e < bs.length ∧ bs.getLastD 0 < P then P - bs.getLastD 0 else P
def row (P : Int) (n : Nat) (bs : List Int) (s : Sh) : LRow :=
  ⟨s.g.length - (if 0 < ex n bs s then 1 else 0), if s.h.isSome then 1 else 0, upR P n bs s, cnt s.g bs.length, cnt s.g (bs.length + 1), ex n bs s, tot bs s⟩
end RB
end
section
set_option maxHeartbeats 4000000
namespace CM
open PySem PySem.Spec PyProof.Rows L2 TL RL RB
noncomputable section
def b_is_between : MS := (sRet (eAnd (eIsi "int" (eVar 0)) (eAnd (eNot (eIsi "bool" (eVar 0))) (eChain mLe mLe (eVar 1) (eVar 0) (eVar 2)))))
def m_is_between : Fn := fnD 3 3 b_is_between
def b_l_lane : MS := (sSeq (sAsg (gOne 1) (eBin mIdx (eLst (aCons (eBin mAdd (eC (.int 1)) (eCall m_l_draw (aCons (eVar 0) (aCons (eC (.int 4)) aNil)))) (aCons (eC (.int 10)) (aCons (eBin mAdd (eC (.int 1)) (eCall m_l_draw (aCons (eVar 0) (aCons (eC (.int 20)) aNil)))) aNil)))) (eCall m_l_draw (aCons (eVar 0) (aCons (eC (.int 3)) aNil)))))
    (sSeq (sAsg (gOne 2) (eBin mIdx (eLst (aCons (eBin mAdd (eC (.int 1)) (eCall m_l_draw (aCons (eVar 0) (aCons (eC (.int 3)) aNil)))) (aCons (eBin mAdd (eC (.int 1)) (eCall m_l_draw (aCons (eVar 0) (aCons (eC (.int 12)) aNil)))) aNil))) (eCall m_l_draw (aCons (eVar 0) (aCons (eC (.int 2)) aNil)))))
    (sRet (eTup (aCons (eBin mAdd (eC (.int 1)) (eCall m_l_draw (aCons (eVar 0) (aCons (eC (.int 3)) aNil)))) (aCons (eVar 1) (aCons (eVar 2) aNil)))))))
def m_l_lane : Fn := fnD 1 3 b_l_lane
end
def laneD (k : Nat) (P : Int) (n : Nat) : D := .tup [.int (k : Nat), .int P, .int (n : Nat)]
structure Lane (k : Nat) (P : Int) (n : Nat) : Prop where
  k0 : 1 ≤ k
  k1 : k ≤ 3
  p0 : 1 ≤ P
  p1 : P ≤ 20
  n0 : 1 ≤ n
  n1 : n ≤ 12
def standD (rows : List LRow) (side : Nat) : D := .tup [.tup (rows.map LRow.toD), .int (side : Nat)]
def LaneQ (t : Nat) (M : Mem) (d : D) (M' : Mem) : Prop := ∃ (k : Nat) (P : Int) (n : Nat), d = laneD k P n ∧ Lane k P n ∧ Adv t M M'
theorem l_lane_ok {M : Mem} {t : Nat} (T : Tape M t) : Ret (m_l_lane [.ref t] M) (LaneQ t M) := by
  show Ret (endS (b_l_lane [some (.ref t), none, none] M)) _
  unfold b_l_lane
  simp
  refine Ret.bind (draw T (by decide) (by decide)) ?_
  rintro _ M1 ⟨r1, rfl, a0, a1, A1⟩
  simp
  refine Ret.bind (draw A1.tape (by decide) (by decide)) ?_
  rintro _ M2 ⟨r2, rfl, b0, b1, A2⟩
  simp
  have n2 : M2.length ≠ t := fun e => by have := A2.tape.lt; omega
  refine Ret.bind (draw (A2.tape.keep (Keep.more M2 _)) (by decide) (by decide)) ?_
  rintro _ M3 ⟨r3, rfl, c0, c1, A3⟩
  have l3 := A3.at (at_len M2 _) n2
  have a3 := A1.trans (A2.trans ((Adv.of A2.tape (Keep.more M2 _)).trans A3))
  obtain ⟨P, eP, hP⟩ : ∃ P : Int, mIdx (.ref M2.length) (.int r3) M3 = some (.int P, M3) ∧ 1 ≤ P ∧ P ≤ 20 := by
    rcases (show r3 = 0 ∨ r3 = 1 ∨ r3 = 2 by omega) with rfl | rfl | rfl
    · exact ⟨1 + r1, by simp [seqAt_lst l3], by omega⟩
    · exact ⟨10, by simp [seqAt_lst l3], by omega⟩
    · exact ⟨1 + r2, by simp [seqAt_lst l3], by omega⟩
  simp [eP]
  refine Ret.bind (draw A3.tape (by decide) (by decide)) ?_
  rintro _ M4 ⟨r4, rfl, d0, d1, A4⟩
  simp
  refine Ret.bind (draw A4.tape (by decide) (by decide)) ?_
  rintro _ M5 ⟨r5, rfl, e0, e1, A5⟩
  simp
  have n5 : M5.length ≠ t := fun e => by have := A5.tape.lt; omega
  refine Ret.bind (draw (A5.tape.keep (Keep.more M5 _)) (by decide) (by decide)) ?_
  rintro _ M6 ⟨r6, rfl, f0, f1, A6⟩
  have l6 := A6.at (at_len M5 _) n5
  have a6 := a3.trans (A4.trans (A5.trans ((Adv.of A5.tape (Keep.more M5 _)).trans A6)))
  obtain ⟨n, en, hn⟩ : ∃ n : Nat, mIdx (.ref M5.length) (.int r6) M6 = some (.int (n : Nat), M6) ∧ 1 ≤ n ∧ n ≤ 12 := by
    rcases (show r6 = 0 ∨ r6 = 1 by omega) with rfl | rfl
    · exact ⟨(1 + r4).toNat, by simp [seqAt_lst l6]; omega, by omega⟩
    · exact ⟨(1 + r5).toNat, by simp [seqAt_lst l6]; omega, by omega⟩
  simp [en]
  refine Ret.bind (draw A6.tape (by decide) (by decide)) ?_
  rintro _ M7 ⟨r7, rfl, g0, g1, A7⟩
  refine .ok ⟨(1 + r7).toNat, P, n, ?_, ⟨by omega, by omega, hP.1, hP.2, hn.1, hn.2⟩, a6.trans A7⟩
  unfold laneD
  rw [show (((1 + r7).toNat : Nat) : Int) = 1 + r7 by omega]
end CM
end
section
namespace RD
open PySem PySem.Spec PyProof.Rows L2 TL
structure Thr where
  name : Str
  worth : Int
  ends : Bool
  deriving Inhabited
def Thr.toD (t : Thr) : D := .tup [.str t.name, .int t.worth, .bl t.ends]
structure Down where
  sides : Nat
  start : Int
  turn : Nat
  throws : List Thr
def Down.toD (d : Down) : D := .tup [.int (d.sides : Nat), .int d.start, .int (d.turn : Nat), .tup (d.throws.map Thr.toD)]
/-- small letters -/
def letter (c : Nat) : Bool := decide (97 ≤ c) && decide (c ≤ 122)
def figure (c : Nat) : Bool := decide (48 ≤ c) && decide (c ≤ 57)
def sign (c : Nat) : Bool := letter c || figure c
def nameL (l : List Nat) : Bool := (match l with
  | [] => false
  | c :: _ => letter c) && (decide (l.length ≤ 8) && l.all sign)
def nameB (x : Str) : Bool := nameL x.cps.toList
structure Good (ts : List Thr) : Prop where
  nd : (ts.map (·.name)).Nodup
  nm : ∀ t ∈ ts, nameB t.name = true
  w0 : ∀ t ∈ ts, 0 ≤ t.worth ∧ t.worth ≤ 1000000
structure DownOk (d : Down) : Prop where
  s0 : 1 ≤ d.sides
  s1 : d.sides ≤ 3
  b0 : 1 ≤ d.start
  b1 : d.start ≤ 1000000
  t0 : 1 ≤ d.turn
  t1 : d.turn ≤ 3
  n0 : 1 ≤ d.throws.length
  n1 : d.throws.length ≤ 30
  good : Good d.throws
def S (l : List Nat) : Str := ⟨l.toArray⟩
theorem S_tl (l : List Nat) : (S l).cps.toList = l := by simp [S]
theorem S_inj {a b : List Nat} (h : S a = S b) : a = b := by rw [← S_tl a, h, S_tl]
theorem S_len (l : List Nat) : (S l).length = l.length := by
  show (S l).cps.size = _
  simp [S]
theorem sign_lt {c : Nat} (h : sign c = true) : c < 123 := by
  unfold sign letter figure at h
  simp at h
  omega
theorem name_strOk {x : Str} (h : nameB x = true) : PyData.strOk x = true := by
  unfold nameB nameL at h
  unfold PyData.strOk
  rw [← Array.all_toList]
  obtain ⟨_, h2⟩ := Bool.and_eq_true_iff.mp h
  obtain ⟨_, h3⟩ := Bool.and_eq_true_iff.mp h2
  simp only [List.all_eq_true, decide_eq_true_eq] at h3 ⊢
  exact fun c hc => Nat.lt_trans (sign_lt (h3 c hc)) (by decide)
theorem name_len {x : Str} (h : nameB x = true) : 1 ≤ x.length ∧ x.length ≤ 8 := by
  unfold nameB nameL at h
  show 1 ≤ x.cps.size ∧ x.cps.size ≤ 8
  rw [← Array.length_toList]
  obtain ⟨h1, h2⟩ := Bool.and_eq_true_iff.mp h
  obtain ⟨h3, _⟩ := Bool.and_eq_true_iff.mp h2
  refine ⟨?_, of_decide_eq_true h3⟩
  cases q : x.cps.toList with
  | nil => rw [q] at h1; cases h1
  | cons c l => simp
/-- beginnings of a word -/
def begs (w : List Nat) : List Str := (List.range 8).map fun k => S (w.take (k + 1))
theorem beg_name {w : List Nat} (hl : w.length = 8) (hw : ∀ c ∈ w, letter c = true) {k : Nat} (hk : k < 8) : nameB (S (w.take (k + 1))) = true := by
  unfold nameB
  rw [S_tl]
  unfold nameL
  cases w with
  | nil => simp at hl
  | cons c r =>
    rw [List.take_succ_cons]
    refine Bool.and_eq_true_iff.mpr ⟨hw c List.mem_cons_self, Bool.and_eq_true_iff.mpr ⟨decide_eq_true ?_, ?_⟩⟩
    · simp; omega
    · rw [List.all_eq_true]
      intro x hx
      have : x ∈ c :: r := by
        rcases List.mem_cons.mp hx with rfl | hx
        · exact List.mem_cons_self
        · exact List.mem_cons_of_mem _ (List.mem_of_mem_take hx)
      simp [sign, hw x this]
theorem nodup_map {α β : Type} {f : α → β} : ∀ {l : List α}, (∀ a ∈ l, ∀ b ∈ l, f a = f b → a = b) → l.Nodup → (l.map f).Nodup
  | [], _, _ => List.nodup_nil
  | x :: l, h, nd => by
    obtain ⟨n1, n2⟩ := List.nodup_cons.mp nd
    rw [List.map_cons]
    refine List.nodup_cons.mpr ⟨fun hx => ?_, nodup_map (fun a ha b hb => h a (List.mem_cons_of_mem _ ha) b (List.mem_cons_of_mem _ hb)) n2⟩
    obtain ⟨y, hy, e⟩ := List.mem_map.mp hx
    exact n1 (h y (List.mem_cons_of_mem _ hy) x List.mem_cons_self e ▸ hy)
theorem begs_nodup {w : List Nat} (hl : w.length = 8) : (begs w).Nodup := by
  unfold begs
  refine nodup_map ?_ List.nodup_range
  intro a ha b hb e
  have := congrArg List.length (S_inj e)
  simp [hl] at this
  have ha := List.mem_range.mp ha
  have hb := List.mem_range.mp hb
  omega
theorem begs_len (w : List Nat) : (begs w).length = 8 := by simp [begs]
/-- turned about, cut -/
def turned {α : Type} (xs : List α) (k m : Nat) : List α := (xs.drop k ++ xs.take k).take m
theorem turned_perm {α : Type} (xs : List α) (k : Nat) : (xs.drop k ++ xs.take k).Perm xs := by
  have := List.take_append_drop k xs
  exact (List.perm_append_comm).trans (by rw [this])
theorem turned_nodup {α : Type} {xs : List α} (h : xs.Nodup) (k m : Nat) : (turned xs k m).Nodup := ((turned_perm xs k).nodup_iff.mpr h).sublist (List.take_sublist _ _)
theorem turned_mem {α : Type} {xs : List α} {k m : Nat} {x : α} (h : x ∈ turned xs k m) : x ∈ xs := (turned_perm xs k).mem_iff.mp (List.mem_of_mem_take h)
theorem turned_len {α : Type} {xs : List α} {k m : Nat} (h : m ≤ xs.length) : (turned xs k m).length = m := by
  unfold turned
  rw [List.length_take, (turned_perm xs k).length_eq]
  omega
def signs : List Nat := (List.range 26).map (97 + ·) ++ (List.range 10).map (48 + ·)
theorem signs_len : signs.length = 36 := by decide
theorem signs_nodup : signs.Nodup := by decide
theorem signs_sign : ∀ c ∈ signs, sign c = true := by decide
/-- names that differ at one place -/
def oneAt (w : List Nat) (at_ size : Nat) (c : Nat) : List Nat := w.take at_ ++ [c] ++ (w.drop (at_ + 1)).take (size - (at_ + 1))
def ones (w : List Nat) (at_ size start many : Nat) : List Str := (List.range many).map fun k => S (oneAt w at_ size (signs.getD ((start + 5 * k) % 36) 0))
theorem one_name {w : List Nat} (hl : w.length = 8) (hw : ∀ c ∈ w, letter c = true) {at_ size c : Nat} (h1 : 1 ≤ at_) (h2 : at_ < size) (h3 : size ≤ 8) (hc : sign c = true) : nameB (S (oneAt w at_ size c)) = true := by
  unfold nameB
  rw [S_tl]
  unfold nameL oneAt
  cases w with
  | nil => simp at hl
  | cons d r =>
    obtain ⟨a, rfl⟩ : ∃ a, at_ = a + 1 := ⟨at_ - 1, by omega⟩
    rw [List.take_succ_cons]
    refine Bool.and_eq_true_iff.mpr ⟨hw d List.mem_cons_self, Bool.and_eq_true_iff.mpr ⟨decide_eq_true ?_, ?_⟩⟩
    · simp at hl ⊢; omega
    · rw [List.all_eq_true]
      intro x hx
      have z : x = c ∨ x ∈ d :: r := by
        simp only [List.cons_append, List.mem_cons, List.mem_append, List.append_assoc] at hx
        rcases hx with rfl | hx | rfl | hx | hx
        · exact .inr List.mem_cons_self
        · exact .inr (List.mem_cons_of_mem _ (List.mem_of_mem_take hx))
        · exact .inl rfl
        · cases hx
        · exact .inr (List.mem_of_mem_drop (List.mem_of_mem_take hx))
      rcases z with rfl | z
      · exact hc
      · simp [sign, hw x z]
theorem one_inj {w : List Nat} {at_ size c d : Nat} (ha : at_ < w.length) (h : oneAt w at_ size c = oneAt w at_ size d) : c = d := by
  unfold oneAt at h
  have l1 : (w.take at_).length = at_ := by rw [List.length_take]; omega
  have h1 := congrArg (List.drop at_) h
  rw [List.append_assoc, List.append_assoc, List.drop_append_of_le_length (by omega), List.drop_append_of_le_length (by omega)] at h1
  rw [List.drop_of_length_le (by omega)] at h1
  simpa using h1
theorem five_inj {a b s : Nat} (ha : a < 30) (hb : b < 30) (h : (s + 5 * a) % 36 = (s + 5 * b) % 36) : a = b := by omega
theorem ones_nodup {w : List Nat} {at_ size start many : Nat} (ha : at_ < w.length) (hm : many ≤ 30) : (ones w at_ size start many).Nodup := by
  unfold ones
  refine nodup_map ?_ List.nodup_range
  intro a ha' b hb e
  have ha' := List.mem_range.mp ha'
  have hb := List.mem_range.mp hb
  have h1 := one_inj ha (S_inj e)
  have la : (start + 5 * a) % 36 < signs.length := by rw [signs_len]; exact Nat.mod_lt _ (by decide)
  have lb : (start + 5 * b) % 36 < signs.length := by rw [signs_len]; exact Nat.mod_lt _ (by decide)
  rw [List.getD_eq_getElem?_getD, List.getElem?_eq_getElem la, List.getD_eq_getElem?_getD, List.getElem?_eq_getElem lb] at h1
  simp only [Option.getD_some] at h1
  exact five_inj (by omega) (by omega) ((List.getElem_inj signs_nodup).mp h1)
theorem ones_len (w : List Nat) (at_ size start many : Nat) : (ones w at_ size start many).length = many := by simp [ones]
end RD
end
section
set_option maxHeartbeats 4000000
namespace CM
open PySem PySem.Spec PyProof.Rows L2 TL TLQ RD
noncomputable section
def b_l_great : MS := (sRet (eBin mAdd (eBin mMul (eC (.int 1000)) (eCall m_l_draw (aCons (eVar 0) (aCons (eC (.int 1000)) aNil)))) (eCall m_l_draw (aCons (eVar 0) (aCons (eC (.int 1000)) aNil)))))
def m_l_great : Fn := fnD 1 1 b_l_great
def b_l_names : MS := (sSeq (sAsg (gOne 2) (eC (.str "abcdefghijklmnopqrstuvwxyz")))
    (sSeq (sAsg (gOne 3) (eMeth "str" mJoin (eC (.str "")) (aCons (eComp 11 (iRange1 (eC (.int 8))) tYesD (eBin mIdx (eVar 2) (eCall m_l_draw (aCons (eVar 0) (aCons (eC (.int 26)) aNil))))) aNil)))
    (sSeq (sAsg (gOne 4) (eCall m_l_draw (aCons (eVar 0) (aCons (eC (.int 2)) aNil))))
    (sSeq (sAsg (gOne 5) (eCall m_l_draw (aCons (eVar 0) (aCons (eC (.int 8)) aNil))))
    (sSeq (sIf (tAnd (tB (eBin mLe (eVar 1) (eC (.int 8)))) (tB (eBin mEq (eVar 4) (eC (.int 0))))) (sSeq (sAsg (gOne 10) (eComp 11 (iRange1 (eC (.int 8))) tYesD (eSl (eVar 3) oNone (oSome (eBin mAdd (eVar 11) (eC (.int 1)))))))
    (sRet (eSl (eBin mAdd (eSl (eVar 10) (oSome (eVar 5)) oNone) (eSl (eVar 10) oNone (oSome (eVar 5)))) oNone (oSome (eVar 1))))) sNil)
    (sSeq (sAsg (gOne 6) (eBin mAdd (eC (.int 2)) (eCall m_l_draw (aCons (eVar 0) (aCons (eC (.int 7)) aNil)))))
    (sSeq (sAsg (gOne 7) (eBin mAdd (eC (.int 1)) (eCall m_l_draw (aCons (eVar 0) (aCons (eBin mSub (eVar 6) (eC (.int 1))) aNil)))))
    (sSeq (sAsg (gOne 8) (eBin mAdd (eVar 2) (eC (.str "0123456789"))))
    (sSeq (sAsg (gOne 9) (eCall m_l_draw (aCons (eVar 0) (aCons (eC (.int 36)) aNil))))
    (sRet (eComp 11 (iRange1 (eVar 1)) tYesD (eBin mAdd (eBin mAdd (eSl (eVar 3) oNone (oSome (eVar 7))) (eBin mIdx (eVar 8) (eBin mMod (eBin mAdd (eVar 9) (eBin mMul (eC (.int 5)) (eVar 11))) (eC (.int 36))))) (eSl (eVar 3) (oSome (eBin mAdd (eVar 7) (eC (.int 1)))) (oSome (eVar 6)))))))))))))))
def m_l_names : Fn := fnD 2 12 b_l_names
def lp_l_throws_0 : MS := (sSeq (sAsg (gOne 5) (eLst (aCons (eCall m_l_draw (aCons (eVar 0) (aCons (eC (.int 21)) aNil))) (aCons (eCall m_l_draw (aCons (eVar 0) (aCons (eC (.int 21)) aNil))) (aCons (eBin mFdiv (eVar 2) (eC (.int 2))) (aCons (eBin mSub (eVar 2) (eCall m_l_draw (aCons (eVar 0) (aCons (eVar 2) aNil)))) aNil))))))
    (sSeq (sExpr (eMeth "list" mAppend (eVar 5) (aCons (eBin mAdd (eCall m_l_great (aCons (eVar 0) aNil)) (eCall m_l_draw (aCons (eVar 0) (aCons (eC (.int 2)) aNil)))) aNil)))
    (sExpr (eMeth "list" mAppend (eVar 3) (aCons (eTup (aCons (eVar 4) (aCons (eBin mIdx (eVar 5) (eCall m_l_draw (aCons (eVar 0) (aCons (eC (.int 5)) aNil)))) (aCons (eBin mEq (eCall m_l_draw (aCons (eVar 0) (aCons (eC (.int 2)) aNil))) (eC (.int 0))) aNil)))) aNil)))))
def b_l_throws : MS := (sSeq (sAsg (gOne 3) (eLst aNil))
    (sSeq (sFor (iAny (eVar 1)) (gOne 4) lp_l_throws_0)
    (sRet (eCallO nTuple (aCons (eVar 3) aNil)))))
def m_l_throws : Fn := fnD 3 6 b_l_throws
def b_l_down : MS := (sSeq (sAsg (gOne 1) (eBin mIdx (eLst (aCons (eBin mAdd (eC (.int 1)) (eCall m_l_draw (aCons (eVar 0) (aCons (eC (.int 6)) aNil)))) (aCons (eBin mAdd (eC (.int 1)) (eCall m_l_draw (aCons (eVar 0) (aCons (eC (.int 30)) aNil)))) aNil))) (eBin mFdiv (eCall m_l_draw (aCons (eVar 0) (aCons (eC (.int 8)) aNil))) (eC (.int 7)))))
    (sSeq (sAsg (gOne 2) (eLst (aCons (eBin mAdd (eC (.int 1)) (eCall m_l_draw (aCons (eVar 0) (aCons (eC (.int 30)) aNil)))) (aCons (eBin mAdd (eC (.int 1)) (eCall m_l_draw (aCons (eVar 0) (aCons (eC (.int 501)) aNil)))) (aCons (eBin mAdd (eC (.int 1)) (eCall m_l_great (aCons (eVar 0) aNil))) aNil)))))
    (sSeq (sAsg (gOne 3) (eBin mIdx (eVar 2) (eCall m_l_draw (aCons (eVar 0) (aCons (eC (.int 3)) aNil)))))
    (sSeq (sAsg (gOne 4) (eCall m_l_throws (aCons (eVar 0) (aCons (eCall m_l_names (aCons (eVar 0) (aCons (eVar 1) aNil))) (aCons (eVar 3) aNil)))))
    (sRet (eTup (aCons (eBin mAdd (eC (.int 1)) (eCall m_l_draw (aCons (eVar 0) (aCons (eC (.int 3)) aNil)))) (aCons (eVar 3) (aCons (eBin mAdd (eC (.int 1)) (eCall m_l_draw (aCons (eVar 0) (aCons (eC (.int 3)) aNil)))) (aCons (eVar 4) aNil))))))))))
def m_l_down : Fn := fnD 1 5 b_l_down
end
theorem l_great_ok {M : Mem} {t : Nat} (T : Tape M t) : Ret (m_l_great [.ref t] M) (DrawQ t M 1000000) := by
  show Ret (endS (b_l_great [some (.ref t)] M)) _
  unfold b_l_great
  simp
  refine Ret.bindQ (draw T (by decide) (by decide)) ?_
  rintro _ M1 ⟨a, rfl, a0, a1, A1⟩
  simp [-mMul_int]
  have e : mMul (.int 1000) (.int a) M1 = some (.int (1000 * a), M1) := by rw [mMul_int]; exact if_pos (Or.inl ⟨by decide, by decide⟩)
  simp [e]
  refine Ret.bindQ (draw A1.tape (by decide) (by decide)) ?_
  rintro _ M2 ⟨b, rfl, b0, b1, A2⟩
  simp
  exact .ok ⟨_, rfl, by omega, by omega, A1.trans A2⟩
theorem Adv.putLst {t : Nat} {M M' : Mem} {k : Nat} {xs : List D} {o : MO} (a : Adv t M M') (h : M.length ≤ k) (hk : k ≠ t) (hx : M'[k]? = some (.lst xs)) : Adv t M (M'.set k o) := by
  refine ⟨?_, by rw [List.length_set]; exact a.len, fun m hm hmt => by rw [List.getElem?_set_ne (by omega)]; exact a.keep m hm hmt⟩
  obtain ⟨s, ns, spot, left, way, g1, g2, g3⟩ := a.tape
  refine ⟨s, ns, spot, left, way, by rw [List.getElem?_set_ne hk]; exact g1, ?_, g3⟩
  have : k ≠ s := by
    rintro rfl
    rw [hx] at g2
    cases g2
  rw [List.getElem?_set_ne this]
  exact g2
/-- a comprehension whose elements draw -/
theorem compL_drawn {good : Mem → Prop} {i n t : Nat} {e : ME} {env : TL.Env} {P : D → Prop} (M0 : Mem) (hg : ∀ M', Adv t M0 M' → good M') (hn : M0.length ≤ n) (hnt : n ≠ t) : ∀ (ds acc : List D) (M : Mem), Adv t M0 M → M[n]? = some (.lst acc) → (∀ x ∈ acc, P x) → acc.length + ds.length ≤ 1000000 →
    (∀ d ∈ ds, ∀ M', Adv t M0 M' → Ret (e (env.set i (some d)) M') (fun x M2 => P x ∧ Adv t M' M2)) →
    ∃ xs M2, compL good i tYesD e n env ds M = .ok () M2 ∧ Adv t M0 M2 ∧ M2[n]? = some (.lst xs) ∧ xs.length = acc.length + ds.length ∧ ∀ x ∈ xs, P x
  | [], acc, M, k, ha, hp, _, _ => ⟨acc, M, compL_nil (hg M k), k, ha, rfl, hp⟩
  | d :: ds, acc, M, k, ha, hp, hl, h => by
    obtain ⟨x, M2, e2, px, k2⟩ := h d List.mem_cons_self M k
    rw [compL_cons (hg M k)]
    simp only [tYesD_ap, Out.nox_ok, Out.bind_ok, if_true, e2]
    have a2 := k2.at ha hnt
    simp only [a2]
    rw [if_pos (by rw [sizeLine_eq]; simp at hl; omega)]
    have k3 : Adv t M0 (M2.set n (.lst (acc ++ [x]))) := (k.trans k2).putLst hn hnt a2
    obtain ⟨xs, M3, e3, k3, a3, l3, p3⟩ := compL_drawn M0 hg hn hnt ds (acc ++ [x]) (M2.set n (.lst (acc ++ [x]))) k3 (List.getElem?_set_self (lt_of_at a2)) (fun y hy => by
      rcases List.mem_append.mp hy with hy | hy
      · exact hp y hy
      · cases List.mem_singleton.mp hy
        exact px) (by simp at hl ⊢; omega) fun d' hd => h d' (List.mem_cons_of_mem _ hd)
    exact ⟨xs, M3, e3, k3, a3, by rw [l3]; simp; omega, p3⟩
theorem Ret.drawn {good : Mem → Prop} {i t : Nat} {e : ME} {env : TL.Env} {P : D → Prop} {ds : List D} {M0 : Mem} {Q : Unit → Mem → Prop} (T : Tape M0 t) (hg : ∀ M', Adv t M0 M' → good M') (hl : ds.length ≤ 1000000)
    (h : ∀ d ∈ ds, ∀ M', Adv t M0 M' → Ret (e (env.set i (some d)) M') (fun x M2 => P x ∧ Adv t M' M2))
    (k : ∀ xs M2, Adv t M0 M2 → M2[M0.length]? = some (.lst xs) → xs.length = ds.length → (∀ x ∈ xs, P x) → Q () M2) : Ret (compL good i tYesD e M0.length env ds (M0 ++ [.lst []])) Q := by
  obtain ⟨xs, M2, e2, k2, a2, l2, p2⟩ := compL_drawn (n := M0.length) (P := P) (e := e) (env := env) (i := i) M0 hg (Nat.le_refl _) (fun e => by have := T.lt; omega) ds [] (M0 ++ [.lst []]) (Adv.of T (Keep.more _ _)) (at_len _ _) (fun x hx => by cases hx) (by simpa using hl) h
  exact ⟨(), M2, e2, k xs M2 k2 a2 (by simpa using l2) p2⟩
def lettersS : Str := Str.ofString "abcdefghijklmnopqrstuvwxyz"
theorem letters_tl : lettersS.cps.toList = (List.range 26).map (97 + ·) := by decide +kernel
theorem figs_tl : (Str.ofString "0123456789").cps.toList = (List.range 10).map (48 + ·) := by decide +kernel
theorem letter_at {r : Int} (h0 : 0 ≤ r) (h1 : r < 26) (M : Mem) : ∃ c, letter c = true ∧ mIdx (.str lettersS) (.int r) M = some (.str (S [c]), M) := by
  obtain ⟨c, g1, g2⟩ := atI_ok (xs := lettersS.cps.toList) h0 (by rw [letters_tl]; simpa using h1)
  refine ⟨c, ?_, ?_⟩
  · rw [letters_tl, List.getElem?_map] at g1
    have : r.toNat < 26 := by omega
    rw [List.getElem?_range this] at g1
    cases g1
    simp [letter]
    omega
  · show (if lettersS.length ≤ sizeLine then (atI lettersS.cps.toList r).map fun c => (D.str ⟨#[c]⟩, M) else none) = _
    rw [if_pos (by rw [sizeLine_eq]; decide +kernel), g2]
    rfl
theorem append_tl (a b : Str) : (a ++ b).cps.toList = a.cps.toList ++ b.cps.toList := by
  show (a.cps ++ b.cps).toList = _
  simp
theorem S_append (a b : List Nat) : S a ++ S b = S (a ++ b) := by
  show (⟨(S a).cps ++ (S b).cps⟩ : Str) = _
  simp [S]
theorem S_of (x : Str) : S x.cps.toList = x := by simp [S]
theorem signs_tl : (lettersS ++ Str.ofString "0123456789").cps.toList = RD.signs := by rw [append_tl, letters_tl, figs_tl]; rfl
theorem sign_at {j : Nat} (h : j < 36) (M : Mem) : mIdx (.str (lettersS ++ Str.ofString "0123456789")) (.int (j : Nat)) M = some (.str (S [RD.signs.getD j 0]), M) := by
  show (if (lettersS ++ Str.ofString "0123456789").length ≤ sizeLine then (atI (lettersS ++ Str.ofString "0123456789").cps.toList (j : Int)).map fun c => (D.str ⟨#[c]⟩, M) else none) = _
  rw [if_pos (by rw [sizeLine_eq]; decide +kernel), signs_tl]
  have hl : j < RD.signs.length := by rw [signs_len]; exact h
  rw [atI_nat (List.getElem?_eq_getElem hl), List.getD_eq_getElem?_getD, List.getElem?_eq_getElem hl]
  rfl
/-- texts of one sign, put together -/
theorem join_signs : ∀ cs : List Nat, Txt.join (Str.ofString "") (cs.map fun c => S [c]) = S cs := by
  intro cs
  rw [join_eq]
  induction cs with
  | nil => rfl
  | cons c cs ih =>
    cases cs with
    | nil => rfl
    | cons d cs =>
      show S [c] ++ Str.ofString "" ++ Str.join (Str.ofString "") ((d :: cs).map fun c => S [c]) = _
      rw [ih]
      have e : Str.ofString "" = S [] := by decide +kernel
      rw [e, S_append, S_append]
      rfl
theorem signs_of {P : Nat → Prop} : ∀ {xs : List D}, (∀ x ∈ xs, ∃ c, P c ∧ x = .str (S [c])) → ∃ cs : List Nat, xs = (cs.map fun c => S [c]).map D.str ∧ ∀ c ∈ cs, P c
  | [], _ => ⟨[], rfl, fun _ h => nomatch h⟩
  | x :: xs, h => by
    obtain ⟨c, pc, rfl⟩ := h x List.mem_cons_self
    obtain ⟨cs, rfl, pcs⟩ := signs_of (xs := xs) fun y hy => h y (List.mem_cons_of_mem _ hy)
    refine ⟨c :: cs, rfl, fun d hd => ?_⟩
    rcases List.mem_cons.mp hd with rfl | hd
    · exact pc
    · exact pcs d hd
theorem join1_ok {M : Mem} {n : Nat} {cs : List Nat} (h : seqAt M n = some ((cs.map fun c => S [c]).map D.str)) (hl : cs.length ≤ 1000) : mJoin (.str (Str.ofString "")) [.ref n] M = some (.str (S cs), M) := by
  have e0 : (Str.ofString "").length = 0 := by decide +kernel
  have e1 : ((cs.map fun c => S [c]).map (·.length)).sum = cs.length := by
    clear h hl
    induction cs with
    | nil => rfl
    | cons c cs ih =>
      rw [List.map_cons, List.map_cons, List.sum_cons, ih, S_len]
      simp; omega
  rw [mJoin_ref, h]
  simp only
  rw [joinO_strs (by rw [e1, e0]; omega), join_signs]
  rfl
theorem cutS_S {w : List Nat} {lo hi : Option Int} : cutS (S w) lo hi = S (cutL w lo hi) := by
  unfold cutS cutL S
  rw [show (⟨w.toArray⟩ : Str).length = w.length from by rw [show (⟨w.toArray⟩ : Str).length = w.toArray.size from rfl]; simp]
theorem cutL_fr {α : Type} {xs : List α} {k : Nat} (h : k ≤ xs.length) : cutL xs (some (k : Int)) none = xs.drop k := by
  unfold cutL
  rw [HT.sIx_nat, HT.sIx_none, Nat.min_eq_left h, List.take_of_length_le]
  simp
theorem cutL_mid {α : Type} {xs : List α} {k m : Nat} (h : k ≤ xs.length) (hm : m ≤ xs.length) : cutL xs (some (k : Int)) (some (m : Int)) = (xs.drop k).take (m - k) := by
  unfold cutL
  rw [HT.sIx_nat, HT.sIx_nat, Nat.min_eq_left h, Nat.min_eq_left hm]
theorem mSl_S {w : List Nat} {lo hi : Option Int} {M : Mem} (h : w.length ≤ 1000) : mSl (.str (S w)) lo hi M = some (.str (S (cutL w lo hi)), M) := by
  show (if (S w).length ≤ sizeLine then some (D.str (cutS (S w) lo hi), M) else none) = _
  rw [if_pos (by rw [S_len, sizeLine_eq]; omega), cutS_S]
theorem mSl_fr {M : Mem} {n k : Nat} {xs : List D} (h : seqAt M n = some xs) (hk : k ≤ xs.length) : mSl (.ref n) (some (k : Int)) none M = some (.ref M.length, M ++ [.lst (xs.drop k)]) := by rw [mSl_ref, h]; simp only [cutL_fr hk]
theorem mSl_to {M : Mem} {n k : Nat} {xs : List D} (h : seqAt M n = some xs) (hk : k ≤ xs.length) : mSl (.ref n) none (some (k : Int)) M = some (.ref M.length, M ++ [.lst (xs.take k)]) := by rw [mSl_ref, h]; simp only [cutL_to hk]
def NamesQ (t : Nat) (M : Mem) (many : Nat) (d : D) (M' : Mem) : Prop := ∃ (n : Nat) (ys : List Str), d = .ref n ∧ seqAt M' n = some (ys.map D.str) ∧ ys.length = many ∧ ys.Nodup ∧ (∀ y ∈ ys, nameB y = true) ∧ M.length ≤ n ∧ Adv t M M'
theorem l_names_ok {M : Mem} {t many : Nat} (T : Tape M t) (m0 : 1 ≤ many) (m1 : many ≤ 30) : Ret (m_l_names [.ref t, .int (many : Nat)] M) (NamesQ t M many) := by
  show Ret (endS (b_l_names [some (.ref t), some (.int (many : Nat)), none, none, none, none, none, none, none, none, none, none] M)) _
  unfold b_l_names
  simp [rngOk_of]
  refine Ret.bindQ (P := fun _ M1 => ∃ cs : List Nat, seqAt M1 M.length = some ((cs.map fun c => S [c]).map D.str) ∧ cs.length = 8 ∧ (∀ c ∈ cs, letter c = true) ∧ Adv t M M1) ?_ ?_
  · refine Ret.drawn (P := fun x => ∃ c, letter c = true ∧ x = .str (S [c])) T (fun _ _ => trivial) (by simp [rng_length]) (fun d hd M' A => ?_) fun xs M2 A a l p => ?_
    · simp
      refine Ret.bindQ (draw A.tape (by decide) (by decide)) ?_
      rintro _ M3 ⟨r, rfl, r0, r1, A3⟩
      obtain ⟨c, hc, e⟩ := letter_at r0 r1 M3
      rw [lettersS] at e
      simp [e]
      exact .ok ⟨⟨c, hc, rfl⟩, A3⟩
    · obtain ⟨cs, rfl, hc⟩ := signs_of p
      exact ⟨cs, seqAt_lst a, by simpa [rng_length] using l, hc, A⟩
  rintro _ M1 ⟨w, hw, wl, wc, A1⟩
  have ej := join1_ok hw (by omega)
  simp [ej]
  refine Ret.bindQ (draw A1.tape (by decide) (by decide)) ?_
  rintro _ M2 ⟨way, rfl, w0, w1, A2⟩
  simp
  refine Ret.bindQ (draw A2.tape (by decide) (by decide)) ?_
  rintro _ M3 ⟨turn, rfl, t0, t1, A3⟩
  have A := (A1.trans A2).trans A3
  clear A1 A2 A3 ej hw
  by_cases c : (many : Int) ≤ 8 ∧ way = 0
  · obtain ⟨c1, rfl⟩ := c
    obtain ⟨tn, rfl⟩ : ∃ tn : Nat, turn = tn := ⟨turn.toNat, by omega⟩
    simp [c1, rngOk_of]
    refine Ret.bindQ (P := fun _ M4 => Keep M3 M4 ∧ M4[M3.length]? = some (.lst ((begs w).map D.str))) ?_ ?_
    · refine Ret.comp (fun d => match d with | .int i => .str (S (w.take (i.toNat + 1))) | _ => .non) (fun _ _ => trivial) (by simp [rng_length]) (fun d hd M' k => ?_) (fun M4 k a => ?_)
      · obtain ⟨j, hj, rfl⟩ := mem_rng hd
        have e : mSl (.str (S w)) none (some ((j : Int) + 1)) M' = some (.str (S (w.take (j + 1))), M') := by
          rw [mSl_S (by omega), show ((j : Int) + 1) = ((j + 1 : Nat) : Int) from by simp, cutL_to (by omega)]
        simp [e]
        exact .ok ⟨rfl, Keep.refl _⟩
      · refine ⟨k, ?_⟩
        rw [a]
        simp [begs, rngItems, List.map_map, Function.comp_def]
    rintro _ M4 ⟨k4, a4⟩
    have s4 := seqAt_lst a4
    have bl : (begs w).length = 8 := begs_len w
    have e1 := mSl_fr (M := M4) (k := tn) s4 (by simp [bl]; omega)
    have e2 := mSl_to (M := M4 ++ [.lst (((begs w).map D.str).drop tn)]) (k := tn) ((Keep.more M4 _).seq s4) (by simp [bl]; omega)
    have e3 := mAdd_lists (M := M4 ++ [.lst (((begs w).map D.str).drop tn)] ++ [.lst (((begs w).map D.str).take tn)]) (n := M4.length) (m := (M4 ++ [MO.lst (((begs w).map D.str).drop tn)]).length) (xs := ((begs w).map D.str).drop tn) (ys := ((begs w).map D.str).take tn) (by simp) (by simp) (by simp [bl]; omega)
    have e4 := mSl_to (M := M4 ++ [.lst (((begs w).map D.str).drop tn)] ++ [.lst (((begs w).map D.str).take tn)] ++ [.lst (((begs w).map D.str).drop tn ++ ((begs w).map D.str).take tn)]) (k := many) (seqAt_lst (at_len _ _)) (by simp [bl]; omega)
    simp [-mSl_ref, -mAdd_ref, e1]
    simp [-mSl_ref, -mAdd_ref] at e2 e3 e4
    simp [-mSl_ref, -mAdd_ref, e2]
    simp [-mSl_ref, -mAdd_ref, e3]
    simp [-mSl_ref, -mAdd_ref, e4]
    refine .ok ⟨M4.length + 3, turned (begs w) tn many, rfl, ?_, turned_len (by rw [bl]; omega), turned_nodup (begs_nodup wl) _ _, fun y hy => ?_, ?_, A.trans (Adv.of A.tape (k4.trans (Keep.more _ _)))⟩
    · rw [seq_new]
      simp [turned, seqAt]
    · obtain ⟨k, hk, rfl⟩ := List.mem_map.mp (turned_mem hy)
      exact beg_name wl wc (List.mem_range.mp hk)
    · have h1 := A.len
      have h2 := k4.1
      omega
  · obtain ⟨tn, rfl⟩ : ∃ tn : Nat, turn = tn := ⟨turn.toNat, by omega⟩
    have ht : (if (many : Int) ≤ 8 then Out.ok (decide (way = 0)) M3 else Out.ok false M3) = Out.ok false M3 := by
      by_cases q : (many : Int) ≤ 8
      · have hw : way ≠ 0 := fun z => c ⟨q, z⟩
        simp [q, hw]
      · simp [q]
    simp [ht]
    refine Ret.bindQ (draw A.tape (by decide) (by decide)) ?_
    rintro _ M4 ⟨s, rfl, s0, s1, A4⟩
    simp
    obtain ⟨sn, rfl⟩ : ∃ sn : Nat, s = sn := ⟨s.toNat, by omega⟩
    refine Ret.bindQ (draw (many := 2 + (sn : Int) - 1) A4.tape (by omega) (by omega)) ?_
    rintro _ M5 ⟨a, rfl, a0, a1, A5⟩
    obtain ⟨an, rfl⟩ : ∃ an : Nat, a = an := ⟨a.toNat, by omega⟩
    have el : ∀ M, mAdd (.str (Str.ofString "abcdefghijklmnopqrstuvwxyz")) (.str (Str.ofString "0123456789")) M = some (.str (lettersS ++ Str.ofString "0123456789"), M) := fun M => by
      rw [mAdd_str, if_pos (by rw [sizeLine_eq]; decide +kernel)]
      rfl
    simp [-mAdd_str, el]
    refine Ret.bindQ (draw A5.tape (by decide) (by decide)) ?_
    rintro _ M6 ⟨st, rfl, st0, st1, A6⟩
    obtain ⟨stn, rfl⟩ : ∃ stn : Nat, st = stn := ⟨st.toNat, by omega⟩
    have AA := ((A.trans A4).trans A5).trans A6
    simp [rngOk_nat (show many ≤ 1000000 by omega)]
    refine Ret.bindQ (P := fun _ M7 => Keep M6 M7 ∧ M7[M6.length]? = some (.lst ((ones w (1 + an) (2 + sn) stn many).map D.str))) ?_ ?_
    · refine Ret.comp (fun d => match d with | .int i => .str (S (oneAt w (1 + an) (2 + sn) (RD.signs.getD ((stn + 5 * i.toNat) % 36) 0))) | _ => .non) (fun _ _ => trivial) (by rw [rng_length]; omega) (fun d hd M' k => ?_) (fun M7 k a => ?_)
      · obtain ⟨j, hj, rfl⟩ := mem_rng hd
        have e5 : mMul (.int 5) (.int j) M' = some (.int (5 * j), M') := by rw [mMul_int]; exact if_pos (Or.inl ⟨by decide, by decide⟩)
        have e6 := sign_at (j := (stn + 5 * j) % 36) (Nat.mod_lt _ (by decide)) M'
        have e7 : mSl (.str (S w)) none (some (1 + (an : Int))) M' = some (.str (S (w.take (1 + an))), M') := by
          rw [mSl_S (by omega), show (1 + (an : Int)) = ((1 + an : Nat) : Int) from by simp, cutL_to (by omega)]
        have e8 : mSl (.str (S w)) (some (1 + (an : Int) + 1)) (some (2 + (sn : Int))) M' = some (.str (S ((w.drop (1 + an + 1)).take (2 + sn - (1 + an + 1)))), M') := by
          rw [mSl_S (by omega), show (1 + (an : Int) + 1) = ((1 + an + 1 : Nat) : Int) from by simp, show (2 + (sn : Int)) = ((2 + sn : Nat) : Int) from by simp, cutL_mid (by omega) (by omega)]
        have e9 : ∀ a b : List Nat, a.length ≤ 1000 → b.length ≤ 1000 → mAdd (.str (S a)) (.str (S b)) M' = some (.str (S (a ++ b)), M') := fun a b ha hb => by
          rw [mAdd_str, S_append, if_pos (by rw [S_len, S_len, sizeLine_eq]; omega)]
        have l1 : (w.take (1 + an)).length ≤ 1000 := by rw [List.length_take]; omega
        simp [-mIdx_ref, -mMul_int, -mAdd_str, e5, e7]
        have ei : ((stn : Int) + 5 * (j : Int)) % 36 = (((stn + 5 * j) % 36 : Nat) : Int) := by simp
        rw [ei, e6]
        have f1 := e9 (w.take (1 + an)) [RD.signs.getD ((stn + 5 * j) % 36) 0] l1 (by simp)
        have f2 := e9 (w.take (1 + an) ++ [RD.signs.getD ((stn + 5 * j) % 36) 0]) ((w.drop (1 + an + 1)).take (2 + sn - (1 + an + 1))) (by simp; omega) (by rw [List.length_take, List.length_drop]; omega)
        simp only [liftO_some, bindQ_ok, f1]
        simp only [List.append_assoc, List.cons_append, List.nil_append] at f1 f2
        simp [-mAdd_str, -List.getD_eq_getElem?_getD, e8, f2]
        exact .ok ⟨by simp [oneAt], Keep.refl _⟩
      · refine ⟨k, ?_⟩
        rw [a]
        simp [ones, rngItems, List.map_map, Function.comp_def]
    rintro _ M7 ⟨k7, a7⟩
    refine .ok ⟨M6.length, _, rfl, seqAt_lst a7, ones_len .., ones_nodup (by omega) m1, fun y hy => ?_, AA.len, AA.trans (Adv.of AA.tape k7)⟩
    obtain ⟨k, hk, rfl⟩ := List.mem_map.mp hy
    have lt : (stn + 5 * k) % 36 < RD.signs.length := by rw [signs_len]; exact Nat.mod_lt _ (by decide)
    refine one_name wl wc (by omega) (by omega) (by omega) (signs_sign _ ?_)
    rw [List.getD_eq_getElem?_getD, List.getElem?_eq_getElem lt]
    exact List.getElem_mem lt
def TInv (t n m : Nat) (M0 : Mem) (count : Int) (all : List Str) : List D → TL.Env → Mem → Prop := fun ds env M => ∃ (ts : List Thr) (ys : List Str) (e4 e5 : Option D), ds = ys.map D.str ∧
  env = [some (.ref t), some (.ref n), some (.int count), some (.ref m), e4, e5] ∧ M[m]? = some (.lst (ts.map Thr.toD)) ∧ ts.map (·.name) ++ ys = all ∧ (∀ t ∈ ts, 0 ≤ t.worth ∧ t.worth ≤ 1000000) ∧ seqAt M n = some (all.map D.str) ∧ Adv t M0 M
theorem throws_turn {t n m : Nat} {M0 : Mem} {count : Int} {all : List Str} (hmt : m ≠ t) (hnt : n ≠ t) (hnm : n ≠ m) (hm0 : M0.length ≤ m) (c0 : 1 ≤ count) (c1 : count ≤ 1000000) (hl : all.length ≤ 1000) {d : D} {ds : List D} {env : TL.Env} {M : Mem} (h : TInv t n m M0 count all (d :: ds) env M) :
    ∃ env1, gOne 4 d env = some env1 ∧ SRet (lp_l_throws_0 env1 M) (TInv t n m M0 count all ds) (fun _ _ => False) := by
  obtain ⟨ts, ys, e4, e5, hd, rfl, hm, ha, hw, hn, A⟩ := h
  obtain ⟨y, ys, rfl⟩ : ∃ y r, ys = y :: r := by
    cases ys with
    | nil => cases hd
    | cons y r => exact ⟨y, r, rfl⟩
  obtain ⟨rfl, rfl⟩ : d = .str y ∧ ds = ys.map D.str := by simpa using hd
  refine ⟨_, rfl, ?_⟩
  have T := A.tape
  unfold lp_l_throws_0
  simp
  refine SRet.thenQ (draw T (by decide) (by decide)) ?_
  rintro _ M1 ⟨a, rfl, a0, a1, A1⟩
  simp
  refine SRet.thenQ (draw A1.tape (by decide) (by decide)) ?_
  rintro _ M2 ⟨b, rfl, b0, b1, A2⟩
  simp
  refine SRet.thenQ (draw (many := count) A2.tape (by omega) (by omega)) ?_
  rintro _ M3 ⟨c, rfl, d0, d1, A3⟩
  simp
  have sl : ∀ (M : Mem) (xs : List D), seqAt (M ++ [.lst xs]) M.length = some xs := fun M xs => seqAt_lst (at_len _ _)
  simp [sl]
  have A03 := ((A.trans A1).trans A2).trans A3
  have A4 : Adv t M3 (M3 ++ [MO.lst [D.int a, D.int b, D.int (count / 2), D.int (count - c)]]) := Adv.of A3.tape (Keep.more _ _)
  refine SRet.thenQ (l_great_ok A4.tape) ?_
  rintro _ M5 ⟨g, rfl, g0, g1, A5⟩
  simp
  refine SRet.thenQ (draw A5.tape (by decide) (by decide)) ?_
  rintro _ M6 ⟨p, rfl, p0, p1, A6⟩
  have A46 := (A4.trans A5).trans A6
  have t3 := A3.tape.lt
  have hq : M3.length ≠ t := by omega
  have l6 : M6[M3.length]? = some (.lst [D.int a, D.int b, D.int (count / 2), D.int (count - c)]) := (A5.trans A6).at (at_len _ _) hq
  have ap := mAppend_ok (y := .int (g + p)) l6 (by simp)
  simp [ap]
  have hlt := lt_of_at l6
  have A06 := A03.trans A46
  have l03 := A03.len
  have A07 : Adv t M0 (M6.set M3.length (.lst [D.int a, D.int b, D.int (count / 2), D.int (count - c), .int (g + p)])) := A06.putLst l03 hq l6
  have l7 : (M6.set M3.length (MO.lst [D.int a, D.int b, D.int (count / 2), D.int (count - c), .int (g + p)]))[M3.length]? = some (.lst [D.int a, D.int b, D.int (count / 2), D.int (count - c), .int (g + p)]) := List.getElem?_set_self hlt
  have m7 : (M6.set M3.length (MO.lst [D.int a, D.int b, D.int (count / 2), D.int (count - c), .int (g + p)]))[m]? = some (.lst (ts.map Thr.toD)) := by
    have h3 : m < M3.length := by
      have h := lt_of_at hm
      have h1 := A1.len
      have h2 := A2.len
      have h3 := A3.len
      omega
    rw [List.getElem?_set_ne (by omega)]
    exact A46.at (A3.at (A2.at (A1.at hm hmt) hmt) hmt) hmt
  have n7 : seqAt (M6.set M3.length (MO.lst [D.int a, D.int b, D.int (count / 2), D.int (count - c), .int (g + p)])) n = some (all.map D.str) := by
    have h3 : n < M3.length := by
      have h := lt_of_seq hn
      have h1 := A1.len
      have h2 := A2.len
      have h3 := A3.len
      omega
    have h := A46.seq (A3.seq (A2.seq (A1.seq hn hnt) hnt) hnt) hnt
    unfold seqAt at h ⊢
    rw [List.getElem?_set_ne (by omega)]
    exact h
  generalize M6.set M3.length (MO.lst [D.int a, D.int b, D.int (count / 2), D.int (count - c), .int (g + p)]) = M7 at *
  have tm : tyD "list" M7 (.ref m) = true := tyD_list (seqAt_lst m7)
  simp [seqAt_lst m7]
  refine SRet.thenQ (draw A07.tape (by decide) (by decide)) ?_
  rintro _ M8 ⟨q, rfl, q0, q1, A8⟩
  have i8 := A8.seq (seqAt_lst l7) hq
  obtain ⟨w, hw8, ew⟩ := pick_at i8 q0 (by simpa using q1)
  simp [-mIdx_ref, ew]
  refine SRet.thenQ (draw A8.tape (by decide) (by decide)) ?_
  rintro _ M9 ⟨e, rfl, f0, f1, A9⟩
  have m9 := A9.at (A8.at m7 hmt) hmt
  have n9 := A9.seq (A8.seq n7 hnt) hnt
  obtain ⟨wi, rfl, wi0, wi1⟩ : ∃ wi : Int, w = .int wi ∧ 0 ≤ wi ∧ wi ≤ 1000000 := by
    simp only [List.mem_cons, List.not_mem_nil, or_false] at hw8
    rcases hw8 with rfl | rfl | rfl | rfl | rfl <;> exact ⟨_, rfl, by omega, by omega⟩
  have tl : ts.length ≤ 1000 := by
    have := congrArg List.length ha
    simp at this
    omega
  have ap9 := mAppend_ok (y := .tup [.str y, .int wi, .bl (decide (e = 0))]) m9 (by simp; omega)
  simp [ap9]
  refine ⟨ts ++ [⟨y, wi, decide (e = 0)⟩], ys, _, _, rfl, rfl, ?_, ?_, ?_, ?_, ?_⟩
  · rw [List.getElem?_set_self (lt_of_at m9)]
    simp [Thr.toD]
  · simpa using ha
  · intro u hu
    rcases List.mem_append.mp hu with hu | hu
    · exact hw u hu
    · cases List.mem_singleton.mp hu
      exact ⟨wi0, wi1⟩
  · unfold seqAt at n9 ⊢
    rw [List.getElem?_set_ne (Ne.symm hnm)]
    exact n9
  · exact ((A07.trans A8).trans A9).putLst hm0 hmt m9
def ThrowsQ (t : Nat) (M : Mem) (ys : List Str) (d : D) (M' : Mem) : Prop := ∃ ts : List Thr, d = .tup (ts.map Thr.toD) ∧ ts.map (·.name) = ys ∧ (∀ t ∈ ts, 0 ≤ t.worth ∧ t.worth ≤ 1000000) ∧ Adv t M M'
theorem l_throws_ok {M : Mem} {t n : Nat} {count : Int} {ys : List Str} (T : Tape M t) (hn : seqAt M n = some (ys.map D.str)) (hnt : n ≠ t) (hl : ys.length ≤ 1000) (c0 : 1 ≤ count) (c1 : count ≤ 1000000) : Ret (m_l_throws [.ref t, .ref n, .int count] M) (ThrowsQ t M ys) := by
  show Ret (endS (b_l_throws [some (.ref t), some (.ref n), some (.int count), none, none, none] M)) _
  unfold b_l_throws
  have nlt := lt_of_seq hn
  have tl := T.lt
  have h1 := (Keep.more M [MO.lst []]).seq hn
  simp [srcOf_ref h1]
  refine Ret.endS ?_
  refine SRet.forQ (TInv t n M.length M count ys) ⟨[], ys, _, _, rfl, rfl, at_len _ _, rfl, (fun _ h => nomatch h), h1, Adv.of T (Keep.more _ _)⟩ (fun ds env M h => ?_) (fun d ds env M h => (throws_turn (by omega) hnt (by omega) (Nat.le_refl _) c0 c1 hl h).imp fun _ h => ⟨h.1, h.2.imp (fun _ _ h => h) fun _ _ h => h.elim⟩) ?_
  · obtain ⟨_, _, _, _, _, _, _, _, _, h, _⟩ := h
    exact h
  · rintro env M1 ⟨ts, zs, e4, e5, hz, rfl, hm, ha, hw, hn, A⟩
    have hz : zs = [] := by simpa using hz
    subst hz
    simp [nTuple_ref (seqAt_lst hm)]
    exact SRet.ret ⟨ts, rfl, by simpa using ha, hw, A⟩
def DownQ (t : Nat) (M : Mem) (d : D) (M' : Mem) : Prop := ∃ w : Down, d = w.toD ∧ DownOk w ∧ Adv t M M'
theorem l_down_ok {M : Mem} {t : Nat} (T : Tape M t) : Ret (m_l_down [.ref t] M) (DownQ t M) := by
  show Ret (endS (b_l_down [some (.ref t), none, none, none, none] M)) _
  unfold b_l_down
  simp
  refine Ret.bindQ (draw T (by decide) (by decide)) ?_
  rintro _ M1 ⟨a, rfl, a0, a1, A1⟩
  simp
  refine Ret.bindQ (draw A1.tape (by decide) (by decide)) ?_
  rintro _ M2 ⟨b, rfl, b0, b1, A2⟩
  simp
  refine Ret.bindQ (draw (A2.tape.keep (Keep.more _ _)) (by decide) (by decide)) ?_
  rintro _ M3 ⟨c, rfl, c0, c1, A3⟩
  have i3 := A3.seq (seqAt_lst (at_len M2 (MO.lst [D.int (1 + a), D.int (1 + b)]))) (by have := A2.tape.lt; omega)
  obtain ⟨d, hd, ed⟩ := pick_at (r := c / 7) i3 (by omega) (by simp; omega)
  obtain ⟨many, rfl, m0, m1⟩ : ∃ many : Nat, d = .int many ∧ 1 ≤ many ∧ many ≤ 30 := by
    simp only [List.mem_cons, List.not_mem_nil, or_false] at hd
    rcases hd with rfl | rfl
    · exact ⟨(1 + a).toNat, by congr 1; omega, by omega, by omega⟩
    · exact ⟨(1 + b).toNat, by congr 1; omega, by omega, by omega⟩
  simp [-mIdx_ref, ed]
  refine Ret.bindQ (draw A3.tape (by decide) (by decide)) ?_
  rintro _ M4 ⟨e, rfl, e0, e1, A4⟩
  simp
  refine Ret.bindQ (draw A4.tape (by decide) (by decide)) ?_
  rintro _ M5 ⟨f, rfl, f0, f1, A5⟩
  simp
  refine Ret.bindQ (l_great_ok A5.tape) ?_
  rintro _ M6 ⟨g, rfl, g0, g1, A6⟩
  simp
  refine Ret.bindQ (draw (A6.tape.keep (Keep.more _ _)) (by decide) (by decide)) ?_
  rintro _ M7 ⟨h, rfl, h0, h1, A7⟩
  have i7 := A7.seq (seqAt_lst (at_len M6 (MO.lst [D.int (1 + e), D.int (1 + f), D.int (1 + g)]))) (by have := A6.tape.lt; omega)
  obtain ⟨d, hd2, ed2⟩ := pick_at i7 h0 (by simpa using h1)
  obtain ⟨st, rfl, s0, s1⟩ : ∃ st : Int, d = .int st ∧ 1 ≤ st ∧ st ≤ 1000000 := by
    simp only [List.mem_cons, List.not_mem_nil, or_false] at hd2
    rcases hd2 with rfl | rfl | rfl
    · exact ⟨_, rfl, by omega, by omega⟩
    · exact ⟨_, rfl, by omega, by omega⟩
    · exact ⟨_, rfl, by omega, by omega⟩
  simp [-mIdx_ref, ed2]
  refine Ret.bindQ (l_names_ok A7.tape m0 m1) ?_
  rintro _ M8 ⟨n, ys, rfl, hn, hl, nd, nm, nge, A8⟩
  simp
  refine Ret.bindQ (l_throws_ok A8.tape hn (by have := A7.tape.lt; omega) (by omega) s0 s1) ?_
  rintro _ M9 ⟨ts, rfl, hts, hw, A9⟩
  simp
  refine Ret.bindQ (draw A9.tape (by decide) (by decide)) ?_
  rintro _ M10 ⟨i, rfl, i0, i1, A10⟩
  simp
  refine Ret.bindQ (draw A10.tape (by decide) (by decide)) ?_
  rintro _ M11 ⟨j, rfl, j0, j1, A11⟩
  have l1 : ts.length = many := by rw [← hl, ← hts, List.length_map]
  simp
  refine .ok ⟨⟨(1 + i).toNat, st, (1 + j).toNat, ts⟩, ?_, ⟨by simp; omega, by simp; omega, s0, s1, by simp; omega, by simp; omega, by simp; omega, by simp; omega, by rw [hts]; exact nd, fun u hu => nm _ (hts ▸ List.mem_map_of_mem hu), hw⟩, ?_⟩
  · simp only [Down.toD]
    rw [show (((1 + i).toNat : Nat) : Int) = 1 + i from by omega, show (((1 + j).toNat : Nat) : Int) = 1 + j from by omega]
  · exact A1.trans (A2.trans ((Adv.of A2.tape (Keep.more _ _)).trans (A3.trans (A4.trans (A5.trans (A6.trans ((Adv.of A6.tape (Keep.more _ _)).trans (A7.trans (A8.trans (A9.trans (A10.trans A11)))))))))))
end CM
end
section
set_option maxHeartbeats 4000000
namespace CF
open PySem PySem.Spec PyProof.Rows L2 TL TLQ
noncomputable section
def b_l_alike (r_l_alike : Fn) : MS := (sSeq (sIf (tOr (tTru (eIsi "tuple" (eVar 0))) (tTru (eIsi "list" (eVar 0)))) (sSeq (sIf (tOr (tB (eBin mNe (eIsi "tuple" (eVar 0)) (eIsi "tuple" (eVar 1)))) (tB (eBin mNe (eIsi "list" (eVar 0)) (eIsi "list" (eVar 1))))) (sRet (eC (.bl false))) sNil)
    (sRet (eAnd (eBin mEq (eCallO nLen (aCons (eVar 0) aNil)) (eCallO nLen (aCons (eVar 1) aNil))) (eCallO nAll (aCons (eComp 2 (iRange1 (eCallO nLen (aCons (eVar 0) aNil))) tYesD (eCall r_l_alike (aCons (eBin mIdx (eVar 0) (eVar 2)) (aCons (eBin mIdx (eVar 1) (eVar 2)) aNil)))) aNil))))) sNil)
    (sSeq (sIf (tB (eBin mIs (eVar 0) (eC .non))) (sRet (eBin mIs (eVar 1) (eC .non))) sNil)
    (sSeq (sIf (tTru (eIsi "str" (eVar 0))) (sRet (eAnd (eIsi "str" (eVar 1)) (eBin mEq (eVar 1) (eVar 0)))) sNil)
    (sSeq (sIf (tTru (eIsi "bool" (eVar 0))) (sRet (eAnd (eIsi "bool" (eVar 1)) (eBin mEq (eVar 1) (eVar 0)))) sNil)
    (sRet (eAnd (eIsi "int" (eVar 1)) (eAnd (eNot (eIsi "bool" (eVar 1))) (eBin mEq (eVar 1) (eVar 0)))))))))
def m_l_alike : Nat → Fn
  | 0 => noFn
  | n + 1 => fnD 2 3 (b_l_alike (m_l_alike n))
end
/-- flat, its text a text -/
def FlatOk : D → Prop
  | .non => True
  | .bl _ => True
  | .int _ => True
  | .str x => PyData.strOk x = true
  | _ => False
/-- the same, lists by what they hold, at most n deep -/
def SameN (M : Mem) : Nat → D → D → Prop
  | 0, d, e => FlatOk d ∧ d = e
  | n + 1, d, e => (FlatOk d ∧ d = e) ∨ ∃ xs ys : List D, ((d = .tup xs ∧ e = .tup ys) ∨ ∃ a b, d = .ref a ∧ e = .ref b ∧ seqAt M a = some xs ∧ seqAt M b = some ys) ∧ xs.length = ys.length ∧ xs.length ≤ 100000 ∧
      ∀ (i : Nat) (x y : D), xs[i]? = some x → ys[i]? = some y → SameN M n x y
theorem SameN.keep {M M' : Mem} (k : Keep M M') : ∀ {n : Nat} {d e : D}, SameN M n d e → SameN M' n d e
  | 0, _, _, h => h
  | n + 1, _, _, .inl h => .inl h
  | n + 1, _, _, .inr ⟨xs, ys, h1, h2, h3, h4⟩ => .inr ⟨xs, ys, h1.imp id fun ⟨a, b, e1, e2, e3, e4⟩ => ⟨a, b, e1, e2, k.seq e3, k.seq e4⟩, h2, h3, fun i x y a b => (h4 i x y a b).keep k⟩
end CF
end
section
set_option maxHeartbeats 4000000
namespace CM
open PySem PySem.Spec PyProof.Rows L2 TL RL RB TLQ
theorem between_D {d : D} {lo hi : Int} {M : Mem} (h : (tyName M d).isSome = true) : m_is_between [d, .int lo, .int hi] M = .ok (.bl (match d with | .int i => decide (lo ≤ i) && decide (i ≤ hi) | _ => false)) M := by
  show endS (b_is_between [some d, some (.int lo), some (.int hi)] M) = _
  unfold b_is_between
  cases d with
  | int i => by_cases c : lo ≤ i <;> simp [c]
  | ref n =>
    cases q : seqAt M n with
    | none => simp [tyName, q] at h
    | some xs => simp [mIsi_ref q]
  | err x => simp [tyName] at h
  | _ => simp
@[simp] theorem stand_idx0 {rows : List LRow} {side : Nat} {M : Mem} : mIdx (standD rows side) (.int 0) M = some (.tup (rows.map LRow.toD), M) := by simp [standD]
@[simp] theorem stand_idx1 {rows : List LRow} {side : Nat} {M : Mem} : mIdx (standD rows side) (.int 1) M = some (.int (side : Nat), M) := by simp [standD]
def UpOk (P : Int) (r : LRow) : Prop := 0 ≤ r.up ∧ r.up ≤ P
end CM
namespace CF
open PySem PySem.Spec PyProof.Rows L2 TL
end CF
namespace TL
open PySem PySem.Spec PyProof.Rows L2
end TL
end
section
set_option maxHeartbeats 4000000
namespace CM
open PySem PySem.Spec PyProof.Rows L2 TL TLQ RD
noncomputable section
def b_is_throw_name : MS := (sSeq (sIf (tOr (tNot (tTru (eIsi "str" (eVar 0)))) (tOr (tB (eBin mLt (eCallO nLen (aCons (eVar 0) aNil)) (eC (.int 1)))) (tOr (tB (eBin mGt (eCallO nLen (aCons (eVar 0) aNil)) (eC (.int 8)))) (tB (eBin mNotIn (eBin mIdx (eVar 0) (eC (.int 0))) (eC (.str "abcdefghijklmnopqrstuvwxyz"))))))) (sRet (eC (.bl false))) sNil)
    (sRet (eCallO nAll (aCons (eComp 1 (iAny (eVar 0)) tYesD (eOr (eBin mIn (eVar 1) (eC (.str "abcdefghijklmnopqrstuvwxyz"))) (eBin mIn (eVar 1) (eC (.str "0123456789"))))) aNil))))
def m_is_throw_name : Fn := fnD 1 2 b_is_throw_name
end
theorem Sh.ty {M : Mem} {n w : Nat} {d : D} (h : TL.Sh M (n + 1) w d) : (tyName M d).isSome = true := by
  obtain ⟨x, e, _⟩ := h
  cases d with
  | ref m =>
    have e' : (match seqAt M m with | some xs => (datL (dat n M) xs).map PyData.list | none => none) = some x := e
    cases q : seqAt M m with
    | none => rw [q] at e'; cases e'
    | some xs => simp [tyName, q]
  | err y => cases e
  | _ => rfl
/-- a whole number between -/
def inB (lo hi : Int) : D → Bool
  | .int i => decide (lo ≤ i) && decide (i ≤ hi)
  | _ => false
theorem between_B {d : D} {lo hi : Int} {M : Mem} (h : (tyName M d).isSome = true) : m_is_between [d, .int lo, .int hi] M = .ok (.bl (inB lo hi d)) M := by
  rw [between_D h]
  cases d <;> rfl
theorem letters_mem {c : Nat} : decide (c ∈ lettersS.cps.toList) = letter c := by
  rw [letters_tl]
  unfold letter
  rw [Bool.eq_iff_iff, decide_eq_true_iff, Bool.and_eq_true_iff, decide_eq_true_iff, decide_eq_true_iff, List.mem_map]
  exact ⟨fun ⟨a, h, e⟩ => by have := List.mem_range.mp h; omega, fun h => ⟨c - 97, List.mem_range.mpr (by omega), by omega⟩⟩
theorem figs_mem {c : Nat} : decide (c ∈ (Str.ofString "0123456789").cps.toList) = figure c := by
  rw [figs_tl]
  unfold figure
  rw [Bool.eq_iff_iff, decide_eq_true_iff, Bool.and_eq_true_iff, decide_eq_true_iff, decide_eq_true_iff, List.mem_map]
  exact ⟨fun ⟨a, h, e⟩ => by have := List.mem_range.mp h; omega, fun h => ⟨c - 48, List.mem_range.mpr (by omega), by omega⟩⟩
theorem in_sign {c : Nat} {z : Str} {M : Mem} : mIn (.str ⟨#[c]⟩) (.str z) M = some (.bl (decide (c ∈ z.cps.toList)), M) := by
  unfold mIn inD
  simp
theorem notIn_sign {c : Nat} {z : Str} {M : Mem} : mNotIn (.str ⟨#[c]⟩) (.str z) M = some (.bl (!decide (c ∈ z.cps.toList)), M) := by
  unfold mNotIn inD
  simp
theorem in_letters {c : Nat} {M : Mem} : mIn (.str ⟨#[c]⟩) (.str (Str.ofString "abcdefghijklmnopqrstuvwxyz")) M = some (.bl (letter c), M) := by
  rw [in_sign, ← letters_mem]; rfl
theorem notIn_letters {c : Nat} {M : Mem} : mNotIn (.str ⟨#[c]⟩) (.str (Str.ofString "abcdefghijklmnopqrstuvwxyz")) M = some (.bl (!letter c), M) := by
  rw [notIn_sign, ← letters_mem]; rfl
theorem in_figs {c : Nat} {M : Mem} : mIn (.str ⟨#[c]⟩) (.str (Str.ofString "0123456789")) M = some (.bl (figure c), M) := by
  rw [in_sign, ← figs_mem]
theorem str_at0 {x : Str} {c : Nat} {r : List Nat} (h : x.cps.toList = c :: r) (hl : x.length ≤ 10000) (M : Mem) : mIdx (.str x) (.int 0) M = some (.str ⟨#[c]⟩, M) := by
  show (if x.length ≤ sizeLine then (atI x.cps.toList 0).map fun c => (D.str ⟨#[c]⟩, M) else none) = _
  rw [if_pos (by rw [sizeLine_eq]; omega), h, atI_0]
  rfl
end CM
end
section
set_option maxHeartbeats 4000000
namespace CM
open PySem PySem.Spec PyProof.Rows L2 TL TLQ RD
/-- a stand of a down -/
structure DSt where
  counts : List Int
  side : Nat
  thrown : Nat
  held : Int
def DSt.toD (s : DSt) : D := .tup [.tup (s.counts.map D.int), .int (s.side : Nat), .int (s.thrown : Nat), .int s.held]
theorem set_cut {α : Type} {xs : List α} {k : Nat} {y : α} (h : k < xs.length) : xs.take k ++ [y] ++ xs.drop (k + 1) = xs.set k y := by
  rw [List.set_eq_take_append_cons_drop, if_pos h]
  simp
/-- the parts of counts, put together with another one -/
structure Parts (cs : List Int) (k : Nat) (A B : List D) : Prop where
  lo : cutL (cs.map D.int) none (some (k : Int)) = A
  hi : cutL (cs.map D.int) (some ((k : Int) + 1)) none = B
  one : ∀ (c : Int) (M : Mem), mAdd (.tup A) (.tup [.int c]) M = some (.tup (A ++ [.int c]), M)
  two : ∀ (c : Int) (M : Mem), mAdd (.tup (A ++ [.int c])) (.tup B) M = some (.tup ((cs.set k c).map D.int), M)
theorem parts {cs : List Int} {k : Nat} (h : k < cs.length) (hl : cs.length ≤ 1000) : ∃ A B, Parts cs k A B := by
  refine ⟨(cs.take k).map D.int, (cs.drop (k + 1)).map D.int, ?_, ?_, fun c M => ?_, fun c M => ?_⟩
  · rw [cutL_to (by simp; omega), List.map_take]
  · rw [show ((k : Int) + 1) = ((k + 1 : Nat) : Int) from by simp, cutL_fr (by simp; omega), List.map_drop]
  · rw [mAdd_tup, if_pos (by rw [sizeLine_eq]; simp; omega)]
  · rw [mAdd_tup, if_pos (by rw [sizeLine_eq]; simp; omega)]
    have e3 : (cs.take k).map D.int ++ [D.int c] ++ (cs.drop (k + 1)).map D.int = (cs.set k c).map D.int := by
      rw [← set_cut h]
      simp
    rw [e3]
end CM
end
section
set_option maxHeartbeats 4000000
namespace CG
open PySem PySem.Spec PyProof.Rows L2 TL
open CM hiding b_l_alike m_l_alike b_l_unit m_l_unit g_l_unit b_l_rule m_l_rule b_l_any_rule m_l_any_rule unit_ok rule_step rule_ok any_rule
open CF
noncomputable section
def b_l_unit (r_l_unit : Fn) (r_l_rule : Fn) : MS := (sSeq (sAsg (gOne 3) (eBin mAdd (eC (.int 1)) (eCall m_l_draw (aCons (eVar 0) (aCons (eBin mIdx (eLst (aCons (eC (.int 3)) (aCons (eC (.int 5)) (aCons (eC (.int 99)) aNil)))) (eBin mFdiv (eCall m_l_draw (aCons (eVar 0) (aCons (eC (.int 20)) aNil))) (eC (.int 8)))) aNil)))))
    (sSeq (sAsg (gOne 4) (eBin mAdd (eC (.int 1)) (eCall m_l_draw (aCons (eVar 0) (aCons (eBin mIdx (eLst (aCons (eC (.int 2)) (aCons (eC (.int 3)) (aCons (eC (.int 99)) aNil)))) (eBin mFdiv (eCall m_l_draw (aCons (eVar 0) (aCons (eC (.int 20)) aNil))) (eC (.int 9)))) aNil)))))
    (sSeq (sAsg (gOne 5) (eC .non))
    (sSeq (sAsg (gOne 6) (eC .non))
    (sSeq (sIf (tB (eBin mEq (eCall m_l_draw (aCons (eVar 0) (aCons (eC (.int 2)) aNil))) (eC (.int 1)))) (sAsg (gOne 5) (eCallO nMin2 (aCons (eC (.int 99)) (aCons (eBin mAdd (eVar 3) (eCall m_l_draw (aCons (eVar 0) (aCons (eC (.int 4)) aNil)))) aNil)))) sNil)
    (sSeq (sAsg (gOne 7) (eCall r_l_rule (aCons (eVar 0) (aCons (eBin mSub (eVar 1) (eC (.int 1))) (aCons (eVar 2) aNil)))))
    (sSeq (sIf (tAnd (tB (eBin mIsNot (eVar 5) (eC .non))) (tB (eBin mGt (eCall m_l_draw (aCons (eVar 0) (aCons (eC (.int 3)) aNil))) (eC (.int 0))))) (sAsg (gOne 6) (eCall r_l_rule (aCons (eVar 0) (aCons (eCallO nMin2 (aCons (eBin mSub (eVar 1) (eC (.int 1))) (aCons (eVar 2) aNil))) (aCons (eVar 2) aNil))))) sNil)
    (sRet (eTup (aCons (eC (.str "unit")) (aCons (eVar 3) (aCons (eVar 4) (aCons (eVar 5) (aCons (eVar 7) (aCons (eVar 6) aNil)))))))))))))))
def b_l_rule (r_l_unit : Fn) (r_l_rule : Fn) : MS := (sSeq (sIf (tOr (tB (eBin mEq (eVar 1) (eC (.int 0)))) (tB (eBin mEq (eCall m_l_draw (aCons (eVar 0) (aCons (eC (.int 7)) aNil))) (eC (.int 6))))) (sRet (eTup (aCons (eC (.str "point")) aNil))) sNil)
    (sRet (eCall r_l_unit (aCons (eVar 0) (aCons (eVar 1) (aCons (eVar 2) aNil))))))
def g_l_unit : Nat → Fn × Fn
  | 0 => (noFn, noFn)
  | n + 1 => (fnD 3 8 (b_l_unit ((g_l_unit n).1) ((g_l_unit n).2)), fnD 3 3 (b_l_rule ((g_l_unit n).1) ((g_l_unit n).2)))
def m_l_unit (n : Nat) : Fn := (g_l_unit n).1
def m_l_rule (n : Nat) : Fn := (g_l_unit n).2
def b_l_any_rule : MS := (sSeq (sAsg (gOne 1) (eCall m_l_draw (aCons (eVar 0) (aCons (eC (.int 6)) aNil))))
    (sRet (eCall (m_l_rule 14) (aCons (eVar 0) (aCons (eBin mIdx (eLst (aCons (eC (.int 2)) (aCons (eC (.int 1)) (aCons (eC (.int 2)) (aCons (eC (.int 3)) (aCons (eC (.int 3)) (aCons (eC (.int 4)) aNil))))))) (eVar 1)) (aCons (eBin mIdx (eLst (aCons (eC (.int 3)) (aCons (eC (.int 3)) (aCons (eC (.int 3)) (aCons (eC (.int 3)) (aCons (eC (.int 1)) (aCons (eC (.int 1)) aNil))))))) (eVar 1)) aNil))))))
def m_l_any_rule : Fn := fnD 1 2 b_l_any_rule
def b_l_game : MS := (sSeq (sAsg (gOne 1) (eCall m_l_draw (aCons (eVar 0) (aCons (eC (.int 3)) aNil))))
    (sSeq (sIf (tB (eBin mEq (eVar 1) (eC (.int 0)))) (sRet (eTup (aCons (eC (.str "rally")) (aCons (eCall m_l_any_rule (aCons (eVar 0) aNil)) aNil)))) sNil)
    (sSeq (sIf (tB (eBin mEq (eVar 1) (eC (.int 1)))) (sRet (eTup (aCons (eC (.str "down")) (aCons (eCall m_l_down (aCons (eVar 0) aNil)) aNil)))) sNil)
    (sRet (eTup (aCons (eC (.str "lane")) (aCons (eCall m_l_lane (aCons (eVar 0) aNil)) aNil)))))))
def m_l_game : Fn := fnD 1 2 b_l_game
end
open RL RB TLQ RD
theorem unit_ok {ru rr : Fn} {deep : Nat} (ih : ∀ d ≤ deep, RuleOk rr d) : RuleOk (fnD 3 8 (b_l_unit ru rr)) (deep + 1) := CM.unit_ok (ru := ru) ih
theorem rule_step {ru rr : Fn} {deep : Nat} (ih : ∀ d, deep = d + 1 → RuleOk ru deep) : RuleOk (fnD 3 3 (b_l_rule ru rr)) deep := by
  intro M t thin T
  show Ret (endS (b_l_rule ru rr [some (.ref t), some (.int (deep : Nat)), some (.int (thin : Nat))] M)) _
  unfold b_l_rule
  cases deep with
  | zero =>
    simp
    exact .ok ⟨.point, rfl, trivial, Nat.le_refl _, Nat.zero_le _, .refl T⟩
  | succ deep =>
    have ne : ¬ ((deep : Int) + 1 = 0) := by omega
    simp [ne]
    refine Ret.bindQ (draw T (by decide) (by decide)) ?_
    rintro _ M1 ⟨r1, rfl, h0, h1, A1⟩
    by_cases c : r1 = 6
    · simp [c]
      exact .ok ⟨.point, rfl, trivial, Nat.zero_le _, Nat.zero_le _, A1⟩
    · simp [c]
      obtain ⟨d, M2, e, r, h1, h2, h3, h4, A2⟩ := ih deep rfl M1 t thin A1.tape
      rw [show ((deep + 1 : Nat) : Int) = (deep : Int) + 1 from by omega] at e
      rw [e]
      simp
      exact .ok ⟨r, h1, h2, h3, h4, A1.trans A2⟩
theorem rule_ok : ∀ (n deep : Nat), 2 * deep + 1 ≤ n → RuleOk (m_l_rule n) deep
  | 0, deep, h => by omega
  | n + 1, deep, h => by
    refine rule_step fun d hd => ?_
    match n, h with
    | 0, h => omega
    | n + 1, h =>
      subst hd
      exact unit_ok fun d' hd' => rule_ok n d' (by omega)
theorem any_rule {M : Mem} {t : Nat} (T : Tape M t) : Ret (m_l_any_rule [.ref t] M) (AnyRuleQ t M) := by
  show Ret (endS (b_l_any_rule [some (.ref t), none] M)) _
  unfold b_l_any_rule
  simp
  refine Ret.bindQ (draw T (by decide) (by decide)) ?_
  rintro _ M1 ⟨r1, rfl, h0, h1, A1⟩
  obtain ⟨dp, th, e1, e2, hdp, hub⟩ : ∃ dp th : Nat, atI [D.int 2, D.int 1, D.int 2, D.int 3, D.int 3, D.int 4] r1 = some (.int dp) ∧ atI [D.int 3, D.int 3, D.int 3, D.int 3, D.int 1, D.int 1] r1 = some (.int th) ∧ dp ≤ 4 ∧ ub dp th ≤ 7 := by
    rcases (show r1 = 0 ∨ r1 = 1 ∨ r1 = 2 ∨ r1 = 3 ∨ r1 = 4 ∨ r1 = 5 by omega) with rfl | rfl | rfl | rfl | rfl | rfl
    · exact ⟨2, 3, by simp, by simp, by decide, by simp [ub]⟩
    · exact ⟨1, 3, by simp, by simp, by decide, by simp [ub]⟩
    · exact ⟨2, 3, by simp, by simp, by decide, by simp [ub]⟩
    · exact ⟨3, 3, by simp, by simp, by decide, by simp [ub]⟩
    · exact ⟨3, 1, by simp, by simp, by decide, by simp [ub]⟩
    · exact ⟨4, 1, by simp, by simp, by decide, by simp [ub]⟩
  simp [seqAt, e1, e2]
  refine Ret.bindQ (rule_ok 14 dp (by omega) _ t th (A1.tape.keep (Keep.more _ _))) ?_
  rintro _ M2 ⟨r, rfl, g1, g2, g3, A2⟩
  exact .ok ⟨r, rfl, g1, by omega, by omega, A1.trans ((Adv.of A1.tape (Keep.more _ _)).trans A2)⟩
inductive Gm where
  | rally (r : Rule)
  | down (w : Down)
  | lane (k : Nat) (P : Int) (n : Nat)
def Gm.toD : Gm → D
  | .rally r => .tup [.str (Str.ofString "rally"), r.toD]
  | .down w => .tup [.str (Str.ofString "down"), w.toD]
  | .lane k P n => .tup [.str (Str.ofString "lane"), laneD k P n]
def Gm.Ok : Gm → Prop
  | .rally r => r.good ∧ r.depth ≤ 4
  | .down w => DownOk w
  | .lane k P n => Lane k P n
def tS (i : Int) : Str := Str.ofString (toString i)
def SmI (i : Int) : Prop := i.natAbs < 10 ^ 60
theorem nS {i : Int} (h : SmI i) (M : Mem) : nStr [.int i] M = some (.str (tS i), M) := by
  rw [nStr_int, if_pos]
  · rfl
  · by_cases z : i.natAbs = 0
    · rw [z]; decide
    · exact Nat.lt_trans ((Nat.log2_lt z).mpr (Nat.lt_trans h (by decide : 10 ^ 60 < 2 ^ 200))) (by decide)
def WonOk (won : Option (List Int)) : Prop := ∀ bs, won = some bs → bs.length ≤ 100 ∧ ∀ i ∈ bs, SmI i
theorem ints_comp {i : Nat} {bs : List Int} {env : TL.Env} {M : Mem} (hi : i < env.length) (hl : bs.length ≤ 1000) (hb : ∀ b ∈ bs, SmI b) :
    Ret (compL (fun _ => True) i tYesD (eCallO nStr (aCons (eVar i) aNil)) M.length env (bs.map D.int) (M ++ [.lst []])) (fun _ M1 => Keep M M1 ∧ M1[M.length]? = some (.lst ((bs.map tS).map D.str))) := by
  refine Ret.comp (fun d => match d with | .int b => .str (tS b) | _ => .non) (fun _ _ => trivial) (by rw [List.length_map]; omega) (fun d hd M' k => ?_) fun M2 k a => ⟨k, ?_⟩
  · obtain ⟨b, hb', rfl⟩ := List.mem_map.mp hd
    have e : (env.set i (some (.int b)))[i]? = some (some (.int b)) := List.getElem?_set_self hi
    generalize env.set i (some (.int b)) = env' at *
    simp [-nStr_int, e, nS (hb b hb')]
    exact TL.Ret.ok (P := TL.Gives M' _) ⟨rfl, Keep.refl _⟩
  · rw [a, List.map_map, List.map_map]
    rfl
def SmS : Stand → Prop
  | .nil => True
  | .st z o w => SmI z ∧ SmI o ∧ SmS w
def pairW (z o : Int) : Str := tS z ++ Str.ofString "-" ++ tS o
def wordsS : Stand → List Str
  | .nil => []
  | .st z o w => pairW z o :: wordsS w
def WInv (s : Stand) (M0 : Mem) : Nat → TL.Env → Mem → Prop := fun m env M => ∃ (w : Stand) (acc : List Str), env = [some w.toD, some (.ref M0.length)] ∧ m = w.depth ∧ SmS w ∧ acc.length + w.depth ≤ 60 ∧ Keep M0 M ∧ M[M0.length]? = some (.lst (acc.map D.str)) ∧ acc ++ wordsS w = wordsS s
structure ROk (r : Rule) (s : Stand) (won : Option (List Int)) : Prop where
  d : r.depth ≤ 4
  f : Fits r s
  p : r = .point ↔ s = .nil
  m : SmS s
  w : WonOk won
  e : won.isSome = true → s.depth ≤ 1
def SB (B : Int) : Stand → Prop
  | .nil => True
  | .st z o w => (0 ≤ z ∧ z ≤ B) ∧ (0 ≤ o ∧ o ≤ B) ∧ SB B w
theorem SB.le {B C : Int} (h : B ≤ C) : ∀ {s : Stand}, SB B s → SB C s
  | .nil, _ => trivial
  | .st z o w, ⟨h1, h2, h3⟩ => ⟨⟨h1.1, by omega⟩, ⟨h2.1, by omega⟩, SB.le h h3⟩
theorem open_nil {r : Rule} {s : Stand} (h : Open r s) : r = .point ↔ s = .nil := by
  cases s with
  | nil => exact ⟨fun _ => rfl, fun _ => h⟩
  | st z o w => exact ⟨fun e => absurd e h.1, fun e => by cases e⟩
def RGo (r : Rule) (B : Int) (s : Stand) (won : Option (List Int)) : Prop := ROk r s won ∧ SB B s ∧ (won = none → Open r s)
theorem RGo.le {r : Rule} {B C : Int} {s : Stand} {won : Option (List Int)} (h : B ≤ C) (g : RGo r B s won) : RGo r C s won := ⟨g.1, SB.le h g.2.1, g.2.2⟩
structure RowB (B : Int) (r : LRow) : Prop where
  n : 0 ≤ r.near ∧ r.near ≤ 2
  f : 0 ≤ r.far ∧ r.far ≤ 1
  t : 0 ≤ r.total ∧ r.total ≤ B
theorem RowB.le {B C : Int} (h : B ≤ C) {r : LRow} (g : RowB B r) : RowB C r := ⟨g.n, g.f, g.t.1, by have := g.t.2; omega⟩
structure LGo (k : Nat) (P : Int) (B : Int) (rows : List LRow) (side : Nat) (won : Option (List Int)) : Prop where
  l : rows.length = k
  s : side < k
  u : ∀ r ∈ rows, UpOk P r
  b : ∀ r ∈ rows, RowB B r
  v : WonOk won
theorem LGo.le {k : Nat} {P B C : Int} {rows : List LRow} {side : Nat} {won : Option (List Int)} (h : B ≤ C) (g : LGo k P B rows side won) : LGo k P C rows side won := ⟨g.l, g.s, g.u, fun r hr => (g.b r hr).le h, g.v⟩
end CG
end
section
set_option maxHeartbeats 4000000
namespace CW
open PySem PySem.Spec PyProof.Rows L2 TL CM
noncomputable section
def b_words_of (r_words_of : Fn) : MS := (sSeq (sIf (tB (eBin mEq (eVar 0) (eC (.tup [(.str "point")])))) (sRet (eLst (aCons (eC (.str "point")) aNil))) sNil)
    (sSeq (sAsg (gOne 1) (eLst (aCons (eC (.str "unit")) (aCons (eCallO nStr (aCons (eBin mIdx (eVar 0) (eC (.int 1))) aNil)) (aCons (eCallO nStr (aCons (eBin mIdx (eVar 0) (eC (.int 2))) aNil)) aNil)))))
    (sSeq (sExpr (eMeth "list" mAppend (eVar 1) (aCons (eIf (tB (eBin mIs (eBin mIdx (eVar 0) (eC (.int 3))) (eC .non))) (eC (.str "-")) (eCallO nStr (aCons (eBin mIdx (eVar 0) (eC (.int 3))) aNil))) aNil)))
    (sSeq (sExpr (eMeth "list" mExtend (eVar 1) (aCons (eCall r_words_of (aCons (eBin mIdx (eVar 0) (eC (.int 4))) aNil)) aNil)))
    (sSeq (sExpr (eMeth "list" mExtend (eVar 1) (aCons (eIf (tB (eBin mIs (eBin mIdx (eVar 0) (eC (.int 5))) (eC .non))) (eLst (aCons (eC (.str "-")) aNil)) (eCall r_words_of (aCons (eBin mIdx (eVar 0) (eC (.int 5))) aNil))) aNil)))
    (sRet (eVar 1)))))))
def m_words_of : Nat → Fn
  | 0 => noFn
  | n + 1 => fnD 1 2 (b_words_of (m_words_of n))
def b_show_rule : MS := (sRet (eMeth "str" mJoin (eC (.str " ")) (aCons (eCall (m_words_of 14) (aCons (eVar 0) aNil)) aNil)))
def m_show_rule : Fn := fnD 1 1 b_show_rule
def lp_count_of_0 : MS := (sSeq (sIf (tB (eBin mNotIn (eVar 2) (eC (.str "0123456789")))) (sRet (eC .non)) sNil)
    (sAsg (gOne 1) (eBin mAdd (eBin mMul (eC (.int 10)) (eVar 1)) (eMeth "str" mSIndex (eC (.str "0123456789")) (aCons (eVar 2) aNil)))))
def b_count_of : MS := (sSeq (sIf (tOr (tB (eBin mLt (eCallO nLen (aCons (eVar 0) aNil)) (eC (.int 1)))) (tOr (tB (eBin mGt (eCallO nLen (aCons (eVar 0) aNil)) (eC (.int 2)))) (tB (eBin mEq (eBin mIdx (eVar 0) (eC (.int 0))) (eC (.str "0")))))) (sRet (eC .non)) sNil)
    (sSeq (sAsg (gOne 1) (eC (.int 0)))
    (sSeq (sFor (iAny (eVar 0)) (gOne 2) lp_count_of_0)
    (sRet (eVar 1)))))
def m_count_of : Fn := fnD 1 3 b_count_of
def b_Reader_new : MS := (sSeq (sFldD "Reader" "words" (eVar 0) (eVar 1))
    (sSeq (sFldD "Reader" "at" (eVar 0) (eC (.int 0)))
    (sFldD "Reader" "many" (eVar 0) (eC (.int 0)))))
def m_Reader_new : Fn := fnD 2 2 b_Reader_new
def b_Reader_word : MS := (sSeq (sIf (tB (eBin mEq (eFld "Reader" "at" (eVar 0)) (eCallO nLen (aCons (eFld "Reader" "words" (eVar 0)) aNil)))) sStk sNil)
    (sRet (eBin mIdx (eFld "Reader" "words" (eVar 0)) (eFld "Reader" "at" (eVar 0)))))
def m_Reader_word : Fn := fnD 1 1 b_Reader_word
def b_Reader_count : MS := (sSeq (sAsg (gOne 2) (eCall m_count_of (aCons (eMeM "Reader" "word" [] m_Reader_word (eVar 0) aNil) aNil)))
    (sSeq (sIf (tOr (tB (eBin mIs (eVar 2) (eC .non))) (tOr (tB (eBin mLt (eVar 2) (eVar 1))) (tB (eBin mGt (eVar 2) (eC (.int 99)))))) sStk sNil)
    (sSeq (sFldD "Reader" "at" (eVar 0) (eBin mAdd (eFld "Reader" "at" (eVar 0)) (eC (.int 1))))
    (sRet (eVar 2)))))
def m_Reader_count : Fn := fnD 2 3 b_Reader_count
def b_Reader_is_dash : MS := (sSeq (sIf (tB (eBin mNe (eMeM "Reader" "word" [] m_Reader_word (eVar 0) aNil) (eC (.str "-")))) (sRet (eC (.bl false))) sNil)
    (sSeq (sFldD "Reader" "at" (eVar 0) (eBin mAdd (eFld "Reader" "at" (eVar 0)) (eC (.int 1))))
    (sRet (eC (.bl true)))))
def m_Reader_is_dash : Fn := fnD 1 1 b_Reader_is_dash
def b_Reader_rule (r_Reader_rule : Fn) (r_Reader_last : Fn) : MS := (sSeq (sAsg (gOne 2) (eMeM "Reader" "word" [] m_Reader_word (eVar 0) aNil))
    (sSeq (sIf (tB (eBin mEq (eVar 2) (eC (.str "point")))) (sSeq (sFldD "Reader" "at" (eVar 0) (eBin mAdd (eFld "Reader" "at" (eVar 0)) (eC (.int 1))))
    (sRet (eC (.tup [(.str "point")])))) sNil)
    (sSeq (sIf (tOr (tB (eBin mNe (eVar 2) (eC (.str "unit")))) (tOr (tB (eBin mEq (eVar 1) (eC (.int 4)))) (tB (eBin mEq (eFld "Reader" "many" (eVar 0)) (eC (.int 10)))))) sStk sNil)
    (sSeq (sFldD "Reader" "at" (eVar 0) (eBin mAdd (eFld "Reader" "at" (eVar 0)) (eC (.int 1))))
    (sSeq (sFldD "Reader" "many" (eVar 0) (eBin mAdd (eFld "Reader" "many" (eVar 0)) (eC (.int 1))))
    (sSeq (sAsg (gOne 3) (eMeM "Reader" "count" [] m_Reader_count (eVar 0) (aCons (eC (.int 1)) aNil)))
    (sSeq (sAsg (gOne 4) (eMeM "Reader" "count" [] m_Reader_count (eVar 0) (aCons (eC (.int 1)) aNil)))
    (sSeq (sAsg (gOne 5) (eIf (tTru (eMeM "Reader" "is_dash" [] m_Reader_is_dash (eVar 0) aNil)) (eC .non) (eMeM "Reader" "count" [] m_Reader_count (eVar 0) (aCons (eVar 3) aNil))))
    (sSeq (sAsg (gOne 6) (eMeM "Reader" "rule" [] r_Reader_rule (eVar 0) (aCons (eBin mAdd (eVar 1) (eC (.int 1))) aNil)))
    (sRet (eTup (aCons (eC (.str "unit")) (aCons (eVar 3) (aCons (eVar 4) (aCons (eVar 5) (aCons (eVar 6) (aCons (eMeM "Reader" "last" [] r_Reader_last (eVar 0) (aCons (eVar 5) (aCons (eBin mAdd (eVar 1) (eC (.int 1))) aNil))) aNil)))))))))))))))))
def b_Reader_last (r_Reader_rule : Fn) (r_Reader_last : Fn) : MS := (sSeq (sIf (tTru (eMeM "Reader" "is_dash" [] m_Reader_is_dash (eVar 0) aNil)) (sRet (eC .non)) sNil)
    (sSeq (sIf (tB (eBin mIs (eVar 1) (eC .non))) sStk sNil)
    (sRet (eMeM "Reader" "rule" [] r_Reader_rule (eVar 0) (aCons (eVar 2) aNil)))))
def g_Reader_rule : Nat → Fn × Fn
  | 0 => (noFn, noFn)
  | n + 1 => (fnD 2 7 (b_Reader_rule ((g_Reader_rule n).1) ((g_Reader_rule n).2)), fnD 3 3 (b_Reader_last ((g_Reader_rule n).1) ((g_Reader_rule n).2)))
def m_Reader_rule (n : Nat) : Fn := (g_Reader_rule n).1
def m_Reader_last (n : Nat) : Fn := (g_Reader_rule n).2
def b_read_rule : MS := (sSeq (sAsg (gOne 1) (eMake "Reader" [] m_Reader_new (aCons (eMeth "str" mSplit (eVar 0) (aCons (eC (.str " ")) aNil)) aNil)))
    (sSeq (sAsg (gOne 2) (eMeM "Reader" "rule" [] (m_Reader_rule 14) (eVar 1) (aCons (eC (.int 0)) aNil)))
    (sSeq (sIf (tB (eBin mLt (eFld "Reader" "at" (eVar 1)) (eCallO nLen (aCons (eFld "Reader" "words" (eVar 1)) aNil)))) sStk sNil)
    (sRet (eVar 2)))))
def m_read_rule : Fn := fnD 1 3 b_read_rule
end
open RL TLQ
/-- a number's text -/
def nW (i : Int) : Str := Str.ofString (toString i)
abbrev tlS (x : Str) : List Nat := x.cps.toList
theorem nW_one {n : Nat} (h : n < 10) : tlS (nW (n : Nat)) = [48 + n] := by
  have := tl_num n
  rw [numL_lt h] at this
  exact this
theorem nW_two {n : Nat} (h : 10 ≤ n) (h2 : n < 100) : tlS (nW (n : Nat)) = [48 + n / 10, 48 + n % 10] := by
  have := tl_num n
  rw [numL_step h, numL_lt (by omega)] at this
  exact this
theorem nStr_nW {i : Int} (h0 : 0 ≤ i) (h1 : i ≤ 1000000) (M : Mem) : nStr [.int i] M = some (.str (nW i), M) := by
  rw [nStr_int, if_pos]
  · rfl
  · by_cases z : i.natAbs = 0
    · rw [z]; decide
    · exact Nat.lt_trans ((Nat.log2_lt z).mpr (show i.natAbs < 2 ^ 20 by omega)) (by decide)
theorem fig_index {d : Nat} (h : d < 10) (M : Mem) : mSIndex (.str (Str.ofString "0123456789")) [.str ⟨#[48 + d]⟩] M = some (.int (d : Nat), M) := by
  have all : (List.range 10).all (fun d => decide (Builtin.Str.occurrences (Str.ofString "0123456789") ⟨#[48 + d]⟩ 0 (Str.ofString "0123456789").length 1 = [d])) = true := by decide +kernel
  have e := of_decide_eq_true (List.all_eq_true.mp all d (List.mem_range.mpr h))
  simp only [mSIndex, e]
theorem fig_in {d : Nat} (h : d < 10) (M : Mem) : mNotIn (.str ⟨#[48 + d]⟩) (.str (Str.ofString "0123456789")) M = some (.bl false, M) := by
  have e : inD M (.str ⟨#[48 + d]⟩) (.str (Str.ofString "0123456789")) = some true := by
    have all : (List.range 10).all (fun d => decide (48 + d ∈ (Str.ofString "0123456789").cps.toList)) = true := by decide +kernel
    have e := of_decide_eq_true (List.all_eq_true.mp all d (List.mem_range.mpr h))
    simp only [inD]
    rw [dif_pos (by rfl)]
    exact congrArg some (decide_eq_true e)
  unfold mNotIn
  rw [e]; rfl
theorem str_tl {x : Str} {l : List Nat} (h : tlS x = l) : x = ⟨l.toArray⟩ := by
  cases x with | mk c => cases c with | mk l' => simpa using h
theorem mIdx0 {x : Str} {c : Nat} {r : List Nat} (h : tlS x = c :: r) (hl : r.length ≤ 1000) (M : Mem) : mIdx (.str x) (.int 0) M = some (.str ⟨#[c]⟩, M) := by
  have l : x.length = r.length + 1 := by
    show x.cps.size = _
    rw [← Array.length_toList, show x.cps.toList = c :: r from h]; rfl
  show (if x.length ≤ sizeLine then (atI x.cps.toList 0).map fun c => (D.str ⟨#[c]⟩, M) else none) = _
  rw [if_pos (by rw [sizeLine_eq]; omega), show x.cps.toList = c :: r from h, atI_0]
  rfl
theorem one_ne {d : Nat} (h : d ≠ 0) (M : Mem) : mEq (.str ⟨#[48 + d]⟩) (.str (Str.ofString "0")) M = some (.bl false, M) := by
  have ne : (⟨#[48 + d]⟩ : Str) ≠ Str.ofString "0" := by
    intro e
    have := congrArg tlS e
    have z : tlS (Str.ofString "0") = [48] := by decide +kernel
    rw [z] at this
    simp [tlS] at this
    exact h this
  have e := mEq_text (M := M) (x := (⟨#[48 + d]⟩ : Str)) (y := Str.ofString "0")
  rw [e, decide_eq_false ne]
theorem count_of_ok {n : Nat} (h0 : 1 ≤ n) (h1 : n ≤ 99) (M : Mem) : m_count_of [.str (nW (n : Nat))] M = .ok (.int (n : Nat)) M := by
  show endS (b_count_of [some (.str (nW (n : Nat))), none, none] M) = _
  unfold b_count_of
  by_cases c : n < 10
  · have t := nW_one c
    generalize nW (n : Nat) = x at t
    have l : x.length = 1 := by show x.cps.size = _; rw [← Array.length_toList, show x.cps.toList = _ from t]; rfl
    have i0 := mIdx0 t (by simp) M
    have n0 := one_ne (d := n) (by omega) M
    have it : strItems x = [.str ⟨#[48 + n]⟩] := by unfold strItems; rw [show x.cps.toList = _ from t]; rfl
    have g1 := fig_in c M
    have g2 := fig_index c M
    simp [l, i0, n0, it, forL_cons, forL_nil, lp_count_of_0, g1, g2]
  · have t := nW_two (n := n) (by omega) (by omega)
    generalize nW (n : Nat) = x at t
    have l : x.length = 2 := by show x.cps.size = _; rw [← Array.length_toList, show x.cps.toList = _ from t]; rfl
    have i0 := mIdx0 t (by simp) M
    have n0 := one_ne (d := n / 10) (by omega) M
    have it : strItems x = [.str ⟨#[48 + n / 10]⟩, .str ⟨#[48 + n % 10]⟩] := by unfold strItems; rw [show x.cps.toList = _ from t]; rfl
    have g1 := fig_in (d := n / 10) (by omega) M
    have g2 := fig_index (d := n / 10) (by omega) M
    have g3 := fig_in (d := n % 10) (by omega) M
    have g4 := fig_index (d := n % 10) (by omega) M
    simp [l, i0, n0, it, forL_cons, forL_nil, lp_count_of_0, g1, g2, g3, g4]
    omega
def capW : Option Int → Str
  | none => Str.ofString "-"
  | some c => nW c
def rw : Rule → List Str
  | .point => [Str.ofString "point"]
  | .unit to lead cap inner => [Str.ofString "unit", nW to, nW lead, capW cap] ++ rw inner ++ [Str.ofString "-"]
  | .unitL to lead cap inner last => [Str.ofString "unit", nW to, nW lead, nW cap] ++ rw inner ++ rw last
def lw : Option Rule → List Str
  | none => [Str.ofString "-"]
  | some l => rw l
theorem rw_unit {r : Rule} (h : r ≠ .point) : rw r = [Str.ofString "unit", nW r.to, nW r.lead, capW r.cap] ++ rw r.inner ++ lw r.last := by
  cases r with
  | point => exact absurd rfl h
  | unit => rfl
  | unitL => rfl
theorem rw_len : ∀ r : Rule, 1 ≤ (rw r).length ∧ (rw r).length ≤ 6 * r.units + 1
  | .point => ⟨Nat.le_refl _, Nat.le_refl _⟩
  | .unit to lead cap inner => by
    have := rw_len inner
    simp only [rw, List.length_append, List.length_cons, List.length_nil, Rule.units]
    omega
  | .unitL to lead cap inner last => by
    have := rw_len inner
    have := rw_len last
    simp only [rw, List.length_append, List.length_cons, List.length_nil, Rule.units]
    omega
/-- a word of a rule -/
structure Wd (x : Str) : Prop where
  len : x.length ≤ 5
  free : 32 ∉ tlS x
theorem wd_dash : Wd (Str.ofString "-") := ⟨by decide +kernel, by decide +kernel⟩
theorem wd_point : Wd (Str.ofString "point") := ⟨by decide +kernel, by decide +kernel⟩
theorem wd_unit : Wd (Str.ofString "unit") := ⟨by decide +kernel, by decide +kernel⟩
theorem wd_num {i : Int} (h0 : 1 ≤ i) (h1 : i ≤ 99) : Wd (nW i) := by
  obtain ⟨n, rfl⟩ : ∃ n : Nat, i = (n : Int) := ⟨i.toNat, by omega⟩
  have ln : (nW (n : Nat)).length = (tlS (nW (n : Nat))).length := by show (nW (n : Nat)).cps.size = _; simp [tlS]
  by_cases c : n < 10
  · have t := nW_one c
    exact ⟨by rw [ln, t]; simp, by rw [t]; simp; omega⟩
  · have t := nW_two (n := n) (by omega) (by omega)
    exact ⟨by rw [ln, t]; simp, by rw [t]; simp; omega⟩
theorem rw_wd : ∀ r : Rule, r.good → ∀ x ∈ rw r, Wd x
  | .point, _, x, h => by cases List.mem_singleton.mp h; exact wd_point
  | .unit to lead cap inner, h, x, hx => by
    obtain ⟨h1, h2, h3, h4, h5, h6⟩ := h
    have c : Wd (capW cap) := by
      cases cap with
      | none => exact wd_dash
      | some c => have := h5 c rfl; exact wd_num (by omega) (by omega)
    simp only [rw, List.mem_append, List.mem_cons, List.not_mem_nil, or_false] at hx
    rcases hx with (hx | hx) | hx
    · rcases hx with rfl | rfl | rfl | rfl
      · exact wd_unit
      · exact wd_num h1 h2
      · exact wd_num h3 h4
      · exact c
    · exact rw_wd inner h6 x hx
    · subst hx; exact wd_dash
  | .unitL to lead cap inner last, h, x, hx => by
    obtain ⟨h1, h2, h3, h4, h5, h6, h7, h8⟩ := h
    simp only [rw, List.mem_append, List.mem_cons, List.not_mem_nil, or_false] at hx
    rcases hx with (hx | hx) | hx
    · rcases hx with rfl | rfl | rfl | rfl
      · exact wd_unit
      · exact wd_num h1 h2
      · exact wd_num h3 h4
      · exact wd_num (by omega) (by omega)
    · exact rw_wd inner h7 x hx
    · exact rw_wd last h8 x hx
def NewL (M : Mem) (ws : List Str) (d : D) (M' : Mem) : Prop := ∃ k, d = .ref k ∧ M.length ≤ k ∧ Keep M M' ∧ M'[k]? = some (.lst (ws.map D.str))
theorem good_nums {r : Rule} (h : r.good) (hp : r ≠ .point) : 1 ≤ r.to ∧ r.to ≤ 99 ∧ 1 ≤ r.lead ∧ r.lead ≤ 99 ∧ (∀ c, r.cap = some c → r.to ≤ c ∧ c ≤ 99) ∧ r.inner.good ∧ (∀ l, r.last = some l → l.good) := by
  cases r with
  | point => exact absurd rfl hp
  | unit to lead cap inner =>
    obtain ⟨h1, h2, h3, h4, h5, h6⟩ := h
    exact ⟨h1, h2, h3, h4, h5, h6, fun l e => by cases e⟩
  | unitL to lead cap inner last =>
    obtain ⟨h1, h2, h3, h4, h5, h6, h7, h8⟩ := h
    exact ⟨h1, h2, h3, h4, fun c e => by cases e; exact ⟨h5, h6⟩, h7, fun l e => by cases e; exact h8⟩
theorem parts_units {r : Rule} (hp : r ≠ .point) : r.inner.units < r.units ∧ (∀ l, r.last = some l → r.inner.units + l.units + 1 = r.units) ∧ (r.last = none → r.inner.units + 1 = r.units) := by
  cases r with
  | point => exact absurd rfl hp
  | unit to lead cap inner => exact ⟨by simp [Rule.units, Rule.inner], fun l e => (by cases e), fun _ => rfl⟩
  | unitL to lead cap inner last => exact ⟨by simp [Rule.units, Rule.inner]; omega, fun l e => (by cases e; rfl), fun e => (by cases e)⟩
theorem parts_depth {r : Rule} (hp : r ≠ .point) : r.inner.depth + 1 ≤ r.depth ∧ (∀ l, r.last = some l → l.depth + 1 ≤ r.depth) := by
  cases r with
  | point => exact absurd rfl hp
  | unit to lead cap inner => exact ⟨Nat.le_refl _, fun l e => by cases e⟩
  | unitL to lead cap inner last => exact ⟨by simp only [Rule.depth, Rule.inner]; omega, fun l e => by cases e; simp only [Rule.depth]; omega⟩
theorem words_of_ok : ∀ (n : Nat) (r : Rule) (M : Mem), r.depth < n → r.depth ≤ 60 → r.units ≤ 1000 → r.good → Ret (m_words_of n [r.toD] M) (NewL M (rw r))
  | 0, _, _, h, _, _, _ => by omega
  | n + 1, r, M, h, h6, hu, hg => by
    show Ret (endS (b_words_of (m_words_of n) [some r.toD, none] M)) _
    unfold b_words_of
    have ep : mEq r.toD (.tup [.str (Str.ofString "point")]) M = some (.bl (decide (r = .point)), M) := mEq_point h6
    by_cases hp : r = .point
    · subst hp
      simp only [decide_true] at ep
      simp [ep]
      exact TL.Ret.ok (P := NewL M _) ⟨M.length, rfl, Nat.le_refl _, Keep.more _ _, at_len _ _⟩
    · simp only [hp, decide_false] at ep
      obtain ⟨g1, g2, g3, g4, g5, g6, g7⟩ := good_nums hg hp
      obtain ⟨p1, p2⟩ := parts_depth hp
      obtain ⟨q1, q2, q3⟩ := parts_units hp
      have hi := rw_len r.inner
      have s1 := nStr_nW (i := r.to) (by omega) (by omega)
      have s2 := nStr_nW (i := r.lead) (by omega) (by omega)
      have ec : ∀ (i : Decidable (r.cap = none)) (M' : Mem), @ite (Out D) (r.cap = none) i (Out.ok (D.str (Str.ofString "-")) M') (liftO (nStr [capD r.cap] M')) = .ok (.str (capW r.cap)) M' := by
        intro i M'
        by_cases hc : r.cap = none
        · rw [if_pos hc, hc]; rfl
        · obtain ⟨c, hc'⟩ := Option.ne_none_iff_exists'.mp hc
          have := g5 c hc'
          have s3 := nStr_nW (i := c) (by omega) (by omega) M'
          rw [if_neg hc, hc']
          simp [-nStr_int, capD, capW, s3]
      rw [toD_unit hp] at ep ⊢
      have sq0 : seqAt (M ++ [MO.lst [.str (Str.ofString "unit"), .str (nW r.to), .str (nW r.lead)]]) M.length = some [.str (Str.ofString "unit"), .str (nW r.to), .str (nW r.lead)] := seqAt_lst (at_len _ _)
      obtain ⟨L4, hL4⟩ : ∃ L : List D, L = [.str (Str.ofString "unit"), .str (nW r.to), .str (nW r.lead), .str (capW r.cap)] := ⟨_, rfl⟩
      have hL4' : L4 = ([Str.ofString "unit", nW r.to, nW r.lead, capW r.cap]).map D.str := hL4
      have len4 : L4.length = 4 := by rw [hL4]; rfl
      have sq1 : seqAt (M ++ [MO.lst L4]) M.length = some L4 := seqAt_lst (at_len _ _)
      have ap : mAppend (.ref M.length) [.str (capW r.cap)] (M ++ [.lst [.str (Str.ofString "unit"), .str (nW r.to), .str (nW r.lead)]]) = some (.non, M ++ [.lst L4]) := by
        rw [mAppend_ok (at_len _ _) (by simp), hL4]
        simp
      simp [-nStr_int, ep, s1, s2, sq0, ec, ap, sq1]
      refine Ret.bindQ (words_of_ok n r.inner (M ++ [.lst L4]) (by omega) (by omega) (by omega) g6) ?_
      rintro _ M1 ⟨k, rfl, hk, k1, a1⟩
      have b1 := k1.at (n := M.length) (at_len M (.lst L4))
      rw [List.length_append, List.length_cons, List.length_nil] at hk
      have ex1 := mExtend_ok b1 a1 (by rw [List.length_map]; omega)
      have lt1 := lt_of_at b1
      have c1 : (M1.set M.length (.lst (L4 ++ (rw r.inner).map D.str)))[M.length]? = some (.lst (L4 ++ (rw r.inner).map D.str)) := List.getElem?_set_self lt1
      have k2 : Keep M (M1.set M.length (.lst (L4 ++ (rw r.inner).map D.str))) := ((Keep.more M _).trans k1).setNew (Nat.le_refl _)
      generalize M1.set M.length (.lst (L4 ++ (rw r.inner).map D.str)) = M2 at *
      have sq2 := seqAt_lst c1
      have fin : rw r = ([Str.ofString "unit", nW r.to, nW r.lead, capW r.cap] ++ rw r.inner) ++ lw r.last := rw_unit hp
      simp [ex1, sq2]
      cases hl : r.last with
      | none =>
        have ex2 := mExtend_ok (M := M2 ++ [.lst [.str (Str.ofString "-")]]) (n := M.length) (m := M2.length) ((Keep.more _ _).at c1) (at_len _ _) (by rw [List.length_append, len4, List.length_map]; simp; omega)
        have lt2 := lt_of_at ((Keep.more M2 [.lst [.str (Str.ofString "-")]]).at c1)
        simp [-List.append_assoc, lastD, ex2]
        refine TL.Ret.ok (P := NewL M _) ⟨M.length, rfl, Nat.le_refl _, (k2.trans (Keep.more _ _)).setNew (Nat.le_refl _), ?_⟩
        rw [List.getElem?_set_self lt2, fin, hl, hL4']
        simp [lw]
      | some l =>
        have hu2 := q2 l hl
        have hd2 := p2 l hl
        have nn : isNon l.toD = false := isNon_toD
        simp [lastD, nn]
        refine Ret.bindQ (words_of_ok n l M2 (by omega) (by omega) (by omega) (g7 l hl)) ?_
        rintro _ M3 ⟨k', rfl, hk', k3, a3⟩
        have hl2 := rw_len l
        have ex2 := mExtend_ok (k3.at c1) a3 (by rw [List.length_append, len4, List.length_map, List.length_map]; omega)
        have lt2 := lt_of_at (k3.at c1)
        simp [-List.append_assoc, ex2]
        refine TL.Ret.ok (P := NewL M _) ⟨M.length, rfl, Nat.le_refl _, (k2.trans k3).setNew (Nat.le_refl _), ?_⟩
        rw [List.getElem?_set_self lt2, fin, hl, hL4']
        simp [lw]
theorem sum_le' : ∀ {ws : List Str}, (∀ x ∈ ws, Wd x) → (ws.map (·.length)).sum ≤ 5 * ws.length
  | [], _ => Nat.le_refl _
  | x :: ws, h => by
    have := sum_le' (ws := ws) fun y hy => h y (List.mem_cons_of_mem _ hy)
    have := (h x List.mem_cons_self).len
    rw [List.map_cons, List.sum_cons, List.length_cons]
    omega
def textR (r : Rule) : Str := Txt.join (Str.ofString " ") (rw r)
theorem show_rule_ok {r : Rule} {M : Mem} (hd : r.depth ≤ 13) (hu : r.units ≤ 100) (hg : r.good) : Ret (m_show_rule [r.toD] M) (TL.Gives M (.str (textR r))) := by
  show Ret (endS (b_show_rule [some r.toD] M)) _
  unfold b_show_rule
  simp
  refine Ret.bindQ (words_of_ok 14 r M (by omega) (by omega) (by omega) hg) ?_
  rintro _ M1 ⟨k, rfl, hk, k1, a1⟩
  have e0 : (Str.ofString " ").length = 1 := by decide +kernel
  have hl := rw_len r
  have hs := sum_le' (rw_wd r hg)
  have j : mJoin (.str (Str.ofString " ")) [.ref k] M1 = some (.str (textR r), M1) := by
    rw [mJoin_ref, seqAt_lst a1]
    simp only
    rw [joinO_strs (by rw [e0]; omega)]
    rfl
  simp [j]
  exact TL.Ret.ok (P := TL.Gives M _) ⟨rfl, k1⟩
def rdF (W : Nat) (a m : Nat) : List (Str × D) := [(Str.ofString "words", .ref W), (Str.ofString "at", .int (a : Nat)), (Str.ofString "many", .int (m : Nat))]
/-- a reader at R of the words at W -/
def RM (M : Mem) (R W a m : Nat) : Mem := M.set R (.ins (Str.ofString "Reader") (rdF W a m))
structure Rd (M : Mem) (R W : Nat) (ws : List Str) : Prop where
  r : R < M.length
  w : seqAt M W = some (ws.map D.str)
  ne : W ≠ R
section
variable {M : Mem} {R W a m : Nat} {ws : List Str}
theorem Rd.at_ (h : Rd M R W ws) : (RM M R W a m)[R]? = some (.ins (Str.ofString "Reader") (rdF W a m)) := List.getElem?_set_self h.r
theorem Rd.seq (h : Rd M R W ws) : seqAt (RM M R W a m) W = some (ws.map D.str) := by
  have := h.w
  unfold seqAt at this ⊢
  unfold RM
  rw [List.getElem?_set_ne (Ne.symm h.ne)]
  exact this
theorem Rd.set (h : Rd M R W ws) {b n : Nat} : (RM M R W a m).set R (.ins (Str.ofString "Reader") (rdF W b n)) = RM M R W b n := List.set_set ..
theorem Rd.fwords (h : Rd M R W ws) : mFld (Str.ofString "Reader") (Str.ofString "words") (.ref R) (RM M R W a m) = some (.ref W, RM M R W a m) := mFld_at h.at_ rfl
theorem Rd.fat (h : Rd M R W ws) : mFld (Str.ofString "Reader") (Str.ofString "at") (.ref R) (RM M R W a m) = some (.int (a : Nat), RM M R W a m) := mFld_at h.at_ (by simp [rdF, List.lookup])
theorem Rd.fmany (h : Rd M R W ws) : mFld (Str.ofString "Reader") (Str.ofString "many") (.ref R) (RM M R W a m) = some (.int (m : Nat), RM M R W a m) := mFld_at h.at_ (by simp [rdF, List.lookup])
theorem Rd.pat (h : Rd M R W ws) : putO (Str.ofString "Reader") (Str.ofString "at") (.ref R) (.int ((a : Int) + 1)) (RM M R W a m) = some (RM M R W (a + 1) m) := by
  rw [putO_at h.at_ (by simp [rdF])]
  rw [show putD (Str.ofString "at") (.int ((a : Int) + 1)) (rdF W a m) = rdF W (a + 1) m from by simp [putD, rdF], h.set]
theorem Rd.pmany (h : Rd M R W ws) : putO (Str.ofString "Reader") (Str.ofString "many") (.ref R) (.int ((m : Int) + 1)) (RM M R W a m) = some (RM M R W a (m + 1)) := by
  rw [putO_at h.at_ (by simp [rdF])]
  rw [show putD (Str.ofString "many") (.int ((m : Int) + 1)) (rdF W a m) = rdF W a (m + 1) from by simp [putD, rdF], h.set]
theorem Rd.me (h : Rd M R W ws) {mth : String} (hm : mth ∉ ["words", "at", "many"]) {dd : List D} {fn : Fn} {mas : MA} {env : TL.Env} :
    meR (Str.ofString "Reader") (Str.ofString mth) dd fn mas env (.ref R) (RM M R W a m) = (mas env (RM M R W a m)).bind fun ds M2 => fn (.ref R :: (ds ++ dd)) M2 := by
  refine meR_at h.at_ ?_
  simp only [List.mem_cons, List.not_mem_nil, or_false, not_or] at hm
  simp [rdF, List.lookup, hm.1, hm.2.1, hm.2.2]
theorem word_ok (h : Rd M R W ws) {x : Str} (hx : ws[a]? = some x) : m_Reader_word [.ref R] (RM M R W a m) = .ok (.str x) (RM M R W a m) := by
  show endS (b_Reader_word [some (.ref R)] (RM M R W a m)) = _
  unfold b_Reader_word
  have lt : a < ws.length := (List.getElem?_eq_some_iff.mp hx).1
  have ne : ¬ ((a : Int) = (ws.length : Nat)) := by omega
  have ix : atI (ws.map D.str) (a : Int) = some (.str x) := atI_nat (by rw [List.getElem?_map, hx]; rfl)
  simp [h.fat, h.fwords, h.seq, ne, ix]
theorem count_ok (h : Rd M R W ws) {n : Nat} {lo : Int} (hx : ws[a]? = some (nW (n : Nat))) (h0 : 1 ≤ n) (h1 : n ≤ 99) (hl : lo ≤ n) : m_Reader_count [.ref R, .int lo] (RM M R W a m) = .ok (.int (n : Nat)) (RM M R W (a + 1) m) := by
  show endS (b_Reader_count [some (.ref R), some (.int lo), none] (RM M R W a m)) = _
  unfold b_Reader_count
  have w := word_ok (m := m) h hx
  have c := count_of_ok h0 h1 (RM M R W a m)
  have l1 : ¬ ((n : Int) < lo) := by omega
  have l2 : ¬ (99 < (n : Int)) := by omega
  have me := fun {fn : Fn} {mas : MA} {env : TL.Env} {dd : List D} => h.me (a := a) (m := m) (mth := "word") (by decide) (fn := fn) (mas := mas) (env := env) (dd := dd)
  simp [me, w, c, l1, l2, h.fat, h.pat]
theorem is_dash_ok (h : Rd M R W ws) {x : Str} (hx : ws[a]? = some x) : m_Reader_is_dash [.ref R] (RM M R W a m) = .ok (.bl (decide (x = Str.ofString "-"))) (RM M R W (if x = Str.ofString "-" then a + 1 else a) m) := by
  show endS (b_Reader_is_dash [some (.ref R)] (RM M R W a m)) = _
  unfold b_Reader_is_dash
  have w := word_ok (m := m) h hx
  have me := fun {fn : Fn} {mas : MA} {env : TL.Env} {dd : List D} => h.me (a := a) (m := m) (mth := "word") (by decide) (fn := fn) (mas := mas) (env := env) (dd := dd)
  have ne : mNe (.str x) (.str (Str.ofString "-")) (RM M R W a m) = some (.bl (!decide (x = Str.ofString "-")), RM M R W a m) := mNe_text
  by_cases c : x = Str.ofString "-"
  · simp only [c, decide_true] at ne w ⊢
    simp [me, w, ne, h.fat, h.pat]
  · simp only [c, decide_false] at ne ⊢
    simp [me, w, ne]
end
def At (ws : List Str) (a : Nat) (xs : List Str) : Prop := ∃ rest, ws.drop a = xs ++ rest
theorem At.head {ws xs : List Str} {a : Nat} {x : Str} (h : At ws a (x :: xs)) : ws[a]? = some x := by
  obtain ⟨rest, e⟩ := h
  have := congrArg (fun l => l[0]?) e
  simpa [List.getElem?_drop] using this
theorem At.tail {ws xs : List Str} {a : Nat} {x : Str} (h : At ws a (x :: xs)) : At ws (a + 1) xs := by
  obtain ⟨rest, e⟩ := h
  refine ⟨rest, ?_⟩
  rw [← List.drop_drop, e]
  rfl
theorem At.left {ws xs ys : List Str} {a : Nat} (h : At ws a (xs ++ ys)) : At ws a xs := by
  obtain ⟨rest, e⟩ := h
  exact ⟨ys ++ rest, by rw [e, List.append_assoc]⟩
theorem At.right {ws xs ys : List Str} {a : Nat} (h : At ws a (xs ++ ys)) : At ws (a + xs.length) ys := by
  obtain ⟨rest, e⟩ := h
  refine ⟨rest, ?_⟩
  rw [← List.drop_drop, e, List.append_assoc, List.drop_left]
theorem nW_ne {n : Nat} (h0 : 1 ≤ n) (h1 : n ≤ 99) : nW (n : Nat) ≠ Str.ofString "-" := by
  intro e
  have z : tlS (Str.ofString "-") = [45] := by decide +kernel
  have := congrArg tlS e
  rw [z] at this
  by_cases c : n < 10
  · rw [nW_one c] at this
    simp at this; omega
  · rw [nW_two (by omega) (by omega)] at this
    simp at this
theorem rw_head {r : Rule} : ∃ x xs, rw r = x :: xs ∧ x ≠ Str.ofString "-" := by
  cases r with
  | point => exact ⟨_, _, rfl, by decide +kernel⟩
  | unit => exact ⟨_, _, rfl, by decide +kernel⟩
  | unitL => exact ⟨_, _, rfl, by decide +kernel⟩
section
variable {M : Mem} {R W : Nat} {ws : List Str}
def RuleRd (M : Mem) (R W : Nat) (ws : List Str) (f : Fn) (r : Rule) : Prop := ∀ a m around : Nat, around + r.depth ≤ 4 → m + r.units ≤ 10 → At ws a (rw r) → f [.ref R, .int (around : Nat)] (RM M R W a m) = .ok r.toD (RM M R W (a + (rw r).length) (m + r.units))
def lu : Option Rule → Nat
  | some r => r.units
  | none => 0
theorem last_ok (h : Rd M R W ws) {rr rl : Fn} {c : Option Int} {l : Option Rule} {a m around : Nat} (hc : l ≠ none → c ≠ none) (hl : ∀ r, l = some r → RuleRd M R W ws rr r) (hd : ∀ r, l = some r → around + r.depth ≤ 4 ∧ m + r.units ≤ 10) (ha : At ws a (lw l)) :
    fnD 3 3 (b_Reader_last rr rl) [.ref R, capD c, .int (around : Nat)] (RM M R W a m) = .ok (lastD l) (RM M R W (a + (lw l).length) (m + lu l)) := by
  show endS (b_Reader_last rr rl [some (.ref R), some (capD c), some (.int (around : Nat))] (RM M R W a m)) = _
  unfold b_Reader_last
  have me1 := fun {fn : Fn} {mas : MA} {env : TL.Env} {dd : List D} => h.me (a := a) (m := m) (mth := "is_dash") (by decide) (fn := fn) (mas := mas) (env := env) (dd := dd)
  have me2 := fun {fn : Fn} {mas : MA} {env : TL.Env} {dd : List D} => h.me (a := a) (m := m) (mth := "rule") (by decide) (fn := fn) (mas := mas) (env := env) (dd := dd)
  cases l with
  | none =>
    have e := is_dash_ok (m := m) h (ha.head)
    simp only [decide_true, if_true] at e
    simp [me1, e, lastD, lw, lu]
  | some r =>
    obtain ⟨x, xs, hx, hne⟩ := rw_head (r := r)
    have ha' : At ws a (rw r) := ha
    have e := is_dash_ok (m := m) h (x := x) (by rw [hx] at ha'; exact ha'.head)
    simp only [hne, decide_false, if_false] at e
    obtain ⟨d1, d2⟩ := hd r rfl
    have e2 := hl r rfl a m around d1 d2 ha'
    obtain ⟨c', rfl⟩ := Option.ne_none_iff_exists'.mp (hc (by simp))
    simp [me1, me2, e, e2, capD, lastD, lw, lu]
theorem rule_ok (h : Rd M R W ws) : ∀ (n : Nat) (r : Rule), 2 * r.depth + 1 ≤ n → r.good → RuleRd M R W ws (m_Reader_rule n) r
  | 0, r, hn, hg => by omega
  | n + 1, r, hn, hg => by
    intro a m around hd hu ha
    show endS (b_Reader_rule (m_Reader_rule n) (m_Reader_last n) [some (.ref R), some (.int (around : Nat)), none, none, none, none, none] (RM M R W a m)) = _
    unfold b_Reader_rule
    have me := fun (mth : String) (hm : mth ∉ ["words", "at", "many"]) (a m : Nat) {fn : Fn} {mas : MA} {env : TL.Env} {dd : List D} => h.me (a := a) (m := m) (mth := mth) hm (fn := fn) (mas := mas) (env := env) (dd := dd)
    have mew := fun a m {fn : Fn} {mas : MA} {env : TL.Env} {dd : List D} => me "word" (by decide) a m (fn := fn) (mas := mas) (env := env) (dd := dd)
    have mec := fun a m {fn : Fn} {mas : MA} {env : TL.Env} {dd : List D} => me "count" (by decide) a m (fn := fn) (mas := mas) (env := env) (dd := dd)
    have med := fun a m {fn : Fn} {mas : MA} {env : TL.Env} {dd : List D} => me "is_dash" (by decide) a m (fn := fn) (mas := mas) (env := env) (dd := dd)
    have mer := fun a m {fn : Fn} {mas : MA} {env : TL.Env} {dd : List D} => me "rule" (by decide) a m (fn := fn) (mas := mas) (env := env) (dd := dd)
    have mel := fun a m {fn : Fn} {mas : MA} {env : TL.Env} {dd : List D} => me "last" (by decide) a m (fn := fn) (mas := mas) (env := env) (dd := dd)
    by_cases hp : r = .point
    · subst hp
      have w := word_ok (m := m) h ha.head
      simp [mew, w, mEq_text, h.fat, h.pat, Rule.toD, rw, Rule.units]
    · obtain ⟨g1, g2, g3, g4, g5, g6, g7⟩ := good_nums hg hp
      obtain ⟨p1, p2⟩ := parts_depth hp
      obtain ⟨q1, q2, q3⟩ := parts_units hp
      rw [rw_unit hp] at ha
      have a1 := ha.left.left
      have w0 := word_ok (m := m) h a1.head
      obtain ⟨to, hto⟩ : ∃ k : Nat, r.to = (k : Int) := ⟨r.to.toNat, by omega⟩
      obtain ⟨le, hle⟩ : ∃ k : Nat, r.lead = (k : Int) := ⟨r.lead.toNat, by omega⟩
      rw [hto, hle] at a1
      have c1 : m_Reader_count [.ref R, .int 1] (RM M R W (a + 1) (m + 1)) = .ok (.int (to : Nat)) (RM M R W (a + 2) (m + 1)) := count_ok (m := m + 1) (lo := 1) h a1.tail.head (by omega) (by omega) (by omega)
      have c2 : m_Reader_count [.ref R, .int 1] (RM M R W (a + 2) (m + 1)) = .ok (.int (le : Nat)) (RM M R W (a + 3) (m + 1)) := count_ok (m := m + 1) (lo := 1) h a1.tail.tail.head (by omega) (by omega) (by omega)
      have d1 : m_Reader_is_dash [.ref R] (RM M R W (a + 3) (m + 1)) = .ok (.bl (decide (capW r.cap = Str.ofString "-"))) (RM M R W (if capW r.cap = Str.ofString "-" then a + 4 else a + 3) (m + 1)) := is_dash_ok (m := m + 1) h a1.tail.tail.tail.head
      have n1 : ¬ ((around : Int) = 4) := by omega
      have n2 : ¬ ((m : Int) = 10) := by omega
      have ai := ha.left.right
      have al := ha.right
      have i1 := rule_ok h n r.inner (by omega) g6 (a + 4) (m + 1) (around + 1) (by omega) (by omega) ai
      have hn1 : 1 ≤ n := by omega
      obtain ⟨n', rfl⟩ : ∃ k, n = k + 1 := ⟨n - 1, by omega⟩
      have l1 := last_ok (rr := m_Reader_rule n') (rl := m_Reader_last n') (c := r.cap) (l := r.last) (a := a + 4 + (rw r.inner).length) (m := m + 1 + r.inner.units) (around := around + 1) h
        (fun hl => by
          obtain ⟨l, hl⟩ := Option.ne_none_iff_exists'.mp hl
          obtain ⟨c, hc⟩ := cap_last hl
          rw [hc]; simp)
        (fun l hl => rule_ok h n' l (by have := p2 l hl; omega) (g7 l hl)) (fun l hl => by have := p2 l hl; have := q2 l hl; omega)
        (by
          have e : a + ([Str.ofString "unit", nW r.to, nW r.lead, capW r.cap] ++ rw r.inner).length = a + 4 + (rw r.inner).length := by simp; omega
          rw [← e]; exact al)
      have l1' : m_Reader_last (n' + 1) [.ref R, capD r.cap, .int ((around + 1 : Nat) : Int)] (RM M R W (a + 4 + (rw r.inner).length) (m + 1 + r.inner.units)) = _ := l1
      have lenE : a + (rw r).length = a + 4 + (rw r.inner).length + (lw r.last).length := by rw [rw_unit hp]; simp; omega
      have uE : m + r.units = m + 1 + r.inner.units + lu r.last := by
        cases hl : r.last with
        | none => have := q3 hl; simp only [lu]; omega
        | some l => have := q2 l hl; simp only [lu]; omega
      rw [lenE, uE, toD_unit hp, hto, hle]
      have cu : (around : Int) + 1 = ((around + 1 : Nat) : Int) := by omega
      have i1' : m_Reader_rule (n' + 1) [.ref R, .int ((around : Int) + 1)] (RM M R W (a + 4) (m + 1)) = .ok r.inner.toD (RM M R W (a + 4 + (rw r.inner).length) (m + 1 + r.inner.units)) := by rw [cu]; exact i1
      have l2 : m_Reader_last (n' + 1) [.ref R, capD r.cap, .int ((around : Int) + 1)] (RM M R W (a + 4 + (rw r.inner).length) (m + 1 + r.inner.units)) = .ok (lastD r.last) (RM M R W (a + 4 + (rw r.inner).length + (lw r.last).length) (m + 1 + r.inner.units + lu r.last)) := by rw [cu]; exact l1'
      cases hc : r.cap with
      | none =>
        rw [hc] at d1 l2
        have e : capW none = Str.ofString "-" := rfl
        simp only [e, decide_true, if_true] at d1
        simp only [capD] at l2 ⊢
        simp [mew, mec, med, mer, mel, w0, c1, c2, d1, i1', l2, n1, n2, h.fat, h.pat, h.fmany, h.pmany]
      | some c =>
        obtain ⟨ca, hca⟩ : ∃ k : Nat, c = (k : Int) := ⟨c.toNat, by have := g5 c hc; omega⟩
        subst hca
        have gc := g5 _ hc
        rw [hc] at d1 l2
        have e : capW (some (ca : Int)) = nW (ca : Nat) := rfl
        have ne := nW_ne (n := ca) (by omega) (by omega)
        rw [e] at d1
        simp only [ne, decide_false, if_false] at d1
        have c3 : m_Reader_count [.ref R, .int (to : Nat)] (RM M R W (a + 3) (m + 1)) = .ok (.int (ca : Nat)) (RM M R W (a + 4) (m + 1)) := count_ok (m := m + 1) (lo := (to : Nat)) h (by
          have := a1.tail.tail.tail.head
          rw [hc] at this
          exact this) (by omega) (by omega) (by omega)
        simp only [capD] at l2 ⊢
        simp [mew, mec, med, mer, mel, w0, c1, c2, c3, d1, i1', l2, n1, n2, h.fat, h.pat, h.fmany, h.pmany]
end
theorem new_ok {M1 : Mem} {R W : Nat} (h : M1[R]? = some (.ins (Str.ofString "Reader") [])) : m_Reader_new [.ref R, .ref W] M1 = .ok .non (RM M1 R W 0 0) := by
  show endS (b_Reader_new [some (.ref R), some (.ref W)] M1) = _
  unfold b_Reader_new
  have lt := lt_of_at h
  have p1 := putO_at (f := Str.ofString "words") (v := .ref W) h (by simp)
  have h1 : (M1.set R (.ins (Str.ofString "Reader") [(Str.ofString "words", .ref W)]))[R]? = some (.ins (Str.ofString "Reader") [(Str.ofString "words", .ref W)]) := List.getElem?_set_self lt
  have p2 := putO_at (f := Str.ofString "at") (v := .int 0) h1 (by simp)
  have h2 : (M1.set R (.ins (Str.ofString "Reader") [(Str.ofString "words", .ref W), (Str.ofString "at", .int 0)]))[R]? = some (.ins (Str.ofString "Reader") [(Str.ofString "words", .ref W), (Str.ofString "at", .int 0)]) := List.getElem?_set_self lt
  have p3 := putO_at (f := Str.ofString "many") (v := .int 0) h2 (by simp)
  simp [putD] at p1 p2 p3
  simp [p1, p2, p3, RM, rdF]
theorem joinL_len {S : List Nat} : ∀ parts : List (List Nat), (joinL S parts).length ≤ (parts.map List.length).sum + parts.length * S.length
  | [] => by simp [joinL]
  | [p] => by simp [joinL]
  | p :: q :: r => by
    have := joinL_len (S := S) (q :: r)
    simp only [joinL, List.length_append, List.map_cons, List.sum_cons, List.length_cons] at this ⊢
    rw [Nat.add_mul]
    omega
theorem join_len {ws : List Str} {k : Nat} (hw : (ws.map (·.length)).sum ≤ k) : (Txt.join (Str.ofString " ") ws).length ≤ k + ws.length := by
  have e : (Txt.join (Str.ofString " ") ws).length = (tl (Txt.join (Str.ofString " ") ws)).length := by show (Txt.join (Str.ofString " ") ws).cps.size = _; simp
  rw [e, join_eq, tl_join]
  have := joinL_len (S := tl (Str.ofString " ")) (ws.map tl)
  have e1 : (tl (Str.ofString " ")).length = 1 := by decide +kernel
  have e2 : ((ws.map tl).map List.length).sum = (ws.map (·.length)).sum := by
    rw [List.map_map]
    congr 1
  rw [e1, e2, List.length_map] at this
  omega
theorem split_ok {ws : List Str} {M : Mem} (h0 : ws ≠ []) (hw : ∀ x ∈ ws, 32 ∉ tlS x) (hs : (ws.map (·.length)).sum ≤ 1000000) (hl : ws.length ≤ 1000000) : mSplit (.str (Txt.join (Str.ofString " ") ws)) [.str (Str.ofString " ")] M = some (.ref M.length, M ++ [.lst (ws.map D.str)]) := by
  have sp : Txt.split (Txt.join (Str.ofString " ") ws) (Str.ofString " ") = ws := split_join (y := Str.ofString " ") (s := 32) (S := []) (by decide +kernel) (by decide +kernel) h0 hw
  have := join_len hs
  rw [mSplit_str, if_pos ⟨by decide +kernel, by rw [sizeLine_eq]; omega⟩, sp]
end CW
end
section
set_option maxHeartbeats 4000000
namespace CWR
open PySem PySem.Spec PyProof.Rows L2 TL CM
open CW (m_count_of lp_count_of_0 b_count_of m_Reader_new tlS Rd RM rdF str_tl mIdx0 fig_in fig_index Wd)
noncomputable section
def b_Reader_word : MS := (sSeq (sIf (tB (eBin mEq (eFld "Reader" "at" (eVar 0)) (eCallO nLen (aCons (eFld "Reader" "words" (eVar 0)) aNil)))) (sRaiseI "BadWord" (eFld "Reader" "at" (eVar 0))) sNil)
    (sRet (eBin mIdx (eFld "Reader" "words" (eVar 0)) (eFld "Reader" "at" (eVar 0)))))
def m_Reader_word : Fn := fnD 1 1 b_Reader_word
def b_Reader_count : MS := (sSeq (sAsg (gOne 2) (eCall m_count_of (aCons (eMeM "Reader" "word" [] m_Reader_word (eVar 0) aNil) aNil)))
    (sSeq (sIf (tOr (tB (eBin mIs (eVar 2) (eC .non))) (tOr (tB (eBin mLt (eVar 2) (eVar 1))) (tB (eBin mGt (eVar 2) (eC (.int 99)))))) (sRaiseI "BadWord" (eFld "Reader" "at" (eVar 0))) sNil)
    (sSeq (sFldD "Reader" "at" (eVar 0) (eBin mAdd (eFld "Reader" "at" (eVar 0)) (eC (.int 1))))
    (sRet (eVar 2)))))
def m_Reader_count : Fn := fnD 2 3 b_Reader_count
def b_Reader_is_dash : MS := (sSeq (sIf (tB (eBin mNe (eMeM "Reader" "word" [] m_Reader_word (eVar 0) aNil) (eC (.str "-")))) (sRet (eC (.bl false))) sNil)
    (sSeq (sFldD "Reader" "at" (eVar 0) (eBin mAdd (eFld "Reader" "at" (eVar 0)) (eC (.int 1))))
    (sRet (eC (.bl true)))))
def m_Reader_is_dash : Fn := fnD 1 1 b_Reader_is_dash
def b_Reader_rule (r_Reader_rule : Fn) (r_Reader_last : Fn) : MS := (sSeq (sAsg (gOne 2) (eMeM "Reader" "word" [] m_Reader_word (eVar 0) aNil))
    (sSeq (sIf (tB (eBin mEq (eVar 2) (eC (.str "point")))) (sSeq (sFldD "Reader" "at" (eVar 0) (eBin mAdd (eFld "Reader" "at" (eVar 0)) (eC (.int 1))))
    (sRet (eC (.tup [(.str "point")])))) sNil)
    (sSeq (sIf (tOr (tB (eBin mNe (eVar 2) (eC (.str "unit")))) (tOr (tB (eBin mEq (eVar 1) (eC (.int 4)))) (tB (eBin mEq (eFld "Reader" "many" (eVar 0)) (eC (.int 10)))))) (sRaiseI "BadWord" (eFld "Reader" "at" (eVar 0))) sNil)
    (sSeq (sFldD "Reader" "at" (eVar 0) (eBin mAdd (eFld "Reader" "at" (eVar 0)) (eC (.int 1))))
    (sSeq (sFldD "Reader" "many" (eVar 0) (eBin mAdd (eFld "Reader" "many" (eVar 0)) (eC (.int 1))))
    (sSeq (sAsg (gOne 3) (eMeM "Reader" "count" [] m_Reader_count (eVar 0) (aCons (eC (.int 1)) aNil)))
    (sSeq (sAsg (gOne 4) (eMeM "Reader" "count" [] m_Reader_count (eVar 0) (aCons (eC (.int 1)) aNil)))
    (sSeq (sAsg (gOne 5) (eIf (tTru (eMeM "Reader" "is_dash" [] m_Reader_is_dash (eVar 0) aNil)) (eC .non) (eMeM "Reader" "count" [] m_Reader_count (eVar 0) (aCons (eVar 3) aNil))))
    (sSeq (sAsg (gOne 6) (eMeM "Reader" "rule" [] r_Reader_rule (eVar 0) (aCons (eBin mAdd (eVar 1) (eC (.int 1))) aNil)))
    (sRet (eTup (aCons (eC (.str "unit")) (aCons (eVar 3) (aCons (eVar 4) (aCons (eVar 5) (aCons (eVar 6) (aCons (eMeM "Reader" "last" [] r_Reader_last (eVar 0) (aCons (eVar 5) (aCons (eBin mAdd (eVar 1) (eC (.int 1))) aNil))) aNil)))))))))))))))))
def b_Reader_last (r_Reader_rule : Fn) (r_Reader_last : Fn) : MS := (sSeq (sIf (tTru (eMeM "Reader" "is_dash" [] m_Reader_is_dash (eVar 0) aNil)) (sRet (eC .non)) sNil)
    (sSeq (sIf (tB (eBin mIs (eVar 1) (eC .non))) (sRaiseI "BadWord" (eFld "Reader" "at" (eVar 0))) sNil)
    (sRet (eMeM "Reader" "rule" [] r_Reader_rule (eVar 0) (aCons (eVar 2) aNil)))))
def g_Reader_rule : Nat → Fn × Fn
  | 0 => (noFn, noFn)
  | n + 1 => (fnD 2 7 (b_Reader_rule ((g_Reader_rule n).1) ((g_Reader_rule n).2)), fnD 3 3 (b_Reader_last ((g_Reader_rule n).1) ((g_Reader_rule n).2)))
def m_Reader_rule (n : Nat) : Fn := (g_Reader_rule n).1
def m_Reader_last (n : Nat) : Fn := (g_Reader_rule n).2
def b_read_rule : MS := (sSeq (sAsg (gOne 1) (eMake "Reader" [] m_Reader_new (aCons (eMeth "str" mSplit (eVar 0) (aCons (eC (.str " ")) aNil)) aNil)))
    (sSeq (sAsg (gOne 2) (eMeM "Reader" "rule" [] (m_Reader_rule 14) (eVar 1) (aCons (eC (.int 0)) aNil)))
    (sSeq (sIf (tB (eBin mLt (eFld "Reader" "at" (eVar 1)) (eCallO nLen (aCons (eFld "Reader" "words" (eVar 1)) aNil)))) (sRaiseI "BadWord" (eFld "Reader" "at" (eVar 1))) sNil)
    (sRet (eVar 2)))))
def m_read_rule : Fn := fnD 1 3 b_read_rule
end
open RL TLQ
/-- the number that a word writes -/
def numW (x : Str) : Option Nat := match tlS x with
  | [a] => if 49 ≤ a ∧ a ≤ 57 then some (a - 48) else none
  | [a, b] => if (49 ≤ a ∧ a ≤ 57) ∧ (48 ≤ b ∧ b ≤ 57) then some (10 * (a - 48) + (b - 48)) else none
  | _ => none
theorem numW_bd {x : Str} {n : Nat} (h : numW x = some n) : 1 ≤ n ∧ n ≤ 99 := by
  unfold numW at h
  split at h
  · split at h
    · cases h; omega
    · cases h
  · split at h
    · cases h; omega
    · cases h
  · cases h
theorem fig_not {c : Nat} (h : c < 48 ∨ 57 < c) (M : Mem) : mNotIn (.str ⟨#[c]⟩) (.str (Str.ofString "0123456789")) M = some (.bl true, M) := by
  have e : inD M (.str ⟨#[c]⟩) (.str (Str.ofString "0123456789")) = some false := by
    have tl : (Str.ofString "0123456789").cps.toList = [48, 49, 50, 51, 52, 53, 54, 55, 56, 57] := by decide +kernel
    simp only [inD]
    rw [dif_pos (by rfl), tl]
    refine congrArg some (decide_eq_false ?_)
    show ¬ (c ∈ _)
    simp only [List.mem_cons, List.not_mem_nil, or_false]
    omega
  unfold mNotIn
  rw [e]; rfl
theorem zero_eq {c : Nat} (M : Mem) : mEq (.str ⟨#[c]⟩) (.str (Str.ofString "0")) M = some (.bl (decide (c = 48)), M) := by
  rw [mEq_text (M := M) (x := (⟨#[c]⟩ : Str)) (y := Str.ofString "0")]
  have z : Str.ofString "0" = ⟨#[48]⟩ := by decide +kernel
  rw [z]
  by_cases h : c = 48
  · subst h; simp
  · have ne : (⟨#[c]⟩ : Str) ≠ ⟨#[48]⟩ := by
      intro e
      injection e with e
      simp at e
      exact h e
    simp [ne, h]
theorem len_tl (x : Str) : x.length = (tlS x).length := by show x.cps.size = _; simp [tlS]
theorem count_all {x : Str} (hl : x.length ≤ 1000) (M : Mem) : m_count_of [.str x] M = .ok (match numW x with | some n => .int (n : Nat) | none => .non) M := by
  show endS (b_count_of [some (.str x), none, none] M) = _
  unfold b_count_of
  have ln := len_tl x
  have sz : x.length ≤ sizeLine := by rw [sizeLine_eq]; omega
  unfold numW
  cases q : tlS x with
  | nil =>
    rw [q] at ln
    have l0 : x.length = 0 := ln
    rw [TLP.ifT (M' := M) (by simp [l0]), TLP.ret1 (v := .non) (M' := M) (by simp)]
    rfl
  | cons a r =>
    rw [q] at ln
    have i0 := mIdx0 q (by rw [List.length_cons] at ln; omega) M
    cases r with
    | nil =>
      have l1 : x.length = 1 := ln
      by_cases z : a = 48
      · subst z
        rw [TLP.ifT (M' := M) (by simp [l1, i0, zero_eq]), TLP.ret1 (v := .non) (M' := M) (by simp)]
        rfl
      · rw [TLP.ifN (M' := M) (by simp [l1, i0, zero_eq, z]), TLP.asg (v := .int 0) (M' := M) (by simp)]
        simp only [List.set]
        have it : strItems x = [.str ⟨#[a]⟩] := by unfold strItems; rw [show x.cps.toList = _ from q]; rfl
        by_cases c : 49 ≤ a ∧ a ≤ 57
        · obtain ⟨d, rfl⟩ : ∃ d, a = 48 + d := ⟨a - 48, by omega⟩
          have g1 := fig_in (d := d) (by omega) M
          have g2 := fig_index (d := d) (by omega) M
          simp [it, l1, forL_cons, forL_nil, lp_count_of_0, g1, g2]
          rw [if_pos (by omega)]
        · have g1 := fig_not (c := a) (by omega) M
          simp [it, l1, forL_cons, forL_nil, lp_count_of_0, g1]
          rw [if_neg c]
    | cons b r =>
      cases r with
      | nil =>
        have l2 : x.length = 2 := ln
        by_cases z : a = 48
        · subst z
          rw [TLP.ifT (M' := M) (by simp [l2, i0, zero_eq]), TLP.ret1 (v := .non) (M' := M) (by simp)]
          rfl
        · rw [TLP.ifN (M' := M) (by simp [l2, i0, zero_eq, z]), TLP.asg (v := .int 0) (M' := M) (by simp)]
          simp only [List.set]
          have it : strItems x = [.str ⟨#[a]⟩, .str ⟨#[b]⟩] := by unfold strItems; rw [show x.cps.toList = _ from q]; rfl
          by_cases c : 49 ≤ a ∧ a ≤ 57
          · obtain ⟨d, rfl⟩ : ∃ d, a = 48 + d := ⟨a - 48, by omega⟩
            have g1 := fig_in (d := d) (by omega) M
            have g2 := fig_index (d := d) (by omega) M
            by_cases c2 : 48 ≤ b ∧ b ≤ 57
            · obtain ⟨e, rfl⟩ : ∃ e, b = 48 + e := ⟨b - 48, by omega⟩
              have g3 := fig_in (d := e) (by omega) M
              have g4 := fig_index (d := e) (by omega) M
              simp [it, l2, forL_cons, forL_nil, lp_count_of_0, g1, g2, g3, g4]
              rw [if_pos (by omega)]
              show D.int (10 * (d : Int) + (e : Int)) = D.int ((10 * d + e : Nat) : Int)
              congr 1
            · have g3 := fig_not (c := b) (by omega) M
              simp [it, l2, forL_cons, forL_nil, lp_count_of_0, g1, g2, g3]
              rw [if_neg (by omega)]
          · have g1 := fig_not (c := a) (by omega) M
            simp [it, l2, forL_cons, forL_nil, lp_count_of_0, g1]
            rw [if_neg (fun h => c h.1)]
      | cons b2 r =>
        have l3 : 2 < x.length := by rw [ln]; simp
        have l0 : x.length ≠ 0 := by omega
        have l4 : ¬ (x.length : Int) < 1 := by omega
        have l5 : (2 : Int) < (x.length : Int) := by omega
        rw [TLP.ifT (M' := M) (by simp [l4, l5, show x.length ≤ 16777216 by omega]), TLP.ret1 (v := .non) (M' := M) (by simp)]
        rfl
inductive RR where
  | ok (r : Rule) (a m : Nat)
  | bad (s : Nat)
/-- a number at a, from lo on -/
def cnt (ws : List Str) (a : Nat) (lo : Int) : Option Nat × Nat := match ws[a]? with
  | none => (none, ws.length)
  | some x => match numW x with
    | none => (none, a)
    | some n => if (n : Int) < lo then (none, a) else (some n, a)
/-- behind the numbers of a unit: its inner rule, its last one -/
def tailR (f : Nat → Nat → RR) (ws : List Str) (to lead : Int) (cap : Option Int) (a m : Nat) : RR := match f a m with
  | .bad s => .bad s
  | .ok inner a2 m2 => match ws[a2]? with
    | none => .bad ws.length
    | some z => if z = Str.ofString "-" then .ok (.unit to lead cap inner) (a2 + 1) m2
      else match cap with
        | none => .bad a2
        | some c => match f a2 m2 with
          | .bad s => .bad s
          | .ok last a3 m3 => .ok (.unitL to lead c inner last) a3 m3
/-- the rule that the words from a on write, k more units deep -/
def rd (ws : List Str) : Nat → Nat → Nat → RR
  | 0, a, m => match ws[a]? with
    | none => .bad ws.length
    | some x => if x = Str.ofString "point" then .ok .point (a + 1) m else .bad a
  | k + 1, a, m => match ws[a]? with
    | none => .bad ws.length
    | some x => if x = Str.ofString "point" then .ok .point (a + 1) m
      else if x ≠ Str.ofString "unit" ∨ m = 10 then .bad a
      else match cnt ws (a + 1) 1 with
        | (none, s) => .bad s
        | (some to, _) => match cnt ws (a + 2) 1 with
          | (none, s) => .bad s
          | (some lead, _) => match ws[a + 3]? with
            | none => .bad ws.length
            | some y => if y = Str.ofString "-" then tailR (rd ws k) ws to lead none (a + 4) (m + 1)
              else match cnt ws (a + 3) to with
                | (none, s) => .bad s
                | (some c, _) => tailR (rd ws k) ws to lead (some (c : Int)) (a + 4) (m + 1)
theorem cnt_lt {ws : List Str} {a n s : Nat} {lo : Int} (h : cnt ws a lo = (some n, s)) : a < ws.length := by
  unfold cnt at h
  cases q : ws[a]? with
  | none => rw [q] at h; cases h
  | some x => exact (List.getElem?_eq_some_iff.mp q).1
section
variable {M : Mem} {R W a m : Nat} {ws : List Str}
def badW (s : Nat) : Ex := ⟨"BadWord", some (s : Int)⟩
theorem word_all (h : Rd M R W ws) (ha : a ≤ ws.length) : m_Reader_word [.ref R] (RM M R W a m) = match ws[a]? with | some x => .ok (.str x) (RM M R W a m) | none => .exc (badW ws.length) (RM M R W a m) := by
  show endS (b_Reader_word [some (.ref R)] (RM M R W a m)) = _
  unfold b_Reader_word
  cases q : ws[a]? with
  | some x =>
    have lt : a < ws.length := (List.getElem?_eq_some_iff.mp q).1
    have ne : ¬ ((a : Int) = (ws.length : Nat)) := by omega
    have ix : atI (ws.map D.str) (a : Int) = some (.str x) := atI_nat (by rw [List.getElem?_map, q]; rfl)
    simp [h.fat, h.fwords, h.seq, ne, ix]
  | none =>
    have e : a = ws.length := by
      have := List.getElem?_eq_none_iff.mp q
      omega
    subst e
    rw [TLP.ifT (M' := RM M R W ws.length m) (by simp [h.fat, h.fwords, h.seq]), TLP.anyX (x := badW ws.length) (env' := [some (.ref R)]) (M' := RM M R W ws.length m) (sRaiseI_ap (by simp [h.fat]))]
    rfl
theorem count_one (h : Rd M R W ws) (hw : ∀ x ∈ ws, x.length ≤ 1000) (ha : a ≤ ws.length) {lo : Int} (h1 : 1 ≤ lo) : m_Reader_count [.ref R, .int lo] (RM M R W a m) = match cnt ws a lo with | (some n, _) => .ok (.int (n : Nat)) (RM M R W (a + 1) m) | (none, s) => .exc (badW s) (RM M R W a m) := by
  show endS (b_Reader_count [some (.ref R), some (.int lo), none] (RM M R W a m)) = _
  unfold b_Reader_count cnt
  have w := word_all (m := m) h ha
  have me := fun {fn : Fn} {mas : MA} {env : TL.Env} {dd : List D} => h.me (a := a) (m := m) (mth := "word") (by decide) (fn := fn) (mas := mas) (env := env) (dd := dd)
  cases q : ws[a]? with
  | none =>
    rw [q] at w
    rw [TLP.asgX (x := badW ws.length) (M' := RM M R W a m) (by simp [me, w])]
    rfl
  | some x =>
    rw [q] at w
    have c := count_all (hw x (List.mem_of_getElem? q)) (RM M R W a m)
    have rs : sRaiseI "BadWord" (eFld "Reader" "at" (eVar 0)) = sRaiseI "BadWord" (eFld "Reader" "at" (eVar 0)) := rfl
    dsimp only at w ⊢
    cases hn : numW x with
    | none =>
      rw [hn] at c
      dsimp only at c ⊢
      rw [TLP.asg (v := .non) (M' := RM M R W a m) (by simp [me, w, c])]
      simp only [List.set]
      rw [TLP.ifT (M' := RM M R W a m) (by simp), TLP.anyX (x := badW a) (env' := [some (.ref R), some (.int lo), some .non]) (M' := RM M R W a m) (sRaiseI_ap (by simp [h.fat]))]
      rfl
    | some n =>
      rw [hn] at c
      obtain ⟨n0, n1⟩ := numW_bd hn
      dsimp only at c ⊢
      rw [TLP.asg (v := .int (n : Nat)) (M' := RM M R W a m) (by simp [me, w, c])]
      simp only [List.set]
      by_cases l : (n : Int) < lo
      · rw [if_pos l]
        rw [TLP.ifT (M' := RM M R W a m) (by simp [l]), TLP.anyX (x := badW a) (env' := [some (.ref R), some (.int lo), some (.int (n : Nat))]) (M' := RM M R W a m) (sRaiseI_ap (by simp [h.fat]))]
        rfl
      · rw [if_neg l]
        have l2 : ¬ ((99 : Int) < (n : Int)) := by omega
        rw [TLP.ifN (M' := RM M R W a m) (by simp [l, l2])]
        simp [h.fat, h.pat]
theorem dash_all (h : Rd M R W ws) (ha : a ≤ ws.length) : m_Reader_is_dash [.ref R] (RM M R W a m) = match ws[a]? with | some x => .ok (.bl (decide (x = Str.ofString "-"))) (RM M R W (if x = Str.ofString "-" then a + 1 else a) m) | none => .exc (badW ws.length) (RM M R W a m) := by
  show endS (b_Reader_is_dash [some (.ref R)] (RM M R W a m)) = _
  unfold b_Reader_is_dash
  have w := word_all (m := m) h ha
  have me := fun {fn : Fn} {mas : MA} {env : TL.Env} {dd : List D} => h.me (a := a) (m := m) (mth := "word") (by decide) (fn := fn) (mas := mas) (env := env) (dd := dd)
  cases q : ws[a]? with
  | none =>
    rw [q] at w
    rw [TLP.ifX (x := badW ws.length) (M' := RM M R W a m) (by simp [me, w])]
    rfl
  | some x =>
    rw [q] at w
    dsimp only at w ⊢
    have e := mEq_text (M := RM M R W a m) (x := x) (y := Str.ofString "-")
    have ne : mNe (.str x) (.str (Str.ofString "-")) (RM M R W a m) = some (.bl (!decide (x = Str.ofString "-")), RM M R W a m) := mNe_text
    by_cases d : x = Str.ofString "-"
    · simp only [d, decide_true, Bool.not_true] at ne
      rw [TLP.ifN (M' := RM M R W a m) (by simp [me, w, d, ne])]
      simp [h.fat, h.pat, d]
    · simp only [d, decide_false, Bool.not_false] at ne
      rw [TLP.ifT (M' := RM M R W a m) (by simp [me, w, ne]), TLP.ret1 (v := .bl false) (M' := RM M R W a m) (by simp)]
      simp [d]
/-- what the reader tells -/
def RdQ (M : Mem) (R W : Nat) (ws : List Str) (o : Out D) : RR → Prop
  | .ok r a m => o = .ok r.toD (RM M R W a m) ∧ a ≤ ws.length
  | .bad s => ∃ a m, o = .exc (badW s) (RM M R W a m)
theorem ldash (h : Rd M R W ws) {fn : Fn} {mas : MA} {env : TL.Env} {dd : List D} : meR (Str.ofString "Reader") (Str.ofString "is_dash") dd fn mas env (.ref R) (RM M R W a m) = (mas env (RM M R W a m)).bind fun ds M2 => fn (.ref R :: (ds ++ dd)) M2 := h.me (mth := "is_dash") (by decide)
theorem lcount (h : Rd M R W ws) {fn : Fn} {mas : MA} {env : TL.Env} {dd : List D} : meR (Str.ofString "Reader") (Str.ofString "count") dd fn mas env (.ref R) (RM M R W a m) = (mas env (RM M R W a m)).bind fun ds M2 => fn (.ref R :: (ds ++ dd)) M2 := h.me (mth := "count") (by decide)
theorem lword (h : Rd M R W ws) {fn : Fn} {mas : MA} {env : TL.Env} {dd : List D} : meR (Str.ofString "Reader") (Str.ofString "word") dd fn mas env (.ref R) (RM M R W a m) = (mas env (RM M R W a m)).bind fun ds M2 => fn (.ref R :: (ds ++ dd)) M2 := h.me (mth := "word") (by decide)
theorem lrule (h : Rd M R W ws) {fn : Fn} {mas : MA} {env : TL.Env} {dd : List D} : meR (Str.ofString "Reader") (Str.ofString "rule") dd fn mas env (.ref R) (RM M R W a m) = (mas env (RM M R W a m)).bind fun ds M2 => fn (.ref R :: (ds ++ dd)) M2 := h.me (mth := "rule") (by decide)
theorem llast (h : Rd M R W ws) {fn : Fn} {mas : MA} {env : TL.Env} {dd : List D} : meR (Str.ofString "Reader") (Str.ofString "last") dd fn mas env (.ref R) (RM M R W a m) = (mas env (RM M R W a m)).bind fun ds M2 => fn (.ref R :: (ds ++ dd)) M2 := h.me (mth := "last") (by decide)
/-- the last rule of a unit -/
theorem last_all (h : Rd M R W ws) {n : Nat} {f : Nat → Nat → RR} {ar : Int} (ih : ∀ a m, a ≤ ws.length → RdQ M R W ws (m_Reader_rule n [.ref R, .int ar] (RM M R W a m)) (f a m)) {cap : Option Int} {a m : Nat} (ha : a ≤ ws.length) :
    (∀ x, ws[a]? = some x → x = Str.ofString "-" → m_Reader_last (n + 1) [.ref R, capD cap, .int ar] (RM M R W a m) = .ok .non (RM M R W (a + 1) m)) ∧
    (ws[a]? = none → m_Reader_last (n + 1) [.ref R, capD cap, .int ar] (RM M R W a m) = .exc (badW ws.length) (RM M R W a m)) ∧
    (∀ x, ws[a]? = some x → x ≠ Str.ofString "-" → cap = none → m_Reader_last (n + 1) [.ref R, capD cap, .int ar] (RM M R W a m) = .exc (badW a) (RM M R W a m)) ∧
    (∀ x c, ws[a]? = some x → x ≠ Str.ofString "-" → cap = some c → RdQ M R W ws (m_Reader_last (n + 1) [.ref R, capD cap, .int ar] (RM M R W a m)) (f a m)) := by
  have dd := dash_all (m := m) h ha
  have e : ∀ o, endS (b_Reader_last (m_Reader_rule n) (m_Reader_last n) [some (.ref R), some (capD cap), some (.int ar)] (RM M R W a m)) = o → m_Reader_last (n + 1) [.ref R, capD cap, .int ar] (RM M R W a m) = o := fun o h => h
  refine ⟨fun x q hx => e _ ?_, fun q => e _ ?_, fun x q hx hc => e _ ?_, fun x c q hx hc => ?_⟩
  · unfold b_Reader_last
    rw [q] at dd
    simp only [hx, decide_true, if_true] at dd
    rw [TLP.ifT (M' := RM M R W (a + 1) m) (by simp [ldash h, dd]), TLP.ret1 (v := .non) (M' := RM M R W (a + 1) m) (by simp)]
    rfl
  · unfold b_Reader_last
    rw [q] at dd
    dsimp only at dd
    rw [TLP.ifX (x := badW ws.length) (M' := RM M R W a m) (by simp [ldash h, dd])]
    rfl
  · unfold b_Reader_last
    rw [q] at dd
    simp only [hx, decide_false, if_false] at dd
    subst hc
    rw [TLP.ifN (M' := RM M R W a m) (by simp [ldash h, dd]), TLP.ifT (M' := RM M R W a m) (by simp [capD]), TLP.anyX (x := badW a) (env' := [some (.ref R), some (capD none), some (.int ar)]) (M' := RM M R W a m) (sRaiseI_ap (by simp [h.fat]))]
    rfl
  · have ee : RdQ M R W ws (endS (b_Reader_last (m_Reader_rule n) (m_Reader_last n) [some (.ref R), some (capD cap), some (.int ar)] (RM M R W a m))) (f a m) := by
      unfold b_Reader_last
      rw [q] at dd
      simp only [hx, decide_false, if_false] at dd
      subst hc
      rw [TLP.ifN (M' := RM M R W a m) (by simp [ldash h, dd]), TLP.ifN (M' := RM M R W a m) (by simp [capD])]
      have i := ih a m ha
      cases hf : f a m with
      | ok r a2 m2 =>
        rw [hf] at i
        obtain ⟨i1, i2⟩ := i
        rw [TLP.ret (v := r.toD) (M' := RM M R W a2 m2) (by simp [lrule h, i1])]
        exact ⟨rfl, i2⟩
      | bad s =>
        rw [hf] at i
        obtain ⟨a2, m2, i1⟩ := i
        rw [TLP.retX (x := badW s) (M' := RM M R W a2 m2) (by simp [lrule h, i1])]
        exact ⟨a2, m2, rfl⟩
    exact ee
/-- behind the numbers of a unit -/
theorem tail_all (h : Rd M R W ws) {n : Nat} {f : Nat → Nat → RR} {ar to lead : Int} {cap : Option Int} {w e6 : Option D} (ih : ∀ a m, a ≤ ws.length → RdQ M R W ws (m_Reader_rule n [.ref R, .int (ar + 1)] (RM M R W a m)) (f a m)) (ih1 : ∀ a m, a ≤ ws.length → RdQ M R W ws (m_Reader_rule (n + 1) [.ref R, .int (ar + 1)] (RM M R W a m)) (f a m)) {a m : Nat} (ha : a ≤ ws.length) :
    RdQ M R W ws (endS ((sSeq (sAsg (gOne 6) (eMeM "Reader" "rule" [] (m_Reader_rule (n + 1)) (eVar 0) (aCons (eBin mAdd (eVar 1) (eC (.int 1))) aNil)))
    (sRet (eTup (aCons (eC (.str "unit")) (aCons (eVar 3) (aCons (eVar 4) (aCons (eVar 5) (aCons (eVar 6) (aCons (eMeM "Reader" "last" [] (m_Reader_last (n + 1)) (eVar 0) (aCons (eVar 5) (aCons (eBin mAdd (eVar 1) (eC (.int 1))) aNil))) aNil))))))))) [some (.ref R), some (.int ar), w, some (.int to), some (.int lead), some (capD cap), e6] (RM M R W a m))) (tailR f ws to lead cap a m) := by
  have i := ih1 a m ha
  unfold tailR
  cases hf : f a m with
  | bad s =>
    rw [hf] at i
    obtain ⟨a2, m2, i1⟩ := i
    rw [TLP.asgX (x := badW s) (M' := RM M R W a2 m2) (by simp [lrule h, i1])]
    exact ⟨a2, m2, rfl⟩
  | ok inner a2 m2 =>
    rw [hf] at i
    obtain ⟨i1, i2⟩ := i
    rw [TLP.asg (v := inner.toD) (M' := RM M R W a2 m2) (by simp [lrule h, i1])]
    simp only [List.set]
    obtain ⟨l1, l2, l3, l4⟩ := last_all h (cap := cap) (m := m2) ih i2
    cases q : ws[a2]? with
    | none =>
      have l := l2 q
      rw [TLP.retX (x := badW ws.length) (M' := RM M R W a2 m2) (by simp [llast h, l])]
      exact ⟨a2, m2, rfl⟩
    | some z =>
      have lt := (List.getElem?_eq_some_iff.mp q).1
      by_cases hz : z = Str.ofString "-"
      · have l := l1 z q hz
        dsimp only
        rw [if_pos hz]
        rw [TLP.ret (v := (Rule.unit to lead cap inner).toD) (M' := RM M R W (a2 + 1) m2) (by simp [llast h, l, Rule.toD])]
        exact ⟨rfl, lt⟩
      · dsimp only
        rw [if_neg hz]
        cases cap with
        | none =>
          have l := l3 z q hz rfl
          rw [TLP.retX (x := badW a2) (M' := RM M R W a2 m2) (by simp [llast h, l])]
          exact ⟨a2, m2, rfl⟩
        | some c =>
          have l := l4 z c q hz rfl
          dsimp only
          cases hf2 : f a2 m2 with
          | ok last a3 m3 =>
            rw [hf2] at l
            obtain ⟨l5, l6⟩ := l
            have l5 : m_Reader_last (n + 1) [.ref R, .int c, .int (ar + 1)] (RM M R W a2 m2) = _ := l5
            rw [TLP.ret (v := (Rule.unitL to lead c inner last).toD) (M' := RM M R W a3 m3) (by simp [llast h, l5, Rule.toD, capD])]
            exact ⟨rfl, l6⟩
          | bad s =>
            rw [hf2] at l
            obtain ⟨a3, m3, l5⟩ := l
            have l5 : m_Reader_last (n + 1) [.ref R, .int c, .int (ar + 1)] (RM M R W a2 m2) = _ := l5
            rw [TLP.retX (x := badW s) (M' := RM M R W a3 m3) (by simp [llast h, l5, capD])]
            exact ⟨a3, m3, rfl⟩
theorem rule_all (h : Rd M R W ws) (hw : ∀ x ∈ ws, x.length ≤ 1000) : ∀ (k n a m : Nat) (ar : Int), 2 * k + 1 ≤ n → ar + k = 4 → a ≤ ws.length → RdQ M R W ws (m_Reader_rule n [.ref R, .int ar] (RM M R W a m)) (rd ws k a m)
  | k, 0, _, _, _, hn, _, _ => by omega
  | k, n + 1, a, m, ar, hn, har, ha => by
    suffices e : RdQ M R W ws (endS (b_Reader_rule (m_Reader_rule n) (m_Reader_last n) [some (.ref R), some (.int ar), none, none, none, none, none] (RM M R W a m))) (rd ws k a m) from e
    unfold b_Reader_rule
    have w := word_all (m := m) h ha
    cases q : ws[a]? with
    | none =>
      rw [q] at w
      dsimp only at w
      have er : rd ws k a m = .bad ws.length := by cases k <;> simp only [rd, q]
      rw [er, TLP.asgX (x := badW ws.length) (M' := RM M R W a m) (by simp [lword h, w])]
      exact ⟨a, m, rfl⟩
    | some x =>
      rw [q] at w
      dsimp only at w
      have lt := (List.getElem?_eq_some_iff.mp q).1
      rw [TLP.asg (v := .str x) (M' := RM M R W a m) (by simp [lword h, w])]
      simp only [List.set]
      have ep : mEq (.str x) (.str (Str.ofString "point")) (RM M R W a m) = some (.bl (decide (x = Str.ofString "point")), RM M R W a m) := mEq_text
      have eu : mNe (.str x) (.str (Str.ofString "unit")) (RM M R W a m) = some (.bl (!decide (x = Str.ofString "unit")), RM M R W a m) := mNe_text
      by_cases hp : x = Str.ofString "point"
      · have er : rd ws k a m = .ok .point (a + 1) m := by cases k <;> simp only [rd, q, hp, if_true]
        simp only [hp, decide_true] at ep
        rw [er, hp, TLP.ifT (M' := RM M R W a m) (by simp [ep]), TLP.assoc, TLP.any_ (env' := [some (.ref R), some (.int ar), some (.str (Str.ofString "point")), none, none, none, none]) (M' := RM M R W (a + 1) m) (by simp [h.fat, h.pat]), TLP.ret1 (v := .tup [.str "point"]) (M' := RM M R W (a + 1) m) (by simp)]
        exact ⟨rfl, lt⟩
      · simp only [hp, decide_false] at ep
        rw [TLP.ifN (M' := RM M R W a m) (by simp [ep])]
        have bad : rd ws k a m = .bad a → (TL.tOr (TL.tB (eBin mNe (eVar 2) (eC (.str "unit")))) (TL.tOr (TL.tB (eBin mEq (eVar 1) (eC (.int 4)))) (TL.tB (eBin mEq (eFld "Reader" "many" (eVar 0)) (eC (.int 10)))))) [some (.ref R), some (.int ar), some (.str x), none, none, none, none] (RM M R W a m) = .ok true (RM M R W a m) → ∀ rest : MS, RdQ M R W ws (endS ((sSeq (sIf (TL.tOr (TL.tB (eBin mNe (eVar 2) (eC (.str "unit")))) (TL.tOr (TL.tB (eBin mEq (eVar 1) (eC (.int 4)))) (TL.tB (eBin mEq (eFld "Reader" "many" (eVar 0)) (eC (.int 10)))))) (sRaiseI "BadWord" (eFld "Reader" "at" (eVar 0))) sNil) rest) [some (.ref R), some (.int ar), some (.str x), none, none, none, none] (RM M R W a m))) (rd ws k a m) := fun er ht rest => by
          rw [er, TLP.ifT ht, TLP.anyX (x := badW a) (env' := [some (.ref R), some (.int ar), some (.str x), none, none, none, none]) (M' := RM M R W a m) (sRaiseI_ap (by simp [h.fat]))]
          exact ⟨a, m, rfl⟩
        cases k with
        | zero =>
          have a4 : ar = 4 := by omega
          refine bad (by simp only [rd, q, hp, if_false]) ?_ _
          by_cases hu : x = Str.ofString "unit"
          · simp only [hu, decide_true, Bool.not_true] at eu
            simp [hu, eu, a4]
          · simp only [hu, decide_false, Bool.not_false] at eu
            simp [eu]
        | succ k =>
          have a4 : ¬ ar = 4 := by omega
          by_cases hu : x = Str.ofString "unit"
          · simp only [hu, decide_true, Bool.not_true] at eu
            by_cases hm : m = 10
            · refine bad (by simp only [rd, q, hp, if_false, hm, or_true, if_true]) ?_ _
              have hm' : (m : Int) = 10 := by omega
              simp [hu, eu, a4, h.fmany, hm']
            · have hm' : ¬ (m : Int) = 10 := by omega
              have hor : ¬ (x ≠ Str.ofString "unit" ∨ m = 10) := by
                rintro (z | z)
                · exact z hu
                · exact hm z
              rw [TLP.ifN (M' := RM M R W a m) (by simp [hu, eu, a4, h.fmany, hm'])]
              rw [TLP.any_ (env' := [some (.ref R), some (.int ar), some (.str x), none, none, none, none]) (M' := RM M R W (a + 1) m) (by simp [h.fat, h.pat])]
              rw [TLP.any_ (env' := [some (.ref R), some (.int ar), some (.str x), none, none, none, none]) (M' := RM M R W (a + 1) (m + 1)) (by simp [h.fmany, h.pmany])]
              have er : rd ws (k + 1) a m = match cnt ws (a + 1) 1 with
                  | (none, s) => .bad s
                  | (some to, _) => match cnt ws (a + 2) 1 with
                    | (none, s) => .bad s
                    | (some lead, _) => match ws[a + 3]? with
                      | none => .bad ws.length
                      | some y => if y = Str.ofString "-" then tailR (rd ws k) ws to lead none (a + 4) (m + 1)
                        else match cnt ws (a + 3) to with
                          | (none, s) => .bad s
                          | (some c, _) => tailR (rd ws k) ws to lead (some (c : Int)) (a + 4) (m + 1) := by
                rw [rd, q]
                simp only [hp, if_false, hor]
              rw [er]
              clear er bad ep eu w
              have c1 := count_one (a := a + 1) (m := m + 1) (lo := 1) h hw lt (by decide)
              cases q1 : cnt ws (a + 1) 1 with
              | mk o1 s1 =>
                rw [q1] at c1
                cases o1 with
                | none =>
                  dsimp only at c1 ⊢
                  rw [TLP.asgX (x := badW s1) (M' := RM M R W (a + 1) (m + 1)) (by simp [lcount h, c1])]
                  exact ⟨_, _, rfl⟩
                | some to =>
                  dsimp only at c1 ⊢
                  have lt1 := cnt_lt q1
                  have to1 : 1 ≤ to := by
                    unfold cnt at q1
                    split at q1
                    · cases q1
                    · split at q1
                      · cases q1
                      · rename_i hn2
                        split at q1
                        · cases q1
                        · cases q1
                          exact (numW_bd hn2).1
                  rw [TLP.asg (v := .int (to : Nat)) (M' := RM M R W (a + 2) (m + 1)) (by simp [lcount h, c1])]
                  simp only [List.set]
                  have c2 := count_one (a := a + 2) (m := m + 1) (lo := 1) h hw lt1 (by decide)
                  cases q2 : cnt ws (a + 2) 1 with
                  | mk o2 s2 =>
                    rw [q2] at c2
                    cases o2 with
                    | none =>
                      dsimp only at c2 ⊢
                      rw [TLP.asgX (x := badW s2) (M' := RM M R W (a + 2) (m + 1)) (by simp [lcount h, c2])]
                      exact ⟨_, _, rfl⟩
                    | some lead =>
                      dsimp only at c2 ⊢
                      have lt2 := cnt_lt q2
                      rw [TLP.asg (v := .int (lead : Nat)) (M' := RM M R W (a + 3) (m + 1)) (by simp [lcount h, c2])]
                      simp only [List.set]
                      have dd := dash_all (a := a + 3) (m := m + 1) h lt2
                      obtain ⟨n', rfl⟩ : ∃ n', n = n' + 1 := ⟨n - 1, by omega⟩
                      have tl := fun (cap : Option Int) (h4 : a + 4 ≤ ws.length) => tail_all (M := M) (a := a + 4) (m := m + 1) (f := rd ws k) (ar := ar) (to := (to : Nat)) (lead := (lead : Nat)) (cap := cap) (w := some (.str x)) (e6 := none) h (n := n') (fun a m ha => rule_all h hw k n' a m (ar + 1) (by omega) (by omega) ha) (fun a m ha => rule_all h hw k (n' + 1) a m (ar + 1) (by omega) (by omega) ha) h4
                      cases q3 : ws[a + 3]? with
                      | none =>
                        rw [q3] at dd
                        dsimp only at dd ⊢
                        rw [TLP.asgX (x := badW ws.length) (M' := RM M R W (a + 3) (m + 1)) (by simp [ldash h, dd])]
                        exact ⟨_, _, rfl⟩
                      | some y =>
                        rw [q3] at dd
                        have lt3 := (List.getElem?_eq_some_iff.mp q3).1
                        dsimp only at dd ⊢
                        by_cases hy : y = Str.ofString "-"
                        · rw [if_pos hy]
                          simp only [hy, decide_true, if_true] at dd
                          rw [TLP.asg (v := capD none) (M' := RM M R W (a + 4) (m + 1)) (by simp [ldash h, dd, capD])]
                          exact tl none lt3
                        · rw [if_neg hy]
                          simp only [hy, decide_false, if_false] at dd
                          have c3 := count_one (a := a + 3) (m := m + 1) (lo := (to : Nat)) h hw lt2 (by omega)
                          cases q4 : cnt ws (a + 3) (to : Nat) with
                          | mk o3 s3 =>
                            rw [q4] at c3
                            cases o3 with
                            | none =>
                              dsimp only at c3 ⊢
                              rw [TLP.asgX (x := badW s3) (M' := RM M R W (a + 3) (m + 1)) (by simp [ldash h, lcount h, dd, c3])]
                              exact ⟨_, _, rfl⟩
                            | some c =>
                              dsimp only at c3 ⊢
                              rw [TLP.asg (v := capD (some (c : Int))) (M' := RM M R W (a + 4) (m + 1)) (by simp [ldash h, lcount h, dd, c3, capD])]
                              exact tl (some (c : Int)) lt3
          · simp only [hu, decide_false, Bool.not_false] at eu
            refine bad (by simp only [rd, q, hp, if_false, ne_eq, hu, not_false_eq_true, true_or, if_true]) ?_ _
            simp [eu]
termination_by k n => n
end
/-- what a text of these words writes -/
def readR (ws : List Str) : RR := match rd ws 4 0 0 with
  | .bad s => .bad s
  | .ok r a m => if a < ws.length then .bad a else .ok r a m
theorem read_rule_all {ws : List Str} {M : Mem} (hne : ws ≠ []) (hf : ∀ x ∈ ws, 32 ∉ x.cps.toList) (hl : ∀ x ∈ ws, x.length ≤ 1000) (h1 : (ws.map (·.length)).sum ≤ 500000) (h2 : ws.length ≤ 1000) :
    match readR ws with
    | .ok r _ _ => ∃ M', m_read_rule [.str (Txt.join (Str.ofString " ") ws)] M = .ok r.toD M' ∧ Keep M M'
    | .bad s => Throws (m_read_rule [.str (Txt.join (Str.ofString " ") ws)] M) M (badW s) := by
  have sp : mSplit (.str (Txt.join (Str.ofString " ") ws)) [.str (Str.ofString " ")] M = some (.ref M.length, M ++ [.lst (ws.map D.str)]) := CW.split_ok hne hf (by omega) (by omega)
  have nw := CW.new_ok (M1 := M ++ [.lst (ws.map D.str), .ins (Str.ofString "Reader") []]) (R := M.length + 1) (W := M.length) (by rw [List.getElem?_append_right (by omega)]; simp)
  obtain ⟨N, hN⟩ : ∃ N, N = M ++ [.lst (ws.map D.str), .ins (Str.ofString "Reader") []] := ⟨_, rfl⟩
  have h : Rd N (M.length + 1) M.length ws := by
    subst hN
    exact ⟨by simp, seqAt_lst (by rw [List.getElem?_append_right (Nat.le_refl _)]; simp), by omega⟩
  have kk : ∀ a m, Keep M (RM N (M.length + 1) M.length a m) := fun a m => by
    subst hN
    exact (Keep.more M _).setNew (by omega)
  have rr := rule_all h hl 4 14 0 0 0 (by decide) (by decide) (Nat.zero_le _)
  have e0 : ∀ o, endS (b_read_rule [some (.str (Txt.join (Str.ofString " ") ws)), none, none] M) = o → m_read_rule [.str (Txt.join (Str.ofString " ") ws)] M = o := fun o h => h
  have s1 : ∀ o, endS ((sSeq (sAsg (gOne 2) (eMeM "Reader" "rule" [] (m_Reader_rule 14) (eVar 1) (aCons (eC (.int 0)) aNil)))
    (sSeq (sIf (TL.tB (eBin mLt (eFld "Reader" "at" (eVar 1)) (eCallO nLen (aCons (eFld "Reader" "words" (eVar 1)) aNil)))) (sRaiseI "BadWord" (eFld "Reader" "at" (eVar 1))) sNil)
    (sRet (eVar 2)))) [some (.str (Txt.join (Str.ofString " ") ws)), some (.ref (M.length + 1)), none] (RM N (M.length + 1) M.length 0 0)) = o → m_read_rule [.str (Txt.join (Str.ofString " ") ws)] M = o := fun o ho => by
    refine e0 o ?_
    unfold b_read_rule
    rw [TLP.asg (v := .ref (M.length + 1)) (M' := RM N (M.length + 1) M.length 0 0) (by
      subst hN
      simp [-mSplit_str, sp, nw])]
    exact ho
  unfold readR
  cases q : rd ws 4 0 0 with
  | bad s =>
    rw [q] at rr
    obtain ⟨a, m, e⟩ := rr
    refine ⟨RM N (M.length + 1) M.length a m, s1 _ ?_, kk a m⟩
    rw [TLP.asgX (x := badW s) (M' := RM N (M.length + 1) M.length a m) (by simp [lrule h, e])]
    rfl
  | ok r a m =>
    rw [q] at rr
    obtain ⟨e, ha⟩ := rr
    have ft := h.fat (a := a) (m := m)
    have fw := h.fwords (a := a) (m := m)
    have fs := h.seq (a := a) (m := m)
    by_cases c : a < ws.length
    · have c' : (a : Int) < (ws.length : Nat) := by omega
      simp only [c, if_true]
      refine ⟨RM N (M.length + 1) M.length a m, s1 _ ?_, kk a m⟩
      rw [TLP.asg (v := r.toD) (M' := RM N (M.length + 1) M.length a m) (by simp [lrule h, e])]
      simp only [List.set]
      rw [TLP.ifT (M' := RM N (M.length + 1) M.length a m) (by simp [ft, fw, fs, c]), TLP.anyX (x := badW a) (env' := [some (.str (Txt.join (Str.ofString " ") ws)), some (.ref (M.length + 1)), some r.toD]) (M' := RM N (M.length + 1) M.length a m) (sRaiseI_ap (by simp [ft]))]
      rfl
    · have c' : ¬ (a : Int) < (ws.length : Nat) := by omega
      simp only [c, if_false]
      refine ⟨RM N (M.length + 1) M.length a m, s1 _ ?_, kk a m⟩
      rw [TLP.asg (v := r.toD) (M' := RM N (M.length + 1) M.length a m) (by simp [lrule h, e])]
      simp only [List.set]
      rw [TLP.ifN (M' := RM N (M.length + 1) M.length a m) (by simp [ft, fw, fs, c]), TLP.ret (v := r.toD) (M' := RM N (M.length + 1) M.length a m) (by simp)]
      rfl
end CWR
end
section
set_option maxHeartbeats 4000000
namespace CGW
open PySem PySem.Spec PyProof.Rows L2 TL
open CM hiding b_l_unit m_l_unit g_l_unit b_l_rule m_l_rule b_l_any_rule m_l_any_rule any_rule rule_step rule_ok unit_ok
open CG
open CW hiding b_Reader_count b_Reader_is_dash b_Reader_last b_Reader_rule b_Reader_word b_read_rule g_Reader_rule m_Reader_count m_Reader_is_dash m_Reader_last m_Reader_rule m_Reader_word m_read_rule
open CWR
noncomputable section
def b_throw_word : MS := (sSeq (sAsg (gOne 1) (eBin mAdd (eBin mAdd (eBin mIdx (eVar 0) (eC (.int 0))) (eC (.str ":"))) (eCallO nStr (aCons (eBin mIdx (eVar 0) (eC (.int 1))) aNil))))
    (sSeq (sIf (tTru (eBin mIdx (eVar 0) (eC (.int 2)))) (sRet (eBin mAdd (eVar 1) (eC (.str "!")))) sNil)
    (sRet (eVar 1))))
def m_throw_word : Fn := fnD 1 2 b_throw_word
def b_show_game : MS := (sSeq (sIf (tB (eBin mEq (eBin mIdx (eVar 0) (eC (.int 0))) (eC (.str "rally")))) (sRet (eBin mAdd (eC (.str "rally ")) (eCall m_show_rule (aCons (eBin mIdx (eVar 0) (eC (.int 1))) aNil)))) sNil)
    (sSeq (sAsg (gOne 1) (eBin mAdd (eLst (aCons (eBin mIdx (eVar 0) (eC (.int 0))) aNil)) (eComp 2 (iAny (eSl (eBin mIdx (eVar 0) (eC (.int 1))) oNone (oSome (eC (.int 3))))) tYesD (eCallO nStr (aCons (eVar 2) aNil)))))
    (sSeq (sIf (tB (eBin mEq (eBin mIdx (eVar 0) (eC (.int 0))) (eC (.str "down")))) (sAsg (gOne 1) (eBin mAdd (eVar 1) (eComp 3 (iAny (eBin mIdx (eBin mIdx (eVar 0) (eC (.int 1))) (eC (.int 3)))) tYesD (eCall m_throw_word (aCons (eVar 3) aNil))))) sNil)
    (sRet (eMeth "str" mJoin (eC (.str " ")) (aCons (eVar 1) aNil))))))
def m_show_game : Fn := fnD 1 4 b_show_game
def b_number_by : MS := (sSeq (sIf (tOr (tB (eBin mEq (eVar 0) (eC (.str "")))) (tOr (tB (eBin mGt (eCallO nLen (aCons (eVar 0) aNil)) (eC (.int 7)))) (tAnd (tB (eBin mEq (eBin mIdx (eVar 0) (eC (.int 0))) (eC (.str "0")))) (tB (eBin mNe (eVar 0) (eC (.str "0"))))))) (sRet (eC .non)) sNil)
    (sSeq (sIf (tNot (tTru (eCallO nAll (aCons (eComp 1 (iAny (eVar 0)) tYesD (eBin mIn (eVar 1) (eC (.str "0123456789")))) aNil)))) (sRet (eC .non)) sNil)
    (sRet (eCallO nIntS (aCons (eVar 0) aNil)))))
def m_number_by : Fn := fnD 1 2 b_number_by
def b_throw_by : MS := (sSeq (sAsg (gTupD [3, 4, 5]) (eMeth "str" mPartition (eVar 0) (aCons (eC (.str ":")) aNil)))
    (sSeq (sAsg (gOne 1) (eBin mEq (eSl (eVar 5) (oSome (eUn mNeg (eC (.int 1)))) oNone) (eC (.str "!"))))
    (sSeq (sIf (tTru (eVar 1)) (sAsg (gOne 5) (eSl (eVar 5) oNone (oSome (eUn mNeg (eC (.int 1)))))) sNil)
    (sSeq (sAsg (gOne 2) (eCall m_number_by (aCons (eVar 5) aNil)))
    (sSeq (sIf (tOr (tNot (tTru (eCall m_is_throw_name (aCons (eVar 3) aNil)))) (tNot (tTru (eCall m_is_between (aCons (eVar 2) (aCons (eC (.int 0)) (aCons (eC (.int 1000000)) aNil))))))) (sRet (eC .non)) sNil)
    (sRet (eTup (aCons (eVar 3) (aCons (eVar 2) (aCons (eVar 1) aNil))))))))))
def m_throw_by : Fn := fnD 1 6 b_throw_by
def lp_numbers_in_0 : MS := (sSeq (sIf (tB (eBin mEq (eVar 3) (eCallO nLen (aCons (eVar 0) aNil)))) (sRaiseI "BadWord" (eVar 3)) sNil)
    (sSeq (sAsg (gOne 4) (eCall m_number_by (aCons (eBin mIdx (eVar 0) (eVar 3)) aNil)))
    (sSeq (sIf (tNot (tTru (eCall m_is_between (aCons (eVar 4) (aCons (eC (.int 1)) (aCons (eBin mIdx (eVar 1) (eBin mSub (eVar 3) (eC (.int 1)))) aNil)))))) (sRaiseI "BadWord" (eVar 3)) sNil)
    (sExpr (eMeth "list" mAppend (eVar 2) (aCons (eVar 4) aNil))))))
def b_numbers_in : MS := (sSeq (sAsg (gOne 2) (eLst aNil))
    (sSeq (sFor (iRange2 (eC (.int 1)) (eBin mAdd (eCallO nLen (aCons (eVar 1) aNil)) (eC (.int 1)))) (gOne 3) lp_numbers_in_0)
    (sRet (eCallO nTuple (aCons (eVar 2) aNil)))))
def m_numbers_in : Fn := fnD 2 5 b_numbers_in
def lp_throws_in_0 : MS := (sSeq (sAsg (gOne 4) (eCall m_throw_by (aCons (eBin mIdx (eVar 0) (eVar 3)) aNil)))
    (sSeq (sIf (tOr (tB (eBin mIs (eVar 4) (eC .non))) (tOr (tB (eBin mIn (eBin mIdx (eVar 4) (eC (.int 0))) (eVar 2))) (tB (eBin mEq (eCallO nLen (aCons (eVar 1) aNil)) (eC (.int 30)))))) (sRaiseI "BadWord" (eVar 3)) sNil)
    (sSeq (sExpr (eMeth "list" mAppend (eVar 1) (aCons (eVar 4) aNil)))
    (sExpr (eMeth "list" mAppend (eVar 2) (aCons (eBin mIdx (eVar 4) (eC (.int 0))) aNil))))))
def b_throws_in : MS := (sSeq (sAsg (gOne 1) (eLst aNil))
    (sSeq (sAsg (gOne 2) (eLst aNil))
    (sSeq (sFor (iRange2 (eC (.int 4)) (eCallO nLen (aCons (eVar 0) aNil))) (gOne 3) lp_throws_in_0)
    (sSeq (sIf (tB (eBin mEq (eVar 1) (eLst aNil))) (sRaiseI "BadWord" (eC (.int 4))) sNil)
    (sRet (eCallO nTuple (aCons (eVar 1) aNil)))))))
def m_throws_in : Fn := fnD 1 5 b_throws_in
def b_rally_in : MS := (sSeq (sAsg (gOne 1) (eC .non))
    (sSeq (sAsg (gOne 2) (eC .non))
    (sSeq (sTry ["NoThrow", "NoPins", "NoSide", "Over", "NoGame", "NoDeed", "TooMany", "NoLine", "BadWord", "Falls"] (sAsg (gOne 2) (eCall m_read_rule (aCons (eMeth "str" mJoin (eC (.str " ")) (aCons (eSl (eVar 0) (oSome (eC (.int 1))) oNone) aNil)) aNil))) [⟨"BadWord", (some 3), (sAsg (gOne 1) (eAt ["BadWord", "Falls"] (eVar 3)))⟩])
    (sSeq (sIf (tB (eBin mIsNot (eVar 1) (eC .non))) (sRaiseI "BadWord" (eBin mAdd (eVar 1) (eC (.int 1)))) sNil)
    (sRet (eVar 2))))))
def m_rally_in : Fn := fnD 1 4 b_rally_in
def b_read_game : MS := (sSeq (sAsg (gOne 1) (eMeth "str" mSplit (eVar 0) (aCons (eC (.str " ")) aNil)))
    (sSeq (sIf (tB (eBin mEq (eBin mIdx (eVar 1) (eC (.int 0))) (eC (.str "rally")))) (sRet (eTup (aCons (eC (.str "rally")) (aCons (eCall m_rally_in (aCons (eVar 1) aNil)) aNil)))) sNil)
    (sSeq (sIf (tB (eBin mEq (eBin mIdx (eVar 1) (eC (.int 0))) (eC (.str "down")))) (sRet (eTup (aCons (eC (.str "down")) (aCons (eBin mAdd (eCall m_numbers_in (aCons (eVar 1) (aCons (eLst (aCons (eC (.int 3)) (aCons (eC (.int 1000000)) (aCons (eC (.int 3)) aNil)))) aNil))) (eTup (aCons (eCall m_throws_in (aCons (eVar 1) aNil)) aNil))) aNil)))) sNil)
    (sSeq (sIf (tB (eBin mNe (eBin mIdx (eVar 1) (eC (.int 0))) (eC (.str "lane")))) (sRaiseI "BadWord" (eC (.int 0))) sNil)
    (sSeq (sAsg (gOne 2) (eCall m_numbers_in (aCons (eVar 1) (aCons (eLst (aCons (eC (.int 3)) (aCons (eC (.int 20)) (aCons (eC (.int 12)) aNil)))) aNil))))
    (sSeq (sIf (tB (eBin mGt (eCallO nLen (aCons (eVar 1) aNil)) (eC (.int 4)))) (sRaiseI "BadWord" (eC (.int 4))) sNil)
    (sRet (eTup (aCons (eC (.str "lane")) (aCons (eVar 2) aNil))))))))))
def m_read_game : Fn := fnD 1 3 b_read_game
end
open RL TLQ RD
theorem nW_tl (n : Nat) : tlS (nW (n : Nat)) = numL n := tl_num n
theorem zero_is : Str.ofString "0" = (⟨#[48]⟩ : Str) := by decide +kernel
def val (l : List Nat) : Nat := l.foldl (fun v c => 10 * v + (c - 48)) 0
theorem val_snoc (l : List Nat) (c : Nat) : val (l ++ [c]) = 10 * val l + (c - 48) := by simp [val]
/-- figures, no nought ahead -/
def figs (l : List Nat) : Bool := l.all figure && (l.head? != some 48 || l == [48])
/-- the number that a word writes -/
def wN (x : Str) : Option Nat := if tlS x ≠ [] ∧ (tlS x).length ≤ 7 ∧ figs (tlS x) = true then some (val (tlS x)) else none
theorem val_num : ∀ r : List Nat, r ≠ [] → (∀ c ∈ r.reverse, figure c = true) → r.reverse.head? ≠ some 48 → numL (val r.reverse) = r.reverse ∧ 1 ≤ val r.reverse ∧ val r.reverse < 10 ^ r.length
  | [], h, _, _ => absurd rfl h
  | [c], _, hf, h0 => by
    have f := hf c (by simp)
    simp [figure] at f
    have c0 : c ≠ 48 := fun e => h0 (by simp [e])
    have e : val [c].reverse = c - 48 := by simp [val]
    rw [e]
    exact ⟨by rw [numL_lt (by omega)]; simp; omega, by omega, by simp; omega⟩
  | c :: d :: r, _, hf, h0 => by
    have er : (c :: d :: r).reverse = (d :: r).reverse ++ [c] := by simp
    rw [er] at hf h0 ⊢
    have f := hf c (by simp)
    simp [figure] at f
    obtain ⟨h1, h2, h3⟩ := val_num (d :: r) (by simp) (fun c hc => hf c (List.mem_append_left _ hc)) (by
      obtain ⟨y, ys, ey⟩ : ∃ y ys, (d :: r).reverse = y :: ys := by
        cases q : (d :: r).reverse with
        | nil => simp at q
        | cons y ys => exact ⟨y, ys, rfl⟩
      rw [ey] at h0 ⊢
      exact h0)
    rw [val_snoc]
    generalize val (d :: r).reverse = v at *
    refine ⟨?_, by omega, ?_⟩
    · rw [numL_step (by omega), show (10 * v + (c - 48)) / 10 = v by omega, h1, show 48 + (10 * v + (c - 48)) % 10 = c by omega]
    · rw [List.length_cons, Nat.pow_succ]
      omega
theorem wN_nW {x : Str} {n : Nat} (h : wN x = some n) : x = nW (n : Nat) ∧ n ≤ 9999999 := by
  unfold wN at h
  split at h
  · rename_i q
    obtain ⟨q1, q2, q3⟩ := q
    cases h
    have e : ∀ {y : Str}, tlS x = tlS y → x = y := fun {y} h => by
      obtain ⟨⟨a⟩⟩ := x
      obtain ⟨⟨b⟩⟩ := y
      have : a = b := h
      rw [this]
    unfold figs at q3
    obtain ⟨f1, f2⟩ := Bool.and_eq_true_iff.mp q3
    by_cases z : tlS x = [48]
    · refine ⟨e ?_, by rw [z]; decide⟩
      rw [nW_tl, z]
      decide +kernel
    · have h0 : (tlS x).head? ≠ some 48 := by
        intro q
        rw [q] at f2
        simp at f2
        exact z f2
      have hr : ((tlS x).reverse).reverse = tlS x := List.reverse_reverse _
      obtain ⟨h1, h2, h3⟩ := val_num (tlS x).reverse (by simpa using q1) (by rw [hr]; exact fun c hc => List.all_eq_true.mp f1 c hc) (by rw [hr]; exact h0)
      rw [hr] at h1 h3
      refine ⟨e (by rw [nW_tl, h1]), ?_⟩
      have : 10 ^ (tlS x).reverse.length ≤ 10 ^ 7 := Nat.pow_le_pow_right (by decide) (by rw [List.length_reverse]; exact q2)
      have : (10 : Nat) ^ 7 = 10000000 := by decide
      omega
  · cases h
theorem intS {x : Str} {n : Nat} (h : wN x = some n) (M : Mem) : nIntS [.str x] M = some (.int (n : Nat), M) := by
  obtain ⟨rfl, hn⟩ := wN_nW h
  have l7 : (numL n).length ≤ 7 := numL_len (by decide) (by omega)
  have le : (nW (n : Nat)).length = (numL n).length := by
    rw [← nW_tl]; show (nW (n : Nat)).cps.size = _; simp [tlS]
  have e := int_num (n := n) (by omega)
  show (match PySem.intText? (nW (n : Nat)) with | some k => if (nW (n : Nat)).length ≤ 640 then some (D.int k, M) else none | none => none) = _
  rw [show PySem.intText? (nW (n : Nat)) = some (n : Int) from e]
  exact if_pos (by omega)
def oD : Option Nat → D
  | none => .non
  | some n => .int (n : Nat)
theorem lenS (x : Str) : x.length = (tlS x).length := by show x.cps.size = _; simp [tlS]
theorem empty_iff {x : Str} (M : Mem) : mEq (.str x) (.str (Str.ofString "")) M = some (.bl (tlS x).isEmpty, M) := by
  rw [mEq_text]
  have z : Str.ofString "" = ⟨#[]⟩ := by decide +kernel
  rw [z]
  cases q : tlS x with
  | nil =>
    have : x = ⟨#[]⟩ := by
      obtain ⟨⟨a⟩⟩ := x
      have : a = [] := q
      rw [this]
    simp [this]
  | cons a r =>
    have : x ≠ ⟨#[]⟩ := fun e => by rw [e] at q; simp [tlS] at q
    simp [this]
/-- the signs of a word, one by one -/
theorem comp_signs {x : Str} {e : ME} {i j : Nat} {env : TL.Env} {M : Mem} (f : Nat → D) (hl : x.length ≤ 1000) (hj : env[j]? = some (some (.str x))) (h : ∀ c, ∀ M', e (env.set i (some (.str ⟨#[c]⟩))) M' = .ok (f c) M') :
    eComp i (iAny (eVar j)) tYesD e env M = .ok (.ref M.length) (M ++ [.lst ((tlS x).map f)]) := by
  have sz : (strItems x).length ≤ 1000000 := by unfold strItems; rw [List.length_map]; have := lenS x; show (tlS x).length ≤ _; omega
  have := eComp_pure (i := i) (t := tYesD) (e := e) (env := env) (M := M) (M1 := M) (s := iAny (eVar j)) (src := ⟨strItems x, fun _ => True⟩) (fun _ => true) (fun d => match d with | .str y => f ((tlS y).headD 0) | _ => .non) (by simp [hj, srcOf]) (fun _ => trivial) sz (fun d hd ys => ⟨rfl, fun _ => by
    obtain ⟨c, _, rfl⟩ := List.mem_map.mp hd
    rw [h]
    rfl⟩)
  have mm : (strItems x).map (fun d => match d with | .str y => f ((tlS y).headD 0) | _ => D.non) = (tlS x).map f := by
    unfold strItems
    rw [List.map_map]
    rfl
  rw [this]
  show Out.ok _ (M ++ [MO.lst (((strItems x).filter fun _ => true).map _)]) = _
  rw [List.filter_eq_self.mpr (fun _ _ => rfl), mm]
theorem all_figs {x : Str} (hl : x.length ≤ 1000) (M : Mem) : (eCallO nAll (aCons (eComp 1 (iAny (eVar 0)) tYesD (eBin mIn (eVar 1) (eC (.str "0123456789")))) aNil)) [some (.str x), none] M = .ok (.bl ((tlS x).all figure)) (M ++ [.lst (((tlS x).map figure).map D.bl)]) := by
  have c := comp_signs (x := x) (i := 1) (j := 0) (env := [some (.str x), none]) (M := M) (e := eBin mIn (eVar 1) (eC (.str "0123456789"))) (fun c => .bl (figure c)) hl rfl (fun c M' => by simp [in_figs])
  have mm : (tlS x).map (fun c => D.bl (figure c)) = ((tlS x).map figure).map D.bl := by rw [List.map_map]; rfl
  rw [mm] at c
  have na := nAll_bls (seqAt_lst (at_len M (MO.lst (((tlS x).map figure).map D.bl))))
  have : ((tlS x).map figure).all id = (tlS x).all figure := by rw [List.all_map]; rfl
  rw [this] at na
  generalize eComp 1 (iAny (eVar 0)) tYesD (eBin mIn (eVar 1) (eC (.str "0123456789"))) = ee at *
  generalize ((tlS x).map figure).map D.bl = bs at *
  simp [c, na]
/-- a word of figures, by the program -/
theorem number_by_all {x : Str} (hl : x.length ≤ 1000) (M : Mem) : Ret (m_number_by [.str x] M) (TL.Gives M (oD (wN x))) := by
  show Ret (endS (b_number_by [some (.str x), none] M)) _
  unfold b_number_by
  have ln := lenS x
  have sz : x.length ≤ 16777216 := by omega
  have e0 := empty_iff (x := x) M
  have non : ∀ {t : MT} {rest : MS} {M1 : Mem}, Keep M M1 → wN x = none → t [some (.str x), none] M = .ok true M1 → Ret (endS ((sSeq (sIf t (sRet (eC .non)) sNil) rest) [some (.str x), none] M)) (TL.Gives M (oD (wN x))) := fun {t rest M1} k hn ht => by
    rw [TLP.ifT ht, TLP.ret1 (v := .non) (M' := M1) rfl, hn]
    exact .ok ⟨rfl, k⟩
  cases q : tlS x with
  | nil =>
    rw [q] at e0
    exact non (M1 := M) (Keep.refl _) (by unfold wN; rw [q]; simp) (by simp at e0; simp [e0])
  | cons a r =>
    rw [q] at e0 ln
    have e0' : mEq (.str x) (.str (Str.ofString "")) M = some (.bl false, M) := e0
    rw [List.length_cons] at ln
    by_cases l7 : 7 < x.length
    · have l7' : (7 : Int) < (x.length : Nat) := by omega
      exact non (M1 := M) (Keep.refl _) (by unfold wN; rw [q]; simp; intro; omega) (by simp [e0', sz, l7'])
    have l7' : ¬ (7 : Int) < (x.length : Nat) := by omega
    have i0 := mIdx0 q (by omega) M
    have z0 := zero_eq (c := a) M
    by_cases z : a = 48 ∧ r ≠ []
    · obtain ⟨rfl, hr⟩ := z
      have nz : mNe (.str x) (.str (Str.ofString "0")) M = some (.bl true, M) := by
        rw [mNe_text]
        have : x ≠ Str.ofString "0" := fun e => by
          rw [e, zero_is] at q
          simp [tlS] at q
          exact hr (by first | exact q | exact q.symm)
        simp [this]
      exact non (M1 := M) (Keep.refl _) (by unfold wN figs; rw [q]; cases r with | nil => exact absurd rfl hr | cons b r => simp) (by simp at z0; simp [e0', sz, l7', i0, z0, nz])
    rw [TLP.ifN (M' := M) (by
      by_cases z1 : a = 48
      · subst z1
        have hr : r = [] := Classical.byContradiction fun h => z ⟨rfl, h⟩
        subst hr
        have nz : mNe (.str x) (.str (Str.ofString "0")) M = some (.bl false, M) := by
          rw [mNe_text]
          have : x = Str.ofString "0" := by
            rw [zero_is]
            obtain ⟨⟨l⟩⟩ := x
            have : l = [48] := q
            rw [this]
          simp [this]
        simp at z0
        simp [e0', sz, l7', i0, z0, nz]
      · simp [z1] at z0
        simp [e0', sz, l7', i0, z0])]
    have af := all_figs (x := x) hl M
    rw [q] at af
    have k1 := Keep.more M [MO.lst (((a :: r).map figure).map D.bl)]
    generalize M ++ [MO.lst (((a :: r).map figure).map D.bl)] = M1 at *
    generalize (eCallO nAll (aCons (eComp 1 (iAny (eVar 0)) tYesD (eBin mIn (eVar 1) (eC (.str "0123456789")))) aNil)) = ee at *
    cases fa : (a :: r).all figure with
    | false =>
      rw [fa] at af
      rw [TLP.ifT (M' := M1) (by simp [af]), TLP.ret1 (v := .non) (M' := M1) rfl, show wN x = none by unfold wN figs; rw [q, fa]; simp]
      exact .ok ⟨rfl, k1⟩
    | true =>
      rw [fa] at af
      have hw : wN x = some (val (a :: r)) := by
        unfold wN figs
        rw [q, fa]
        have hh : ((a :: r).head? != some 48 || (a :: r) == [48]) = true := by
          by_cases z1 : a = 48
          · have hr : r = [] := Classical.byContradiction fun h => z ⟨z1, h⟩
            subst hr z1
            rfl
          · simp [z1]
        rw [hh]
        simp
        omega
      rw [TLP.ifN (M' := M1) (by simp [af]), TLP.ret (v := .int (val (a :: r) : Nat)) (M' := M1) (by simp [intS hw M1]), hw]
      exact .ok ⟨rfl, k1⟩
def wM (x : Str) (most : Nat) : Option Nat := match wN x with
  | some n => if n ≤ most then some n else none
  | none => none
theorem cutL_last {α : Type} (l : List α) (c : α) : cutL (l ++ [c]) (some (-1)) none = [c] := by
  unfold cutL
  rw [HT.sIx_none]
  have e : HT.sIx (l ++ [c]).length 0 (some (-1)) = l.length := by
    show (if (-1 : Int) < 0 then ((-1 : Int) + ((l ++ [c]).length : Int)).toNat else min (-1 : Int).toNat (l ++ [c]).length) = _
    rw [if_pos (by omega), List.length_append, List.length_singleton]; omega
  rw [e]
  simp
theorem cutL_ini {α : Type} (l : List α) (c : α) : cutL (l ++ [c]) none (some (-1)) = l := by
  unfold cutL
  rw [HT.sIx_none]
  have e : HT.sIx (l ++ [c]).length (l ++ [c]).length (some (-1)) = l.length := by
    show (if (-1 : Int) < 0 then ((-1 : Int) + ((l ++ [c]).length : Int)).toNat else min (-1 : Int).toNat (l ++ [c]).length) = _
    rw [if_pos (by omega), List.length_append, List.length_singleton]; omega
  rw [e]
  simp
theorem colon_S : Str.ofString ":" = S [58] := by decide +kernel
theorem bang_S : Str.ofString "!" = S [33] := by decide +kernel
theorem tl_S (x : Str) : S (tlS x) = x := S_of x
/-- a word parted at its first colon -/
theorem part_cases (x : Str) : (∃ n r : Str, x = n ++ Str.ofString ":" ++ r ∧ 58 ∉ tlS n ∧ Txt.partition x (Str.ofString ":") = (n, Str.ofString ":", r)) ∨ Txt.partition x (Str.ofString ":") = (x, Str.ofString "", Str.ofString "") := by
  by_cases h : 58 ∈ tlS x
  · obtain ⟨a, b, e, na⟩ := List.eq_append_cons_of_mem h
    have ex : x = S a ++ Str.ofString ":" ++ S b := by
      rw [colon_S, S_append, S_append, ← tl_S x, e]
      simp
    have na' : 58 ∉ tlS (S a) := by rw [show tlS (S a) = a from S_tl a]; exact na
    refine .inl ⟨S a, S b, ex, na', ?_⟩
    conv => lhs; rw [ex]
    exact partition_app (s := 58) (S := []) (by decide +kernel) na'
  · right
    have f : decide (0 ≤ Txt.find x ⟨#[58]⟩) = false := by
      have : ∀ (x : Str) (c : Nat), decide (0 ≤ Txt.find x ⟨#[c]⟩) = decide (c ∈ x.cps.toList) := fun x c => by
        rw [← PySem.StrLaws.found_one]
        unfold Txt.find
        cases Builtin.Str.occurrences x ⟨#[c]⟩ 0 x.length 1 with
        | nil => rfl
        | cons k ks => simp
      rw [this]
      exact decide_eq_false h
    have z : Str.ofString ":" = ⟨#[58]⟩ := by decide +kernel
    rw [z]
    unfold Txt.find at f
    unfold Txt.partition
    cases q : Builtin.Str.occurrences x ⟨#[58]⟩ 0 x.length 1 with
    | nil => rfl
    | cons k ks => rw [q] at f; simp at f
/-- the rest of it: does it end with a sign, and without it -/
def restC (r : Str) : Bool × Str := match (tlS r).reverse with
  | 33 :: q => (true, S q.reverse)
  | _ => (false, r)
def tN (x : Str) : Option Thr := match wM (restC (Txt.partition x (Str.ofString ":")).2.2).2 1000000 with
  | some w => if nameB (Txt.partition x (Str.ofString ":")).1 = true then some ⟨(Txt.partition x (Str.ofString ":")).1, (w : Int), (restC (Txt.partition x (Str.ofString ":")).2.2).1⟩ else none
  | none => none
theorem rest_len (r : Str) : (restC r).2.length ≤ r.length := by
  unfold restC
  split
  · rename_i q e
    have := congrArg List.length e
    rw [List.length_reverse, List.length_cons] at this
    rw [S_len, List.length_reverse, lenS]
    omega
  · exact Nat.le_refl _
/-- the program's and the law's look at its end -/
theorem rest_at (r : Str) (hl : r.length ≤ 1000) (M : Mem) : ∃ t : Str, mSl (.str r) (some (-1)) none M = some (.str t, M) ∧ mEq (.str t) (.str (Str.ofString "!")) M = some (.bl (restC r).1, M) ∧ ((restC r).1 = true → mSl (.str r) none (some (-1)) M = some (.str (restC r).2, M)) ∧ ((restC r).1 = false → (restC r).2 = r) := by
  have hl' : (tlS r).length ≤ 1000 := by rw [← lenS]; exact hl
  rcases List.eq_nil_or_concat (tlS r) with e | ⟨l, d, e⟩
  · refine ⟨S [], ?_, ?_, ?_, ?_⟩
    · conv => lhs; rw [← tl_S r]
      rw [mSl_S hl', e]
      rfl
    · rw [mEq_text, bang_S, decide_eq_false (fun q => by have := S_inj q; cases this)]
      unfold restC
      rw [e]
      rfl
    · intro h
      unfold restC at h
      rw [e] at h
      cases h
    · intro _
      unfold restC
      rw [e]
      rfl
  · rw [List.concat_eq_append] at e
    refine ⟨S [d], ?_, ?_, ?_, ?_⟩
    · conv => lhs; rw [← tl_S r]
      rw [mSl_S hl', e, cutL_last]
    · rw [mEq_text, bang_S]
      unfold restC
      rw [e, List.reverse_append]
      by_cases z : d = 33
      · subst z; simp
      · rw [decide_eq_false (fun q => z (by have := S_inj q; simpa using this))]
        simp only [List.reverse_cons, List.reverse_nil, List.nil_append, List.singleton_append]
        split
        · rename_i q; cases q; exact absurd rfl z
        · rfl
    · intro h
      conv => lhs; rw [← tl_S r]
      rw [mSl_S hl', e, cutL_ini]
      unfold restC at h ⊢
      rw [e, List.reverse_append] at h ⊢
      simp only [List.reverse_cons, List.reverse_nil, List.nil_append, List.singleton_append] at h ⊢
      split
      · rename_i q; cases q; simp
      · rename_i q
        split at h
        · rename_i q2; exact absurd q2 (q _)
        · cases h
    · intro h
      unfold restC at h ⊢
      split
      · rename_i q; rw [q] at h; cases h
      · rfl
theorem part_len (x : Str) : (Txt.partition x (Str.ofString ":")).1.length ≤ x.length ∧ (Txt.partition x (Str.ofString ":")).2.2.length ≤ x.length := by
  rcases part_cases x with ⟨n, r, e, _, q⟩ | q
  · rw [q]
    have : x.length = n.length + (1 + r.length) := by
      rw [lenS, lenS, lenS]
      rw [e, colon_S, ← tl_S n, ← tl_S r, S_append, S_append]
      rw [show tlS (S (tlS n ++ [58] ++ tlS r)) = tlS n ++ [58] ++ tlS r from S_tl _, show tlS (S (tlS n)) = tlS n from S_tl _, show tlS (S (tlS r)) = tlS r from S_tl _]
      simp only [List.length_append, List.length_cons, List.length_nil]
      omega
    exact ⟨by simp only; omega, by simp only; omega⟩
  · rw [q]
    exact ⟨Nat.le_refl _, Nat.zero_le _⟩
theorem part_ok {x : Str} (hl : x.length ≤ 1000) (M : Mem) : mPartition (.str x) [.str (Str.ofString ":")] M = some (.tup [.str (Txt.partition x (Str.ofString ":")).1, .str (Txt.partition x (Str.ofString ":")).2.1, .str (Txt.partition x (Str.ofString ":")).2.2], M) := by
  rw [mPartition_str, if_pos ⟨by decide +kernel, by rw [sizeLine_eq]; omega⟩]
/-- any text asked whether it is a throw's name -/
theorem name_any {x : Str} (hl : x.length ≤ 1000) (M : Mem) : Ret (m_is_throw_name [.str x] M) (TL.Gives M (.bl (nameB x))) := by
  show Ret (endS (b_is_throw_name [some (.str x), none] M)) _
  unfold b_is_throw_name
  have hls : x.length ≤ 16777216 := by omega
  have hx : x.length = x.cps.toList.length := by show x.cps.size = _; simp
  cases e : x.cps.toList with
  | nil =>
    rw [e] at hx
    simp [hls, hx]
    exact TL.Ret.ok (P := TL.Gives M _) ⟨by simp [nameB, nameL, e], Keep.refl _⟩
  | cons c r =>
    have l0 : ¬ ((x.length : Nat) : Int) < 1 := by rw [hx, e]; simp; omega
    by_cases l8 : (8 : Int) < ((x.length : Nat) : Int)
    · simp [hls, l0, l8]
      have : ¬ (x.cps.toList.length ≤ 8) := by omega
      rw [e, List.length_cons] at this
      exact TL.Ret.ok (P := TL.Gives M _) ⟨by simp [nameB, nameL, e]; intros; omega, Keep.refl _⟩
    · have i0 := str_at0 e (by omega) M
      cases hc : letter c with
      | false =>
        simp [hls, l0, l8, i0, notIn_letters, hc]
        exact TL.Ret.ok (P := TL.Gives M _) ⟨by simp [nameB, nameL, e, hc], Keep.refl _⟩
      | true =>
        simp [hls, l0, l8, i0, notIn_letters, hc]
        refine Ret.bindQ (P := fun _ M1 => Keep M M1 ∧ seqAt M1 M.length = some ((x.cps.toList.map sign).map D.bl)) ?_ ?_
        · refine Ret.comp (fun d => match d with | .str y => .bl (y.cps.toList.all sign) | _ => .non) (fun _ _ => trivial) (by show (x.cps.toList.map _).length ≤ _; rw [List.length_map, ← hx]; omega) (fun d hd M' k => ?_) fun M2 k a => ⟨k, ?_⟩
          · obtain ⟨c2, hc2, rfl⟩ := List.mem_map.mp hd
            cases q : letter c2 with
            | true =>
              simp [in_letters, in_figs, q]
              exact TL.Ret.ok (P := TL.Gives M' _) ⟨by simp [sign, q], Keep.refl _⟩
            | false =>
              simp [in_letters, in_figs, q]
              exact TL.Ret.ok (P := TL.Gives M' _) ⟨by simp [sign, q], Keep.refl _⟩
          · rw [seqAt_lst a]
            simp [strItems, List.map_map, Function.comp_def]
        rintro _ M1 ⟨k1, a1⟩
        have na := nAll_bls (M := M1) a1
        simp [na]
        refine .ok ⟨?_, k1⟩
        have l8' : x.cps.toList.length ≤ 8 := by omega
        rw [e, List.length_cons] at l8'
        simp [nameB, nameL, e, hc, List.all_map, Function.comp_def]
        rw [← Array.all_toList, e, List.all_cons, decide_eq_true (by omega : r.length ≤ 7), Bool.true_and]
def tD : Option Thr → D
  | some t => t.toD
  | none => .non
/-- a throw's word, by the program -/
theorem throw_by_all {x : Str} (hl : x.length ≤ 1000) (M : Mem) : Ret (m_throw_by [.str x] M) (TL.Gives M (tD (tN x))) := by
  show Ret (endS (b_throw_by [some (.str x), none, none, none, none, none] M)) _
  unfold b_throw_by
  have pa := part_ok hl M
  have pl := part_len x
  unfold tN
  generalize (Txt.partition x (Str.ofString ":")).1 = n at *
  generalize (Txt.partition x (Str.ofString ":")).2.1 = sg at *
  generalize (Txt.partition x (Str.ofString ":")).2.2 = r at *
  rw [TLP.asgG (v := .tup [.str n, .str sg, .str r]) (env' := [some (.str x), none, none, some (.str n), some (.str sg), some (.str r)]) (M' := M) (by simp [-mPartition_str, pa]) rfl]
  obtain ⟨t, s1, s2, s3, s4⟩ := rest_at r (by omega) M
  have rl := rest_len r
  rw [TLP.asg (v := .bl (restC r).1) (M' := M) (by simp [s1, s2])]
  simp only [List.set]
  have st : ∀ rest : MS, (sSeq (sIf (tTru (eVar 1)) (sAsg (gOne 5) (eSl (eVar 5) oNone (oSome (eUn mNeg (eC (.int 1)))))) sNil) rest) [some (.str x), some (.bl (restC r).1), none, some (.str n), some (.str sg), some (.str r)] M = rest [some (.str x), some (.bl (restC r).1), none, some (.str n), some (.str sg), some (.str (restC r).2)] M := fun rest => by
    cases q : (restC r).1 with
    | true => rw [TLP.ifT (M' := M) (by simp), TLP.asg (v := .str (restC r).2) (M' := M) (by simp [s3 q])]; rfl
    | false => rw [TLP.ifN (M' := M) (by simp), s4 q]
  rw [st]
  generalize restC r = rc at *
  obtain ⟨en, rt⟩ := rc
  obtain ⟨M1, e1, k1⟩ := gives_of (number_by_all (x := rt) (by simp only at rl; omega) M)
  rw [TLP.asg (v := oD (wN rt)) (M' := M1) (by simp [e1])]
  simp only [List.set]
  obtain ⟨M2, e2, k2⟩ := gives_of (name_any (x := n) (by omega) M1)
  have k12 := k1.trans k2
  unfold wM
  cases hw : wN rt with
  | none =>
    have bt := between_B (d := .non) (lo := 0) (hi := 1000000) (M := M2) rfl
    rw [TLP.ifT (M' := M2) (by
      cases nb : nameB n with
      | true => rw [nb] at e2; simp [e2, oD, bt, inB]
      | false => rw [nb] at e2; simp [e2]), TLP.ret1 (v := .non) (M' := M2) rfl]
    exact .ok ⟨rfl, k12⟩
  | some w =>
    have bt := between_B (d := .int (w : Nat)) (lo := 0) (hi := 1000000) (M := M2) rfl
    have b0 : (0 : Int) ≤ (w : Nat) := by omega
    by_cases c : w ≤ 1000000
    · have c' : ((w : Nat) : Int) ≤ 1000000 := by omega
      simp only [inB, b0, c', decide_true, Bool.and_self] at bt
      simp only [c, if_true]
      cases nb : nameB n with
      | true =>
        rw [nb] at e2
        rw [TLP.ifN (M' := M2) (by simp [e2, oD, bt]), TLP.ret (v := .tup [.str n, .int (w : Nat), .bl en]) (M' := M2) (by simp [oD])]
        exact .ok ⟨rfl, k12⟩
      | false =>
        rw [nb] at e2
        rw [TLP.ifT (M' := M2) (by simp [e2]), TLP.ret1 (v := .non) (M' := M2) rfl]
        exact .ok ⟨rfl, k12⟩
    · have c' : ¬ ((w : Nat) : Int) ≤ 1000000 := by omega
      simp only [inB, b0, c', decide_true, decide_false, Bool.and_false] at bt
      simp only [c, if_false]
      rw [TLP.ifT (M' := M2) (by
        cases nb : nameB n with
        | true => rw [nb] at e2; simp [e2, oD, bt]
        | false => rw [nb] at e2; simp [e2]), TLP.ret1 (v := .non) (M' := M2) rfl]
      exact .ok ⟨rfl, k12⟩
theorem nW_len {n : Nat} (h : n ≤ 1000000) : (nW (n : Nat)).length ≤ 7 ∧ (nW (n : Nat)).length = (numL n).length := by
  have e : (nW (n : Nat)).length = (numL n).length := by
    rw [← nW_tl]; show (nW (n : Nat)).cps.size = _; simp [tlS]
  exact ⟨by rw [e]; exact numL_len (by decide) (by omega), e⟩
theorem nW_S (n : Nat) : nW (n : Nat) = S (numL n) := by rw [← nW_tl]; exact (S_of _).symm
/-- a throw's word -/
def tail (t : Thr) : List Nat := if t.ends = true then [33] else []
def twL (t : Thr) : List Nat := tlS t.name ++ ([58] ++ (numL t.worth.toNat ++ tail t))
def tw (t : Thr) : Str := S (twL t)
structure ThOk (t : Thr) : Prop where
  nm : nameB t.name = true
  w0 : 0 ≤ t.worth
  w1 : t.worth ≤ 1000000
theorem name_S {x : Str} (h : nameB x = true) : (tlS x).length ≤ 8 ∧ 1 ≤ (tlS x).length ∧ ∀ c ∈ tlS x, 48 ≤ c ∧ c ≤ 122 ∧ c ≠ 58 := by
  have := name_len h
  refine ⟨by rw [Array.length_toList]; exact this.2, by rw [Array.length_toList]; exact this.1, fun c hc => ?_⟩
  unfold nameB nameL at h
  obtain ⟨_, h2⟩ := Bool.and_eq_true_iff.mp h
  obtain ⟨_, h3⟩ := Bool.and_eq_true_iff.mp h2
  have := List.all_eq_true.mp h3 c hc
  unfold sign letter figure at this
  simp at this
  omega
theorem add_S {a b : List Nat} {M : Mem} (ha : a.length ≤ 1000) (hb : b.length ≤ 1000) : mAdd (.str (S a)) (.str (S b)) M = some (.str (S (a ++ b)), M) := by
  rw [mAdd_str, if_pos (by rw [S_len, S_len, sizeLine_eq]; omega), S_append]
theorem num_len {t : Thr} (h : ThOk t) : (numL t.worth.toNat).length ≤ 7 := numL_len (by decide) (by have := h.w1; omega)
theorem throw_word_ok {t : Thr} (h : ThOk t) (M : Mem) : m_throw_word [t.toD] M = .ok (.str (tw t)) M := by
  show endS (b_throw_word [some t.toD, none] M) = _
  unfold b_throw_word
  obtain ⟨nm, wo, en⟩ := t
  have w0 : 0 ≤ wo := h.w0
  have w1 : wo ≤ 1000000 := h.w1
  have hn := name_S h.nm
  have l7 := num_len h
  obtain ⟨n, rfl⟩ : ∃ n : Nat, wo = (n : Int) := ⟨wo.toNat, by omega⟩
  have hn : (tlS nm).length ≤ 8 ∧ 1 ≤ (tlS nm).length ∧ ∀ c ∈ tlS nm, 48 ≤ c ∧ c ≤ 122 ∧ c ≠ 58 := hn
  have l7 : (numL n).length ≤ 7 := by simpa using l7
  have s1 := nStr_nW (i := (n : Nat)) w0 w1 M
  rw [nW_S] at s1
  have nmS : nm = S (tlS nm) := (S_of nm).symm
  have a1 : mAdd (.str nm) (.str (Str.ofString ":")) M = some (.str (S (tlS nm ++ [58])), M) := by
    conv => lhs; rw [nmS, colon_S]
    exact add_S (by omega) (by simp)
  have a2 : mAdd (.str (S (tlS nm ++ [58]))) (.str (S (numL n))) M = some (.str (S (tlS nm ++ [58] ++ numL n)), M) := add_S (by rw [List.length_append, List.length_singleton]; omega) (by omega)
  have a3 : mAdd (.str (S (tlS nm ++ [58] ++ numL n))) (.str (Str.ofString "!")) M = some (.str (S (tlS nm ++ [58] ++ numL n ++ [33])), M) := by
    rw [bang_S]
    exact add_S (by rw [List.length_append, List.length_append, List.length_singleton]; omega) (by simp)
  cases en with
  | false =>
    simp [-mAdd_str, -nStr_int, -List.append_assoc, Thr.toD, s1, a1, a2]
    simp [tw, twL, CGW.tail]
  | true =>
    simp [-mAdd_str, -nStr_int, -List.append_assoc, Thr.toD, s1, a1, a2, a3]
    simp [tw, twL, CGW.tail]
def gw : Gm → List Str
  | .rally r => Str.ofString "rally" :: rw r
  | .down w => Str.ofString "down" :: nW (w.sides : Nat) :: nW w.start :: nW (w.turn : Nat) :: w.throws.map tw
  | .lane k P n => [Str.ofString "lane", nW (k : Nat), nW P, nW (n : Nat)]
theorem tw_len {t : Thr} (h : ThOk t) : (tw t).length ≤ 20 := by
  have l7 := num_len h
  have hn := name_S h.nm
  show (S (twL t)).length ≤ _
  rw [S_len]
  simp only [twL, List.length_append, List.length_singleton]
  have : (CGW.tail t).length ≤ 1 := by unfold CGW.tail; split <;> simp
  omega
theorem th_of {w : Down} (h : DownOk w) : ∀ t ∈ w.throws, ThOk t := fun t ht => ⟨h.good.nm t ht, (h.good.w0 t ht).1, (h.good.w0 t ht).2⟩
/-- three numbers of a game: shown one after the other -/
theorem nums_comp {i : Nat} {bs : List Int} {env : TL.Env} {M : Mem} (hi : i < env.length) (hl : bs.length ≤ 1000) (hb : ∀ b ∈ bs, 0 ≤ b ∧ b ≤ 1000000) :
    Ret (compL (fun _ => True) i tYesD (eCallO nStr (aCons (eVar i) aNil)) M.length env (bs.map D.int) (M ++ [.lst []])) (fun _ M1 => Keep M M1 ∧ M1[M.length]? = some (.lst ((bs.map nW).map D.str))) :=
  CG.ints_comp hi hl fun b h => by have := hb b h; show b.natAbs < 10 ^ 60; omega
theorem game_len {w : Down} (h : DownOk w) : (w.throws.map tw).length ≤ 30 := by rw [List.length_map]; exact h.n1
/-- a game that can be written -/
def Gx : Gm → Prop
  | .rally r => r.good ∧ r.depth ≤ 4 ∧ r.units ≤ 10
  | .down w => DownOk w
  | .lane k P n => Lane k P n
def textG (g : Gm) : Str := Txt.join (Str.ofString " ") (gw g)
structure GWd (x : Str) : Prop where
  len : x.length ≤ 20
  free : 32 ∉ tlS x
theorem gwd_num {i : Int} (h0 : 0 ≤ i) (h1 : i ≤ 1000000) : GWd (nW i) := by
  obtain ⟨n, rfl⟩ : ∃ n : Nat, i = (n : Int) := ⟨i.toNat, by omega⟩
  have := nW_len (n := n) (by omega)
  refine ⟨by omega, ?_⟩
  rw [nW_tl]
  exact numL_free (by omega)
theorem gwd_tw {t : Thr} (h : ThOk t) : GWd (tw t) := by
  refine ⟨tw_len h, ?_⟩
  have hn := name_S h.nm
  show 32 ∉ (S (twL t)).cps.toList
  rw [S_tl]
  simp only [twL, List.mem_append, not_or]
  refine ⟨fun hm => by have := (hn.2.2 32 hm).1; omega, by simp, numL_free (by omega), ?_⟩
  unfold CGW.tail
  split <;> simp
theorem gw_ok {g : Gm} (h : Gx g) : (gw g).length ≤ 80 ∧ gw g ≠ [] ∧ ∀ x ∈ gw g, GWd x := by
  cases g with
  | rally r =>
    obtain ⟨h1, h2, h3⟩ := h
    have l := rw_len r
    refine ⟨by show (rw r).length + 1 ≤ _; omega, by simp [gw], fun x hx => ?_⟩
    rcases List.mem_cons.mp hx with rfl | hx
    · exact ⟨by decide +kernel, by decide +kernel⟩
    · have := rw_wd r h1 x hx
      exact ⟨by have := this.len; omega, this.free⟩
  | down w =>
    have h : DownOk w := h
    have := h.s0; have := h.s1; have := h.b0; have := h.b1; have := h.t0; have := h.t1
    have l := game_len h
    refine ⟨by show (w.throws.map tw).length + 4 ≤ _; omega, by simp [gw], fun x hx => ?_⟩
    simp only [gw, List.mem_cons] at hx
    rcases hx with rfl | rfl | rfl | rfl | hx
    · exact ⟨by decide +kernel, by decide +kernel⟩
    · exact gwd_num (by omega) (by omega)
    · exact gwd_num (by omega) (by omega)
    · exact gwd_num (by omega) (by omega)
    · obtain ⟨t, ht, rfl⟩ := List.mem_map.mp hx
      exact gwd_tw (th_of h t ht)
  | lane k P n =>
    have h : Lane k P n := h
    have := h.k0; have := h.k1; have := h.p0; have := h.p1; have := h.n0; have := h.n1
    refine ⟨by simp [gw], by simp [gw], fun x hx => ?_⟩
    simp only [gw, List.mem_cons, List.not_mem_nil, or_false] at hx
    rcases hx with rfl | rfl | rfl | rfl
    · exact ⟨by decide +kernel, by decide +kernel⟩
    · exact gwd_num (by omega) (by omega)
    · exact gwd_num (by omega) (by omega)
    · exact gwd_num (by omega) (by omega)
theorem gsum : ∀ {ws : List Str}, (∀ x ∈ ws, GWd x) → (ws.map (·.length)).sum ≤ 20 * ws.length
  | [], _ => Nat.le_refl _
  | x :: ws, h => by
    have := gsum (ws := ws) fun y hy => h y (List.mem_cons_of_mem _ hy)
    have := (h x List.mem_cons_self).len
    rw [List.map_cons, List.sum_cons, List.length_cons]
    omega
theorem join_g {ws : List Str} (hw : ∀ x ∈ ws, GWd x) (hl : ws.length ≤ 100) {M : Mem} {k : Nat} (h : M[k]? = some (.lst (ws.map D.str))) : mJoin (.str (Str.ofString " ")) [.ref k] M = some (.str (Txt.join (Str.ofString " ") ws), M) := by
  have e0 : (Str.ofString " ").length = 1 := by decide +kernel
  have := gsum hw
  rw [mJoin_ref, seqAt_lst h]
  simp only
  rw [joinO_strs (by rw [e0]; omega)]
  rfl
theorem textG_rally (r : Rule) : textG (.rally r) = Str.ofString "rally " ++ textR r := by
  have e : ∀ x y : Str, tl x = tl y → x = y := fun x y h => by
    cases x with | mk a => cases y with | mk b => cases a; cases b; cases h; rfl
  refine e _ _ ?_
  obtain ⟨x, xs, hx, _⟩ := rw_head (r := r)
  have h1 : tl (Str.ofString "rally ") = tl (Str.ofString "rally") ++ tl (Str.ofString " ") := by decide +kernel
  show tl (Txt.join (Str.ofString " ") (Str.ofString "rally" :: rw r)) = tl (Str.ofString "rally " ++ Txt.join (Str.ofString " ") (rw r))
  rw [tl_append, h1, join_eq, join_eq, tl_join, tl_join, hx]
  show tl (Str.ofString "rally") ++ (tl (Str.ofString " ") ++ joinL (tl (Str.ofString " ")) ((x :: xs).map tl)) = _
  rw [List.append_assoc]
theorem text_len' {r : Rule} (hg : r.good) (hu : r.units ≤ 100) : (textR r).length ≤ 10000 := by
  have h1 := rw_len r
  have h2 := sum_le' (rw_wd r hg)
  have := CW.join_len (ws := rw r) (k := 5 * (rw r).length) h2
  show (Txt.join (Str.ofString " ") (rw r)).length ≤ _
  omega
theorem throws_comp {w : Down} (h : DownOk w) {env : TL.Env} (he : 3 < env.length) (M : Mem) :
    Ret (compL (fun _ => True) 3 tYesD (eCall m_throw_word (aCons (eVar 3) aNil)) M.length env (w.throws.map Thr.toD) (M ++ [.lst []])) (fun _ M1 => Keep M M1 ∧ M1[M.length]? = some (.lst ((w.throws.map tw).map D.str))) := by
  refine Ret.comp (fun d => match d with | .tup [.str a, .int b, .bl c] => .str (tw ⟨a, b, c⟩) | _ => .non) (fun _ _ => trivial) (by rw [List.length_map]; have := h.n1; omega) (fun d hd M' k => ?_) fun M2 k a => ⟨k, ?_⟩
  · obtain ⟨t, ht, rfl⟩ := List.mem_map.mp hd
    have e : (env.set 3 (some t.toD))[3]? = some (some t.toD) := List.getElem?_set_self he
    generalize env.set 3 (some t.toD) = env' at *
    have w1 := throw_word_ok (th_of h t ht) M'
    simp [e, w1]
    exact TL.Ret.ok (P := TL.Gives M' _) ⟨rfl, Keep.refl _⟩
  · rw [a, List.map_map, List.map_map]
    rfl
theorem show_game_ok {g : Gm} (h : Gx g) (M : Mem) : Ret (m_show_game [g.toD] M) (TL.Gives M (.str (textG g))) := by
  show Ret (endS (b_show_game [some g.toD, none, none, none] M)) _
  unfold b_show_game
  have gk := gw_ok h
  cases g with
  | rally r =>
    obtain ⟨h1, h2, h3⟩ := h
    obtain ⟨M1, e1, k1⟩ := gives_of (show_rule_ok (M := M) (r := r) (by omega) (by omega) h1)
    have tl_ := text_len' h1 (by omega)
    have l6 : (Str.ofString "rally ").length = 6 := by decide +kernel
    have ad : mAdd (.str (Str.ofString "rally ")) (.str (textR r)) M1 = some (.str (Str.ofString "rally " ++ textR r), M1) := by
      rw [mAdd_str, if_pos (by rw [l6, sizeLine_eq]; omega)]
    simp [-mAdd_str, Gm.toD, e1, ad]
    exact TL.Ret.ok (P := TL.Gives M _) ⟨by rw [textG_rally], k1⟩
  | down w =>
    have h : DownOk w := h
    have := h.s0; have := h.s1; have := h.b0; have := h.b1; have := h.t0; have := h.t1
    have c3 : cutL [D.int (w.sides : Nat), .int w.start, .int (w.turn : Nat), .tup (w.throws.map Thr.toD)] none (some 3) = [(w.sides : Int), w.start, (w.turn : Int)].map D.int := rfl
    have hc := nums_comp (i := 2) (bs := [(w.sides : Int), w.start, (w.turn : Int)]) (env := [some (Gm.toD (.down w)), none, none, none]) (M := M ++ [.lst [.str (Str.ofString "down")]]) (by simp) (by simp) (fun b hb => by
      simp only [List.mem_cons, List.not_mem_nil, or_false] at hb
      rcases hb with rfl | rfl | rfl <;> omega)
    simp [-mAdd_ref, Gm.toD, Down.toD] at hc ⊢
    rw [c3]
    simp [-mAdd_ref]
    refine Ret.bindQ hc ?_
    rintro _ M1 ⟨k1, a1⟩
    have b1 := k1.at (at_len M (.lst [.str (Str.ofString "down")]))
    have ad := mAdd_lists b1 a1 (by simp)
    obtain ⟨L, hL⟩ : ∃ L : List D, L = [D.str (Str.ofString "down")] ++ [D.str (nW (w.sides : Nat)), .str (nW w.start), .str (nW (w.turn : Nat))] := ⟨_, rfl⟩
    rw [← hL] at ad
    have k2 : Keep M (M1 ++ [.lst L]) := ((Keep.more M _).trans k1).trans (Keep.more _ _)
    simp [-mAdd_ref, ad]
    have tc := throws_comp h (env := [some (.tup [.str (Str.ofString "down"), .tup [.int (w.sides : Nat), .int w.start, .int (w.turn : Nat), .tup (w.throws.map Thr.toD)]]), some (.ref M1.length), none, none]) (by simp) (M1 ++ [.lst L])
    rw [List.length_append, List.length_singleton, List.append_assoc] at tc
    refine Ret.bindQ tc ?_
    rintro _ M2 ⟨k3, a3⟩
    have a2 := k3.at (at_len M1 (.lst L))
    have ad2 := mAdd_lists a2 a3 (by rw [hL, List.length_map]; have := game_len h; simp at this ⊢; omega)
    have eG : L ++ (w.throws.map tw).map D.str = (gw (.down w)).map D.str := by rw [hL]; rfl
    rw [eG] at ad2
    have j := join_g gk.2.2 (by omega) (at_len M2 (.lst ((gw (.down w)).map D.str)))
    simp [-mAdd_ref, ad2, j]
    exact TL.Ret.ok (P := TL.Gives M _) ⟨rfl, (k2.trans k3).trans (Keep.more _ _)⟩
  | lane k P n =>
    have h : Lane k P n := h
    have := h.k0; have := h.k1; have := h.p0; have := h.p1; have := h.n0; have := h.n1
    have hc := nums_comp (i := 2) (bs := [(k : Int), P, (n : Int)]) (env := [some (Gm.toD (.lane k P n)), none, none, none]) (M := M ++ [.lst [.str (Str.ofString "lane")]]) (by simp) (by simp) (fun b hb => by
      simp only [List.mem_cons, List.not_mem_nil, or_false] at hb
      rcases hb with rfl | rfl | rfl <;> omega)
    have c3 : cutL [D.int (k : Nat), .int P, .int (n : Nat)] none (some 3) = [(k : Int), P, (n : Int)].map D.int := rfl
    simp [-mAdd_ref, Gm.toD, laneD] at hc ⊢
    rw [c3]
    simp [-mAdd_ref]
    refine Ret.bindQ hc ?_
    rintro _ M1 ⟨k1, a1⟩
    have b1 := k1.at (at_len M (.lst [.str (Str.ofString "lane")]))
    have ad := mAdd_lists b1 a1 (by simp)
    have eG : [D.str (Str.ofString "lane")] ++ [D.str (nW (k : Nat)), .str (nW P), .str (nW (n : Nat))] = (gw (.lane k P n)).map D.str := rfl
    rw [eG] at ad
    have j := join_g gk.2.2 (by omega) (at_len M1 (.lst ((gw (.lane k P n)).map D.str)))
    simp [-mAdd_ref, ad, j]
    exact TL.Ret.ok (P := TL.Gives M _) ⟨rfl, ((Keep.more M _).trans k1).trans (Keep.more _ _)⟩
end CGW
end
section
set_option maxHeartbeats 4000000
namespace LW
open PySem PySem.Spec PyProof.Rows L2 TL
open CM hiding b_l_unit m_l_unit g_l_unit b_l_rule m_l_rule b_l_any_rule m_l_any_rule any_rule rule_step rule_ok unit_ok
open CG
open CW hiding b_Reader_count b_Reader_is_dash b_Reader_last b_Reader_rule b_Reader_word b_read_rule g_Reader_rule m_Reader_count m_Reader_is_dash m_Reader_last m_Reader_rule m_Reader_word m_read_rule
open CWR
open CGW
noncomputable section
def b_l_rule_words (r_l_rule_words : Fn) : MS := (sSeq (sIf (tB (eBin mIs (eVar 0) (eC .non))) (sRet (eLst (aCons (eC (.str "-")) aNil))) sNil)
    (sSeq (sIf (tB (eBin mEq (eVar 0) (eTup (aCons (eC (.str "point")) aNil)))) (sRet (eLst (aCons (eC (.str "point")) aNil))) sNil)
    (sSeq (sAsg (gOne 1) (eLst (aCons (eC (.str "unit")) (aCons (eCallO nStr (aCons (eBin mIdx (eVar 0) (eC (.int 1))) aNil)) (aCons (eCallO nStr (aCons (eBin mIdx (eVar 0) (eC (.int 2))) aNil)) aNil)))))
    (sSeq (sExpr (eMeth "list" mAppend (eVar 1) (aCons (eIf (tB (eBin mIs (eBin mIdx (eVar 0) (eC (.int 3))) (eC .non))) (eC (.str "-")) (eCallO nStr (aCons (eBin mIdx (eVar 0) (eC (.int 3))) aNil))) aNil)))
    (sRet (eBin mAdd (eBin mAdd (eVar 1) (eCall r_l_rule_words (aCons (eBin mIdx (eVar 0) (eC (.int 4))) aNil))) (eCall r_l_rule_words (aCons (eBin mIdx (eVar 0) (eC (.int 5))) aNil))))))))
def m_l_rule_words : Nat → Fn
  | 0 => noFn
  | n + 1 => fnD 1 2 (b_l_rule_words (m_l_rule_words n))
def lp_l_game_words_0 : MS := (sExpr (eMeth "list" mAppend (eVar 1) (aCons (eBin mAdd (eBin mAdd (eBin mAdd (eVar 2) (eC (.str ":"))) (eCallO nStr (aCons (eVar 3) aNil))) (eBin mIdx (eLst (aCons (eC (.str "")) (aCons (eC (.str "!")) aNil))) (eCallO nInt (aCons (eVar 4) aNil)))) aNil)))
def b_l_game_words : MS := (sSeq (sIf (tB (eBin mEq (eBin mIdx (eVar 0) (eC (.int 0))) (eC (.str "rally")))) (sRet (eBin mAdd (eLst (aCons (eC (.str "rally")) aNil)) (eCall (m_l_rule_words 14) (aCons (eBin mIdx (eVar 0) (eC (.int 1))) aNil)))) sNil)
    (sSeq (sAsg (gOne 1) (eBin mAdd (eLst (aCons (eBin mIdx (eVar 0) (eC (.int 0))) aNil)) (eComp 5 (iAny (eSl (eBin mIdx (eVar 0) (eC (.int 1))) oNone (oSome (eC (.int 3))))) tYesD (eCallO nStr (aCons (eVar 5) aNil)))))
    (sSeq (sIf (tB (eBin mEq (eBin mIdx (eVar 0) (eC (.int 0))) (eC (.str "down")))) (sFor (iAny (eBin mIdx (eBin mIdx (eVar 0) (eC (.int 1))) (eC (.int 3)))) (gTupD [2, 3, 4]) lp_l_game_words_0) sNil)
    (sRet (eVar 1)))))
def m_l_game_words : Fn := fnD 1 6 b_l_game_words
def b_l_own : MS := (sSeq (sAsg (gOne 1) (eLst (aCons (eIsE ["NoThrow", "NoPins", "NoSide", "Over", "NoGame", "NoDeed", "TooMany", "NoLine", "BadWord", "Falls"] "NoThrow" (eVar 0)) (aCons (eIsE ["NoThrow", "NoPins", "NoSide", "Over", "NoGame", "NoDeed", "TooMany", "NoLine", "BadWord", "Falls"] "NoPins" (eVar 0)) (aCons (eIsE ["NoThrow", "NoPins", "NoSide", "Over", "NoGame", "NoDeed", "TooMany", "NoLine", "BadWord", "Falls"] "NoSide" (eVar 0)) (aCons (eIsE ["NoThrow", "NoPins", "NoSide", "Over", "NoGame", "NoDeed", "TooMany", "NoLine", "BadWord", "Falls"] "Over" (eVar 0)) aNil))))))
    (sSeq (sAsg (gOne 1) (eBin mAdd (eVar 1) (eLst (aCons (eIsE ["NoThrow", "NoPins", "NoSide", "Over", "NoGame", "NoDeed", "TooMany", "NoLine", "BadWord", "Falls"] "NoGame" (eVar 0)) (aCons (eIsE ["NoThrow", "NoPins", "NoSide", "Over", "NoGame", "NoDeed", "TooMany", "NoLine", "BadWord", "Falls"] "NoDeed" (eVar 0)) (aCons (eIsE ["NoThrow", "NoPins", "NoSide", "Over", "NoGame", "NoDeed", "TooMany", "NoLine", "BadWord", "Falls"] "TooMany" (eVar 0)) (aCons (eIsE ["NoThrow", "NoPins", "NoSide", "Over", "NoGame", "NoDeed", "TooMany", "NoLine", "BadWord", "Falls"] "NoLine" (eVar 0)) aNil)))))))
    (sSeq (sAsg (gOne 1) (eBin mAdd (eVar 1) (eLst (aCons (eIsE ["NoThrow", "NoPins", "NoSide", "Over", "NoGame", "NoDeed", "TooMany", "NoLine", "BadWord", "Falls"] "BadWord" (eVar 0)) (aCons (eIsE ["NoThrow", "NoPins", "NoSide", "Over", "NoGame", "NoDeed", "TooMany", "NoLine", "BadWord", "Falls"] "Falls" (eVar 0)) aNil)))))
    (sSeq (sIf (tOr (tNot (tTru (eIsE ["NoThrow", "NoPins", "NoSide", "Over", "NoGame", "NoDeed", "TooMany", "NoLine", "BadWord", "Falls"] "ValueError" (eVar 0)))) (tB (eBin mNe (eMeth "list" mCount (eVar 1) (aCons (eC (.bl true)) aNil)) (eC (.int 1))))) (sRet (eC (.str "unlike"))) sNil)
    (sSeq (sAsg (gOne 2) (eLst (aCons (eC (.str "throw")) (aCons (eC (.str "pins")) (aCons (eC (.str "side")) (aCons (eC (.str "over")) (aCons (eC (.str "game")) (aCons (eC (.str "deed")) (aCons (eC (.str "many")) (aCons (eC (.str "line")) (aCons (eC (.str "word")) (aCons (eC (.str "falls")) aNil))))))))))))
    (sRet (eBin mIdx (eVar 2) (eMeth "list" mIndex (eVar 1) (aCons (eC (.bl true)) aNil)))))))))
def m_l_own : Fn := fnD 1 3 b_l_own
def b_l_number : MS := (sSeq (sIf (tOr (tB (eBin mEq (eVar 0) (eC (.str "")))) (tOr (tB (eBin mLt (eCallO nMin (aCons (eComp 2 (iAny (eVar 0)) tYesD (eMeth "str" mFind (eC (.str "0123456789")) (aCons (eVar 2) aNil))) aNil)) (eC (.int 0)))) (tAnd (tB (eBin mGt (eCallO nLen (aCons (eVar 0) aNil)) (eC (.int 1)))) (tB (eBin mEq (eBin mIdx (eVar 0) (eC (.int 0))) (eC (.str "0"))))))) (sRet (eC .non)) sNil)
    (sSeq (sIf (tOr (tB (eBin mGt (eCallO nLen (aCons (eVar 0) aNil)) (eC (.int 7)))) (tB (eBin mGt (eCallO nIntS (aCons (eVar 0) aNil)) (eVar 1)))) (sRet (eC .non)) sNil)
    (sRet (eCallO nIntS (aCons (eVar 0) aNil)))))
def m_l_number : Fn := fnD 2 3 b_l_number
def lp_l_rule_wrong_0 : MS := (sSeq (sIf (tB (eBin mEq (eCallO nLen (aCons (eVar 1) aNil)) (eC (.int 0)))) (sRet (eVar 3)) sNil)
    (sSeq (sAsg (gTupD [6, 7, 8]) (eMeth "list" mPop (eVar 1) aNil))
    (sSeq (sAsg (gOne 4) (eBin mIdx (eVar 0) (eVar 3)))
    (sSeq (sAsg (gOne 5) (eCall m_l_number (aCons (eVar 4) (aCons (eC (.int 99)) aNil))))
    (sIf (tB (eBin mEq (eVar 6) (eC (.str "count")))) (sSeq (sIf (tOr (tB (eBin mIs (eVar 5) (eC .non))) (tB (eBin mEq (eVar 5) (eC (.int 0))))) (sRet (eVar 3)) sNil)
    (sSub (eVar 7) (eC (.int 0)) (eVar 5))) (sIf (tB (eBin mEq (eVar 6) (eC (.str "lead")))) (sIf (tOr (tB (eBin mIs (eVar 5) (eC .non))) (tB (eBin mEq (eVar 5) (eC (.int 0))))) (sRet (eVar 3)) sNil) (sIf (tB (eBin mEq (eVar 6) (eC (.str "cap")))) (sSeq (sIf (tAnd (tB (eBin mNe (eVar 4) (eC (.str "-")))) (tOr (tB (eBin mIs (eVar 5) (eC .non))) (tB (eBin mLt (eVar 5) (eBin mIdx (eVar 7) (eC (.int 0))))))) (sRet (eVar 3)) sNil)
    (sSub (eVar 7) (eC (.int 1)) (eVar 5))) (sIf (tAnd (tB (eBin mEq (eVar 4) (eC (.str "unit")))) (tAnd (tOr (tB (eBin mEq (eVar 6) (eC (.str "rule")))) (tB (eBin mIsNot (eBin mIdx (eVar 7) (eC (.int 1))) (eC .non)))) (tAnd (tB (eBin mLt (eVar 8) (eC (.int 4)))) (tB (eBin mLt (eVar 2) (eC (.int 10))))))) (sSeq (sAsg (gOne 2) (eBin mAdd (eVar 2) (eC (.int 1))))
    (sSeq (sAsg (gOne 9) (eLst (aCons (eC (.int 0)) (aCons (eC .non) aNil))))
    (sSeq (sAsg (gOne 1) (eBin mAdd (eVar 1) (eLst (aCons (eTup (aCons (eC (.str "last")) (aCons (eVar 9) (aCons (eBin mAdd (eVar 8) (eC (.int 1))) aNil)))) (aCons (eTup (aCons (eC (.str "rule")) (aCons (eVar 9) (aCons (eBin mAdd (eVar 8) (eC (.int 1))) aNil)))) (aCons (eTup (aCons (eC (.str "cap")) (aCons (eVar 9) (aCons (eC (.int 0)) aNil)))) aNil))))))
    (sAsg (gOne 1) (eBin mAdd (eVar 1) (eLst (aCons (eTup (aCons (eC (.str "lead")) (aCons (eVar 9) (aCons (eC (.int 0)) aNil)))) (aCons (eTup (aCons (eC (.str "count")) (aCons (eVar 9) (aCons (eC (.int 0)) aNil)))) aNil)))))))) (sIf (tOr (tAnd (tB (eBin mEq (eVar 4) (eC (.str "point")))) (tOr (tB (eBin mEq (eVar 6) (eC (.str "rule")))) (tB (eBin mIsNot (eBin mIdx (eVar 7) (eC (.int 1))) (eC .non))))) (tAnd (tB (eBin mEq (eVar 4) (eC (.str "-")))) (tB (eBin mEq (eVar 6) (eC (.str "last")))))) (sAsg (gOne 2) (eBin mAdd (eVar 2) (eC (.int 0)))) (sRet (eVar 3)))))))))))
def b_l_rule_wrong : MS := (sSeq (sAsg (gOne 1) (eLst (aCons (eTup (aCons (eC (.str "rule")) (aCons (eLst (aCons (eC (.int 0)) (aCons (eC .non) aNil))) (aCons (eC (.int 0)) aNil)))) aNil)))
    (sSeq (sAsg (gOne 2) (eC (.int 0)))
    (sSeq (sFor (iRange1 (eCallO nLen (aCons (eVar 0) aNil))) (gOne 3) lp_l_rule_wrong_0)
    (sSeq (sIf (tB (eBin mGt (eCallO nLen (aCons (eVar 1) aNil)) (eC (.int 0)))) (sRet (eCallO nLen (aCons (eVar 0) aNil))) sNil)
    (sRet (eC .non))))))
def m_l_rule_wrong : Fn := fnD 1 10 b_l_rule_wrong
def b_l_throw_name : MS := (sSeq (sAsg (gOne 1) (eC (.str "abcdefghijklmnopqrstuvwxyz")))
    (sSeq (sAsg (gTupD [2, 3, 4]) (eMeth "str" mPartition (eVar 0) (aCons (eC (.str ":")) aNil)))
    (sSeq (sIf (tOr (tNot (tB (eChain mLe mLe (eC (.int 1)) (eCallO nLen (aCons (eVar 2) aNil)) (eC (.int 8))))) (tOr (tB (eBin mLt (eMeth "str" mFind (eVar 1) (aCons (eBin mIdx (eVar 2) (eC (.int 0))) aNil)) (eC (.int 0)))) (tB (eBin mEq (eVar 3) (eC (.str "")))))) (sRet (eC .non)) sNil)
    (sSeq (sIf (tB (eBin mLt (eCallO nMin (aCons (eComp 5 (iAny (eVar 2)) tYesD (eMeth "str" mFind (eBin mAdd (eVar 1) (eC (.str "0123456789"))) (aCons (eVar 5) aNil))) aNil)) (eC (.int 0)))) (sRet (eC .non)) sNil)
    (sSeq (sIf (tB (eBin mEq (eSl (eVar 4) (oSome (eUn mNeg (eC (.int 1)))) oNone) (eC (.str "!")))) (sAsg (gOne 4) (eSl (eVar 4) oNone (oSome (eUn mNeg (eC (.int 1)))))) sNil)
    (sSeq (sIf (tB (eBin mIs (eCall m_l_number (aCons (eVar 4) (aCons (eBin mPow (eC (.int 10)) (eC (.int 6))) aNil))) (eC .non))) (sRet (eC .non)) sNil)
    (sRet (eVar 2))))))))
def m_l_throw_name : Fn := fnD 1 6 b_l_throw_name
def lp_l_wrong_0 : MS := (sIf (tB (eBin mLt (eVar 3) (eC (.int 4)))) (sSeq (sAsg (gOne 5) (eCall m_l_number (aCons (eBin mIdx (eVar 0) (eVar 3)) (aCons (eBin mIdx (eVar 1) (eBin mSub (eVar 3) (eC (.int 1)))) aNil))))
    (sIf (tOr (tB (eBin mIs (eVar 5) (eC .non))) (tB (eBin mEq (eVar 5) (eC (.int 0))))) (sRet (eVar 3)) sNil)) (sSeq (sAsg (gOne 6) (eCall m_l_throw_name (aCons (eBin mIdx (eVar 0) (eVar 3)) aNil)))
    (sSeq (sIf (tOr (tB (eBin mEq (eBin mIdx (eVar 0) (eC (.int 0))) (eC (.str "lane")))) (tOr (tB (eBin mIs (eVar 6) (eC .non))) (tOr (tB (eBin mIn (eVar 6) (eVar 2))) (tB (eBin mEq (eCallO nLen (aCons (eVar 2) aNil)) (eC (.int 30))))))) (sRet (eVar 3)) sNil)
    (sExpr (eMeth "list" mAppend (eVar 2) (aCons (eVar 6) aNil))))))
def b_l_wrong : MS := (sSeq (sIf (tB (eBin mEq (eBin mIdx (eVar 0) (eC (.int 0))) (eC (.str "rally")))) (sSeq (sAsg (gOne 4) (eCall m_l_rule_wrong (aCons (eSl (eVar 0) (oSome (eC (.int 1))) oNone) aNil)))
    (sRet (eIf (tB (eBin mIs (eVar 4) (eC .non))) (eC .non) (eBin mAdd (eVar 4) (eC (.int 1)))))) sNil)
    (sSeq (sIf (tB (eBin mNotIn (eBin mIdx (eVar 0) (eC (.int 0))) (eLst (aCons (eC (.str "down")) (aCons (eC (.str "lane")) aNil))))) (sRet (eC (.int 0))) sNil)
    (sSeq (sAsg (gOne 1) (eBin mIdx (eLst (aCons (eLst (aCons (eC (.int 3)) (aCons (eC (.int 20)) (aCons (eC (.int 12)) aNil)))) (aCons (eLst (aCons (eC (.int 3)) (aCons (eBin mPow (eC (.int 10)) (eC (.int 6))) (aCons (eC (.int 3)) aNil)))) aNil))) (eCallO nInt (aCons (eBin mEq (eBin mIdx (eVar 0) (eC (.int 0))) (eC (.str "down"))) aNil))))
    (sSeq (sAsg (gOne 2) (eLst aNil))
    (sSeq (sFor (iRange2 (eC (.int 1)) (eCallO nLen (aCons (eVar 0) aNil))) (gOne 3) lp_l_wrong_0)
    (sSeq (sIf (tOr (tB (eBin mLt (eCallO nLen (aCons (eVar 0) aNil)) (eC (.int 4)))) (tAnd (tB (eBin mEq (eBin mIdx (eVar 0) (eC (.int 0))) (eC (.str "down")))) (tB (eBin mEq (eCallO nLen (aCons (eVar 0) aNil)) (eC (.int 4)))))) (sRet (eCallO nLen (aCons (eVar 0) aNil))) sNil)
    (sRet (eC .non))))))))
def m_l_wrong : Fn := fnD 1 7 b_l_wrong
def b_l_spoilt : MS := (sSeq (sAsg (gOne 2) (eLst (aCons (eC (.str "")) (aCons (eC (.str "-")) (aCons (eC (.str "0")) (aCons (eC (.str "1")) (aCons (eC (.str "2")) (aCons (eC (.str "3")) (aCons (eC (.str "4")) (aCons (eC (.str "7")) (aCons (eC (.str "99")) (aCons (eC (.str "100")) (aCons (eC (.str "09")) (aCons (eC (.str "12")) (aCons (eC (.str "13")) (aCons (eC (.str "20")) (aCons (eC (.str "21")) (aCons (eC (.str "1000000")) (aCons (eC (.str "1000001")) aNil)))))))))))))))))))
    (sSeq (sAsg (gOne 2) (eBin mAdd (eVar 2) (eLst (aCons (eC (.str "unit")) (aCons (eC (.str "point")) (aCons (eC (.str "Point")) (aCons (eC (.str "rally")) (aCons (eC (.str "down")) (aCons (eC (.str "lane")) (aCons (eC (.str "a:1")) (aCons (eC (.str "a:1!")) (aCons (eC (.str "a:01")) (aCons (eC (.str "a:")) (aCons (eC (.str ":1")) (aCons (eC (.str "a:1000000!")) aNil)))))))))))))))
    (sSeq (sAsg (gOne 2) (eBin mAdd (eVar 2) (eLst (aCons (eC (.str "a:1000001")) (aCons (eC (.str "9a:1")) (aCons (eC (.str "abcdefghi:1")) (aCons (eC (.str "a:1!!")) (aCons (eC (.str "a!")) (aCons (eC (.str "a:-1")) (aCons (eC (.str "+1")) (aCons (eC (.str "1_0")) (aCons (eC (.str "won")) (aCons (eC (.str "!")) (aCons (eC (.str "a:b:1")) aNil))))))))))))))
    (sSeq (sAsg (gOne 3) (eCall m_l_draw (aCons (eVar 0) (aCons (eCallO nLen (aCons (eVar 1) aNil)) aNil))))
    (sSeq (sAsg (gOne 4) (eBin mIdx (eVar 1) (eVar 3)))
    (sSeq (sAsg (gOne 5) (eCall m_l_draw (aCons (eVar 0) (aCons (eBin mAdd (eCallO nLen (aCons (eVar 4) aNil)) (eC (.int 1))) aNil))))
    (sSeq (sAsg (gOne 6) (eBin mIdx (eC (.str "0a-:! 9Z")) (eCall m_l_draw (aCons (eVar 0) (aCons (eC (.int 8)) aNil)))))
    (sSeq (sAsg (gOne 7) (eCall m_l_draw (aCons (eVar 0) (aCons (eC (.int 9)) aNil))))
    (sSeq (sIf (tB (eBin mEq (eVar 7) (eC (.int 0)))) (sRet (eBin mAdd (eSl (eVar 1) oNone (oSome (eVar 3))) (eSl (eVar 1) (oSome (eBin mAdd (eVar 3) (eC (.int 1)))) oNone))) sNil)
    (sSeq (sIf (tB (eBin mEq (eVar 7) (eC (.int 1)))) (sRet (eBin mAdd (eBin mAdd (eSl (eVar 1) oNone (oSome (eVar 3))) (eLst (aCons (eVar 4) aNil))) (eSl (eVar 1) (oSome (eVar 3)) oNone))) sNil)
    (sSeq (sIf (tAnd (tB (eBin mEq (eVar 7) (eC (.int 2)))) (tAnd (tB (eBin mEq (eBin mIdx (eVar 1) (eC (.int 0))) (eC (.str "down")))) (tB (eBin mGt (eVar 5) (eC (.int 0)))))) (sSeq (sAsg (gOne 8) (eComp 9 (iRange1 (eBin mAdd (eC (.int 27)) (eCall m_l_draw (aCons (eVar 0) (aCons (eC (.int 8)) aNil))))) tYesD (eBin mAdd (eBin mAdd (eBin mAdd (eC (.str "t")) (eCallO nStr (aCons (eVar 9) aNil))) (eC (.str ":"))) (eCallO nStr (aCons (eVar 9) aNil)))))
    (sRet (eBin mAdd (eVar 1) (eComp 10 (iAny (eVar 8)) (tB (eBin mNotIn (eVar 10) (eVar 1))) (eVar 10))))) sNil)
    (sSeq (sIf (tB (eBin mEq (eVar 7) (eC (.int 2)))) (sRet (eBin mAdd (eVar 1) (eLst (aCons (eVar 4) aNil)))) sNil)
    (sSeq (sIf (tB (eBin mEq (eVar 7) (eC (.int 3)))) (sRet (eSl (eVar 1) oNone (oSome (eVar 3)))) sNil)
    (sSeq (sIf (tB (eBin mLt (eVar 7) (eC (.int 6)))) (sAsg (gOne 4) (eBin mIdx (eVar 2) (eCall m_l_draw (aCons (eVar 0) (aCons (eC (.int 40)) aNil))))) (sIf (tB (eBin mEq (eVar 7) (eC (.int 6)))) (sAsg (gOne 4) (eBin mAdd (eBin mAdd (eSl (eVar 4) oNone (oSome (eVar 5))) (eVar 6)) (eSl (eVar 4) (oSome (eVar 5)) oNone))) (sIf (tB (eBin mEq (eVar 7) (eC (.int 7)))) (sAsg (gOne 4) (eBin mAdd (eBin mAdd (eSl (eVar 4) oNone (oSome (eVar 5))) (eVar 6)) (eSl (eVar 4) (oSome (eBin mAdd (eVar 5) (eC (.int 1)))) oNone))) (sAsg (gOne 4) (eBin mAdd (eSl (eVar 4) oNone (oSome (eVar 5))) (eSl (eVar 4) (oSome (eBin mAdd (eVar 5) (eC (.int 1)))) oNone))))))
    (sRet (eBin mAdd (eBin mAdd (eSl (eVar 1) oNone (oSome (eVar 3))) (eLst (aCons (eVar 4) aNil))) (eSl (eVar 1) (oSome (eBin mAdd (eVar 3) (eC (.int 1)))) oNone)))))))))))))))))
def m_l_spoilt : Fn := fnD 2 11 b_l_spoilt
def b_l_read : MS := (sSeq (sAsg (gOne 1) (eTup (aCons (eC (.str "")) (aCons (eC .non) aNil))))
    (sSeq (sTry ["NoThrow", "NoPins", "NoSide", "Over", "NoGame", "NoDeed", "TooMany", "NoLine", "BadWord", "Falls"] (sAsg (gOne 1) (eTup (aCons (eC (.str "read")) (aCons (eCall m_read_game (aCons (eVar 0) aNil)) aNil)))) [⟨"ScoreError", (some 2), (sAsg (gOne 1) (eTup (aCons (eCall m_l_own (aCons (eVar 2) aNil)) (aCons (eVar 2) aNil))))⟩])
    (sRet (eVar 1))))
def m_l_read : Fn := fnD 1 3 b_l_read
def b_l_right : MS := (sSeq (sAsg (gOne 1) (eCall m_l_wrong (aCons (eMeth "str" mSplit (eVar 0) (aCons (eC (.str " ")) aNil)) aNil)))
    (sSeq (sAsg (gOne 2) (eCall m_l_read (aCons (eVar 0) aNil)))
    (sSeq (sIf (tB (eBin mIs (eVar 1) (eC .non))) (sRet (eAnd (eBin mEq (eBin mIdx (eVar 2) (eC (.int 0))) (eC (.str "read"))) (eBin mEq (eCall m_show_game (aCons (eBin mIdx (eVar 2) (eC (.int 1))) aNil)) (eVar 0)))) sNil)
    (sSeq (sIf (tB (eBin mNe (eBin mIdx (eVar 2) (eC (.int 0))) (eC (.str "word")))) (sRet (eC (.bl false))) sNil)
    (sRet (eAnd (eIsi "int" (eAt ["BadWord", "Falls"] (eBin mIdx (eVar 2) (eC (.int 1))))) (eAnd (eNot (eIsi "bool" (eAt ["BadWord", "Falls"] (eBin mIdx (eVar 2) (eC (.int 1)))))) (eBin mEq (eAt ["BadWord", "Falls"] (eBin mIdx (eVar 2) (eC (.int 1)))) (eVar 1)))))))))
def m_l_right : Fn := fnD 1 3 b_l_right
def lp_law_0 : MS := (sSeq (sAsg (gOne 4) (eCall m_l_spoilt (aCons (eVar 1) (aCons (eVar 2) aNil))))
    (sSeq (sIf (tAnd (tB (eBin mEq (eCall m_l_draw (aCons (eVar 1) (aCons (eC (.int 3)) aNil))) (eC (.int 0)))) (tB (eBin mGt (eCallO nLen (aCons (eVar 4) aNil)) (eC (.int 0))))) (sAsg (gOne 4) (eCall m_l_spoilt (aCons (eVar 1) (aCons (eVar 4) aNil)))) sNil)
    (sIf (tNot (tTru (eCall m_l_right (aCons (eMeth "str" mJoin (eC (.str " ")) (aCons (eVar 4) aNil)) aNil)))) (sRet (eC (.bl false))) sNil)))
def b_law : MS := (sSeq (sAsg (gOne 1) (eCall m_l_tape (aCons (eVar 0) aNil)))
    (sSeq (sAsg (gOne 2) (eCall m_l_game_words (aCons (eCall m_l_game (aCons (eVar 1) aNil)) aNil)))
    (sSeq (sIf (tNot (tTru (eCall m_l_right (aCons (eMeth "str" mJoin (eC (.str " ")) (aCons (eVar 2) aNil)) aNil)))) (sRet (eC (.bl false))) sNil)
    (sSeq (sFor (iRange1 (eC (.int 12))) (gOne 3) lp_law_0)
    (sRet (eC (.bl true)))))))
def m_law : Fn := fnD 1 5 b_law
end
structure Facts (K : PySem.W.Frag) (mg : Str → Option Value) : Prop where
  fn_BadWord_new : ∃ fd, FunD K "__init__" "BadWord.__init__" (defArgs st_BadWord_new) (defBody st_BadWord_new) (defScope st_BadWord_new) [] [] (He.ma K (He.ga K "BadWord") "__init__") fd
  meth_BadWord_new : Meth K (He.ga K "BadWord") "__init__" (He.ma K (He.ga K "BadWord") "__init__")
  fn_is_between : ∃ fd, FunD K "is_between" "is_between" (defArgs st_is_between) (defBody st_is_between) (defScope st_is_between) [] [] (He.ga K "is_between") fd
  mg_is_between : mg "is_between" = some (.ref (He.ga K "is_between"))
  fn_is_throw_name : ∃ fd, FunD K "is_throw_name" "is_throw_name" (defArgs st_is_throw_name) (defBody st_is_throw_name) (defScope st_is_throw_name) [] [] (He.ga K "is_throw_name") fd
  mg_is_throw_name : mg "is_throw_name" = some (.ref (He.ga K "is_throw_name"))
  fn_words_of : ∃ fd, FunD K "words_of" "words_of" (defArgs st_words_of) (defBody st_words_of) (defScope st_words_of) [] [] (He.ga K "words_of") fd
  mg_words_of : mg "words_of" = some (.ref (He.ga K "words_of"))
  fn_show_rule : ∃ fd, FunD K "show_rule" "show_rule" (defArgs st_show_rule) (defBody st_show_rule) (defScope st_show_rule) [] [] (He.ga K "show_rule") fd
  mg_show_rule : mg "show_rule" = some (.ref (He.ga K "show_rule"))
  fn_count_of : ∃ fd, FunD K "count_of" "count_of" (defArgs st_count_of) (defBody st_count_of) (defScope st_count_of) [] [] (He.ga K "count_of") fd
  mg_count_of : mg "count_of" = some (.ref (He.ga K "count_of"))
  fn_Reader_new : ∃ fd, FunD K "__init__" "Reader.__init__" (defArgs st_Reader_new) (defBody st_Reader_new) (defScope st_Reader_new) [] [] (He.ma K (He.ga K "Reader") "__init__") fd
  meth_Reader_new : Meth K (He.ga K "Reader") "__init__" (He.ma K (He.ga K "Reader") "__init__")
  fn_Reader_word : ∃ fd, FunD K "word" "Reader.word" (defArgs st_Reader_word) (defBody st_Reader_word) (defScope st_Reader_word) [] [] (He.ma K (He.ga K "Reader") "word") fd
  meth_Reader_word : Meth K (He.ga K "Reader") "word" (He.ma K (He.ga K "Reader") "word")
  fn_Reader_count : ∃ fd, FunD K "count" "Reader.count" (defArgs st_Reader_count) (defBody st_Reader_count) (defScope st_Reader_count) [] [] (He.ma K (He.ga K "Reader") "count") fd
  meth_Reader_count : Meth K (He.ga K "Reader") "count" (He.ma K (He.ga K "Reader") "count")
  fn_Reader_is_dash : ∃ fd, FunD K "is_dash" "Reader.is_dash" (defArgs st_Reader_is_dash) (defBody st_Reader_is_dash) (defScope st_Reader_is_dash) [] [] (He.ma K (He.ga K "Reader") "is_dash") fd
  meth_Reader_is_dash : Meth K (He.ga K "Reader") "is_dash" (He.ma K (He.ga K "Reader") "is_dash")
  fn_Reader_rule : ∃ fd, FunD K "rule" "Reader.rule" (defArgs st_Reader_rule) (defBody st_Reader_rule) (defScope st_Reader_rule) [] [] (He.ma K (He.ga K "Reader") "rule") fd
  meth_Reader_rule : Meth K (He.ga K "Reader") "rule" (He.ma K (He.ga K "Reader") "rule")
  fn_Reader_last : ∃ fd, FunD K "last" "Reader.last" (defArgs st_Reader_last) (defBody st_Reader_last) (defScope st_Reader_last) [] [] (He.ma K (He.ga K "Reader") "last") fd
  meth_Reader_last : Meth K (He.ga K "Reader") "last" (He.ma K (He.ga K "Reader") "last")
  fn_read_rule : ∃ fd, FunD K "read_rule" "read_rule" (defArgs st_read_rule) (defBody st_read_rule) (defScope st_read_rule) [] [] (He.ga K "read_rule") fd
  mg_read_rule : mg "read_rule" = some (.ref (He.ga K "read_rule"))
  fn_throw_word : ∃ fd, FunD K "throw_word" "throw_word" (defArgs st_throw_word) (defBody st_throw_word) (defScope st_throw_word) [] [] (He.ga K "throw_word") fd
  mg_throw_word : mg "throw_word" = some (.ref (He.ga K "throw_word"))
  fn_show_game : ∃ fd, FunD K "show_game" "show_game" (defArgs st_show_game) (defBody st_show_game) (defScope st_show_game) [] [] (He.ga K "show_game") fd
  mg_show_game : mg "show_game" = some (.ref (He.ga K "show_game"))
  fn_number_by : ∃ fd, FunD K "number_by" "number_by" (defArgs st_number_by) (defBody st_number_by) (defScope st_number_by) [] [] (He.ga K "number_by") fd
  mg_number_by : mg "number_by" = some (.ref (He.ga K "number_by"))
  fn_throw_by : ∃ fd, FunD K "throw_by" "throw_by" (defArgs st_throw_by) (defBody st_throw_by) (defScope st_throw_by) [] [] (He.ga K "throw_by") fd
  mg_throw_by : mg "throw_by" = some (.ref (He.ga K "throw_by"))
  fn_numbers_in : ∃ fd, FunD K "numbers_in" "numbers_in" (defArgs st_numbers_in) (defBody st_numbers_in) (defScope st_numbers_in) [] [] (He.ga K "numbers_in") fd
  mg_numbers_in : mg "numbers_in" = some (.ref (He.ga K "numbers_in"))
  fn_throws_in : ∃ fd, FunD K "throws_in" "throws_in" (defArgs st_throws_in) (defBody st_throws_in) (defScope st_throws_in) [] [] (He.ga K "throws_in") fd
  mg_throws_in : mg "throws_in" = some (.ref (He.ga K "throws_in"))
  fn_rally_in : ∃ fd, FunD K "rally_in" "rally_in" (defArgs st_rally_in) (defBody st_rally_in) (defScope st_rally_in) [] [] (He.ga K "rally_in") fd
  mg_rally_in : mg "rally_in" = some (.ref (He.ga K "rally_in"))
  fn_read_game : ∃ fd, FunD K "read_game" "read_game" (defArgs st_read_game) (defBody st_read_game) (defScope st_read_game) [] [] (He.ga K "read_game") fd
  mg_read_game : mg "read_game" = some (.ref (He.ga K "read_game"))
  fn_l_tape : ∃ fd, FunD K "_law_tape" "_law_tape" (defArgs st_l_tape) (defBody st_l_tape) (defScope st_l_tape) [] [] (He.ga K "_law_tape") fd
  mg_l_tape : mg "_law_tape" = some (.ref (He.ga K "_law_tape"))
  fn_l_draw : ∃ fd, FunD K "_law_draw" "_law_draw" (defArgs st_l_draw) (defBody st_l_draw) (defScope st_l_draw) [] [] (He.ga K "_law_draw") fd
  mg_l_draw : mg "_law_draw" = some (.ref (He.ga K "_law_draw"))
  fn_l_great : ∃ fd, FunD K "_law_great" "_law_great" (defArgs st_l_great) (defBody st_l_great) (defScope st_l_great) [] [] (He.ga K "_law_great") fd
  mg_l_great : mg "_law_great" = some (.ref (He.ga K "_law_great"))
  fn_l_unit : ∃ fd, FunD K "_law_unit" "_law_unit" (defArgs st_l_unit) (defBody st_l_unit) (defScope st_l_unit) [] [] (He.ga K "_law_unit") fd
  mg_l_unit : mg "_law_unit" = some (.ref (He.ga K "_law_unit"))
  fn_l_rule : ∃ fd, FunD K "_law_rule" "_law_rule" (defArgs st_l_rule) (defBody st_l_rule) (defScope st_l_rule) [] [] (He.ga K "_law_rule") fd
  mg_l_rule : mg "_law_rule" = some (.ref (He.ga K "_law_rule"))
  fn_l_any_rule : ∃ fd, FunD K "_law_any_rule" "_law_any_rule" (defArgs st_l_any_rule) (defBody st_l_any_rule) (defScope st_l_any_rule) [] [] (He.ga K "_law_any_rule") fd
  mg_l_any_rule : mg "_law_any_rule" = some (.ref (He.ga K "_law_any_rule"))
  fn_l_names : ∃ fd, FunD K "_law_names" "_law_names" (defArgs st_l_names) (defBody st_l_names) (defScope st_l_names) [] [] (He.ga K "_law_names") fd
  mg_l_names : mg "_law_names" = some (.ref (He.ga K "_law_names"))
  fn_l_throws : ∃ fd, FunD K "_law_throws" "_law_throws" (defArgs st_l_throws) (defBody st_l_throws) (defScope st_l_throws) [] [] (He.ga K "_law_throws") fd
  mg_l_throws : mg "_law_throws" = some (.ref (He.ga K "_law_throws"))
  fn_l_down : ∃ fd, FunD K "_law_down" "_law_down" (defArgs st_l_down) (defBody st_l_down) (defScope st_l_down) [] [] (He.ga K "_law_down") fd
  mg_l_down : mg "_law_down" = some (.ref (He.ga K "_law_down"))
  fn_l_lane : ∃ fd, FunD K "_law_lane" "_law_lane" (defArgs st_l_lane) (defBody st_l_lane) (defScope st_l_lane) [] [] (He.ga K "_law_lane") fd
  mg_l_lane : mg "_law_lane" = some (.ref (He.ga K "_law_lane"))
  fn_l_game : ∃ fd, FunD K "_law_game" "_law_game" (defArgs st_l_game) (defBody st_l_game) (defScope st_l_game) [] [] (He.ga K "_law_game") fd
  mg_l_game : mg "_law_game" = some (.ref (He.ga K "_law_game"))
  fn_l_rule_words : ∃ fd, FunD K "_law_rule_words" "_law_rule_words" (defArgs st_l_rule_words) (defBody st_l_rule_words) (defScope st_l_rule_words) [] [] (He.ga K "_law_rule_words") fd
  mg_l_rule_words : mg "_law_rule_words" = some (.ref (He.ga K "_law_rule_words"))
  fn_l_game_words : ∃ fd, FunD K "_law_game_words" "_law_game_words" (defArgs st_l_game_words) (defBody st_l_game_words) (defScope st_l_game_words) [] [] (He.ga K "_law_game_words") fd
  mg_l_game_words : mg "_law_game_words" = some (.ref (He.ga K "_law_game_words"))
  fn_l_own : ∃ fd, FunD K "_law_own" "_law_own" (defArgs st_l_own) (defBody st_l_own) (defScope st_l_own) [] [] (He.ga K "_law_own") fd
  mg_l_own : mg "_law_own" = some (.ref (He.ga K "_law_own"))
  fn_l_number : ∃ fd, FunD K "_law_number" "_law_number" (defArgs st_l_number) (defBody st_l_number) (defScope st_l_number) [] [] (He.ga K "_law_number") fd
  mg_l_number : mg "_law_number" = some (.ref (He.ga K "_law_number"))
  fn_l_rule_wrong : ∃ fd, FunD K "_law_rule_wrong" "_law_rule_wrong" (defArgs st_l_rule_wrong) (defBody st_l_rule_wrong) (defScope st_l_rule_wrong) [] [] (He.ga K "_law_rule_wrong") fd
  mg_l_rule_wrong : mg "_law_rule_wrong" = some (.ref (He.ga K "_law_rule_wrong"))
  fn_l_throw_name : ∃ fd, FunD K "_law_throw_name" "_law_throw_name" (defArgs st_l_throw_name) (defBody st_l_throw_name) (defScope st_l_throw_name) [] [] (He.ga K "_law_throw_name") fd
  mg_l_throw_name : mg "_law_throw_name" = some (.ref (He.ga K "_law_throw_name"))
  fn_l_wrong : ∃ fd, FunD K "_law_wrong" "_law_wrong" (defArgs st_l_wrong) (defBody st_l_wrong) (defScope st_l_wrong) [] [] (He.ga K "_law_wrong") fd
  mg_l_wrong : mg "_law_wrong" = some (.ref (He.ga K "_law_wrong"))
  fn_l_spoilt : ∃ fd, FunD K "_law_spoilt" "_law_spoilt" (defArgs st_l_spoilt) (defBody st_l_spoilt) (defScope st_l_spoilt) [] [] (He.ga K "_law_spoilt") fd
  mg_l_spoilt : mg "_law_spoilt" = some (.ref (He.ga K "_law_spoilt"))
  fn_l_read : ∃ fd, FunD K "_law_read" "_law_read" (defArgs st_l_read) (defBody st_l_read) (defScope st_l_read) [] [] (He.ga K "_law_read") fd
  mg_l_read : mg "_law_read" = some (.ref (He.ga K "_law_read"))
  fn_l_right : ∃ fd, FunD K "_law_right" "_law_right" (defArgs st_l_right) (defBody st_l_right) (defScope st_l_right) [] [] (He.ga K "_law_right") fd
  mg_l_right : mg "_law_right" = some (.ref (He.ga K "_law_right"))
  fn_law : ∃ fd, FunD K "law" "law" (defArgs st_law) (defBody st_law) (defScope st_law) [] [] (He.ga K "law") fd
  mg_law : mg "law" = some (.ref (He.ga K "law"))
  no_ValueError : mg "ValueError" = none
  no_all : mg "all" = none
  no_bool : mg "bool" = none
  no_int : mg "int" = none
  no_isinstance : mg "isinstance" = none
  no_len : mg "len" = none
  no_min : mg "min" = none
  no_range : mg "range" = none
  no_str : mg "str" = none
  no_tuple : mg "tuple" = none
  cls_Reader : Cls K (He.ga K "Reader")
  noat_Reader_at : NoAttr K (He.ga K "Reader") "at"
  noat_Reader_many : NoAttr K (He.ga K "Reader") "many"
  noat_Reader_words : NoAttr K (He.ga K "Reader") "words"
  mkr_Reader : Mk K (He.ga K "Reader") (He.ma K (He.ga K "Reader") "__init__")
  mk_Reader : mg "Reader" = some (.ref (He.ga K "Reader"))
  mc_BadWord : mg "BadWord" = some (.ref (He.ga K "BadWord"))
  mc_Falls : mg "Falls" = some (.ref (He.ga K "Falls"))
  mc_NoDeed : mg "NoDeed" = some (.ref (He.ga K "NoDeed"))
  mc_NoGame : mg "NoGame" = some (.ref (He.ga K "NoGame"))
  mc_NoLine : mg "NoLine" = some (.ref (He.ga K "NoLine"))
  mc_NoPins : mg "NoPins" = some (.ref (He.ga K "NoPins"))
  mc_NoSide : mg "NoSide" = some (.ref (He.ga K "NoSide"))
  mc_NoThrow : mg "NoThrow" = some (.ref (He.ga K "NoThrow"))
  mc_Over : mg "Over" = some (.ref (He.ga K "Over"))
  mc_ScoreError : mg "ScoreError" = some (.ref (He.ga K "ScoreError"))
  mc_TooMany : mg "TooMany" = some (.ref (He.ga K "TooMany"))
  ei_BadWord : ExI K mg "BadWord"
  base_ScoreError : BaseI K mg "ScoreError"
  exsub : ExSub K ["NoThrow", "NoPins", "NoSide", "Over", "NoGame", "NoDeed", "TooMany", "NoLine", "BadWord", "Falls"] hcls
  ist : IsT K ["NoThrow", "NoPins", "NoSide", "Over", "NoGame", "NoDeed", "TooMany", "NoLine", "BadWord", "Falls"] icls
  at_ : atB K ["BadWord", "Falls"] = true
  gl_LETTERS : Glob K mg "LETTERS" (.str "abcdefghijklmnopqrstuvwxyz")
  gl_FIGURES_downs : Glob K mg "FIGURES_downs" (.str "0123456789")
  gl_POINT : Glob K mg "POINT" (.tup [(.str "point")])
  gl_GREATEST : Glob K mg "GREATEST" (.int 99)
  gl_MOST_UNITS : Glob K mg "MOST_UNITS" (.int 10)
  gl_MOST_DEEP : Glob K mg "MOST_DEEP" (.int 4)
  gl_FIGURES_rulewords : Glob K mg "FIGURES_rulewords" (.str "0123456789")
section
variable {P : Program} {w : World} {K : PySem.W.Frag} {mg : Str → Option Value} {base : Heap}
theorem sc_BadWord_new : FnScope ["self", "at"] ["self", "at"] (defScope st_BadWord_new) := ⟨rfl, rfl, rfl, by decide +kernel, rfl, by decide +kernel, by decide +kernel⟩
theorem ok_BadWord_new (Z : Facts K mg) : IniC P w K mg base "BadWord" 1 :=
  iniOk (k := 0) Z.ei_BadWord Z.fn_BadWord_new sc_BadWord_new (fun _ _ _ _ _ _ us hl => match us, hl with | [_, _], _ => rfl) (fun cdv A outer s H E => ((pss_cons (ps_expr (pe_baseI Z.base_ScoreError (pa_cons pe_self (pa_cons pe_str pa_nil)))) (pss_one (ps_ost pe_self pe_at)))))
theorem sc_is_between : FnScope ["thing", "low", "high"] ["thing", "low", "high"] (defScope st_is_between) := ⟨rfl, rfl, rfl, by decide +kernel, rfl, by decide +kernel, by decide +kernel⟩
theorem ok_is_between (Z : Facts K mg) : Callee P w K mg base "is_between" 3 (0 + 1) m_is_between :=
  okD (ps := ["thing", "low", "high"]) (k := 0) Z.fn_is_between sc_is_between Z.mg_is_between (fun _ _ _ _ _ _ us hl => match us, hl with | [_, _, _], _ => rfl) (fun cdv A outer s H E C => ((ds_one (ds_ret (d_and (d_isi (U := "int") rfl Z.no_isinstance rfl Z.no_int boot_int (d_var (i := 0))) (d_and (d_not (d_isi (U := "bool") rfl Z.no_isinstance rfl Z.no_bool boot_bool (d_var (i := 0)))) (d_one (d_chain o_le o_le (d_var (i := 1)) (d_var (i := 0)) (d_var (i := 2))))))))))
theorem sc_is_throw_name : FnScope ["thing", "sign"] ["thing"] (defScope st_is_throw_name) := ⟨rfl, rfl, rfl, by decide +kernel, rfl, by decide +kernel, by decide +kernel⟩
theorem ok_is_throw_name (Z : Facts K mg) : Callee P w K mg base "is_throw_name" 1 (0 + 1) m_is_throw_name :=
  okD (ps := ["thing"]) (k := 0) Z.fn_is_throw_name sc_is_throw_name Z.mg_is_throw_name (fun _ _ _ _ _ _ us hl => match us, hl with | [_], _ => rfl) (fun cdv A outer s H E C => ((ds_cons (ds_if (PW.pt (dt_or (dt_not (dt_tru (d_isi (U := "str") rfl Z.no_isinstance rfl Z.no_str boot_str (d_var (i := 0))))) (dt_or (dt_cmp o_lt (d_callB c_len rfl Z.no_len boot_len (da_cons (d_var (i := 0)) da_nil)) d_int (nomark _)) (dt_or (dt_cmp o_gt (d_callB c_len rfl Z.no_len boot_len (da_cons (d_var (i := 0)) da_nil)) d_int (nomark _)) (dt_or1 (dt_cmp o_notIn (d_idx (d_var (i := 0)) d_int) (d_glob Z.gl_LETTERS) (by with_unfolding_all rfl))))))) (ds_one (ds_ret d_bl)) ds_nil)
    (ds_one (ds_ret (d_callB (c_all C.calm) rfl Z.no_all (by decide +kernel) (da_cons (d_comp (i := 1) C (di_any (d_var (i := 0))) (blkOk_by (by kernel_rfl)) (fun _ _ _ _ _ => pg_name (i := 1) C.nd rfl (Or.inl rfl)) (fun _ _ _ _ _ C1 => dts_nil) (fun _ _ _ _ _ C1 => (d_or (d_cmp o_in (d_var (i := 1)) (d_glob Z.gl_LETTERS) (by with_unfolding_all rfl)) (d_one (d_cmp o_in (d_var (i := 1)) (d_glob Z.gl_FIGURES_downs) (by with_unfolding_all rfl)))))) da_nil)))))))
theorem sc_words_of : FnScope ["rule", "words"] ["rule"] (defScope st_words_of) := ⟨rfl, rfl, rfl, by decide +kernel, rfl, by decide +kernel, by decide +kernel⟩
theorem st1_words_of (Z : Facts K mg) (n : Nat) {r_words_of : Fn} (R_words_of : Callee P w K mg base "words_of" 1 (0 + n) r_words_of) : Callee P w K mg base "words_of" 1 (0 + n + 1) (fnD 1 2 (b_words_of r_words_of)) :=
  okD (ps := ["rule"]) (k := 0 + n) Z.fn_words_of sc_words_of Z.mg_words_of (fun _ _ _ _ _ _ us hl => match us, hl with | [_], _ => rfl) (fun cdv A outer s H E C => ((ds_cons (ds_if (dt_cmp (o_eq C.hu) (d_var (i := 0)) (d_glob Z.gl_POINT) (nomark _)) (ds_one (ds_ret (d_lst (da_cons d_str da_nil)))) ds_nil)
    (ds_cons (ds_set (i := 1) C.nd (d_lst (da_cons d_str (da_cons (d_callTy c_str rfl Z.no_str boot_str (da_cons (d_idx (d_var (i := 0)) d_int) da_nil)) (da_cons (d_callTy c_str rfl Z.no_str boot_str (da_cons (d_idx (d_var (i := 0)) d_int) da_nil)) da_nil)))))
    (ds_cons (ds_expr (d_meth PySem.F.plainAttrs_list PySem.F.slot_list_append PySem.F.type_list_append m_append (d_var (i := 1)) (da_cons (d_ifExp (dt_cmp o_is (d_idx (d_var (i := 0)) d_int) d_non (nomark _)) d_str (d_callTy c_str rfl Z.no_str boot_str (da_cons (d_idx (d_var (i := 0)) d_int) da_nil))) da_nil)))
    (ds_cons (ds_expr (d_meth PySem.F.plainAttrs_list PySem.F.slot_list_extend PySem.F.type_list_extend m_extend (d_var (i := 1)) (da_cons (d_call C R_words_of (by omega) (da_cons (d_idx (d_var (i := 0)) d_int) da_nil)) da_nil)))
    (ds_cons (ds_expr (d_meth PySem.F.plainAttrs_list PySem.F.slot_list_extend PySem.F.type_list_extend m_extend (d_var (i := 1)) (da_cons (d_ifExp (dt_cmp o_is (d_idx (d_var (i := 0)) d_int) d_non (nomark _)) (d_lst (da_cons d_str da_nil)) (d_call C R_words_of (by omega) (da_cons (d_idx (d_var (i := 0)) d_int) da_nil))) da_nil)))
    (ds_one (ds_ret (d_var (i := 1)))))))))))
theorem ok_words_of (Z : Facts K mg) : ∀ n : Nat, Callee P w K mg base "words_of" 1 (0 + n) (m_words_of n)
  | 0 => noD (ps := ["rule"]) Z.fn_words_of Z.mg_words_of (fun _ _ _ _ _ _ us hl => match us, hl with | [_], _ => rfl)
  | n + 1 => st1_words_of Z n (ok_words_of Z n)
theorem sc_show_rule : FnScope ["rule"] ["rule"] (defScope st_show_rule) := ⟨rfl, rfl, rfl, by decide +kernel, rfl, by decide +kernel, by decide +kernel⟩
theorem ok_show_rule (Z : Facts K mg) : Callee P w K mg base "show_rule" 1 (14 + 1) m_show_rule :=
  okD (ps := ["rule"]) (k := 14) Z.fn_show_rule sc_show_rule Z.mg_show_rule (fun _ _ _ _ _ _ us hl => match us, hl with | [_], _ => rfl) (fun cdv A outer s H E C => ((ds_one (ds_ret (d_meth PySem.F.plainAttrs_str PySem.F.slot_str_join PySem.F.type_str_join m_join d_str (da_cons (d_call C (ok_words_of Z 14) (by omega) (da_cons (d_var (i := 0)) da_nil)) da_nil))))))
theorem sc_count_of : FnScope ["word", "number", "sign"] ["word"] (defScope st_count_of) := ⟨rfl, rfl, rfl, by decide +kernel, rfl, by decide +kernel, by decide +kernel⟩
theorem ok_count_of (Z : Facts K mg) : Callee P w K mg base "count_of" 1 (0 + 1) m_count_of :=
  okD (ps := ["word"]) (k := 0) Z.fn_count_of sc_count_of Z.mg_count_of (fun _ _ _ _ _ _ us hl => match us, hl with | [_], _ => rfl) (fun cdv A outer s H E C => ((ds_cons (ds_if (PW.pt (dt_or (dt_cmp o_lt (d_callB c_len rfl Z.no_len boot_len (da_cons (d_var (i := 0)) da_nil)) d_int (nomark _)) (dt_or (dt_cmp o_gt (d_callB c_len rfl Z.no_len boot_len (da_cons (d_var (i := 0)) da_nil)) d_int (nomark _)) (dt_or1 (dt_cmp (o_eq C.hu) (d_idx (d_var (i := 0)) d_int) d_str (nomark _)))))) (ds_one (ds_ret d_non)) ds_nil)
    (ds_cons (ds_set (i := 1) C.nd d_int)
    (ds_cons (ds_for C (di_any (d_var (i := 0))) (dg_name (i := 2) C.nd) (ds_cons (ds_if (dt_cmp o_notIn (d_var (i := 2)) (d_glob Z.gl_FIGURES_rulewords) (by with_unfolding_all rfl)) (ds_one (ds_ret d_non)) ds_nil)
    (ds_one (ds_set (i := 1) C.nd (d_bin o_add (d_bin o_mul d_int (d_var (i := 1))) (d_meth PySem.F.plainAttrs_str PySem.F.slot_str_index PySem.F.type_str_index m_sindex (d_glob Z.gl_FIGURES_rulewords) (da_cons (d_var (i := 2)) da_nil)))))))
    (ds_one (ds_ret (d_var (i := 1)))))))))
theorem sc_Reader_new : FnScope ["self", "words"] ["self", "words"] (defScope st_Reader_new) := ⟨rfl, rfl, rfl, by decide +kernel, rfl, by decide +kernel, by decide +kernel⟩
theorem ok_Reader_new (Z : Facts K mg) : CalleeM P w K mg base "Reader" "__init__" 2 (0 + 1) [] m_Reader_new :=
  okM (ps := ["self", "words"]) (k := 0) Z.fn_Reader_new sc_Reader_new Z.cls_Reader Z.meth_Reader_new (fun _ _ _ _ _ _ us hl => match us, hl with | [_, _], _ => rfl) (fun cdv A outer s H E C => ((ds_cons (ds_fld ⟨Z.cls_Reader, Z.noat_Reader_words⟩ (d_var (i := 0)) (d_var (i := 1)))
    (ds_cons (ds_fld ⟨Z.cls_Reader, Z.noat_Reader_at⟩ (d_var (i := 0)) d_int)
    (ds_one (ds_fld ⟨Z.cls_Reader, Z.noat_Reader_many⟩ (d_var (i := 0)) d_int))))))
theorem sc_Reader_word : FnScope ["self"] ["self"] (defScope st_Reader_word) := ⟨rfl, rfl, rfl, by decide +kernel, rfl, by decide +kernel, by decide +kernel⟩
theorem ok_Reader_word (Z : Facts K mg) : CalleeM P w K mg base "Reader" "word" 1 (2 + 1) [] m_Reader_word :=
  okM (ps := ["self"]) (k := 2) Z.fn_Reader_word sc_Reader_word Z.cls_Reader Z.meth_Reader_word (fun _ _ _ _ _ _ us hl => match us, hl with | [_], _ => rfl) (fun cdv A outer s H E C => ((ds_cons (ds_if (dt_cmp (o_eq C.hu) (d_fld ⟨Z.cls_Reader, Z.noat_Reader_at⟩ (d_var (i := 0))) (d_callB c_len rfl Z.no_len boot_len (da_cons (d_fld ⟨Z.cls_Reader, Z.noat_Reader_words⟩ (d_var (i := 0))) da_nil)) (nomark _)) (ds_one (ds_raiseI C Z.ei_BadWord (ok_BadWord_new Z) (by omega) (d_fld ⟨Z.cls_Reader, Z.noat_Reader_at⟩ (d_var (i := 0))))) ds_nil)
    (ds_one (ds_ret (d_idx (d_fld ⟨Z.cls_Reader, Z.noat_Reader_words⟩ (d_var (i := 0))) (d_fld ⟨Z.cls_Reader, Z.noat_Reader_at⟩ (d_var (i := 0)))))))))
theorem sc_Reader_count : FnScope ["self", "least", "number"] ["self", "least"] (defScope st_Reader_count) := ⟨rfl, rfl, rfl, by decide +kernel, rfl, by decide +kernel, by decide +kernel⟩
theorem ok_Reader_count (Z : Facts K mg) : CalleeM P w K mg base "Reader" "count" 2 (3 + 1) [] m_Reader_count :=
  okM (ps := ["self", "least"]) (k := 3) Z.fn_Reader_count sc_Reader_count Z.cls_Reader Z.meth_Reader_count (fun _ _ _ _ _ _ us hl => match us, hl with | [_, _], _ => rfl) (fun cdv A outer s H E C => ((ds_cons (ds_set (i := 2) C.nd (d_call C (ok_count_of Z) (by omega) (da_cons (d_meM0 C (ok_Reader_word Z) (by omega) (d_var (i := 0))) da_nil)))
    (ds_cons (ds_if (PW.pt (dt_or (dt_cmp o_is (d_var (i := 2)) d_non (nomark _)) (dt_or (dt_cmp o_lt (d_var (i := 2)) (d_var (i := 1)) (nomark _)) (dt_or1 (dt_cmp o_gt (d_var (i := 2)) (d_glob Z.gl_GREATEST) (nomark _)))))) (ds_one (ds_raiseI C Z.ei_BadWord (ok_BadWord_new Z) (by omega) (d_fld ⟨Z.cls_Reader, Z.noat_Reader_at⟩ (d_var (i := 0))))) ds_nil)
    (ds_cons (ds_fld ⟨Z.cls_Reader, Z.noat_Reader_at⟩ (d_var (i := 0)) (d_bin o_add (d_fld ⟨Z.cls_Reader, Z.noat_Reader_at⟩ (d_var (i := 0))) d_int))
    (ds_one (ds_ret (d_var (i := 2)))))))))
theorem sc_Reader_is_dash : FnScope ["self"] ["self"] (defScope st_Reader_is_dash) := ⟨rfl, rfl, rfl, by decide +kernel, rfl, by decide +kernel, by decide +kernel⟩
theorem ok_Reader_is_dash (Z : Facts K mg) : CalleeM P w K mg base "Reader" "is_dash" 1 (3 + 1) [] m_Reader_is_dash :=
  okM (ps := ["self"]) (k := 3) Z.fn_Reader_is_dash sc_Reader_is_dash Z.cls_Reader Z.meth_Reader_is_dash (fun _ _ _ _ _ _ us hl => match us, hl with | [_], _ => rfl) (fun cdv A outer s H E C => ((ds_cons (ds_if (dt_cmp (o_ne C.hu) (d_meM0 C (ok_Reader_word Z) (by omega) (d_var (i := 0))) d_str (nomark _)) (ds_one (ds_ret d_bl)) ds_nil)
    (ds_cons (ds_fld ⟨Z.cls_Reader, Z.noat_Reader_at⟩ (d_var (i := 0)) (d_bin o_add (d_fld ⟨Z.cls_Reader, Z.noat_Reader_at⟩ (d_var (i := 0))) d_int))
    (ds_one (ds_ret d_bl))))))
theorem sc_Reader_rule : FnScope ["self", "around", "word", "to", "lead", "cap", "inner"] ["self", "around"] (defScope st_Reader_rule) := ⟨rfl, rfl, rfl, by decide +kernel, rfl, by decide +kernel, by decide +kernel⟩
theorem st1_Reader_rule (Z : Facts K mg) (n : Nat) {r_Reader_rule : Fn} (R_Reader_rule : CalleeM P w K mg base "Reader" "rule" 2 (4 + n) [] r_Reader_rule) {r_Reader_last : Fn} (R_Reader_last : CalleeM P w K mg base "Reader" "last" 3 (4 + n) [] r_Reader_last) : CalleeM P w K mg base "Reader" "rule" 2 (4 + n + 1) [] (fnD 2 7 (b_Reader_rule r_Reader_rule r_Reader_last)) :=
  okM (ps := ["self", "around"]) (k := 4 + n) Z.fn_Reader_rule sc_Reader_rule Z.cls_Reader Z.meth_Reader_rule (fun _ _ _ _ _ _ us hl => match us, hl with | [_, _], _ => rfl) (fun cdv A outer s H E C => ((ds_cons (ds_set (i := 2) C.nd (d_meM0 C (ok_Reader_word Z) (by omega) (d_var (i := 0))))
    (ds_cons (ds_if (dt_cmp (o_eq C.hu) (d_var (i := 2)) d_str (nomark _)) (ds_cons (ds_fld ⟨Z.cls_Reader, Z.noat_Reader_at⟩ (d_var (i := 0)) (d_bin o_add (d_fld ⟨Z.cls_Reader, Z.noat_Reader_at⟩ (d_var (i := 0))) d_int))
    (ds_one (ds_ret (d_glob Z.gl_POINT)))) ds_nil)
    (ds_cons (ds_if (PW.pt (dt_or (dt_cmp (o_ne C.hu) (d_var (i := 2)) d_str (nomark _)) (dt_or (dt_cmp (o_eq C.hu) (d_var (i := 1)) (d_glob Z.gl_MOST_DEEP) (nomark _)) (dt_or1 (dt_cmp (o_eq C.hu) (d_fld ⟨Z.cls_Reader, Z.noat_Reader_many⟩ (d_var (i := 0))) (d_glob Z.gl_MOST_UNITS) (nomark _)))))) (ds_one (ds_raiseI C Z.ei_BadWord (ok_BadWord_new Z) (by omega) (d_fld ⟨Z.cls_Reader, Z.noat_Reader_at⟩ (d_var (i := 0))))) ds_nil)
    (ds_cons (ds_fld ⟨Z.cls_Reader, Z.noat_Reader_at⟩ (d_var (i := 0)) (d_bin o_add (d_fld ⟨Z.cls_Reader, Z.noat_Reader_at⟩ (d_var (i := 0))) d_int))
    (ds_cons (ds_fld ⟨Z.cls_Reader, Z.noat_Reader_many⟩ (d_var (i := 0)) (d_bin o_add (d_fld ⟨Z.cls_Reader, Z.noat_Reader_many⟩ (d_var (i := 0))) d_int))
    (ds_cons (ds_set (i := 3) C.nd (d_meM C (ok_Reader_count Z) (by omega) (d_var (i := 0)) (da_cons d_int da_nil)))
    (ds_cons (ds_set (i := 4) C.nd (d_meM C (ok_Reader_count Z) (by omega) (d_var (i := 0)) (da_cons d_int da_nil)))
    (ds_cons (ds_set (i := 5) C.nd (d_ifExp (dt_tru (d_meM0 C (ok_Reader_is_dash Z) (by omega) (d_var (i := 0)))) d_non (d_meM C (ok_Reader_count Z) (by omega) (d_var (i := 0)) (da_cons (d_var (i := 3)) da_nil))))
    (ds_cons (ds_set (i := 6) C.nd (d_meM C R_Reader_rule (by omega) (d_var (i := 0)) (da_cons (d_bin o_add (d_var (i := 1)) d_int) da_nil)))
    (ds_one (ds_ret (d_tup (da_cons d_str (da_cons (d_var (i := 3)) (da_cons (d_var (i := 4)) (da_cons (d_var (i := 5)) (da_cons (d_var (i := 6)) (da_cons (d_meM C R_Reader_last (by omega) (d_var (i := 0)) (da_cons (d_var (i := 5)) (da_cons (d_bin o_add (d_var (i := 1)) d_int) da_nil))) da_nil))))))))))))))))))))
theorem sc_Reader_last : FnScope ["self", "cap", "around"] ["self", "cap", "around"] (defScope st_Reader_last) := ⟨rfl, rfl, rfl, by decide +kernel, rfl, by decide +kernel, by decide +kernel⟩
theorem st1_Reader_last (Z : Facts K mg) (n : Nat) {r_Reader_rule : Fn} (R_Reader_rule : CalleeM P w K mg base "Reader" "rule" 2 (4 + n) [] r_Reader_rule) {r_Reader_last : Fn} (R_Reader_last : CalleeM P w K mg base "Reader" "last" 3 (4 + n) [] r_Reader_last) : CalleeM P w K mg base "Reader" "last" 3 (4 + n + 1) [] (fnD 3 3 (b_Reader_last r_Reader_rule r_Reader_last)) :=
  okM (ps := ["self", "cap", "around"]) (k := 4 + n) Z.fn_Reader_last sc_Reader_last Z.cls_Reader Z.meth_Reader_last (fun _ _ _ _ _ _ us hl => match us, hl with | [_, _, _], _ => rfl) (fun cdv A outer s H E C => ((ds_cons (ds_if (dt_tru (d_meM0 C (ok_Reader_is_dash Z) (by omega) (d_var (i := 0)))) (ds_one (ds_ret d_non)) ds_nil)
    (ds_cons (ds_if (dt_cmp o_is (d_var (i := 1)) d_non (nomark _)) (ds_one (ds_raiseI C Z.ei_BadWord (ok_BadWord_new Z) (by omega) (d_fld ⟨Z.cls_Reader, Z.noat_Reader_at⟩ (d_var (i := 0))))) ds_nil)
    (ds_one (ds_ret (d_meM C R_Reader_rule (by omega) (d_var (i := 0)) (da_cons (d_var (i := 2)) da_nil))))))))
theorem okg_Reader_rule (Z : Facts K mg) : ∀ n : Nat, CalleeM P w K mg base "Reader" "rule" 2 (4 + n) [] (m_Reader_rule n) ∧ CalleeM P w K mg base "Reader" "last" 3 (4 + n) [] (m_Reader_last n)
  | 0 => ⟨noM (ps := ["self", "around"]) Z.fn_Reader_rule Z.cls_Reader Z.meth_Reader_rule (fun _ _ _ _ _ _ us hl => match us, hl with | [_, _], _ => rfl), noM (ps := ["self", "cap", "around"]) Z.fn_Reader_last Z.cls_Reader Z.meth_Reader_last (fun _ _ _ _ _ _ us hl => match us, hl with | [_, _, _], _ => rfl)⟩
  | n + 1 => ⟨st1_Reader_rule Z n ((okg_Reader_rule Z n).1) ((okg_Reader_rule Z n).2), st1_Reader_last Z n ((okg_Reader_rule Z n).1) ((okg_Reader_rule Z n).2)⟩
theorem ok_Reader_rule (Z : Facts K mg) (n : Nat) : CalleeM P w K mg base "Reader" "rule" 2 (4 + n) [] (m_Reader_rule n) := (okg_Reader_rule Z n).1
theorem sc_read_rule : FnScope ["text", "reader", "rule"] ["text"] (defScope st_read_rule) := ⟨rfl, rfl, rfl, by decide +kernel, rfl, by decide +kernel, by decide +kernel⟩
theorem ok_read_rule (Z : Facts K mg) : Callee P w K mg base "read_rule" 1 (18 + 1) m_read_rule :=
  okD (ps := ["text"]) (k := 18) Z.fn_read_rule sc_read_rule Z.mg_read_rule (fun _ _ _ _ _ _ us hl => match us, hl with | [_], _ => rfl) (fun cdv A outer s H E C => ((ds_cons (ds_set (i := 1) C.nd (d_make C ⟨(ok_Reader_new Z), Z.mkr_Reader, Z.mk_Reader⟩ (by omega) (da_cons (d_meth PySem.F.plainAttrs_str PySem.F.slot_str_split PySem.F.type_str_split m_split (d_var (i := 0)) (da_cons d_str da_nil)) da_nil)))
    (ds_cons (ds_set (i := 2) C.nd (d_meM C (ok_Reader_rule Z 14) (by omega) (d_var (i := 1)) (da_cons d_int da_nil)))
    (ds_cons (ds_if (dt_cmp o_lt (d_fld ⟨Z.cls_Reader, Z.noat_Reader_at⟩ (d_var (i := 1))) (d_callB c_len rfl Z.no_len boot_len (da_cons (d_fld ⟨Z.cls_Reader, Z.noat_Reader_words⟩ (d_var (i := 1))) da_nil)) (nomark _)) (ds_one (ds_raiseI C Z.ei_BadWord (ok_BadWord_new Z) (by omega) (d_fld ⟨Z.cls_Reader, Z.noat_Reader_at⟩ (d_var (i := 1))))) ds_nil)
    (ds_one (ds_ret (d_var (i := 2)))))))))
theorem sc_throw_word : FnScope ["throw", "word"] ["throw"] (defScope st_throw_word) := ⟨rfl, rfl, rfl, by decide +kernel, rfl, by decide +kernel, by decide +kernel⟩
theorem ok_throw_word (Z : Facts K mg) : Callee P w K mg base "throw_word" 1 (0 + 1) m_throw_word :=
  okD (ps := ["throw"]) (k := 0) Z.fn_throw_word sc_throw_word Z.mg_throw_word (fun _ _ _ _ _ _ us hl => match us, hl with | [_], _ => rfl) (fun cdv A outer s H E C => ((ds_cons (ds_set (i := 1) C.nd (d_bin o_add (d_bin o_add (d_idx (d_var (i := 0)) d_int) d_str) (d_callTy c_str rfl Z.no_str boot_str (da_cons (d_idx (d_var (i := 0)) d_int) da_nil))))
    (ds_cons (ds_if (dt_tru (d_idx (d_var (i := 0)) d_int)) (ds_one (ds_ret (d_bin o_add (d_var (i := 1)) d_str))) ds_nil)
    (ds_one (ds_ret (d_var (i := 1))))))))
theorem sc_show_game : FnScope ["game", "words", "number", "throw"] ["game"] (defScope st_show_game) := ⟨rfl, rfl, rfl, by decide +kernel, rfl, by decide +kernel, by decide +kernel⟩
theorem ok_show_game (Z : Facts K mg) : Callee P w K mg base "show_game" 1 (15 + 1) m_show_game :=
  okD (ps := ["game"]) (k := 15) Z.fn_show_game sc_show_game Z.mg_show_game (fun _ _ _ _ _ _ us hl => match us, hl with | [_], _ => rfl) (fun cdv A outer s H E C => ((ds_cons (ds_if (dt_cmp (o_eq C.hu) (d_idx (d_var (i := 0)) d_int) d_str (nomark _)) (ds_one (ds_ret (d_bin o_add d_str (d_call C (ok_show_rule Z) (by omega) (da_cons (d_idx (d_var (i := 0)) d_int) da_nil))))) ds_nil)
    (ds_cons (ds_set (i := 1) C.nd (d_bin o_add (d_lst (da_cons (d_idx (d_var (i := 0)) d_int) da_nil)) (d_comp (i := 2) C (di_any (d_sl (d_idx (d_var (i := 0)) d_int) do_none (do_some d_int))) (blkOk_by (by kernel_rfl)) (fun _ _ _ _ _ => pg_name (i := 2) C.nd rfl (Or.inl rfl)) (fun _ _ _ _ _ C1 => dts_nil) (fun _ _ _ _ _ C1 => (d_callTy c_str rfl Z.no_str boot_str (da_cons (d_var (i := 2)) da_nil))))))
    (ds_cons (ds_if (dt_cmp (o_eq C.hu) (d_idx (d_var (i := 0)) d_int) d_str (nomark _)) (ds_one (ds_set (i := 1) C.nd (d_bin o_add (d_var (i := 1)) (d_comp (i := 3) C (di_any (d_idx (d_idx (d_var (i := 0)) d_int) d_int)) (blkOk_by (by kernel_rfl)) (fun _ _ _ _ _ => pg_name (i := 3) C.nd rfl (Or.inl rfl)) (fun _ _ _ _ _ C1 => dts_nil) (fun _ _ _ _ _ C1 => (d_call C1 (ok_throw_word Z) (by omega) (da_cons (d_var (i := 3)) da_nil))))))) ds_nil)
    (ds_one (ds_ret (d_meth PySem.F.plainAttrs_str PySem.F.slot_str_join PySem.F.type_str_join m_join d_str (da_cons (d_var (i := 1)) da_nil)))))))))
theorem sc_number_by : FnScope ["word", "sign"] ["word"] (defScope st_number_by) := ⟨rfl, rfl, rfl, by decide +kernel, rfl, by decide +kernel, by decide +kernel⟩
theorem ok_number_by (Z : Facts K mg) : Callee P w K mg base "number_by" 1 (0 + 1) m_number_by :=
  okD (ps := ["word"]) (k := 0) Z.fn_number_by sc_number_by Z.mg_number_by (fun _ _ _ _ _ _ us hl => match us, hl with | [_], _ => rfl) (fun cdv A outer s H E C => ((ds_cons (ds_if (PW.pt (dt_or (dt_cmp (o_eq C.hu) (d_var (i := 0)) d_str (nomark _)) (dt_or (dt_cmp o_gt (d_callB c_len rfl Z.no_len boot_len (da_cons (d_var (i := 0)) da_nil)) d_int (nomark _)) (dt_or1 (PW.pt (dt_and (dt_cmp (o_eq C.hu) (d_idx (d_var (i := 0)) d_int) d_str (nomark _)) (dt_and1 (dt_cmp (o_ne C.hu) (d_var (i := 0)) d_str (nomark _))))))))) (ds_one (ds_ret d_non)) ds_nil)
    (ds_cons (ds_if (dt_not (dt_tru (d_callB (c_all C.calm) rfl Z.no_all (by decide +kernel) (da_cons (d_comp (i := 1) C (di_any (d_var (i := 0))) (blkOk_by (by kernel_rfl)) (fun _ _ _ _ _ => pg_name (i := 1) C.nd rfl (Or.inl rfl)) (fun _ _ _ _ _ C1 => dts_nil) (fun _ _ _ _ _ C1 => (d_cmp o_in (d_var (i := 1)) (d_glob Z.gl_FIGURES_downs) (by with_unfolding_all rfl)))) da_nil)))) (ds_one (ds_ret d_non)) ds_nil)
    (ds_one (ds_ret (d_callTy c_intS rfl Z.no_int boot_int (da_cons (d_var (i := 0)) da_nil))))))))
theorem sc_throw_by : FnScope ["word", "ends", "worth", "name", "sign", "rest"] ["word"] (defScope st_throw_by) := ⟨rfl, rfl, rfl, by decide +kernel, rfl, by decide +kernel, by decide +kernel⟩
theorem ok_throw_by (Z : Facts K mg) : Callee P w K mg base "throw_by" 1 (1 + 1) m_throw_by :=
  okD (ps := ["word"]) (k := 1) Z.fn_throw_by sc_throw_by Z.mg_throw_by (fun _ _ _ _ _ _ us hl => match us, hl with | [_], _ => rfl) (fun cdv A outer s H E C => ((ds_cons (ds_asg (d_meth PySem.F.plainAttrs_str PySem.F.slot_str_partition PySem.F.type_str_partition m_partition (d_var (i := 0)) (da_cons d_str da_nil)) (dg_tup (pg_tup C.calm (pgs_cons (pg_name (i := 3) C.nd rfl (by first | exact .inl rfl | exact .inr rfl)) (pgs_cons (pg_name (i := 4) C.nd rfl (by first | exact .inl rfl | exact .inr rfl)) (pgs_cons (pg_name (i := 5) C.nd rfl (by first | exact .inl rfl | exact .inr rfl)) pgs_nil))))))
    (ds_cons (ds_set (i := 1) C.nd (d_cmp (o_eq C.hu) (d_sl (d_var (i := 5)) (do_some (d_un o_neg d_int)) do_none) d_str (nomark _)))
    (ds_cons (ds_if (dt_tru (d_var (i := 1))) (ds_one (ds_set (i := 5) C.nd (d_sl (d_var (i := 5)) do_none (do_some (d_un o_neg d_int))))) ds_nil)
    (ds_cons (ds_set (i := 2) C.nd (d_call C (ok_number_by Z) (by omega) (da_cons (d_var (i := 5)) da_nil)))
    (ds_cons (ds_if (PW.pt (dt_or (dt_not (dt_tru (d_call C (ok_is_throw_name Z) (by omega) (da_cons (d_var (i := 3)) da_nil)))) (dt_or1 (dt_not (dt_tru (d_call C (ok_is_between Z) (by omega) (da_cons (d_var (i := 2)) (da_cons d_int (da_cons d_int da_nil))))))))) (ds_one (ds_ret d_non)) ds_nil)
    (ds_one (ds_ret (d_tup (da_cons (d_var (i := 3)) (da_cons (d_var (i := 2)) (da_cons (d_var (i := 1)) da_nil)))))))))))))
theorem sc_numbers_in : FnScope ["words", "mosts", "numbers", "at", "number"] ["words", "mosts"] (defScope st_numbers_in) := ⟨rfl, rfl, rfl, by decide +kernel, rfl, by decide +kernel, by decide +kernel⟩
theorem ok_numbers_in (Z : Facts K mg) : Callee P w K mg base "numbers_in" 2 (2 + 1) m_numbers_in :=
  okD (ps := ["words", "mosts"]) (k := 2) Z.fn_numbers_in sc_numbers_in Z.mg_numbers_in (fun _ _ _ _ _ _ us hl => match us, hl with | [_, _], _ => rfl) (fun cdv A outer s H E C => ((ds_cons (ds_set (i := 2) C.nd (d_lst da_nil))
    (ds_cons (ds_for C (di_range2 Z.no_range d_int (d_bin o_add (d_callB c_len rfl Z.no_len boot_len (da_cons (d_var (i := 1)) da_nil)) d_int)) (dg_name (i := 3) C.nd) (ds_cons (ds_if (dt_cmp (o_eq C.hu) (d_var (i := 3)) (d_callB c_len rfl Z.no_len boot_len (da_cons (d_var (i := 0)) da_nil)) (nomark _)) (ds_one (ds_raiseI C Z.ei_BadWord (ok_BadWord_new Z) (by omega) (d_var (i := 3)))) ds_nil)
    (ds_cons (ds_set (i := 4) C.nd (d_call C (ok_number_by Z) (by omega) (da_cons (d_idx (d_var (i := 0)) (d_var (i := 3))) da_nil)))
    (ds_cons (ds_if (dt_not (dt_tru (d_call C (ok_is_between Z) (by omega) (da_cons (d_var (i := 4)) (da_cons d_int (da_cons (d_idx (d_var (i := 1)) (d_bin o_sub (d_var (i := 3)) d_int)) da_nil)))))) (ds_one (ds_raiseI C Z.ei_BadWord (ok_BadWord_new Z) (by omega) (d_var (i := 3)))) ds_nil)
    (ds_one (ds_expr (d_meth PySem.F.plainAttrs_list PySem.F.slot_list_append PySem.F.type_list_append m_append (d_var (i := 2)) (da_cons (d_var (i := 4)) da_nil))))))))
    (ds_one (ds_ret (d_callTy c_tuple rfl Z.no_tuple boot_tuple (da_cons (d_var (i := 2)) da_nil))))))))
theorem sc_throws_in : FnScope ["words", "throws", "names", "at", "throw"] ["words"] (defScope st_throws_in) := ⟨rfl, rfl, rfl, by decide +kernel, rfl, by decide +kernel, by decide +kernel⟩
theorem ok_throws_in (Z : Facts K mg) : Callee P w K mg base "throws_in" 1 (2 + 1) m_throws_in :=
  okD (ps := ["words"]) (k := 2) Z.fn_throws_in sc_throws_in Z.mg_throws_in (fun _ _ _ _ _ _ us hl => match us, hl with | [_], _ => rfl) (fun cdv A outer s H E C => ((ds_cons (ds_set (i := 1) C.nd (d_lst da_nil))
    (ds_cons (ds_set (i := 2) C.nd (d_lst da_nil))
    (ds_cons (ds_for C (di_range2 Z.no_range d_int (d_callB c_len rfl Z.no_len boot_len (da_cons (d_var (i := 0)) da_nil))) (dg_name (i := 3) C.nd) (ds_cons (ds_set (i := 4) C.nd (d_call C (ok_throw_by Z) (by omega) (da_cons (d_idx (d_var (i := 0)) (d_var (i := 3))) da_nil)))
    (ds_cons (ds_if (PW.pt (dt_or (dt_cmp o_is (d_var (i := 4)) d_non (nomark _)) (dt_or (dt_cmp o_in (d_idx (d_var (i := 4)) d_int) (d_var (i := 2)) (by with_unfolding_all rfl)) (dt_or1 (dt_cmp (o_eq C.hu) (d_callB c_len rfl Z.no_len boot_len (da_cons (d_var (i := 1)) da_nil)) d_int (nomark _)))))) (ds_one (ds_raiseI C Z.ei_BadWord (ok_BadWord_new Z) (by omega) (d_var (i := 3)))) ds_nil)
    (ds_cons (ds_expr (d_meth PySem.F.plainAttrs_list PySem.F.slot_list_append PySem.F.type_list_append m_append (d_var (i := 1)) (da_cons (d_var (i := 4)) da_nil)))
    (ds_one (ds_expr (d_meth PySem.F.plainAttrs_list PySem.F.slot_list_append PySem.F.type_list_append m_append (d_var (i := 2)) (da_cons (d_idx (d_var (i := 4)) d_int) da_nil))))))))
    (ds_cons (ds_if (dt_cmp (o_eq C.hu) (d_var (i := 1)) (d_lst da_nil) (nomark _)) (ds_one (ds_raiseI C Z.ei_BadWord (ok_BadWord_new Z) (by omega) d_int)) ds_nil)
    (ds_one (ds_ret (d_callTy c_tuple rfl Z.no_tuple boot_tuple (da_cons (d_var (i := 1)) da_nil))))))))))
theorem sc_rally_in : FnScope ["words", "at", "rule", "e"] ["words"] (defScope st_rally_in) := ⟨rfl, rfl, rfl, by decide +kernel, rfl, by decide +kernel, by decide +kernel⟩
theorem ok_rally_in (Z : Facts K mg) : Callee P w K mg base "rally_in" 1 (19 + 1) m_rally_in :=
  okD (ps := ["words"]) (k := 19) Z.fn_rally_in sc_rally_in Z.mg_rally_in (fun _ _ _ _ _ _ us hl => match us, hl with | [_], _ => rfl) (fun cdv A outer s H E C => ((ds_cons (ds_set (i := 1) C.nd d_non)
    (ds_cons (ds_set (i := 2) C.nd d_non)
    (ds_cons (ds_try C (fun _ _ _ Ct => ((ds_one (ds_set (i := 2) Ct.nd (d_call Ct (ok_read_rule Z) (by omega) (da_cons (d_meth PySem.F.plainAttrs_str PySem.F.slot_str_join PySem.F.type_str_join m_join d_str (da_cons (d_sl (d_var (i := 0)) (do_some d_int) do_none) da_nil)) da_nil)))))) (.as (i := 3) rfl (by decide) Z.mc_BadWord (Z.exsub.of (by decide +kernel)) rfl rfl (fun a pn => ((ds_one (ds_set (i := 1) (ctxH_suite C (a := a) (pn := pn)).nd (d_at Z.at_ (d_var (i := 3))))))) .nil))
    (ds_cons (ds_if (dt_cmp o_isNot (d_var (i := 1)) d_non (nomark _)) (ds_one (ds_raiseI C Z.ei_BadWord (ok_BadWord_new Z) (by omega) (d_bin o_add (d_var (i := 1)) d_int))) ds_nil)
    (ds_one (ds_ret (d_var (i := 2))))))))))
theorem sc_read_game : FnScope ["text", "words", "lane"] ["text"] (defScope st_read_game) := ⟨rfl, rfl, rfl, by decide +kernel, rfl, by decide +kernel, by decide +kernel⟩
theorem ok_read_game (Z : Facts K mg) : Callee P w K mg base "read_game" 1 (20 + 1) m_read_game :=
  okD (ps := ["text"]) (k := 20) Z.fn_read_game sc_read_game Z.mg_read_game (fun _ _ _ _ _ _ us hl => match us, hl with | [_], _ => rfl) (fun cdv A outer s H E C => ((ds_cons (ds_set (i := 1) C.nd (d_meth PySem.F.plainAttrs_str PySem.F.slot_str_split PySem.F.type_str_split m_split (d_var (i := 0)) (da_cons d_str da_nil)))
    (ds_cons (ds_if (dt_cmp (o_eq C.hu) (d_idx (d_var (i := 1)) d_int) d_str (nomark _)) (ds_one (ds_ret (d_tup (da_cons d_str (da_cons (d_call C (ok_rally_in Z) (by omega) (da_cons (d_var (i := 1)) da_nil)) da_nil))))) ds_nil)
    (ds_cons (ds_if (dt_cmp (o_eq C.hu) (d_idx (d_var (i := 1)) d_int) d_str (nomark _)) (ds_one (ds_ret (d_tup (da_cons d_str (da_cons (d_bin o_add (d_call C (ok_numbers_in Z) (by omega) (da_cons (d_var (i := 1)) (da_cons (d_lst (da_cons d_int (da_cons d_int (da_cons d_int da_nil)))) da_nil))) (d_tup (da_cons (d_call C (ok_throws_in Z) (by omega) (da_cons (d_var (i := 1)) da_nil)) da_nil))) da_nil))))) ds_nil)
    (ds_cons (ds_if (dt_cmp (o_ne C.hu) (d_idx (d_var (i := 1)) d_int) d_str (nomark _)) (ds_one (ds_raiseI C Z.ei_BadWord (ok_BadWord_new Z) (by omega) d_int)) ds_nil)
    (ds_cons (ds_set (i := 2) C.nd (d_call C (ok_numbers_in Z) (by omega) (da_cons (d_var (i := 1)) (da_cons (d_lst (da_cons d_int (da_cons d_int (da_cons d_int da_nil)))) da_nil))))
    (ds_cons (ds_if (dt_cmp o_gt (d_callB c_len rfl Z.no_len boot_len (da_cons (d_var (i := 1)) da_nil)) d_int (nomark _)) (ds_one (ds_raiseI C Z.ei_BadWord (ok_BadWord_new Z) (by omega) d_int)) ds_nil)
    (ds_one (ds_ret (d_tup (da_cons d_str (da_cons (d_var (i := 2)) da_nil)))))))))))))
theorem sc_l_tape : FnScope ["_law_script", "_law_way"] ["_law_script"] (defScope st_l_tape) := ⟨rfl, rfl, rfl, by decide +kernel, rfl, by decide +kernel, by decide +kernel⟩
theorem ok_l_tape (Z : Facts K mg) : Callee P w K mg base "_law_tape" 1 (0 + 1) m_l_tape :=
  okD (ps := ["_law_script"]) (k := 0) Z.fn_l_tape sc_l_tape Z.mg_l_tape (fun _ _ _ _ _ _ us hl => match us, hl with | [_], _ => rfl) (fun cdv A outer s H E C => ((ds_cons (ds_set (i := 1) C.nd d_int)
    (ds_cons (ds_if (dt_cmp o_gt (d_callB c_len rfl Z.no_len boot_len (da_cons (d_var (i := 0)) da_nil)) d_int (nomark _)) (ds_one (ds_set (i := 1) C.nd (d_bin o_mod (d_idx (d_var (i := 0)) d_int) d_int))) ds_nil)
    (ds_one (ds_ret (d_lst (da_cons (d_var (i := 0)) (da_cons d_int (da_cons d_int (da_cons (d_var (i := 1)) da_nil)))))))))))
theorem sc_l_draw : FnScope ["_law_tape_here", "_law_many", "_law_script", "_law_spot", "_law_cell", "_law_mixed", "_law_left"] ["_law_tape_here", "_law_many"] (defScope st_l_draw) := ⟨rfl, rfl, rfl, by decide +kernel, rfl, by decide +kernel, by decide +kernel⟩
theorem ok_l_draw (Z : Facts K mg) : Callee P w K mg base "_law_draw" 2 (0 + 1) m_l_draw :=
  okD (ps := ["_law_tape_here", "_law_many"]) (k := 0) Z.fn_l_draw sc_l_draw Z.mg_l_draw (fun _ _ _ _ _ _ us hl => match us, hl with | [_, _], _ => rfl) (fun cdv A outer s H E C => ((ds_cons (ds_set (i := 2) C.nd (d_idx (d_var (i := 0)) d_int))
    (ds_cons (ds_set (i := 3) C.nd (d_idx (d_var (i := 0)) d_int))
    (ds_cons (ds_sub (d_var (i := 0)) d_int (d_bin o_add (d_var (i := 3)) d_int))
    (ds_cons (ds_set (i := 4) C.nd d_int)
    (ds_cons (ds_if (dt_cmp o_gt (d_callB c_len rfl Z.no_len boot_len (da_cons (d_var (i := 2)) da_nil)) d_int (nomark _)) (ds_one (ds_set (i := 4) C.nd (d_idx (d_var (i := 2)) (d_bin o_mod (d_ifExp (dt_cmp (o_eq C.hu) (d_idx (d_var (i := 0)) d_int) d_int (nomark _)) (d_bin o_fdiv (d_var (i := 3)) d_int) (d_var (i := 3))) (d_callB c_len rfl Z.no_len boot_len (da_cons (d_var (i := 2)) da_nil)))))) ds_nil)
    (ds_cons (ds_if (dt_cmp (o_eq C.hu) (d_idx (d_var (i := 0)) d_int) d_int (nomark _)) (ds_cons (ds_if (dt_cmp (o_eq C.hu) (d_bin o_mod (d_var (i := 3)) d_int) d_int (nomark _)) (ds_one (ds_sub (d_var (i := 0)) d_int (d_bin o_fdiv (d_var (i := 4)) d_int))) ds_nil)
    (ds_cons (ds_set (i := 6) C.nd (d_idx (d_var (i := 0)) d_int))
    (ds_cons (ds_sub (d_var (i := 0)) d_int (d_bin o_fdiv (d_var (i := 6)) (d_var (i := 1))))
    (ds_one (ds_ret (d_bin o_mod (d_var (i := 6)) (d_var (i := 1)))))))) ds_nil)
    (ds_cons (ds_set (i := 5) C.nd (d_bin o_mod (d_bin o_mul (d_bin o_add (d_bin o_mod (d_var (i := 4)) d_int) d_int) (d_bin o_add (d_bin o_add (d_bin o_mul (d_bin o_mod (d_var (i := 3)) d_int) d_int) d_int) (d_var (i := 3)))) d_int))
    (ds_cons (ds_set (i := 5) C.nd (d_bin o_mod (d_bin o_add (d_bin o_add (d_bin o_mul (d_var (i := 5)) (d_var (i := 5))) (d_bin o_mul d_int (d_var (i := 5)))) (d_var (i := 3))) d_int))
    (ds_one (ds_ret (d_bin o_mod (d_bin o_mod (d_bin o_mul (d_var (i := 5)) d_int) d_int) (d_var (i := 1)))))))))))))))
theorem sc_l_great : FnScope ["_law_tape_here"] ["_law_tape_here"] (defScope st_l_great) := ⟨rfl, rfl, rfl, by decide +kernel, rfl, by decide +kernel, by decide +kernel⟩
theorem ok_l_great (Z : Facts K mg) : Callee P w K mg base "_law_great" 1 (1 + 1) m_l_great :=
  okD (ps := ["_law_tape_here"]) (k := 1) Z.fn_l_great sc_l_great Z.mg_l_great (fun _ _ _ _ _ _ us hl => match us, hl with | [_], _ => rfl) (fun cdv A outer s H E C => ((ds_one (ds_ret (d_bin o_add (d_bin o_mul d_int (d_call C (ok_l_draw Z) (by omega) (da_cons (d_var (i := 0)) (da_cons d_int da_nil)))) (d_call C (ok_l_draw Z) (by omega) (da_cons (d_var (i := 0)) (da_cons d_int da_nil))))))))
theorem sc_l_unit : FnScope ["_law_tape_here", "_law_deep", "_law_thin", "_law_to", "_law_lead", "_law_cap", "_law_last", "_law_inner"] ["_law_tape_here", "_law_deep", "_law_thin"] (defScope st_l_unit) := ⟨rfl, rfl, rfl, by decide +kernel, rfl, by decide +kernel, by decide +kernel⟩
theorem st1_l_unit (Z : Facts K mg) (n : Nat) {r_l_unit : Fn} (R_l_unit : Callee P w K mg base "_law_unit" 3 (1 + n) r_l_unit) {r_l_rule : Fn} (R_l_rule : Callee P w K mg base "_law_rule" 3 (1 + n) r_l_rule) : Callee P w K mg base "_law_unit" 3 (1 + n + 1) (fnD 3 8 (b_l_unit r_l_unit r_l_rule)) :=
  okD (ps := ["_law_tape_here", "_law_deep", "_law_thin"]) (k := 1 + n) Z.fn_l_unit sc_l_unit Z.mg_l_unit (fun _ _ _ _ _ _ us hl => match us, hl with | [_, _, _], _ => rfl) (fun cdv A outer s H E C => ((ds_cons (ds_set (i := 3) C.nd (d_bin o_add d_int (d_call C (ok_l_draw Z) (by omega) (da_cons (d_var (i := 0)) (da_cons (d_idx (d_lst (da_cons d_int (da_cons d_int (da_cons d_int da_nil)))) (d_bin o_fdiv (d_call C (ok_l_draw Z) (by omega) (da_cons (d_var (i := 0)) (da_cons d_int da_nil))) d_int)) da_nil)))))
    (ds_cons (ds_set (i := 4) C.nd (d_bin o_add d_int (d_call C (ok_l_draw Z) (by omega) (da_cons (d_var (i := 0)) (da_cons (d_idx (d_lst (da_cons d_int (da_cons d_int (da_cons d_int da_nil)))) (d_bin o_fdiv (d_call C (ok_l_draw Z) (by omega) (da_cons (d_var (i := 0)) (da_cons d_int da_nil))) d_int)) da_nil)))))
    (ds_cons (ds_set (i := 5) C.nd d_non)
    (ds_cons (ds_set (i := 6) C.nd d_non)
    (ds_cons (ds_if (dt_cmp (o_eq C.hu) (d_call C (ok_l_draw Z) (by omega) (da_cons (d_var (i := 0)) (da_cons d_int da_nil))) d_int (nomark _)) (ds_one (ds_set (i := 5) C.nd (d_callB (c_min2 C.calm) rfl Z.no_min boot_min (da_cons d_int (da_cons (d_bin o_add (d_var (i := 3)) (d_call C (ok_l_draw Z) (by omega) (da_cons (d_var (i := 0)) (da_cons d_int da_nil)))) da_nil))))) ds_nil)
    (ds_cons (ds_set (i := 7) C.nd (d_call C R_l_rule (by omega) (da_cons (d_var (i := 0)) (da_cons (d_bin o_sub (d_var (i := 1)) d_int) (da_cons (d_var (i := 2)) da_nil)))))
    (ds_cons (ds_if (PW.pt (dt_and (dt_cmp o_isNot (d_var (i := 5)) d_non (nomark _)) (dt_and1 (dt_cmp o_gt (d_call C (ok_l_draw Z) (by omega) (da_cons (d_var (i := 0)) (da_cons d_int da_nil))) d_int (nomark _))))) (ds_one (ds_set (i := 6) C.nd (d_call C R_l_rule (by omega) (da_cons (d_var (i := 0)) (da_cons (d_callB (c_min2 C.calm) rfl Z.no_min boot_min (da_cons (d_bin o_sub (d_var (i := 1)) d_int) (da_cons (d_var (i := 2)) da_nil))) (da_cons (d_var (i := 2)) da_nil)))))) ds_nil)
    (ds_one (ds_ret (d_tup (da_cons d_str (da_cons (d_var (i := 3)) (da_cons (d_var (i := 4)) (da_cons (d_var (i := 5)) (da_cons (d_var (i := 7)) (da_cons (d_var (i := 6)) da_nil))))))))))))))))))
theorem sc_l_rule : FnScope ["_law_tape_here", "_law_deep", "_law_thin"] ["_law_tape_here", "_law_deep", "_law_thin"] (defScope st_l_rule) := ⟨rfl, rfl, rfl, by decide +kernel, rfl, by decide +kernel, by decide +kernel⟩
theorem st1_l_rule (Z : Facts K mg) (n : Nat) {r_l_unit : Fn} (R_l_unit : Callee P w K mg base "_law_unit" 3 (1 + n) r_l_unit) {r_l_rule : Fn} (R_l_rule : Callee P w K mg base "_law_rule" 3 (1 + n) r_l_rule) : Callee P w K mg base "_law_rule" 3 (1 + n + 1) (fnD 3 3 (b_l_rule r_l_unit r_l_rule)) :=
  okD (ps := ["_law_tape_here", "_law_deep", "_law_thin"]) (k := 1 + n) Z.fn_l_rule sc_l_rule Z.mg_l_rule (fun _ _ _ _ _ _ us hl => match us, hl with | [_, _, _], _ => rfl) (fun cdv A outer s H E C => ((ds_cons (ds_if (PW.pt (dt_or (dt_cmp (o_eq C.hu) (d_var (i := 1)) d_int (nomark _)) (dt_or1 (dt_cmp (o_eq C.hu) (d_call C (ok_l_draw Z) (by omega) (da_cons (d_var (i := 0)) (da_cons d_int da_nil))) d_int (nomark _))))) (ds_one (ds_ret (d_tup (da_cons d_str da_nil)))) ds_nil)
    (ds_one (ds_ret (d_call C R_l_unit (by omega) (da_cons (d_var (i := 0)) (da_cons (d_var (i := 1)) (da_cons (d_var (i := 2)) da_nil)))))))))
theorem okg_l_unit (Z : Facts K mg) : ∀ n : Nat, Callee P w K mg base "_law_unit" 3 (1 + n) (m_l_unit n) ∧ Callee P w K mg base "_law_rule" 3 (1 + n) (m_l_rule n)
  | 0 => ⟨noD (ps := ["_law_tape_here", "_law_deep", "_law_thin"]) Z.fn_l_unit Z.mg_l_unit (fun _ _ _ _ _ _ us hl => match us, hl with | [_, _, _], _ => rfl), noD (ps := ["_law_tape_here", "_law_deep", "_law_thin"]) Z.fn_l_rule Z.mg_l_rule (fun _ _ _ _ _ _ us hl => match us, hl with | [_, _, _], _ => rfl)⟩
  | n + 1 => ⟨st1_l_unit Z n ((okg_l_unit Z n).1) ((okg_l_unit Z n).2), st1_l_rule Z n ((okg_l_unit Z n).1) ((okg_l_unit Z n).2)⟩
theorem ok_l_rule (Z : Facts K mg) (n : Nat) : Callee P w K mg base "_law_rule" 3 (1 + n) (m_l_rule n) := (okg_l_unit Z n).2
theorem sc_l_any_rule : FnScope ["_law_tape_here", "_law_way"] ["_law_tape_here"] (defScope st_l_any_rule) := ⟨rfl, rfl, rfl, by decide +kernel, rfl, by decide +kernel, by decide +kernel⟩
theorem ok_l_any_rule (Z : Facts K mg) : Callee P w K mg base "_law_any_rule" 1 (15 + 1) m_l_any_rule :=
  okD (ps := ["_law_tape_here"]) (k := 15) Z.fn_l_any_rule sc_l_any_rule Z.mg_l_any_rule (fun _ _ _ _ _ _ us hl => match us, hl with | [_], _ => rfl) (fun cdv A outer s H E C => ((ds_cons (ds_set (i := 1) C.nd (d_call C (ok_l_draw Z) (by omega) (da_cons (d_var (i := 0)) (da_cons d_int da_nil))))
    (ds_one (ds_ret (d_call C (ok_l_rule Z 14) (by omega) (da_cons (d_var (i := 0)) (da_cons (d_idx (d_lst (da_cons d_int (da_cons d_int (da_cons d_int (da_cons d_int (da_cons d_int (da_cons d_int da_nil))))))) (d_var (i := 1))) (da_cons (d_idx (d_lst (da_cons d_int (da_cons d_int (da_cons d_int (da_cons d_int (da_cons d_int (da_cons d_int da_nil))))))) (d_var (i := 1))) da_nil)))))))))
theorem sc_l_names : FnScope ["_law_tape_here", "_law_many", "_law_letters", "_law_word", "_law_way", "_law_turn", "_law_size", "_law_at", "_law_signs", "_law_start", "_law_names_here", "_law_k"] ["_law_tape_here", "_law_many"] (defScope st_l_names) := ⟨rfl, rfl, rfl, by decide +kernel, rfl, by decide +kernel, by decide +kernel⟩
theorem ok_l_names (Z : Facts K mg) : Callee P w K mg base "_law_names" 2 (1 + 1) m_l_names :=
  okD (ps := ["_law_tape_here", "_law_many"]) (k := 1) Z.fn_l_names sc_l_names Z.mg_l_names (fun _ _ _ _ _ _ us hl => match us, hl with | [_, _], _ => rfl) (fun cdv A outer s H E C => ((ds_cons (ds_set (i := 2) C.nd d_str)
    (ds_cons (ds_set (i := 3) C.nd (d_meth PySem.F.plainAttrs_str PySem.F.slot_str_join PySem.F.type_str_join m_join d_str (da_cons (d_comp (i := 11) C (di_range1 Z.no_range d_int) (blkOk_by (by kernel_rfl)) (fun _ _ _ _ _ => pg_name (i := 11) C.nd rfl (Or.inl rfl)) (fun _ _ _ _ _ C1 => dts_nil) (fun _ _ _ _ _ C1 => (d_idx (d_var (i := 2)) (d_call C1 (ok_l_draw Z) (by omega) (da_cons (d_var (i := 0)) (da_cons d_int da_nil)))))) da_nil)))
    (ds_cons (ds_set (i := 4) C.nd (d_call C (ok_l_draw Z) (by omega) (da_cons (d_var (i := 0)) (da_cons d_int da_nil))))
    (ds_cons (ds_set (i := 5) C.nd (d_call C (ok_l_draw Z) (by omega) (da_cons (d_var (i := 0)) (da_cons d_int da_nil))))
    (ds_cons (ds_if (PW.pt (dt_and (dt_cmp o_le (d_var (i := 1)) d_int (nomark _)) (dt_and1 (dt_cmp (o_eq C.hu) (d_var (i := 4)) d_int (nomark _))))) (ds_cons (ds_setComp (i := 11) (j := 10) C (di_range1 Z.no_range d_int) (blkOk_by (by kernel_rfl)) (fun _ _ _ _ _ => pg_name (i := 11) C.nd rfl (Or.inl rfl)) (fun _ _ _ _ _ C1 => dts_nil) (fun _ _ _ _ _ C1 => (d_sl (d_var (i := 3)) do_none (do_some (d_bin o_add (d_var (i := 11)) d_int)))))
    (ds_one (ds_ret (d_sl (d_bin o_add (d_sl (d_var (i := 10)) (do_some (d_var (i := 5))) do_none) (d_sl (d_var (i := 10)) do_none (do_some (d_var (i := 5))))) do_none (do_some (d_var (i := 1))))))) ds_nil)
    (ds_cons (ds_set (i := 6) C.nd (d_bin o_add d_int (d_call C (ok_l_draw Z) (by omega) (da_cons (d_var (i := 0)) (da_cons d_int da_nil)))))
    (ds_cons (ds_set (i := 7) C.nd (d_bin o_add d_int (d_call C (ok_l_draw Z) (by omega) (da_cons (d_var (i := 0)) (da_cons (d_bin o_sub (d_var (i := 6)) d_int) da_nil)))))
    (ds_cons (ds_set (i := 8) C.nd (d_bin o_add (d_var (i := 2)) d_str))
    (ds_cons (ds_set (i := 9) C.nd (d_call C (ok_l_draw Z) (by omega) (da_cons (d_var (i := 0)) (da_cons d_int da_nil))))
    (ds_one (ds_ret (d_comp (i := 11) C (di_range1 Z.no_range (d_var (i := 1))) (blkOk_by (by kernel_rfl)) (fun _ _ _ _ _ => pg_name (i := 11) C.nd rfl (Or.inl rfl)) (fun _ _ _ _ _ C1 => dts_nil) (fun _ _ _ _ _ C1 => (d_bin o_add (d_bin o_add (d_sl (d_var (i := 3)) do_none (do_some (d_var (i := 7)))) (d_idx (d_var (i := 8)) (d_bin o_mod (d_bin o_add (d_var (i := 9)) (d_bin o_mul d_int (d_var (i := 11)))) d_int))) (d_sl (d_var (i := 3)) (do_some (d_bin o_add (d_var (i := 7)) d_int)) (do_some (d_var (i := 6))))))))))))))))))))
theorem sc_l_throws : FnScope ["_law_tape_here", "_law_names_here", "_law_count", "_law_throws_here", "_law_name", "_law_worths"] ["_law_tape_here", "_law_names_here", "_law_count"] (defScope st_l_throws) := ⟨rfl, rfl, rfl, by decide +kernel, rfl, by decide +kernel, by decide +kernel⟩
theorem ok_l_throws (Z : Facts K mg) : Callee P w K mg base "_law_throws" 3 (2 + 1) m_l_throws :=
  okD (ps := ["_law_tape_here", "_law_names_here", "_law_count"]) (k := 2) Z.fn_l_throws sc_l_throws Z.mg_l_throws (fun _ _ _ _ _ _ us hl => match us, hl with | [_, _, _], _ => rfl) (fun cdv A outer s H E C => ((ds_cons (ds_set (i := 3) C.nd (d_lst da_nil))
    (ds_cons (ds_for C (di_any (d_var (i := 1))) (dg_name (i := 4) C.nd) (ds_cons (ds_set (i := 5) C.nd (d_lst (da_cons (d_call C (ok_l_draw Z) (by omega) (da_cons (d_var (i := 0)) (da_cons d_int da_nil))) (da_cons (d_call C (ok_l_draw Z) (by omega) (da_cons (d_var (i := 0)) (da_cons d_int da_nil))) (da_cons (d_bin o_fdiv (d_var (i := 2)) d_int) (da_cons (d_bin o_sub (d_var (i := 2)) (d_call C (ok_l_draw Z) (by omega) (da_cons (d_var (i := 0)) (da_cons (d_var (i := 2)) da_nil)))) da_nil))))))
    (ds_cons (ds_expr (d_meth PySem.F.plainAttrs_list PySem.F.slot_list_append PySem.F.type_list_append m_append (d_var (i := 5)) (da_cons (d_bin o_add (d_call C (ok_l_great Z) (by omega) (da_cons (d_var (i := 0)) da_nil)) (d_call C (ok_l_draw Z) (by omega) (da_cons (d_var (i := 0)) (da_cons d_int da_nil)))) da_nil)))
    (ds_one (ds_expr (d_meth PySem.F.plainAttrs_list PySem.F.slot_list_append PySem.F.type_list_append m_append (d_var (i := 3)) (da_cons (d_tup (da_cons (d_var (i := 4)) (da_cons (d_idx (d_var (i := 5)) (d_call C (ok_l_draw Z) (by omega) (da_cons (d_var (i := 0)) (da_cons d_int da_nil)))) (da_cons (d_cmp (o_eq C.hu) (d_call C (ok_l_draw Z) (by omega) (da_cons (d_var (i := 0)) (da_cons d_int da_nil))) d_int (nomark _)) da_nil)))) da_nil)))))))
    (ds_one (ds_ret (d_callTy c_tuple rfl Z.no_tuple boot_tuple (da_cons (d_var (i := 3)) da_nil))))))))
theorem sc_l_down : FnScope ["_law_tape_here", "_law_many", "_law_begins", "_law_begin", "_law_throws_here"] ["_law_tape_here"] (defScope st_l_down) := ⟨rfl, rfl, rfl, by decide +kernel, rfl, by decide +kernel, by decide +kernel⟩
theorem ok_l_down (Z : Facts K mg) : Callee P w K mg base "_law_down" 1 (3 + 1) m_l_down :=
  okD (ps := ["_law_tape_here"]) (k := 3) Z.fn_l_down sc_l_down Z.mg_l_down (fun _ _ _ _ _ _ us hl => match us, hl with | [_], _ => rfl) (fun cdv A outer s H E C => ((ds_cons (ds_set (i := 1) C.nd (d_idx (d_lst (da_cons (d_bin o_add d_int (d_call C (ok_l_draw Z) (by omega) (da_cons (d_var (i := 0)) (da_cons d_int da_nil)))) (da_cons (d_bin o_add d_int (d_call C (ok_l_draw Z) (by omega) (da_cons (d_var (i := 0)) (da_cons d_int da_nil)))) da_nil))) (d_bin o_fdiv (d_call C (ok_l_draw Z) (by omega) (da_cons (d_var (i := 0)) (da_cons d_int da_nil))) d_int)))
    (ds_cons (ds_set (i := 2) C.nd (d_lst (da_cons (d_bin o_add d_int (d_call C (ok_l_draw Z) (by omega) (da_cons (d_var (i := 0)) (da_cons d_int da_nil)))) (da_cons (d_bin o_add d_int (d_call C (ok_l_draw Z) (by omega) (da_cons (d_var (i := 0)) (da_cons d_int da_nil)))) (da_cons (d_bin o_add d_int (d_call C (ok_l_great Z) (by omega) (da_cons (d_var (i := 0)) da_nil))) da_nil)))))
    (ds_cons (ds_set (i := 3) C.nd (d_idx (d_var (i := 2)) (d_call C (ok_l_draw Z) (by omega) (da_cons (d_var (i := 0)) (da_cons d_int da_nil)))))
    (ds_cons (ds_set (i := 4) C.nd (d_call C (ok_l_throws Z) (by omega) (da_cons (d_var (i := 0)) (da_cons (d_call C (ok_l_names Z) (by omega) (da_cons (d_var (i := 0)) (da_cons (d_var (i := 1)) da_nil))) (da_cons (d_var (i := 3)) da_nil)))))
    (ds_one (ds_ret (d_tup (da_cons (d_bin o_add d_int (d_call C (ok_l_draw Z) (by omega) (da_cons (d_var (i := 0)) (da_cons d_int da_nil)))) (da_cons (d_var (i := 3)) (da_cons (d_bin o_add d_int (d_call C (ok_l_draw Z) (by omega) (da_cons (d_var (i := 0)) (da_cons d_int da_nil)))) (da_cons (d_var (i := 4)) da_nil)))))))))))))
theorem sc_l_lane : FnScope ["_law_tape_here", "_law_pins", "_law_frames"] ["_law_tape_here"] (defScope st_l_lane) := ⟨rfl, rfl, rfl, by decide +kernel, rfl, by decide +kernel, by decide +kernel⟩
theorem ok_l_lane (Z : Facts K mg) : Callee P w K mg base "_law_lane" 1 (1 + 1) m_l_lane :=
  okD (ps := ["_law_tape_here"]) (k := 1) Z.fn_l_lane sc_l_lane Z.mg_l_lane (fun _ _ _ _ _ _ us hl => match us, hl with | [_], _ => rfl) (fun cdv A outer s H E C => ((ds_cons (ds_set (i := 1) C.nd (d_idx (d_lst (da_cons (d_bin o_add d_int (d_call C (ok_l_draw Z) (by omega) (da_cons (d_var (i := 0)) (da_cons d_int da_nil)))) (da_cons d_int (da_cons (d_bin o_add d_int (d_call C (ok_l_draw Z) (by omega) (da_cons (d_var (i := 0)) (da_cons d_int da_nil)))) da_nil)))) (d_call C (ok_l_draw Z) (by omega) (da_cons (d_var (i := 0)) (da_cons d_int da_nil)))))
    (ds_cons (ds_set (i := 2) C.nd (d_idx (d_lst (da_cons (d_bin o_add d_int (d_call C (ok_l_draw Z) (by omega) (da_cons (d_var (i := 0)) (da_cons d_int da_nil)))) (da_cons (d_bin o_add d_int (d_call C (ok_l_draw Z) (by omega) (da_cons (d_var (i := 0)) (da_cons d_int da_nil)))) da_nil))) (d_call C (ok_l_draw Z) (by omega) (da_cons (d_var (i := 0)) (da_cons d_int da_nil)))))
    (ds_one (ds_ret (d_tup (da_cons (d_bin o_add d_int (d_call C (ok_l_draw Z) (by omega) (da_cons (d_var (i := 0)) (da_cons d_int da_nil)))) (da_cons (d_var (i := 1)) (da_cons (d_var (i := 2)) da_nil))))))))))
theorem sc_l_game : FnScope ["_law_tape_here", "_law_kind"] ["_law_tape_here"] (defScope st_l_game) := ⟨rfl, rfl, rfl, by decide +kernel, rfl, by decide +kernel, by decide +kernel⟩
theorem ok_l_game (Z : Facts K mg) : Callee P w K mg base "_law_game" 1 (16 + 1) m_l_game :=
  okD (ps := ["_law_tape_here"]) (k := 16) Z.fn_l_game sc_l_game Z.mg_l_game (fun _ _ _ _ _ _ us hl => match us, hl with | [_], _ => rfl) (fun cdv A outer s H E C => ((ds_cons (ds_set (i := 1) C.nd (d_call C (ok_l_draw Z) (by omega) (da_cons (d_var (i := 0)) (da_cons d_int da_nil))))
    (ds_cons (ds_if (dt_cmp (o_eq C.hu) (d_var (i := 1)) d_int (nomark _)) (ds_one (ds_ret (d_tup (da_cons d_str (da_cons (d_call C (ok_l_any_rule Z) (by omega) (da_cons (d_var (i := 0)) da_nil)) da_nil))))) ds_nil)
    (ds_cons (ds_if (dt_cmp (o_eq C.hu) (d_var (i := 1)) d_int (nomark _)) (ds_one (ds_ret (d_tup (da_cons d_str (da_cons (d_call C (ok_l_down Z) (by omega) (da_cons (d_var (i := 0)) da_nil)) da_nil))))) ds_nil)
    (ds_one (ds_ret (d_tup (da_cons d_str (da_cons (d_call C (ok_l_lane Z) (by omega) (da_cons (d_var (i := 0)) da_nil)) da_nil))))))))))
theorem sc_l_rule_words : FnScope ["_law_rule_here", "_law_words"] ["_law_rule_here"] (defScope st_l_rule_words) := ⟨rfl, rfl, rfl, by decide +kernel, rfl, by decide +kernel, by decide +kernel⟩
theorem st1_l_rule_words (Z : Facts K mg) (n : Nat) {r_l_rule_words : Fn} (R_l_rule_words : Callee P w K mg base "_law_rule_words" 1 (0 + n) r_l_rule_words) : Callee P w K mg base "_law_rule_words" 1 (0 + n + 1) (fnD 1 2 (b_l_rule_words r_l_rule_words)) :=
  okD (ps := ["_law_rule_here"]) (k := 0 + n) Z.fn_l_rule_words sc_l_rule_words Z.mg_l_rule_words (fun _ _ _ _ _ _ us hl => match us, hl with | [_], _ => rfl) (fun cdv A outer s H E C => ((ds_cons (ds_if (dt_cmp o_is (d_var (i := 0)) d_non (nomark _)) (ds_one (ds_ret (d_lst (da_cons d_str da_nil)))) ds_nil)
    (ds_cons (ds_if (dt_cmp (o_eq C.hu) (d_var (i := 0)) (d_tup (da_cons d_str da_nil)) (nomark _)) (ds_one (ds_ret (d_lst (da_cons d_str da_nil)))) ds_nil)
    (ds_cons (ds_set (i := 1) C.nd (d_lst (da_cons d_str (da_cons (d_callTy c_str rfl Z.no_str boot_str (da_cons (d_idx (d_var (i := 0)) d_int) da_nil)) (da_cons (d_callTy c_str rfl Z.no_str boot_str (da_cons (d_idx (d_var (i := 0)) d_int) da_nil)) da_nil)))))
    (ds_cons (ds_expr (d_meth PySem.F.plainAttrs_list PySem.F.slot_list_append PySem.F.type_list_append m_append (d_var (i := 1)) (da_cons (d_ifExp (dt_cmp o_is (d_idx (d_var (i := 0)) d_int) d_non (nomark _)) d_str (d_callTy c_str rfl Z.no_str boot_str (da_cons (d_idx (d_var (i := 0)) d_int) da_nil))) da_nil)))
    (ds_one (ds_ret (d_bin o_add (d_bin o_add (d_var (i := 1)) (d_call C R_l_rule_words (by omega) (da_cons (d_idx (d_var (i := 0)) d_int) da_nil))) (d_call C R_l_rule_words (by omega) (da_cons (d_idx (d_var (i := 0)) d_int) da_nil)))))))))))
theorem ok_l_rule_words (Z : Facts K mg) : ∀ n : Nat, Callee P w K mg base "_law_rule_words" 1 (0 + n) (m_l_rule_words n)
  | 0 => noD (ps := ["_law_rule_here"]) Z.fn_l_rule_words Z.mg_l_rule_words (fun _ _ _ _ _ _ us hl => match us, hl with | [_], _ => rfl)
  | n + 1 => st1_l_rule_words Z n (ok_l_rule_words Z n)
theorem sc_l_game_words : FnScope ["_law_game_here", "_law_words", "_law_name", "_law_worth", "_law_ends", "_law_number_here"] ["_law_game_here"] (defScope st_l_game_words) := ⟨rfl, rfl, rfl, by decide +kernel, rfl, by decide +kernel, by decide +kernel⟩
theorem ok_l_game_words (Z : Facts K mg) : Callee P w K mg base "_law_game_words" 1 (14 + 1) m_l_game_words :=
  okD (ps := ["_law_game_here"]) (k := 14) Z.fn_l_game_words sc_l_game_words Z.mg_l_game_words (fun _ _ _ _ _ _ us hl => match us, hl with | [_], _ => rfl) (fun cdv A outer s H E C => ((ds_cons (ds_if (dt_cmp (o_eq C.hu) (d_idx (d_var (i := 0)) d_int) d_str (nomark _)) (ds_one (ds_ret (d_bin o_add (d_lst (da_cons d_str da_nil)) (d_call C (ok_l_rule_words Z 14) (by omega) (da_cons (d_idx (d_var (i := 0)) d_int) da_nil))))) ds_nil)
    (ds_cons (ds_set (i := 1) C.nd (d_bin o_add (d_lst (da_cons (d_idx (d_var (i := 0)) d_int) da_nil)) (d_comp (i := 5) C (di_any (d_sl (d_idx (d_var (i := 0)) d_int) do_none (do_some d_int))) (blkOk_by (by kernel_rfl)) (fun _ _ _ _ _ => pg_name (i := 5) C.nd rfl (Or.inl rfl)) (fun _ _ _ _ _ C1 => dts_nil) (fun _ _ _ _ _ C1 => (d_callTy c_str rfl Z.no_str boot_str (da_cons (d_var (i := 5)) da_nil))))))
    (ds_cons (ds_if (dt_cmp (o_eq C.hu) (d_idx (d_var (i := 0)) d_int) d_str (nomark _)) (ds_one (ds_for C (di_any (d_idx (d_idx (d_var (i := 0)) d_int) d_int)) (dg_tup (pg_tup C.calm (pgs_cons (pg_name (i := 2) C.nd rfl (by first | exact .inl rfl | exact .inr rfl)) (pgs_cons (pg_name (i := 3) C.nd rfl (by first | exact .inl rfl | exact .inr rfl)) (pgs_cons (pg_name (i := 4) C.nd rfl (by first | exact .inl rfl | exact .inr rfl)) pgs_nil))))) (ds_one (ds_expr (d_meth PySem.F.plainAttrs_list PySem.F.slot_list_append PySem.F.type_list_append m_append (d_var (i := 1)) (da_cons (d_bin o_add (d_bin o_add (d_bin o_add (d_var (i := 2)) d_str) (d_callTy c_str rfl Z.no_str boot_str (da_cons (d_var (i := 3)) da_nil))) (d_idx (d_lst (da_cons d_str (da_cons d_str da_nil))) (d_callTy c_int rfl Z.no_int boot_int (da_cons (d_var (i := 4)) da_nil)))) da_nil)))))) ds_nil)
    (ds_one (ds_ret (d_var (i := 1)))))))))
theorem sc_l_own : FnScope ["_law_e", "_law_some", "_law_words"] ["_law_e"] (defScope st_l_own) := ⟨rfl, rfl, rfl, by decide +kernel, rfl, by decide +kernel, by decide +kernel⟩
theorem okh_l_own (Z : Facts K mg) : CalleeT P w K mg base "_law_own" 1 (0 + 1) m_l_own :=
  okT (ps := ["_law_e"]) (k := 0) Z.fn_l_own sc_l_own Z.mg_l_own (fun _ _ _ _ _ _ us hl => match us, hl with | [_], _ => rfl) (fun cdv A outer s H E C => ((ds_cons (ds_set (i := 1) C.nd (d_lst (da_cons (d_isE Z.ist (Or.inr (by decide +kernel)) Z.no_isinstance (Or.inr ⟨by decide, Z.mc_NoThrow⟩) (d_var (i := 0))) (da_cons (d_isE Z.ist (Or.inr (by decide +kernel)) Z.no_isinstance (Or.inr ⟨by decide, Z.mc_NoPins⟩) (d_var (i := 0))) (da_cons (d_isE Z.ist (Or.inr (by decide +kernel)) Z.no_isinstance (Or.inr ⟨by decide, Z.mc_NoSide⟩) (d_var (i := 0))) (da_cons (d_isE Z.ist (Or.inr (by decide +kernel)) Z.no_isinstance (Or.inr ⟨by decide, Z.mc_Over⟩) (d_var (i := 0))) da_nil))))))
    (ds_cons (ds_set (i := 1) C.nd (d_bin o_add (d_var (i := 1)) (d_lst (da_cons (d_isE Z.ist (Or.inr (by decide +kernel)) Z.no_isinstance (Or.inr ⟨by decide, Z.mc_NoGame⟩) (d_var (i := 0))) (da_cons (d_isE Z.ist (Or.inr (by decide +kernel)) Z.no_isinstance (Or.inr ⟨by decide, Z.mc_NoDeed⟩) (d_var (i := 0))) (da_cons (d_isE Z.ist (Or.inr (by decide +kernel)) Z.no_isinstance (Or.inr ⟨by decide, Z.mc_TooMany⟩) (d_var (i := 0))) (da_cons (d_isE Z.ist (Or.inr (by decide +kernel)) Z.no_isinstance (Or.inr ⟨by decide, Z.mc_NoLine⟩) (d_var (i := 0))) da_nil)))))))
    (ds_cons (ds_set (i := 1) C.nd (d_bin o_add (d_var (i := 1)) (d_lst (da_cons (d_isE Z.ist (Or.inr (by decide +kernel)) Z.no_isinstance (Or.inr ⟨by decide, Z.mc_BadWord⟩) (d_var (i := 0))) (da_cons (d_isE Z.ist (Or.inr (by decide +kernel)) Z.no_isinstance (Or.inr ⟨by decide, Z.mc_Falls⟩) (d_var (i := 0))) da_nil)))))
    (ds_cons (ds_if (PW.pt (dt_or (dt_not (dt_tru (d_isE Z.ist (Or.inl rfl) Z.no_isinstance (Or.inl ⟨rfl, Z.no_ValueError⟩) (d_var (i := 0))))) (dt_or1 (dt_cmp (o_ne C.hu) (d_meth PySem.F.plainAttrs_list PySem.F.slot_list_count PySem.F.type_list_count m_count (d_var (i := 1)) (da_cons d_bl da_nil)) d_int (nomark _))))) (ds_one (ds_ret d_str)) ds_nil)
    (ds_cons (ds_set (i := 2) C.nd (d_lst (da_cons d_str (da_cons d_str (da_cons d_str (da_cons d_str (da_cons d_str (da_cons d_str (da_cons d_str (da_cons d_str (da_cons d_str (da_cons d_str da_nil))))))))))))
    (ds_one (ds_ret (d_idx (d_var (i := 2)) (d_meth PySem.F.plainAttrs_list PySem.F.slot_list_index PySem.F.type_list_index m_index (d_var (i := 1)) (da_cons d_bl da_nil))))))))))))
theorem sc_l_number : FnScope ["_law_word", "_law_most", "_law_sign"] ["_law_word", "_law_most"] (defScope st_l_number) := ⟨rfl, rfl, rfl, by decide +kernel, rfl, by decide +kernel, by decide +kernel⟩
theorem ok_l_number (Z : Facts K mg) : Callee P w K mg base "_law_number" 2 (0 + 1) m_l_number :=
  okD (ps := ["_law_word", "_law_most"]) (k := 0) Z.fn_l_number sc_l_number Z.mg_l_number (fun _ _ _ _ _ _ us hl => match us, hl with | [_, _], _ => rfl) (fun cdv A outer s H E C => ((ds_cons (ds_if (PW.pt (dt_or (dt_cmp (o_eq C.hu) (d_var (i := 0)) d_str (nomark _)) (dt_or (dt_cmp o_lt (d_callB (c_min C.calm) rfl Z.no_min boot_min (da_cons (d_comp (i := 2) C (di_any (d_var (i := 0))) (blkOk_by (by kernel_rfl)) (fun _ _ _ _ _ => pg_name (i := 2) C.nd rfl (Or.inl rfl)) (fun _ _ _ _ _ C1 => dts_nil) (fun _ _ _ _ _ C1 => (d_meth PySem.F.plainAttrs_str PySem.F.slot_str_find PySem.F.type_str_find m_find d_str (da_cons (d_var (i := 2)) da_nil)))) da_nil)) d_int (nomark _)) (dt_or1 (PW.pt (dt_and (dt_cmp o_gt (d_callB c_len rfl Z.no_len boot_len (da_cons (d_var (i := 0)) da_nil)) d_int (nomark _)) (dt_and1 (dt_cmp (o_eq C.hu) (d_idx (d_var (i := 0)) d_int) d_str (nomark _))))))))) (ds_one (ds_ret d_non)) ds_nil)
    (ds_cons (ds_if (PW.pt (dt_or (dt_cmp o_gt (d_callB c_len rfl Z.no_len boot_len (da_cons (d_var (i := 0)) da_nil)) d_int (nomark _)) (dt_or1 (dt_cmp o_gt (d_callTy c_intS rfl Z.no_int boot_int (da_cons (d_var (i := 0)) da_nil)) (d_var (i := 1)) (nomark _))))) (ds_one (ds_ret d_non)) ds_nil)
    (ds_one (ds_ret (d_callTy c_intS rfl Z.no_int boot_int (da_cons (d_var (i := 0)) da_nil))))))))
theorem sc_l_rule_wrong : FnScope ["_law_words", "_law_wanted", "_law_units", "_law_at", "_law_word", "_law_number_here", "_law_kind", "_law_frame", "_law_around", "_law_own_here"] ["_law_words"] (defScope st_l_rule_wrong) := ⟨rfl, rfl, rfl, by decide +kernel, rfl, by decide +kernel, by decide +kernel⟩
theorem ok_l_rule_wrong (Z : Facts K mg) : Callee P w K mg base "_law_rule_wrong" 1 (1 + 1) m_l_rule_wrong :=
  okD (ps := ["_law_words"]) (k := 1) Z.fn_l_rule_wrong sc_l_rule_wrong Z.mg_l_rule_wrong (fun _ _ _ _ _ _ us hl => match us, hl with | [_], _ => rfl) (fun cdv A outer s H E C => ((ds_cons (ds_set (i := 1) C.nd (d_lst (da_cons (d_tup (da_cons d_str (da_cons (d_lst (da_cons d_int (da_cons d_non da_nil))) (da_cons d_int da_nil)))) da_nil)))
    (ds_cons (ds_set (i := 2) C.nd d_int)
    (ds_cons (ds_for C (di_range1 Z.no_range (d_callB c_len rfl Z.no_len boot_len (da_cons (d_var (i := 0)) da_nil))) (dg_name (i := 3) C.nd) (ds_cons (ds_if (dt_cmp (o_eq C.hu) (d_callB c_len rfl Z.no_len boot_len (da_cons (d_var (i := 1)) da_nil)) d_int (nomark _)) (ds_one (ds_ret (d_var (i := 3)))) ds_nil)
    (ds_cons (ds_asg (d_meth0 PySem.F.plainAttrs_list PySem.F.slot_list_pop PySem.F.type_list_pop m_pop (d_var (i := 1))) (dg_tup (pg_tup C.calm (pgs_cons (pg_name (i := 6) C.nd rfl (by first | exact .inl rfl | exact .inr rfl)) (pgs_cons (pg_name (i := 7) C.nd rfl (by first | exact .inl rfl | exact .inr rfl)) (pgs_cons (pg_name (i := 8) C.nd rfl (by first | exact .inl rfl | exact .inr rfl)) pgs_nil))))))
    (ds_cons (ds_set (i := 4) C.nd (d_idx (d_var (i := 0)) (d_var (i := 3))))
    (ds_cons (ds_set (i := 5) C.nd (d_call C (ok_l_number Z) (by omega) (da_cons (d_var (i := 4)) (da_cons d_int da_nil))))
    (ds_one (ds_if (dt_cmp (o_eq C.hu) (d_var (i := 6)) d_str (nomark _)) (ds_cons (ds_if (PW.pt (dt_or (dt_cmp o_is (d_var (i := 5)) d_non (nomark _)) (dt_or1 (dt_cmp (o_eq C.hu) (d_var (i := 5)) d_int (nomark _))))) (ds_one (ds_ret (d_var (i := 3)))) ds_nil)
    (ds_one (ds_sub (d_var (i := 7)) d_int (d_var (i := 5))))) (ds_one (ds_if (dt_cmp (o_eq C.hu) (d_var (i := 6)) d_str (nomark _)) (ds_one (ds_if (PW.pt (dt_or (dt_cmp o_is (d_var (i := 5)) d_non (nomark _)) (dt_or1 (dt_cmp (o_eq C.hu) (d_var (i := 5)) d_int (nomark _))))) (ds_one (ds_ret (d_var (i := 3)))) ds_nil)) (ds_one (ds_if (dt_cmp (o_eq C.hu) (d_var (i := 6)) d_str (nomark _)) (ds_cons (ds_if (PW.pt (dt_and (dt_cmp (o_ne C.hu) (d_var (i := 4)) d_str (nomark _)) (dt_and1 (PW.pt (dt_or (dt_cmp o_is (d_var (i := 5)) d_non (nomark _)) (dt_or1 (dt_cmp o_lt (d_var (i := 5)) (d_idx (d_var (i := 7)) d_int) (nomark _)))))))) (ds_one (ds_ret (d_var (i := 3)))) ds_nil)
    (ds_one (ds_sub (d_var (i := 7)) d_int (d_var (i := 5))))) (ds_one (ds_if (PW.pt (dt_and (dt_cmp (o_eq C.hu) (d_var (i := 4)) d_str (nomark _)) (dt_and (PW.pt (dt_or (dt_cmp (o_eq C.hu) (d_var (i := 6)) d_str (nomark _)) (dt_or1 (dt_cmp o_isNot (d_idx (d_var (i := 7)) d_int) d_non (nomark _))))) (dt_and (dt_cmp o_lt (d_var (i := 8)) d_int (nomark _)) (dt_and1 (dt_cmp o_lt (d_var (i := 2)) d_int (nomark _))))))) (ds_cons (ds_set (i := 2) C.nd (d_bin o_add (d_var (i := 2)) d_int))
    (ds_cons (ds_set (i := 9) C.nd (d_lst (da_cons d_int (da_cons d_non da_nil))))
    (ds_cons (ds_set (i := 1) C.nd (d_bin o_add (d_var (i := 1)) (d_lst (da_cons (d_tup (da_cons d_str (da_cons (d_var (i := 9)) (da_cons (d_bin o_add (d_var (i := 8)) d_int) da_nil)))) (da_cons (d_tup (da_cons d_str (da_cons (d_var (i := 9)) (da_cons (d_bin o_add (d_var (i := 8)) d_int) da_nil)))) (da_cons (d_tup (da_cons d_str (da_cons (d_var (i := 9)) (da_cons d_int da_nil)))) da_nil))))))
    (ds_one (ds_set (i := 1) C.nd (d_bin o_add (d_var (i := 1)) (d_lst (da_cons (d_tup (da_cons d_str (da_cons (d_var (i := 9)) (da_cons d_int da_nil)))) (da_cons (d_tup (da_cons d_str (da_cons (d_var (i := 9)) (da_cons d_int da_nil)))) da_nil))))))))) (ds_one (ds_if (PW.pt (dt_or (PW.pt (dt_and (dt_cmp (o_eq C.hu) (d_var (i := 4)) d_str (nomark _)) (dt_and1 (PW.pt (dt_or (dt_cmp (o_eq C.hu) (d_var (i := 6)) d_str (nomark _)) (dt_or1 (dt_cmp o_isNot (d_idx (d_var (i := 7)) d_int) d_non (nomark _)))))))) (dt_or1 (PW.pt (dt_and (dt_cmp (o_eq C.hu) (d_var (i := 4)) d_str (nomark _)) (dt_and1 (dt_cmp (o_eq C.hu) (d_var (i := 6)) d_str (nomark _)))))))) (ds_one (ds_set (i := 2) C.nd (d_bin o_add (d_var (i := 2)) d_int))) (ds_one (ds_ret (d_var (i := 3)))))))))))))))))))
    (ds_cons (ds_if (dt_cmp o_gt (d_callB c_len rfl Z.no_len boot_len (da_cons (d_var (i := 1)) da_nil)) d_int (nomark _)) (ds_one (ds_ret (d_callB c_len rfl Z.no_len boot_len (da_cons (d_var (i := 0)) da_nil)))) ds_nil)
    (ds_one (ds_ret d_non))))))))
theorem sc_l_throw_name : FnScope ["_law_word", "_law_letters", "_law_name", "_law_sign", "_law_rest", "_law_one"] ["_law_word"] (defScope st_l_throw_name) := ⟨rfl, rfl, rfl, by decide +kernel, rfl, by decide +kernel, by decide +kernel⟩
theorem ok_l_throw_name (Z : Facts K mg) : Callee P w K mg base "_law_throw_name" 1 (1 + 1) m_l_throw_name :=
  okD (ps := ["_law_word"]) (k := 1) Z.fn_l_throw_name sc_l_throw_name Z.mg_l_throw_name (fun _ _ _ _ _ _ us hl => match us, hl with | [_], _ => rfl) (fun cdv A outer s H E C => ((ds_cons (ds_set (i := 1) C.nd d_str)
    (ds_cons (ds_asg (d_meth PySem.F.plainAttrs_str PySem.F.slot_str_partition PySem.F.type_str_partition m_partition (d_var (i := 0)) (da_cons d_str da_nil)) (dg_tup (pg_tup C.calm (pgs_cons (pg_name (i := 2) C.nd rfl (by first | exact .inl rfl | exact .inr rfl)) (pgs_cons (pg_name (i := 3) C.nd rfl (by first | exact .inl rfl | exact .inr rfl)) (pgs_cons (pg_name (i := 4) C.nd rfl (by first | exact .inl rfl | exact .inr rfl)) pgs_nil))))))
    (ds_cons (ds_if (PW.pt (dt_or (dt_not (dt_chain o_le o_le d_int (d_callB c_len rfl Z.no_len boot_len (da_cons (d_var (i := 2)) da_nil)) d_int)) (dt_or (dt_cmp o_lt (d_meth PySem.F.plainAttrs_str PySem.F.slot_str_find PySem.F.type_str_find m_find (d_var (i := 1)) (da_cons (d_idx (d_var (i := 2)) d_int) da_nil)) d_int (nomark _)) (dt_or1 (dt_cmp (o_eq C.hu) (d_var (i := 3)) d_str (nomark _)))))) (ds_one (ds_ret d_non)) ds_nil)
    (ds_cons (ds_if (dt_cmp o_lt (d_callB (c_min C.calm) rfl Z.no_min boot_min (da_cons (d_comp (i := 5) C (di_any (d_var (i := 2))) (blkOk_by (by kernel_rfl)) (fun _ _ _ _ _ => pg_name (i := 5) C.nd rfl (Or.inl rfl)) (fun _ _ _ _ _ C1 => dts_nil) (fun _ _ _ _ _ C1 => (d_meth PySem.F.plainAttrs_str PySem.F.slot_str_find PySem.F.type_str_find m_find (d_bin o_add (d_var (i := 1)) d_str) (da_cons (d_var (i := 5)) da_nil)))) da_nil)) d_int (nomark _)) (ds_one (ds_ret d_non)) ds_nil)
    (ds_cons (ds_if (dt_cmp (o_eq C.hu) (d_sl (d_var (i := 4)) (do_some (d_un o_neg d_int)) do_none) d_str (nomark _)) (ds_one (ds_set (i := 4) C.nd (d_sl (d_var (i := 4)) do_none (do_some (d_un o_neg d_int))))) ds_nil)
    (ds_cons (ds_if (dt_cmp o_is (d_call C (ok_l_number Z) (by omega) (da_cons (d_var (i := 4)) (da_cons (d_bin o_pow d_int d_int) da_nil))) d_non (nomark _)) (ds_one (ds_ret d_non)) ds_nil)
    (ds_one (ds_ret (d_var (i := 2))))))))))))
theorem sc_l_wrong : FnScope ["_law_words", "_law_mosts", "_law_names_here", "_law_at", "_law_wrong_here", "_law_number_here", "_law_name"] ["_law_words"] (defScope st_l_wrong) := ⟨rfl, rfl, rfl, by decide +kernel, rfl, by decide +kernel, by decide +kernel⟩
theorem ok_l_wrong (Z : Facts K mg) : Callee P w K mg base "_law_wrong" 1 (2 + 1) m_l_wrong :=
  okD (ps := ["_law_words"]) (k := 2) Z.fn_l_wrong sc_l_wrong Z.mg_l_wrong (fun _ _ _ _ _ _ us hl => match us, hl with | [_], _ => rfl) (fun cdv A outer s H E C => ((ds_cons (ds_if (dt_cmp (o_eq C.hu) (d_idx (d_var (i := 0)) d_int) d_str (nomark _)) (ds_cons (ds_set (i := 4) C.nd (d_call C (ok_l_rule_wrong Z) (by omega) (da_cons (d_sl (d_var (i := 0)) (do_some d_int) do_none) da_nil)))
    (ds_one (ds_ret (d_ifExp (dt_cmp o_is (d_var (i := 4)) d_non (nomark _)) d_non (d_bin o_add (d_var (i := 4)) d_int))))) ds_nil)
    (ds_cons (ds_if (dt_cmp o_notIn (d_idx (d_var (i := 0)) d_int) (d_lst (da_cons d_str (da_cons d_str da_nil))) (by with_unfolding_all rfl)) (ds_one (ds_ret d_int)) ds_nil)
    (ds_cons (ds_set (i := 1) C.nd (d_idx (d_lst (da_cons (d_lst (da_cons d_int (da_cons d_int (da_cons d_int da_nil)))) (da_cons (d_lst (da_cons d_int (da_cons (d_bin o_pow d_int d_int) (da_cons d_int da_nil)))) da_nil))) (d_callTy c_int rfl Z.no_int boot_int (da_cons (d_cmp (o_eq C.hu) (d_idx (d_var (i := 0)) d_int) d_str (nomark _)) da_nil))))
    (ds_cons (ds_set (i := 2) C.nd (d_lst da_nil))
    (ds_cons (ds_for C (di_range2 Z.no_range d_int (d_callB c_len rfl Z.no_len boot_len (da_cons (d_var (i := 0)) da_nil))) (dg_name (i := 3) C.nd) (ds_one (ds_if (dt_cmp o_lt (d_var (i := 3)) d_int (nomark _)) (ds_cons (ds_set (i := 5) C.nd (d_call C (ok_l_number Z) (by omega) (da_cons (d_idx (d_var (i := 0)) (d_var (i := 3))) (da_cons (d_idx (d_var (i := 1)) (d_bin o_sub (d_var (i := 3)) d_int)) da_nil))))
    (ds_one (ds_if (PW.pt (dt_or (dt_cmp o_is (d_var (i := 5)) d_non (nomark _)) (dt_or1 (dt_cmp (o_eq C.hu) (d_var (i := 5)) d_int (nomark _))))) (ds_one (ds_ret (d_var (i := 3)))) ds_nil))) (ds_cons (ds_set (i := 6) C.nd (d_call C (ok_l_throw_name Z) (by omega) (da_cons (d_idx (d_var (i := 0)) (d_var (i := 3))) da_nil)))
    (ds_cons (ds_if (PW.pt (dt_or (dt_cmp (o_eq C.hu) (d_idx (d_var (i := 0)) d_int) d_str (nomark _)) (dt_or (dt_cmp o_is (d_var (i := 6)) d_non (nomark _)) (dt_or (dt_cmp o_in (d_var (i := 6)) (d_var (i := 2)) (by with_unfolding_all rfl)) (dt_or1 (dt_cmp (o_eq C.hu) (d_callB c_len rfl Z.no_len boot_len (da_cons (d_var (i := 2)) da_nil)) d_int (nomark _))))))) (ds_one (ds_ret (d_var (i := 3)))) ds_nil)
    (ds_one (ds_expr (d_meth PySem.F.plainAttrs_list PySem.F.slot_list_append PySem.F.type_list_append m_append (d_var (i := 2)) (da_cons (d_var (i := 6)) da_nil)))))))))
    (ds_cons (ds_if (PW.pt (dt_or (dt_cmp o_lt (d_callB c_len rfl Z.no_len boot_len (da_cons (d_var (i := 0)) da_nil)) d_int (nomark _)) (dt_or1 (PW.pt (dt_and (dt_cmp (o_eq C.hu) (d_idx (d_var (i := 0)) d_int) d_str (nomark _)) (dt_and1 (dt_cmp (o_eq C.hu) (d_callB c_len rfl Z.no_len boot_len (da_cons (d_var (i := 0)) da_nil)) d_int (nomark _)))))))) (ds_one (ds_ret (d_callB c_len rfl Z.no_len boot_len (da_cons (d_var (i := 0)) da_nil)))) ds_nil)
    (ds_one (ds_ret d_non))))))))))
theorem sc_l_spoilt : FnScope ["_law_tape_here", "_law_words", "_law_odd", "_law_at", "_law_word", "_law_spot", "_law_sign", "_law_way", "_law_more", "_law_k", "_law_one"] ["_law_tape_here", "_law_words"] (defScope st_l_spoilt) := ⟨rfl, rfl, rfl, by decide +kernel, rfl, by decide +kernel, by decide +kernel⟩
theorem ok_l_spoilt (Z : Facts K mg) : Callee P w K mg base "_law_spoilt" 2 (1 + 1) m_l_spoilt :=
  okD (ps := ["_law_tape_here", "_law_words"]) (k := 1) Z.fn_l_spoilt sc_l_spoilt Z.mg_l_spoilt (fun _ _ _ _ _ _ us hl => match us, hl with | [_, _], _ => rfl) (fun cdv A outer s H E C => ((ds_cons (ds_set (i := 2) C.nd (d_lst (da_cons d_str (da_cons d_str (da_cons d_str (da_cons d_str (da_cons d_str (da_cons d_str (da_cons d_str (da_cons d_str (da_cons d_str (da_cons d_str (da_cons d_str (da_cons d_str (da_cons d_str (da_cons d_str (da_cons d_str (da_cons d_str (da_cons d_str da_nil)))))))))))))))))))
    (ds_cons (ds_set (i := 2) C.nd (d_bin o_add (d_var (i := 2)) (d_lst (da_cons d_str (da_cons d_str (da_cons d_str (da_cons d_str (da_cons d_str (da_cons d_str (da_cons d_str (da_cons d_str (da_cons d_str (da_cons d_str (da_cons d_str (da_cons d_str da_nil)))))))))))))))
    (ds_cons (ds_set (i := 2) C.nd (d_bin o_add (d_var (i := 2)) (d_lst (da_cons d_str (da_cons d_str (da_cons d_str (da_cons d_str (da_cons d_str (da_cons d_str (da_cons d_str (da_cons d_str (da_cons d_str (da_cons d_str (da_cons d_str da_nil))))))))))))))
    (ds_cons (ds_set (i := 3) C.nd (d_call C (ok_l_draw Z) (by omega) (da_cons (d_var (i := 0)) (da_cons (d_callB c_len rfl Z.no_len boot_len (da_cons (d_var (i := 1)) da_nil)) da_nil))))
    (ds_cons (ds_set (i := 4) C.nd (d_idx (d_var (i := 1)) (d_var (i := 3))))
    (ds_cons (ds_set (i := 5) C.nd (d_call C (ok_l_draw Z) (by omega) (da_cons (d_var (i := 0)) (da_cons (d_bin o_add (d_callB c_len rfl Z.no_len boot_len (da_cons (d_var (i := 4)) da_nil)) d_int) da_nil))))
    (ds_cons (ds_set (i := 6) C.nd (d_idx d_str (d_call C (ok_l_draw Z) (by omega) (da_cons (d_var (i := 0)) (da_cons d_int da_nil)))))
    (ds_cons (ds_set (i := 7) C.nd (d_call C (ok_l_draw Z) (by omega) (da_cons (d_var (i := 0)) (da_cons d_int da_nil))))
    (ds_cons (ds_if (dt_cmp (o_eq C.hu) (d_var (i := 7)) d_int (nomark _)) (ds_one (ds_ret (d_bin o_add (d_sl (d_var (i := 1)) do_none (do_some (d_var (i := 3)))) (d_sl (d_var (i := 1)) (do_some (d_bin o_add (d_var (i := 3)) d_int)) do_none)))) ds_nil)
    (ds_cons (ds_if (dt_cmp (o_eq C.hu) (d_var (i := 7)) d_int (nomark _)) (ds_one (ds_ret (d_bin o_add (d_bin o_add (d_sl (d_var (i := 1)) do_none (do_some (d_var (i := 3)))) (d_lst (da_cons (d_var (i := 4)) da_nil))) (d_sl (d_var (i := 1)) (do_some (d_var (i := 3))) do_none)))) ds_nil)
    (ds_cons (ds_if (PW.pt (dt_and (dt_cmp (o_eq C.hu) (d_var (i := 7)) d_int (nomark _)) (dt_and (dt_cmp (o_eq C.hu) (d_idx (d_var (i := 1)) d_int) d_str (nomark _)) (dt_and1 (dt_cmp o_gt (d_var (i := 5)) d_int (nomark _)))))) (ds_cons (ds_setComp (i := 9) (j := 8) C (di_range1 Z.no_range (d_bin o_add d_int (d_call C (ok_l_draw Z) (by omega) (da_cons (d_var (i := 0)) (da_cons d_int da_nil))))) (blkOk_by (by kernel_rfl)) (fun _ _ _ _ _ => pg_name (i := 9) C.nd rfl (Or.inl rfl)) (fun _ _ _ _ _ C1 => dts_nil) (fun _ _ _ _ _ C1 => (d_bin o_add (d_bin o_add (d_bin o_add d_str (d_callTy c_str rfl Z.no_str boot_str (da_cons (d_var (i := 9)) da_nil))) d_str) (d_callTy c_str rfl Z.no_str boot_str (da_cons (d_var (i := 9)) da_nil)))))
    (ds_one (ds_ret (d_bin o_add (d_var (i := 1)) (d_comp (i := 10) C (di_any (d_var (i := 8))) (blkOk_by (by kernel_rfl)) (fun _ _ _ _ _ => pg_name (i := 10) C.nd rfl (Or.inl rfl)) (fun _ _ _ _ _ C1 => (dts_one (dt_cmp o_notIn (d_var (i := 10)) (d_var (i := 1)) (by with_unfolding_all rfl)))) (fun _ _ _ _ _ C1 => (d_var (i := 10)))))))) ds_nil)
    (ds_cons (ds_if (dt_cmp (o_eq C.hu) (d_var (i := 7)) d_int (nomark _)) (ds_one (ds_ret (d_bin o_add (d_var (i := 1)) (d_lst (da_cons (d_var (i := 4)) da_nil))))) ds_nil)
    (ds_cons (ds_if (dt_cmp (o_eq C.hu) (d_var (i := 7)) d_int (nomark _)) (ds_one (ds_ret (d_sl (d_var (i := 1)) do_none (do_some (d_var (i := 3)))))) ds_nil)
    (ds_cons (ds_if (dt_cmp o_lt (d_var (i := 7)) d_int (nomark _)) (ds_one (ds_set (i := 4) C.nd (d_idx (d_var (i := 2)) (d_call C (ok_l_draw Z) (by omega) (da_cons (d_var (i := 0)) (da_cons d_int da_nil)))))) (ds_one (ds_if (dt_cmp (o_eq C.hu) (d_var (i := 7)) d_int (nomark _)) (ds_one (ds_set (i := 4) C.nd (d_bin o_add (d_bin o_add (d_sl (d_var (i := 4)) do_none (do_some (d_var (i := 5)))) (d_var (i := 6))) (d_sl (d_var (i := 4)) (do_some (d_var (i := 5))) do_none)))) (ds_one (ds_if (dt_cmp (o_eq C.hu) (d_var (i := 7)) d_int (nomark _)) (ds_one (ds_set (i := 4) C.nd (d_bin o_add (d_bin o_add (d_sl (d_var (i := 4)) do_none (do_some (d_var (i := 5)))) (d_var (i := 6))) (d_sl (d_var (i := 4)) (do_some (d_bin o_add (d_var (i := 5)) d_int)) do_none)))) (ds_one (ds_set (i := 4) C.nd (d_bin o_add (d_sl (d_var (i := 4)) do_none (do_some (d_var (i := 5)))) (d_sl (d_var (i := 4)) (do_some (d_bin o_add (d_var (i := 5)) d_int)) do_none)))))))))
    (ds_one (ds_ret (d_bin o_add (d_bin o_add (d_sl (d_var (i := 1)) do_none (do_some (d_var (i := 3)))) (d_lst (da_cons (d_var (i := 4)) da_nil))) (d_sl (d_var (i := 1)) (do_some (d_bin o_add (d_var (i := 3)) d_int)) do_none))))))))))))))))))))
theorem sc_l_read : FnScope ["_law_text", "_law_told", "_law_e"] ["_law_text"] (defScope st_l_read) := ⟨rfl, rfl, rfl, by decide +kernel, rfl, by decide +kernel, by decide +kernel⟩
theorem ok_l_read (Z : Facts K mg) : Callee P w K mg base "_law_read" 1 (21 + 1) m_l_read :=
  okD (ps := ["_law_text"]) (k := 21) Z.fn_l_read sc_l_read Z.mg_l_read (fun _ _ _ _ _ _ us hl => match us, hl with | [_], _ => rfl) (fun cdv A outer s H E C => ((ds_cons (ds_set (i := 1) C.nd (d_tup (da_cons d_str (da_cons d_non da_nil))))
    (ds_cons (ds_try C (fun _ _ _ Ct => ((ds_one (ds_set (i := 1) Ct.nd (d_tup (da_cons d_str (da_cons (d_call Ct (ok_read_game Z) (by omega) (da_cons (d_var (i := 0)) da_nil)) da_nil))))))) (.as (i := 2) rfl (by decide) Z.mc_ScoreError (Z.exsub.of (by decide +kernel)) rfl rfl (fun a pn => ((ds_one (ds_set (i := 1) (ctxH_suite C (a := a) (pn := pn)).nd (d_tup (da_cons (d_callT (ctxH_suite C (a := a) (pn := pn)) (okh_l_own Z) (by omega) (da_cons (d_var (i := 2)) da_nil)) (da_cons (d_var (i := 2)) da_nil))))))) .nil))
    (ds_one (ds_ret (d_var (i := 1))))))))
theorem sc_l_right : FnScope ["_law_text", "_law_due", "_law_told"] ["_law_text"] (defScope st_l_right) := ⟨rfl, rfl, rfl, by decide +kernel, rfl, by decide +kernel, by decide +kernel⟩
theorem ok_l_right (Z : Facts K mg) : Callee P w K mg base "_law_right" 1 (22 + 1) m_l_right :=
  okD (ps := ["_law_text"]) (k := 22) Z.fn_l_right sc_l_right Z.mg_l_right (fun _ _ _ _ _ _ us hl => match us, hl with | [_], _ => rfl) (fun cdv A outer s H E C => ((ds_cons (ds_set (i := 1) C.nd (d_call C (ok_l_wrong Z) (by omega) (da_cons (d_meth PySem.F.plainAttrs_str PySem.F.slot_str_split PySem.F.type_str_split m_split (d_var (i := 0)) (da_cons d_str da_nil)) da_nil)))
    (ds_cons (ds_set (i := 2) C.nd (d_call C (ok_l_read Z) (by omega) (da_cons (d_var (i := 0)) da_nil)))
    (ds_cons (ds_if (dt_cmp o_is (d_var (i := 1)) d_non (nomark _)) (ds_one (ds_ret (d_and (d_cmp (o_eq C.hu) (d_idx (d_var (i := 2)) d_int) d_str (nomark _)) (d_one (d_cmp (o_eq C.hu) (d_call C (ok_show_game Z) (by omega) (da_cons (d_idx (d_var (i := 2)) d_int) da_nil)) (d_var (i := 0)) (nomark _)))))) ds_nil)
    (ds_cons (ds_if (dt_cmp (o_ne C.hu) (d_idx (d_var (i := 2)) d_int) d_str (nomark _)) (ds_one (ds_ret d_bl)) ds_nil)
    (ds_one (ds_ret (d_and (d_isi (U := "int") rfl Z.no_isinstance rfl Z.no_int boot_int (d_at Z.at_ (d_idx (d_var (i := 2)) d_int))) (d_and (d_not (d_isi (U := "bool") rfl Z.no_isinstance rfl Z.no_bool boot_bool (d_at Z.at_ (d_idx (d_var (i := 2)) d_int)))) (d_one (d_cmp (o_eq C.hu) (d_at Z.at_ (d_idx (d_var (i := 2)) d_int)) (d_var (i := 1)) (nomark _)))))))))))))
theorem sc_law : FnScope ["_law_script", "_law_tape_here", "_law_words", "_law_k", "_law_bent"] ["_law_script"] (defScope st_law) := ⟨rfl, rfl, rfl, by decide +kernel, rfl, by decide +kernel, by decide +kernel⟩
theorem ok_law (Z : Facts K mg) {fd : FuncData} (F : FunD K "law" "law" (defArgs st_law) (defBody st_law) (defScope st_law) [] [] (He.ga K "law") fd) : FnOk P w K mg base (L2N.CX P w) 24 (He.ga K "law") fd ["_law_script"] (spD K 1 m_law) :=
  okF (k := 23) F sc_law (fun cdv A outer s H E C => ((ds_cons (ds_set (i := 1) C.nd (d_call C (ok_l_tape Z) (by omega) (da_cons (d_var (i := 0)) da_nil)))
    (ds_cons (ds_set (i := 2) C.nd (d_call C (ok_l_game_words Z) (by omega) (da_cons (d_call C (ok_l_game Z) (by omega) (da_cons (d_var (i := 1)) da_nil)) da_nil)))
    (ds_cons (ds_if (dt_not (dt_tru (d_call C (ok_l_right Z) (by omega) (da_cons (d_meth PySem.F.plainAttrs_str PySem.F.slot_str_join PySem.F.type_str_join m_join d_str (da_cons (d_var (i := 2)) da_nil)) da_nil)))) (ds_one (ds_ret d_bl)) ds_nil)
    (ds_cons (ds_for C (di_range1 Z.no_range d_int) (dg_name (i := 3) C.nd) (ds_cons (ds_set (i := 4) C.nd (d_call C (ok_l_spoilt Z) (by omega) (da_cons (d_var (i := 1)) (da_cons (d_var (i := 2)) da_nil))))
    (ds_cons (ds_if (PW.pt (dt_and (dt_cmp (o_eq C.hu) (d_call C (ok_l_draw Z) (by omega) (da_cons (d_var (i := 1)) (da_cons d_int da_nil))) d_int (nomark _)) (dt_and1 (dt_cmp o_gt (d_callB c_len rfl Z.no_len boot_len (da_cons (d_var (i := 4)) da_nil)) d_int (nomark _))))) (ds_one (ds_set (i := 4) C.nd (d_call C (ok_l_spoilt Z) (by omega) (da_cons (d_var (i := 1)) (da_cons (d_var (i := 4)) da_nil))))) ds_nil)
    (ds_one (ds_if (dt_not (dt_tru (d_call C (ok_l_right Z) (by omega) (da_cons (d_meth PySem.F.plainAttrs_str PySem.F.slot_str_join PySem.F.type_str_join m_join d_str (da_cons (d_var (i := 4)) da_nil)) da_nil)))) (ds_one (ds_ret d_bl)) ds_nil)))))
    (ds_one (ds_ret d_bl))))))))
end
end LW
end
section
set_option maxHeartbeats 4000000
namespace LW
open PySem PySem.Spec PyProof.Rows L2 TL
open CM hiding b_l_unit m_l_unit g_l_unit b_l_rule m_l_rule b_l_any_rule m_l_any_rule any_rule rule_step rule_ok unit_ok
open CG
open CW hiding b_Reader_count b_Reader_is_dash b_Reader_last b_Reader_rule b_Reader_word b_read_rule g_Reader_rule m_Reader_count m_Reader_is_dash m_Reader_last m_Reader_rule m_Reader_word m_read_rule
open CWR
open CGW
theorem facts {h : Heap} {mg : Str → Option Value} {K : PySem.W.Frag} (X : K.In h) (G : h.Ns mainGlobals mg) (c : SaysB okB fn K) : Facts K mg := by
  have e : okB K = true := c.fact
  unfold okB at e
  obtain ⟨e, t0⟩ := He.ba e
  obtain ⟨e, x_at_⟩ := He.ba e
  obtain ⟨e, x_ist⟩ := He.ba e
  obtain ⟨e, x_exsub⟩ := He.ba e
  obtain ⟨e, x_base_ScoreError⟩ := He.ba e
  obtain ⟨e, x_ei_BadWord⟩ := He.ba e
  exact {
    fn_BadWord_new := c.def_ 0
    meth_BadWord_new := He.meth_ok (all_at e 0)
    fn_is_between := c.def_ 1
    mg_is_between := He.glo_ok X G (all_at e 1)
    fn_is_throw_name := c.def_ 2
    mg_is_throw_name := He.glo_ok X G (all_at e 2)
    fn_words_of := c.def_ 3
    mg_words_of := He.glo_ok X G (all_at e 3)
    fn_show_rule := c.def_ 4
    mg_show_rule := He.glo_ok X G (all_at e 4)
    fn_count_of := c.def_ 5
    mg_count_of := He.glo_ok X G (all_at e 5)
    fn_Reader_new := c.def_ 6
    meth_Reader_new := He.meth_ok (all_at e 6)
    fn_Reader_word := c.def_ 7
    meth_Reader_word := He.meth_ok (all_at e 7)
    fn_Reader_count := c.def_ 8
    meth_Reader_count := He.meth_ok (all_at e 8)
    fn_Reader_is_dash := c.def_ 9
    meth_Reader_is_dash := He.meth_ok (all_at e 9)
    fn_Reader_rule := c.def_ 10
    meth_Reader_rule := He.meth_ok (all_at e 10)
    fn_Reader_last := c.def_ 11
    meth_Reader_last := He.meth_ok (all_at e 11)
    fn_read_rule := c.def_ 12
    mg_read_rule := He.glo_ok X G (all_at e 12)
    fn_throw_word := c.def_ 13
    mg_throw_word := He.glo_ok X G (all_at e 13)
    fn_show_game := c.def_ 14
    mg_show_game := He.glo_ok X G (all_at e 14)
    fn_number_by := c.def_ 15
    mg_number_by := He.glo_ok X G (all_at e 15)
    fn_throw_by := c.def_ 16
    mg_throw_by := He.glo_ok X G (all_at e 16)
    fn_numbers_in := c.def_ 17
    mg_numbers_in := He.glo_ok X G (all_at e 17)
    fn_throws_in := c.def_ 18
    mg_throws_in := He.glo_ok X G (all_at e 18)
    fn_rally_in := c.def_ 19
    mg_rally_in := He.glo_ok X G (all_at e 19)
    fn_read_game := c.def_ 20
    mg_read_game := He.glo_ok X G (all_at e 20)
    fn_l_tape := c.def_ 21
    mg_l_tape := He.glo_ok X G (all_at e 21)
    fn_l_draw := c.def_ 22
    mg_l_draw := He.glo_ok X G (all_at e 22)
    fn_l_great := c.def_ 23
    mg_l_great := He.glo_ok X G (all_at e 23)
    fn_l_unit := c.def_ 24
    mg_l_unit := He.glo_ok X G (all_at e 24)
    fn_l_rule := c.def_ 25
    mg_l_rule := He.glo_ok X G (all_at e 25)
    fn_l_any_rule := c.def_ 26
    mg_l_any_rule := He.glo_ok X G (all_at e 26)
    fn_l_names := c.def_ 27
    mg_l_names := He.glo_ok X G (all_at e 27)
    fn_l_throws := c.def_ 28
    mg_l_throws := He.glo_ok X G (all_at e 28)
    fn_l_down := c.def_ 29
    mg_l_down := He.glo_ok X G (all_at e 29)
    fn_l_lane := c.def_ 30
    mg_l_lane := He.glo_ok X G (all_at e 30)
    fn_l_game := c.def_ 31
    mg_l_game := He.glo_ok X G (all_at e 31)
    fn_l_rule_words := c.def_ 32
    mg_l_rule_words := He.glo_ok X G (all_at e 32)
    fn_l_game_words := c.def_ 33
    mg_l_game_words := He.glo_ok X G (all_at e 33)
    fn_l_own := c.def_ 34
    mg_l_own := He.glo_ok X G (all_at e 34)
    fn_l_number := c.def_ 35
    mg_l_number := He.glo_ok X G (all_at e 35)
    fn_l_rule_wrong := c.def_ 36
    mg_l_rule_wrong := He.glo_ok X G (all_at e 36)
    fn_l_throw_name := c.def_ 37
    mg_l_throw_name := He.glo_ok X G (all_at e 37)
    fn_l_wrong := c.def_ 38
    mg_l_wrong := He.glo_ok X G (all_at e 38)
    fn_l_spoilt := c.def_ 39
    mg_l_spoilt := He.glo_ok X G (all_at e 39)
    fn_l_read := c.def_ 40
    mg_l_read := He.glo_ok X G (all_at e 40)
    fn_l_right := c.def_ 41
    mg_l_right := He.glo_ok X G (all_at e 41)
    fn_law := c.def_ 42
    mg_law := He.glo_ok X G (all_at e 42)
    no_ValueError := He.free_ok X G (all_at e 43)
    no_all := He.free_ok X G (all_at e 44)
    no_bool := He.free_ok X G (all_at e 45)
    no_int := He.free_ok X G (all_at e 46)
    no_isinstance := He.free_ok X G (all_at e 47)
    no_len := He.free_ok X G (all_at e 48)
    no_min := He.free_ok X G (all_at e 49)
    no_range := He.free_ok X G (all_at e 50)
    no_str := He.free_ok X G (all_at e 51)
    no_tuple := He.free_ok X G (all_at e 52)
    cls_Reader := He.cls_ok (all_at e 53)
    noat_Reader_at := He.noat_ok (all_at e 54)
    noat_Reader_many := He.noat_ok (all_at e 55)
    noat_Reader_words := He.noat_ok (all_at e 56)
    mkr_Reader := He.mkr_ok (all_at e 57)
    mk_Reader := He.glo_ok X G (all_at e 58)
    mc_BadWord := He.glo_ok X G (all_at e 59)
    mc_Falls := He.glo_ok X G (all_at e 60)
    mc_NoDeed := He.glo_ok X G (all_at e 61)
    mc_NoGame := He.glo_ok X G (all_at e 62)
    mc_NoLine := He.glo_ok X G (all_at e 63)
    mc_NoPins := He.glo_ok X G (all_at e 64)
    mc_NoSide := He.glo_ok X G (all_at e 65)
    mc_NoThrow := He.glo_ok X G (all_at e 66)
    mc_Over := He.glo_ok X G (all_at e 67)
    mc_ScoreError := He.glo_ok X G (all_at e 68)
    mc_TooMany := He.glo_ok X G (all_at e 69)
    ei_BadWord := exI_of X G (all_at e 70) (all_at e 71) x_ei_BadWord
    base_ScoreError := baseI_of X G (all_at e 72) x_base_ScoreError
    exsub := exSubB_ok x_exsub
    ist := isTB_ok x_ist
    at_ := x_at_
    gl_LETTERS := glob_str X G (all_at e 73)
    gl_FIGURES_downs := glob_str X G (all_at e 74)
    gl_POINT := glob_tup X G (all_at e 75) t0 (fun _ _ => (.cons (.str _) .nil))
    gl_GREATEST := glob_int X G (all_at e 76)
    gl_MOST_UNITS := glob_int X G (all_at e 77)
    gl_MOST_DEEP := glob_int X G (all_at e 78)
    gl_FIGURES_rulewords := glob_str X G (all_at e 79)
  }
end LW
end
section
set_option maxHeartbeats 4000000
namespace CGW
open PySem PySem.Spec PyProof.Rows L2 TL
open CM hiding b_l_unit m_l_unit g_l_unit b_l_rule m_l_rule b_l_any_rule m_l_any_rule any_rule rule_step rule_ok unit_ok
open CG
open CW hiding b_Reader_count b_Reader_is_dash b_Reader_last b_Reader_rule b_Reader_word b_read_rule g_Reader_rule m_Reader_count m_Reader_is_dash m_Reader_last m_Reader_rule m_Reader_word m_read_rule
open CWR
open RL TLQ RD
theorem drop_at {α : Type} {xs : List α} {a : Nat} {x : α} (h : xs[a]? = some x) : xs.drop a = x :: xs.drop (a + 1) := by
  obtain ⟨h1, h2⟩ := List.getElem?_eq_some_iff.mp h
  rw [List.drop_eq_getElem_cons h1, h2]
theorem str_of_tl {x y : Str} (h : tlS x = tlS y) : x = y := by
  cases x with | mk c => cases y with | mk d => cases c; cases d; simpa [tlS] using h
theorem numW_nW {x : Str} {n : Nat} (h : numW x = some n) : x = nW (n : Nat) := by
  obtain ⟨n0, n1⟩ := numW_bd h
  unfold numW at h
  split at h
  · rename_i a q
    split at h
    · cases h
      refine str_of_tl ?_
      rw [q, nW_one (by omega)]
      congr 1
      omega
    · cases h
  · rename_i a b q
    split at h
    · cases h
      refine str_of_tl ?_
      rw [q, nW_two (by omega) (by omega)]
      congr 1
      · omega
      · congr 1
        omega
    · cases h
  · cases h
theorem small_nums : ∀ n : Fin 100, numW (nW (n.val : Nat)) = (if n.val = 0 then none else some n.val) ∧ wN (nW (n.val : Nat)) = some n.val := by decide +kernel
theorem cnt_inv {ws : List Str} {a n s : Nat} {lo : Int} (h : CWR.cnt ws a lo = (some n, s)) : ws[a]? = some (nW (n : Nat)) ∧ lo ≤ (n : Int) ∧ 1 ≤ n ∧ n ≤ 99 := by
  unfold CWR.cnt at h
  cases q : ws[a]? with
  | none => rw [q] at h; cases h
  | some x =>
    rw [q] at h
    simp only at h
    cases q2 : numW x with
    | none => rw [q2] at h; cases h
    | some k =>
      rw [q2] at h
      simp only at h
      split at h
      · cases h
      · cases h
        obtain ⟨b1, b2⟩ := numW_bd q2
        exact ⟨by rw [numW_nW q2], by omega, b1, b2⟩
/-- what a reading comes to -/
structure Rdd (ws : List Str) (k a m : Nat) (r : Rule) (a' m' : Nat) : Prop where
  wd : ws.drop a = rw r ++ ws.drop a'
  gd : r.good
  un : m' = m + r.units
  m1 : m' ≤ 10
  dp : r.depth ≤ k
  al : a' ≤ ws.length
theorem tail_words {f : Nat → Nat → RR} {ws : List Str} {k : Nat} {to lead : Nat} {cap : Option Int} (hc : ∀ c, cap = some c → (to : Int) ≤ c ∧ c ≤ 99) (h0 : 1 ≤ to ∧ to ≤ 99) (h1 : 1 ≤ lead ∧ lead ≤ 99)
    (hf : ∀ {a m r a' m'}, m ≤ 10 → f a m = .ok r a' m' → Rdd ws k a m r a' m') {a m : Nat} {r : Rule} {a' m' : Nat} (hm : m + 1 ≤ 10) (hw : ∀ t, ws.drop a = t → ws.drop (a - 4) = [Str.ofString "unit", nW (to : Nat), nW (lead : Nat), capW cap] ++ t) (h : tailR f ws to lead cap a (m + 1) = .ok r a' m') : Rdd ws (k + 1) (a - 4) m r a' m' := by
  unfold tailR at h
  cases q : f a (m + 1) with
  | bad s => rw [q] at h; cases h
  | ok inner a2 m2 =>
    rw [q] at h
    simp only at h
    have I := hf hm q
    cases q2 : ws[a2]? with
    | none => rw [q2] at h; cases h
    | some z =>
      rw [q2] at h
      simp only at h
      have dz := drop_at q2
      by_cases c : z = Str.ofString "-"
      · rw [if_pos c] at h
        cases h
        subst c
        have la := (List.getElem?_eq_some_iff.mp q2).1
        have := I.un
        have := I.m1
        have := I.dp
        refine ⟨?_, ⟨by omega, by omega, by omega, by omega, hc, I.gd⟩, by show _ = m + (inner.units + 1); omega, I.m1, by show inner.depth + 1 ≤ _; omega, by omega⟩
        rw [hw _ I.wd, dz]
        show _ = ([Str.ofString "unit", nW (to : Nat), nW (lead : Nat), capW cap] ++ rw inner ++ [Str.ofString "-"]) ++ _
        simp
      · rw [if_neg c] at h
        cases cap with
        | none => cases h
        | some cp =>
          simp only at h
          cases q3 : f a2 m2 with
          | bad s => rw [q3] at h; cases h
          | ok last a3 m3 =>
            rw [q3] at h
            cases h
            have J := hf I.m1 q3
            obtain ⟨c1, c2⟩ := hc cp rfl
            have := I.un
            have := J.un
            have := I.dp
            have := J.dp
            refine ⟨?_, ⟨by omega, by omega, by omega, by omega, c1, c2, I.gd, J.gd⟩, by show _ = m + (inner.units + last.units + 1); omega, J.m1, Nat.succ_le_succ (Nat.max_le.mpr ⟨I.dp, J.dp⟩), J.al⟩
            rw [hw _ I.wd, J.wd]
            show _ = ([Str.ofString "unit", nW (to : Nat), nW (lead : Nat), nW cp] ++ rw inner ++ rw last) ++ _
            simp [capW]
theorem rd_words {ws : List Str} : ∀ (k : Nat) {a m : Nat} {r : Rule} {a' m' : Nat}, m ≤ 10 → rd ws k a m = .ok r a' m' → Rdd ws k a m r a' m' := by
  have point : ∀ {k a m : Nat} {x : Str}, m ≤ 10 → ws[a]? = some x → x = Str.ofString "point" → Rdd ws k a m .point (a + 1) m := fun {k a m x} hm q c => by
    subst c
    have la := (List.getElem?_eq_some_iff.mp q).1
    exact ⟨by rw [drop_at q]; rfl, trivial, rfl, hm, Nat.zero_le _, by omega⟩
  intro k
  induction k with
  | zero =>
    intro a m r a' m' hm h
    unfold rd at h
    cases q : ws[a]? with
    | none => rw [q] at h; cases h
    | some x =>
      rw [q] at h
      simp only at h
      by_cases c : x = Str.ofString "point"
      · rw [if_pos c] at h
        cases h
        exact point hm q c
      · rw [if_neg c] at h; cases h
  | succ k ih =>
    intro a m r a' m' hm h
    unfold rd at h
    cases q : ws[a]? with
    | none => rw [q] at h; cases h
    | some x =>
      rw [q] at h
      simp only at h
      by_cases c : x = Str.ofString "point"
      · rw [if_pos c] at h
        cases h
        exact point hm q c
      · rw [if_neg c] at h
        by_cases c2 : x ≠ Str.ofString "unit" ∨ m = 10
        · rw [if_pos c2] at h; cases h
        · rw [if_neg c2] at h
          have xu : x = Str.ofString "unit" := Classical.byContradiction fun z => c2 (.inl z)
          have m10 : m ≠ 10 := fun z => c2 (.inr z)
          subst xu
          cases q1 : CWR.cnt ws (a + 1) 1 with
          | mk to s1 =>
            rw [q1] at h
            cases to with
            | none => cases h
            | some to =>
              simp only at h
              obtain ⟨e1, _, t1, t2⟩ := cnt_inv q1
              cases q2 : CWR.cnt ws (a + 2) 1 with
              | mk lead s2 =>
                rw [q2] at h
                cases lead with
                | none => cases h
                | some lead =>
                  simp only at h
                  obtain ⟨e2, _, l1, l2⟩ := cnt_inv q2
                  cases q3 : ws[a + 3]? with
                  | none => rw [q3] at h; cases h
                  | some y =>
                    rw [q3] at h
                    simp only at h
                    have d1 := drop_at q
                    have d2 := drop_at e1
                    have d3 := drop_at e2
                    have d4 := drop_at q3
                    by_cases cy : y = Str.ofString "-"
                    · rw [if_pos cy] at h
                      subst cy
                      have := tail_words (k := k) (a := a + 4) (m := m) (cap := none) (fun c hc => (nomatch hc)) ⟨t1, t2⟩ ⟨l1, l2⟩ (fun hm h => ih hm h) (by omega) (fun t ht => by
                        rw [show a + 4 - 4 = a by omega, d1, d2, d3, d4, show a + 3 + 1 = a + 4 by omega, ht]
                        rfl) h
                      rwa [show a + 4 - 4 = a by omega] at this
                    · rw [if_neg cy] at h
                      cases q4 : CWR.cnt ws (a + 3) to with
                      | mk cp s4 =>
                        rw [q4] at h
                        cases cp with
                        | none => cases h
                        | some cp =>
                          simp only at h
                          obtain ⟨e4, c1, c3, c4⟩ := cnt_inv q4
                          rw [q3] at e4
                          cases e4
                          have := tail_words (k := k) (a := a + 4) (m := m) (fun c hc => by cases hc; exact ⟨c1, by omega⟩) ⟨t1, t2⟩ ⟨l1, l2⟩ (fun hm h => ih hm h) (by omega) (fun t ht => by
                            rw [show a + 4 - 4 = a by omega, d1, d2, d3, d4, show a + 3 + 1 = a + 4 by omega, ht]
                            rfl) h
                          rwa [show a + 4 - 4 = a by omega] at this
theorem readR_words {ws : List Str} {r : Rule} {a m : Nat} (h : readR ws = .ok r a m) : ws = rw r ∧ r.good ∧ r.depth ≤ 4 ∧ r.units ≤ 10 := by
  unfold readR at h
  cases q : rd ws 4 0 0 with
  | bad s => rw [q] at h; cases h
  | ok r' a' m' =>
    rw [q] at h
    simp only at h
    split at h
    · cases h
    · rename_i c
      cases h
      have R := rd_words 4 (by decide) q
      have e := R.wd
      rw [List.drop_zero, List.drop_eq_nil_of_le (by omega), List.append_nil] at e
      have := R.un
      have := R.m1
      exact ⟨e, R.gd, R.dp, by omega⟩
theorem at_drop {α : Type} {xs : List α} {a : Nat} {x : α} {t : List α} (h : xs.drop a = x :: t) : xs[a]? = some x ∧ xs.drop (a + 1) = t := by
  have e : (xs.drop a)[0]? = some x := by rw [h]; rfl
  rw [List.getElem?_drop] at e
  refine ⟨e, ?_⟩
  rw [← List.drop_drop, h]
  rfl
theorem restC_eq (r : Str) : tlS r = tlS (restC r).2 ++ (if (restC r).1 = true then [33] else []) := by
  unfold restC
  split
  · rename_i q e
    have := congrArg List.reverse e
    rw [List.reverse_reverse, List.reverse_cons] at this
    rw [this]
    show _ = tlS (S q.reverse) ++ [33]
    rw [show tlS (S q.reverse) = q.reverse from S_tl _]
  · simp
theorem tN_tw {x : Str} {t : Thr} (h : tN x = some t) : x = tw t ∧ ThOk t := by
  unfold tN at h
  cases q : wM (restC (Txt.partition x (Str.ofString ":")).2.2).2 1000000 with
  | none => rw [q] at h; cases h
  | some w =>
    rw [q] at h
    simp only at h
    split at h
    · rename_i nb
      cases h
      rcases part_cases x with ⟨n, r, ex, nn, pe⟩ | pe
      · rw [pe] at q nb ⊢
        simp only at q nb ⊢
        have rc := restC_eq r
        obtain ⟨e1, e2⟩ : (restC r).2 = nW (w : Nat) ∧ w ≤ 1000000 := by
          unfold wM at q
          cases q2 : wN (restC r).2 with
          | none => rw [q2] at q; cases q
          | some v =>
            rw [q2] at q
            simp only at q
            split at q
            · cases q; exact ⟨(wN_nW q2).1, by assumption⟩
            · cases q
        refine ⟨?_, ⟨nb, by show (0 : Int) ≤ (w : Nat); omega, by show ((w : Nat) : Int) ≤ 1000000; omega⟩⟩
        rw [e1, nW_tl] at rc
        have ex2 : x = S (tlS n) ++ S [58] ++ S (tlS r) := by rw [ex, tl_S, tl_S, colon_S]
        rw [ex2, S_append, S_append]
        show _ = S (tlS n ++ ([58] ++ (numL ((w : Nat) : Int).toNat ++ (if (restC r).1 = true then [33] else []))))
        rw [rc]
        simp
      · exfalso
        rw [pe] at q
        rw [show wM (restC (Str.ofString "")).2 1000000 = none by decide +kernel] at q
        cases q
    · cases h
end CGW
end
section
set_option maxHeartbeats 4000000
namespace CGW
open PySem PySem.Spec PyProof.Rows L2 TL
open CM hiding b_l_unit m_l_unit g_l_unit b_l_rule m_l_rule b_l_any_rule m_l_any_rule any_rule rule_step rule_ok unit_ok
open CG
open CW hiding b_Reader_count b_Reader_is_dash b_Reader_last b_Reader_rule b_Reader_word b_read_rule g_Reader_rule m_Reader_count m_Reader_is_dash m_Reader_last m_Reader_rule m_Reader_word m_read_rule
open CWR
open RL TLQ RD
/-- a number at a, from 1 to most -/
def num1 (ws : List Str) (a most : Nat) : Option Nat := match ws[a]? with
  | none => none
  | some x => match wM x most with
    | some (n + 1) => some (n + 1)
    | _ => none
inductive NR where
  | ok (a b c : Nat)
  | bad (s : Nat)
def numsR (ws : List Str) (m1 m2 m3 : Nat) : NR := match num1 ws 1 m1 with
  | none => .bad 1
  | some a => match num1 ws 2 m2 with
    | none => .bad 2
    | some b => match num1 ws 3 m3 with
      | none => .bad 3
      | some c => .ok a b c
inductive TR where
  | ok (ts : List Thr)
  | bad (s : Nat)
def thrR : List Str → Nat → List Thr → TR
  | [], _, acc => .ok acc
  | x :: xs, a, acc => match tN x with
    | none => .bad a
    | some t => if t.name ∈ acc.map (·.name) ∨ acc.length = 30 then .bad a else thrR xs (a + 1) (acc ++ [t])
inductive GR where
  | ok (g : Gm)
  | bad (s : Nat)
/-- words of a rule: none at all are one empty word -/
def ruleWs (r : List Str) : List Str := if r = [] then [Str.ofString ""] else r
def gameR : List Str → GR
  | [] => .bad 0
  | w :: r => if w = Str.ofString "rally" then (match readR (ruleWs r) with
      | .ok q _ _ => .ok (.rally q)
      | .bad s => .bad (s + 1))
    else if w = Str.ofString "down" then (match numsR (w :: r) 3 1000000 3 with
      | .bad s => .bad s
      | .ok a b c => match thrR (r.drop 3) 4 [] with
        | .bad s => .bad s
        | .ok ts => if ts = [] then .bad 4 else .ok (.down ⟨a, b, c, ts⟩))
    else if w = Str.ofString "lane" then (match numsR (w :: r) 3 20 12 with
      | .bad s => .bad s
      | .ok a b c => if 3 < r.length then .bad 4 else .ok (.lane a b c))
    else .bad 0
theorem wd_at {M : Mem} {W : Nat} {ws : List Str} (hW : seqAt M W = some (ws.map D.str)) {a : Nat} {x : Str} (h : ws[a]? = some x) : mIdx (.ref W) (.int (a : Nat)) M = some (.str x, M) := by
  have e := atI_nat (xs := ws.map D.str) (j := a) (v := .str x) (by rw [List.getElem?_map, h]; rfl)
  simp [hW, e]
theorem len_at {M : Mem} {W : Nat} {ws : List Str} (hW : seqAt M W = some (ws.map D.str)) (hl : ws.length ≤ 100000) : nLen [.ref W] M = some (.int (ws.length : Nat), M) := by
  simp [hW, show ws.length ≤ 16777216 by omega]
section
variable {M : Mem} {W Q A : Nat} {ws : List Str}
theorem nums_turn (hl : ∀ x ∈ ws, x.length ≤ 1000) (hws : ws.length ≤ 100000) (hW : M[W]? = some (.lst (ws.map D.str))) {qs : List Int} (hQ : M[Q]? = some (.lst (qs.map D.int))) {xs : List D} (hA : M[A]? = some (.lst xs)) (hx : xs.length ≤ 100) {a most : Nat} (ha : a + 1 ≤ ws.length) (hq : qs[a]? = some (most : Int)) {e4 : Option D} :
    match num1 ws (a + 1) most with
    | none => ∃ e4' M', lp_numbers_in_0 [some (.ref W), some (.ref Q), some (.ref A), some (.int ((a + 1 : Nat) : Int)), e4] M = .exc (badW (a + 1)) [some (.ref W), some (.ref Q), some (.ref A), some (.int ((a + 1 : Nat) : Int)), e4'] M' ∧ Keep M M'
    | some n => ∃ e4' M', lp_numbers_in_0 [some (.ref W), some (.ref Q), some (.ref A), some (.int ((a + 1 : Nat) : Int)), e4] M = .next [some (.ref W), some (.ref Q), some (.ref A), some (.int ((a + 1 : Nat) : Int)), e4'] (M'.set A (.lst (xs ++ [.int (n : Nat)]))) ∧ Keep M M' ∧ a + 2 ≤ ws.length := by
  have sW := seqAt_lst hW
  have sQ := seqAt_lst hQ
  have ln := len_at sW hws
  cases q : ws[a + 1]? with
  | none =>
    have e : num1 ws (a + 1) most = none := by unfold num1; rw [q]
    rw [e]
    have la : a + 1 = ws.length := by have := List.getElem?_eq_none_iff.mp q; omega
    refine ⟨e4, M, ?_, Keep.refl _⟩
    unfold lp_numbers_in_0
    rw [TLP.ifT (M' := M) (by simp [-nLen_ref, ln, ← la]), TLP.anyX (x := badW (a + 1)) (env' := [some (.ref W), some (.ref Q), some (.ref A), some (.int ((a + 1 : Nat) : Int)), e4]) (M' := M) (sRaiseI_ap rfl)]
  | some x =>
    have la := (List.getElem?_eq_some_iff.mp q).1
    have nl : ¬ ((a : Nat) : Int) + 1 = (ws.length : Nat) := by omega
    obtain ⟨M1, e1, k1⟩ := gives_of (number_by_all (x := x) (hl x (List.mem_of_getElem? q)) M)
    have ix := wd_at sW q
    have iq : mIdx (.ref Q) (.int (a : Nat)) M1 = some (.int (most : Int), M1) := by
      have e := atI_nat (xs := qs.map D.int) (j := a) (v := .int (most : Int)) (by rw [List.getElem?_map, hq]; rfl)
      simp [k1.seq sQ, e]
    have bt : m_is_between [oD (wN x), .int 1, .int (most : Int)] M1 = .ok (.bl (inB 1 (most : Int) (oD (wN x)))) M1 := between_B (by cases wN x <;> rfl)
    have e0 : lp_numbers_in_0 [some (.ref W), some (.ref Q), some (.ref A), some (.int ((a + 1 : Nat) : Int)), e4] M = (sSeq (sIf (tNot (tTru (eCall m_is_between (aCons (eVar 4) (aCons (eC (.int 1)) (aCons (eBin mIdx (eVar 1) (eBin mSub (eVar 3) (eC (.int 1)))) aNil)))))) (sRaiseI "BadWord" (eVar 3)) sNil)
    (sExpr (eMeth "list" mAppend (eVar 2) (aCons (eVar 4) aNil)))) [some (.ref W), some (.ref Q), some (.ref A), some (.int ((a + 1 : Nat) : Int)), some (oD (wN x))] M1 := by
      unfold lp_numbers_in_0
      rw [TLP.ifN (M' := M) (by simp [-nLen_ref, ln, nl]), TLP.asg (v := oD (wN x)) (M' := M1) (by
        rw [show ((a + 1 : Nat) : Int) = ((a + 1 : Nat) : Int) from rfl]
        generalize ((a + 1 : Nat) : Int) = z at ix ⊢
        simp [-mIdx_ref, ix, e1])]
      rfl
    rw [e0]
    have sub : mSub (.int ((a + 1 : Nat) : Int)) (.int 1) M1 = some (.int (a : Nat), M1) := by
      show some (D.int (((a + 1 : Nat) : Int) - 1), M1) = _
      congr 3
      omega
    have tst : (tNot (tTru (eCall m_is_between (aCons (eVar 4) (aCons (eC (.int 1)) (aCons (eBin mIdx (eVar 1) (eBin mSub (eVar 3) (eC (.int 1)))) aNil)))))) [some (.ref W), some (.ref Q), some (.ref A), some (.int ((a + 1 : Nat) : Int)), some (oD (wN x))] M1 = .ok (!inB 1 (most : Int) (oD (wN x))) M1 := by
      generalize ((a + 1 : Nat) : Int) = z at sub ⊢
      simp [-mIdx_ref, -mSub_int, sub, iq, bt]
    have val : (∃ n, num1 ws (a + 1) most = some n ∧ wN x = some n ∧ inB 1 (most : Int) (oD (wN x)) = true) ∨ (num1 ws (a + 1) most = none ∧ inB 1 (most : Int) (oD (wN x)) = false) := by
      have nm : num1 ws (a + 1) most = (match wM x most with | some (n + 1) => some (n + 1) | _ => none) := by unfold num1; rw [q]
      cases w : wN x with
      | none =>
        have wm : wM x most = none := by unfold wM; rw [w]
        rw [wm] at nm
        exact .inr ⟨nm, rfl⟩
      | some n =>
        by_cases c : n ≤ most
        · have wm : wM x most = some n := by unfold wM; rw [w]; exact if_pos c
          rw [wm] at nm
          cases n with
          | zero => exact .inr ⟨nm, by simp [oD, inB]⟩
          | succ n => exact .inl ⟨n + 1, nm, rfl, by simp [oD, inB]; omega⟩
        · have wm : wM x most = none := by unfold wM; rw [w]; exact if_neg c
          rw [wm] at nm
          exact .inr ⟨nm, by simp [oD, inB]; omega⟩
    rcases val with ⟨n, v1, v2, v3⟩ | ⟨v1, v2⟩
    · rw [v1]
      rw [v3] at tst
      have hA1 := k1.at hA
      have sA := seqAt_lst hA1
      have ap := mAppend_ok (y := .int (n : Nat)) hA1 (by omega)
      refine ⟨some (oD (wN x)), M1, ?_, k1, by omega⟩
      rw [TLP.ifN (M' := M1) tst, v2]
      simp [oD, sA, ap]
    · rw [v1]
      rw [v2] at tst
      refine ⟨some (oD (wN x)), M1, ?_, k1⟩
      rw [TLP.ifT (M' := M1) tst, TLP.anyX (x := badW (a + 1)) (env' := [some (.ref W), some (.ref Q), some (.ref A), some (.int ((a + 1 : Nat) : Int)), some (oD (wN x))]) (M' := M1) (sRaiseI_ap rfl)]
theorem nums_all (hl : ∀ x ∈ ws, x.length ≤ 1000) (hws : ws.length ≤ 100000) (h1 : 1 ≤ ws.length) (hW : M[W]? = some (.lst (ws.map D.str))) {m1 m2 m3 : Nat} (hQ : M[Q]? = some (.lst [.int (m1 : Nat), .int (m2 : Nat), .int (m3 : Nat)])) :
    match numsR ws m1 m2 m3 with
    | .ok a b c => ∃ M', m_numbers_in [.ref W, .ref Q] M = .ok (.tup [.int (a : Nat), .int (b : Nat), .int (c : Nat)]) M' ∧ Keep M M' ∧ 4 ≤ ws.length
    | .bad s => Throws (m_numbers_in [.ref W, .ref Q] M) M (badW s) := by
  have hQ' : M[Q]? = some (.lst (([(m1 : Int), (m2 : Int), (m3 : Int)]).map D.int)) := hQ
  have k0 := Keep.more M [MO.lst []]
  have a0 := at_len M (MO.lst [])
  obtain ⟨A, hA⟩ : ∃ A, A = M.length := ⟨_, rfl⟩
  rw [← hA] at a0
  have sQ := seqAt_lst (k0.at hQ)
  have l3 : nLen [.ref Q] (M ++ [.lst []]) = some (.int 3, M ++ [.lst []]) := by simp [sQ]
  have e0 : m_numbers_in [.ref W, .ref Q] M = endS (nextS (forL (fun _ => True) (gOne 3) lp_numbers_in_0 [.int 1, .int 2, .int 3] [some (.ref W), some (.ref Q), some (.ref A), none, none] (M ++ [.lst []])) (sRet (eCallO nTuple (aCons (eVar 2) aNil)))) := by
    show endS (b_numbers_in [some (.ref W), some (.ref Q), none, none, none] M) = _
    unfold b_numbers_in
    rw [TLP.asg (v := .ref A) (M' := M ++ [.lst []]) (by rw [hA]; simp)]
    simp only [List.set]
    have ri : iRange2 (eC (.int 1)) (eBin mAdd (eCallO nLen (aCons (eVar 1) aNil)) (eC (.int 1))) [some (.ref W), some (.ref Q), some (.ref A), none, none] (M ++ [.lst []]) = .ok ⟨rngItems 1 3, fun _ => True⟩ (M ++ [.lst []]) := by
      have r1 : RngOk 1 := rngOk_of (by omega) (by omega)
      have r4 : RngOk 4 := rngOk_of (by omega) (by omega)
      simp [-nLen_ref, l3, r1, r4]
    show endS (nextS (thenS _ (iRange2 _ _ _ _) _) _) = _
    rw [ri]
    rfl
  have kA : ∀ {M1 : Mem} {o : MO}, Keep M M1 → Keep M (M1.set A o) := fun {M1 o} k => k.setNew (by rw [hA]; exact Nat.le_refl _)
  have exc : ∀ {s : Nat} {e : TL.Env} {M1 : Mem}, m_numbers_in [.ref W, .ref Q] M = endS (.exc (badW s) e M1) → Keep M M1 → Throws (m_numbers_in [.ref W, .ref Q] M) M (badW s) := fun h k => ⟨_, h, k⟩
  have t1 := nums_turn hl hws (k0.at hW) (k0.at hQ') a0 (by simp) (a := 0) (most := m1) (by omega) rfl (e4 := none)
  rw [forL_cons (env1 := [some (.ref W), some (.ref Q), some (.ref A), some (.int 1), none]) trivial rfl] at e0
  unfold numsR
  cases n1 : num1 ws 1 m1 with
  | none =>
    rw [show num1 ws (0 + 1) m1 = none from n1] at t1
    obtain ⟨e4, M1, e1, k1⟩ := t1
    have e1' : lp_numbers_in_0 [some (.ref W), some (.ref Q), some (.ref A), some (.int 1), none] (M ++ [.lst []]) = .exc (badW 1) [some (.ref W), some (.ref Q), some (.ref A), some (.int 1), e4] M1 := e1
    rw [e1'] at e0
    exact exc e0 (k0.trans k1)
  | some a =>
    rw [show num1 ws (0 + 1) m1 = some a from n1] at t1
    obtain ⟨e4, M1, e1, k1, l1⟩ := t1
    have e1' : lp_numbers_in_0 [some (.ref W), some (.ref Q), some (.ref A), some (.int 1), none] (M ++ [.lst []]) = .next [some (.ref W), some (.ref Q), some (.ref A), some (.int 1), e4] (M1.set A (.lst ([] ++ [.int (a : Nat)]))) := e1
    rw [e1'] at e0
    have K1 := kA (o := .lst ([] ++ [.int (a : Nat)])) (k0.trans k1)
    have A1 : (M1.set A (.lst ([] ++ [D.int (a : Nat)])))[A]? = some (.lst ([] ++ [D.int (a : Nat)])) := List.getElem?_set_self (lt_of_at (k1.at a0))
    generalize M1.set A (.lst ([] ++ [D.int (a : Nat)])) = N1 at *
    have t2 := nums_turn hl hws (K1.at hW) (K1.at hQ') A1 (by simp) (a := 1) (most := m2) (by omega) rfl (e4 := e4)
    rw [nextS_nextS] at e0
    change _ = endS (nextS (forL (fun _ => True) (gOne 3) lp_numbers_in_0 [.int 2, .int 3] [some (.ref W), some (.ref Q), some (.ref A), some (.int 1), e4] N1) _) at e0
    rw [forL_cons (env1 := [some (.ref W), some (.ref Q), some (.ref A), some (.int 2), e4]) trivial rfl] at e0
    simp only
    cases n2 : num1 ws 2 m2 with
    | none =>
      rw [show num1 ws (1 + 1) m2 = none from n2] at t2
      obtain ⟨e4', M2, e2, k2⟩ := t2
      have e2' : lp_numbers_in_0 [some (.ref W), some (.ref Q), some (.ref A), some (.int 2), e4] N1 = .exc (badW 2) [some (.ref W), some (.ref Q), some (.ref A), some (.int 2), e4'] M2 := e2
      rw [e2'] at e0
      exact exc e0 (K1.trans k2)
    | some b =>
      rw [show num1 ws (1 + 1) m2 = some b from n2] at t2
      obtain ⟨e4', M2, e2, k2, l2⟩ := t2
      have e2' : lp_numbers_in_0 [some (.ref W), some (.ref Q), some (.ref A), some (.int 2), e4] N1 = .next [some (.ref W), some (.ref Q), some (.ref A), some (.int 2), e4'] (M2.set A (.lst ([] ++ [.int (a : Nat)] ++ [.int (b : Nat)]))) := e2
      rw [e2'] at e0
      have K2 := kA (o := .lst ([] ++ [.int (a : Nat)] ++ [.int (b : Nat)])) (K1.trans k2)
      have A2 : (M2.set A (.lst ([] ++ [D.int (a : Nat)] ++ [.int (b : Nat)])))[A]? = some (.lst ([] ++ [D.int (a : Nat)] ++ [.int (b : Nat)])) := List.getElem?_set_self (lt_of_at (k2.at A1))
      generalize M2.set A (.lst ([] ++ [D.int (a : Nat)] ++ [.int (b : Nat)])) = N2 at *
      have t3 := nums_turn hl hws (K2.at hW) (K2.at hQ') A2 (by simp) (a := 2) (most := m3) (by omega) rfl (e4 := e4')
      rw [nextS_nextS] at e0
      change _ = endS (nextS (forL (fun _ => True) (gOne 3) lp_numbers_in_0 [.int 3] [some (.ref W), some (.ref Q), some (.ref A), some (.int 2), e4'] N2) _) at e0
      rw [forL_cons (env1 := [some (.ref W), some (.ref Q), some (.ref A), some (.int 3), e4']) trivial rfl] at e0
      simp only
      cases n3 : num1 ws 3 m3 with
      | none =>
        rw [show num1 ws (2 + 1) m3 = none from n3] at t3
        obtain ⟨e4'', M3, e3, k3⟩ := t3
        have e3' : lp_numbers_in_0 [some (.ref W), some (.ref Q), some (.ref A), some (.int 3), e4'] N2 = .exc (badW 3) [some (.ref W), some (.ref Q), some (.ref A), some (.int 3), e4''] M3 := e3
        rw [e3'] at e0
        exact exc e0 (K2.trans k3)
      | some c =>
        rw [show num1 ws (2 + 1) m3 = some c from n3] at t3
        obtain ⟨e4'', M3, e3, k3, l3⟩ := t3
        have e3' : lp_numbers_in_0 [some (.ref W), some (.ref Q), some (.ref A), some (.int 3), e4'] N2 = .next [some (.ref W), some (.ref Q), some (.ref A), some (.int 3), e4''] (M3.set A (.lst ([] ++ [.int (a : Nat)] ++ [.int (b : Nat)] ++ [.int (c : Nat)]))) := e3
        rw [e3'] at e0
        have K3 := kA (o := .lst ([] ++ [.int (a : Nat)] ++ [.int (b : Nat)] ++ [.int (c : Nat)])) (K2.trans k3)
        have A3 : (M3.set A (.lst ([] ++ [D.int (a : Nat)] ++ [.int (b : Nat)] ++ [.int (c : Nat)])))[A]? = some (.lst ([] ++ [D.int (a : Nat)] ++ [.int (b : Nat)] ++ [.int (c : Nat)])) := List.getElem?_set_self (lt_of_at (k3.at A2))
        generalize M3.set A (.lst ([] ++ [D.int (a : Nat)] ++ [.int (b : Nat)] ++ [.int (c : Nat)])) = N3 at *
        rw [nextS_nextS] at e0
        change _ = endS (nextS (forL (fun _ => True) (gOne 3) lp_numbers_in_0 [] [some (.ref W), some (.ref Q), some (.ref A), some (.int 3), e4''] N3) _) at e0
        rw [forL_nil trivial] at e0
        have tu := nTuple_ref (seqAt_lst A3)
        refine ⟨N3, ?_, K3, by omega⟩
        rw [e0]
        show endS (sRet _ _ _) = _
        rw [TLP.ret (v := .tup ([] ++ [.int (a : Nat)] ++ [.int (b : Nat)] ++ [.int (c : Nat)])) (M' := N3) (by simp at tu ⊢; simp [tu])]
        rfl
end
end CGW
end
section
set_option maxHeartbeats 4000000
namespace CGW
open PySem PySem.Spec PyProof.Rows L2 TL
open CM hiding b_l_unit m_l_unit g_l_unit b_l_rule m_l_rule b_l_any_rule m_l_any_rule any_rule rule_step rule_ok unit_ok
open CG
open CW hiding b_Reader_count b_Reader_is_dash b_Reader_last b_Reader_rule b_Reader_word b_read_rule g_Reader_rule m_Reader_count m_Reader_is_dash m_Reader_last m_Reader_rule m_Reader_word m_read_rule
open CWR
open RL TLQ RD
theorem inF_strs {x : Str} {ys : List Str} : inF (.str x) (ys.map D.str) = decide (x ∈ ys) := by
  induction ys with
  | nil => rfl
  | cons y ys ih =>
    have e : inF (.str x) ((y :: ys).map D.str) = (eqF (.str y) (.str x) || inF (.str x) (ys.map D.str)) := rfl
    rw [e, ih]
    show ((y == x) || decide (x ∈ ys)) = _
    by_cases c : x = y
    · subst c; simp
    · have c' : ¬ y = x := fun h => c h.symm
      simp [c, c']
theorem in_strs {M : Mem} {n : Nat} {x : Str} {ys : List Str} (hn : seqAt M n = some (ys.map D.str)) : mIn (.str x) (.ref n) M = some (.bl (decide (x ∈ ys)), M) := by
  have a : (ys.map D.str).all flatD = true := List.all_eq_true.mpr fun x h => by obtain ⟨s, _, rfl⟩ := List.mem_map.mp h; rfl
  have e : inD M (.str x) (.ref n) = some (inF (.str x) (ys.map D.str)) := by
    have e0 : inD M (.str x) (.ref n) = (match seqAt M n with | some xs => if flatD (.str x) = true ∧ xs.all flatD = true then some (inF (.str x) xs) else none | none => none) := rfl
    rw [e0, hn]
    simp only [a, and_true]
    rfl
  show (inD M (.str x) (.ref n)).map _ = _
  rw [e, inF_strs]
  rfl
section
variable {M0 : Mem} {W T N : Nat} {ws : List Str}
/-- a turn of the throws -/
theorem thr_turn (hl : ∀ x ∈ ws, x.length ≤ 1000) {M : Mem} (k : Keep M0 M) (lT : M0.length ≤ T) (lN : M0.length ≤ N) (TN : T ≠ N) (hW : M0[W]? = some (.lst (ws.map D.str))) {acc : List Thr} (aT : M[T]? = some (.lst (acc.map Thr.toD))) (aN : M[N]? = some (.lst ((acc.map (·.name)).map D.str))) (ha : acc.length ≤ 30) {a : Nat} {x : Str} (hx : ws[a]? = some x) {e4 : Option D} :
    match tN x with
    | none => ∃ e4' M', lp_throws_in_0 [some (.ref W), some (.ref T), some (.ref N), some (.int (a : Nat)), e4] M = .exc (badW a) [some (.ref W), some (.ref T), some (.ref N), some (.int (a : Nat)), e4'] M' ∧ Keep M0 M'
    | some t => if t.name ∈ acc.map (·.name) ∨ acc.length = 30 then ∃ e4' M', lp_throws_in_0 [some (.ref W), some (.ref T), some (.ref N), some (.int (a : Nat)), e4] M = .exc (badW a) [some (.ref W), some (.ref T), some (.ref N), some (.int (a : Nat)), e4'] M' ∧ Keep M0 M'
      else ∃ e4' M', lp_throws_in_0 [some (.ref W), some (.ref T), some (.ref N), some (.int (a : Nat)), e4] M = .next [some (.ref W), some (.ref T), some (.ref N), some (.int (a : Nat)), e4'] M' ∧ Keep M0 M' ∧ M'[T]? = some (.lst ((acc ++ [t]).map Thr.toD)) ∧ M'[N]? = some (.lst (((acc ++ [t]).map (·.name)).map D.str)) := by
  have sW := seqAt_lst (k.at hW)
  have ix := wd_at sW hx
  obtain ⟨M1, e1, k1⟩ := gives_of (throw_by_all (x := x) (hl x (List.mem_of_getElem? hx)) M)
  have aT1 := k1.at aT
  have aN1 := k1.at aN
  have e0 : lp_throws_in_0 [some (.ref W), some (.ref T), some (.ref N), some (.int (a : Nat)), e4] M = (sSeq (sIf (TL.tOr (TL.tB (eBin mIs (eVar 4) (eC .non))) (TL.tOr (TL.tB (eBin mIn (eBin mIdx (eVar 4) (eC (.int 0))) (eVar 2))) (TL.tB (eBin mEq (eCallO nLen (aCons (eVar 1) aNil)) (eC (.int 30)))))) (sRaiseI "BadWord" (eVar 3)) sNil)
    (sSeq (sExpr (eMeth "list" mAppend (eVar 1) (aCons (eVar 4) aNil)))
    (sExpr (eMeth "list" mAppend (eVar 2) (aCons (eBin mIdx (eVar 4) (eC (.int 0))) aNil))))) [some (.ref W), some (.ref T), some (.ref N), some (.int (a : Nat)), some (tD (tN x))] M1 := by
    unfold lp_throws_in_0
    rw [TLP.asg (v := tD (tN x)) (M' := M1) (by simp [-mIdx_ref, ix, e1])]
    rfl
  rw [e0]
  have K1 := k.trans k1
  have lT' : nLen [.ref T] M1 = some (.int (acc.length : Nat), M1) := by simp [seqAt_lst aT1, show acc.length ≤ 16777216 by omega]
  cases q : tN x with
  | none =>
    refine ⟨some (tD none), M1, ?_, K1⟩
    rw [TLP.ifT (M' := M1) (by simp [tD]), TLP.anyX (x := badW a) (M' := M1) (sRaiseI_ap rfl)]
  | some t =>
    simp only
    have i1 := in_strs (x := t.name) (seqAt_lst aN1)
    have tst : (TL.tOr (TL.tB (eBin mIs (eVar 4) (eC .non))) (TL.tOr (TL.tB (eBin mIn (eBin mIdx (eVar 4) (eC (.int 0))) (eVar 2))) (TL.tB (eBin mEq (eCallO nLen (aCons (eVar 1) aNil)) (eC (.int 30)))))) [some (.ref W), some (.ref T), some (.ref N), some (.int (a : Nat)), some (tD (some t))] M1 = .ok (decide (t.name ∈ acc.map (·.name)) || decide (acc.length = 30)) M1 := by
      by_cases c : t.name ∈ acc.map (·.name)
      · rw [decide_eq_true c] at i1 ⊢
        simp [tD, Thr.toD, i1]
      · rw [decide_eq_false c] at i1 ⊢
        by_cases c2 : acc.length = 30
        · rw [c2] at lT'
          simp [-nLen_ref, tD, Thr.toD, i1, lT', c2]
        · have c3 : ¬ ((acc.length : Nat) : Int) = 30 := by omega
          simp [-nLen_ref, tD, Thr.toD, i1, lT', c2, c3]
    by_cases c : t.name ∈ acc.map (·.name) ∨ acc.length = 30
    · rw [if_pos c]
      have cb : (decide (t.name ∈ acc.map (·.name)) || decide (acc.length = 30)) = true := by simpa using c
      rw [cb] at tst
      refine ⟨some (tD (some t)), M1, ?_, K1⟩
      rw [TLP.ifT (M' := M1) tst, TLP.anyX (x := badW a) (M' := M1) (sRaiseI_ap rfl)]
    · rw [if_neg c]
      have cb : (decide (t.name ∈ acc.map (·.name)) || decide (acc.length = 30)) = false := by simpa using c
      rw [cb] at tst
      have ap := mAppend_ok (y := t.toD) aT1 (by simp; omega)
      have sT := seqAt_lst aT1
      have K2 := K1.setNew (n := T) (o := .lst (acc.map Thr.toD ++ [t.toD])) lT
      have aT2 : (M1.set T (.lst (acc.map Thr.toD ++ [t.toD])))[T]? = some (.lst (acc.map Thr.toD ++ [t.toD])) := List.getElem?_set_self (lt_of_at aT1)
      have aN2 : (M1.set T (.lst (acc.map Thr.toD ++ [t.toD])))[N]? = some (.lst ((acc.map (·.name)).map D.str)) := by rw [List.getElem?_set_ne TN]; exact aN1
      rw [TLP.ifN (M' := M1) tst, TLP.expr (v := .non) (M' := M1.set T (.lst (acc.map Thr.toD ++ [t.toD]))) (by simp [tD, sT, ap])]
      generalize M1.set T (.lst (acc.map Thr.toD ++ [t.toD])) = M2 at *
      have ap2 := mAppend_ok (y := .str t.name) aN2 (by simp; omega)
      have sN := seqAt_lst aN2
      have K3 := K2.setNew (n := N) (o := .lst ((acc.map (·.name)).map D.str ++ [.str t.name])) lN
      refine ⟨some t.toD, M2.set N (.lst ((acc.map (·.name)).map D.str ++ [.str t.name])), ?_, K3, ?_, ?_⟩
      · simp only [List.map_map] at sN ap2 ⊢
        simp [tD, Thr.toD, sN, ap2]
      · rw [List.getElem?_set_ne (Ne.symm TN), aT2]; simp
      · rw [List.getElem?_set_self (lt_of_at aN2)]; simp
theorem thr_loop (hl : ∀ x ∈ ws, x.length ≤ 1000) (lT : M0.length ≤ T) (lN : M0.length ≤ N) (TN : T ≠ N) (hW : M0[W]? = some (.lst (ws.map D.str))) : ∀ (left : List Str) (a : Nat) (acc : List Thr) (M : Mem) (e3 e4 : Option D), ws.drop a = left → Keep M0 M → M[T]? = some (.lst (acc.map Thr.toD)) → M[N]? = some (.lst ((acc.map (·.name)).map D.str)) → acc.length ≤ 30 →
    match thrR left a acc with
    | .ok ts => ∃ e3' e4' M', forL (fun _ => True) (gOne 3) lp_throws_in_0 (rngItems (a : Nat) left.length) [some (.ref W), some (.ref T), some (.ref N), e3, e4] M = .next [some (.ref W), some (.ref T), some (.ref N), e3', e4'] M' ∧ Keep M0 M' ∧ M'[T]? = some (.lst (ts.map Thr.toD)) ∧ ts.length ≤ 30
    | .bad s => ∃ env' M', forL (fun _ => True) (gOne 3) lp_throws_in_0 (rngItems (a : Nat) left.length) [some (.ref W), some (.ref T), some (.ref N), e3, e4] M = .exc (badW s) env' M' ∧ Keep M0 M'
  | [], a, acc, M, e3, e4, hd, k, aT, aN, ha => by
    unfold thrR
    exact ⟨e3, e4, M, forL_nil trivial, k, aT, ha⟩
  | x :: xs, a, acc, M, e3, e4, hd, k, aT, aN, ha => by
    obtain ⟨hx, hd'⟩ := at_drop hd
    have t := thr_turn hl k lT lN TN hW aT aN ha hx (e4 := e4)
    have fl : forL (fun _ => True) (gOne 3) lp_throws_in_0 (rngItems (a : Nat) (x :: xs).length) [some (.ref W), some (.ref T), some (.ref N), e3, e4] M = nextS (lp_throws_in_0 [some (.ref W), some (.ref T), some (.ref N), some (.int (a : Nat)), e4] M) (forL (fun _ => True) (gOne 3) lp_throws_in_0 (rngItems ((a + 1 : Nat) : Int) xs.length)) := by
      rw [List.length_cons, rng_cons, forL_cons (env1 := [some (.ref W), some (.ref T), some (.ref N), some (.int (a : Nat)), e4]) trivial rfl]
      rfl
    rw [fl]
    unfold thrR
    cases q : tN x with
    | none =>
      rw [q] at t
      obtain ⟨e4', M', e, k'⟩ := t
      exact ⟨_, M', by rw [e]; rfl, k'⟩
    | some th =>
      rw [q] at t
      simp only at t ⊢
      by_cases c : th.name ∈ acc.map (·.name) ∨ acc.length = 30
      · rw [if_pos c] at t ⊢
        obtain ⟨e4', M', e, k'⟩ := t
        exact ⟨_, M', by rw [e]; rfl, k'⟩
      · rw [if_neg c] at t ⊢
        obtain ⟨e4', M', e, k', aT', aN'⟩ := t
        have r := thr_loop hl lT lN TN hW xs (a + 1) (acc ++ [th]) M' (some (.int (a : Nat))) e4' hd' k' aT' aN' (by simp; omega)
        rw [e]
        exact r
theorem thrR_words : ∀ {left : List Str} {a : Nat} {acc ts : List Thr}, thrR left a acc = .ok ts → (acc.map (·.name)).Nodup → (∀ t ∈ acc, ThOk t) → acc.length ≤ 30 → ∃ more, ts = acc ++ more ∧ left = more.map tw ∧ (ts.map (·.name)).Nodup ∧ (∀ t ∈ ts, ThOk t) ∧ ts.length ≤ 30
  | [], a, acc, ts, h, nd, ok, hl => by
    unfold thrR at h
    cases h
    exact ⟨[], by simp, rfl, nd, ok, hl⟩
  | x :: xs, a, acc, ts, h, nd, ok, hl => by
    unfold thrR at h
    cases q : tN x with
    | none => rw [q] at h; cases h
    | some t =>
      rw [q] at h
      simp only at h
      obtain ⟨e1, o1⟩ := tN_tw q
      by_cases c : t.name ∈ acc.map (·.name) ∨ acc.length = 30
      · rw [if_pos c] at h; cases h
      · rw [if_neg c] at h
        obtain ⟨more, e2, e3, e4, e5, e6⟩ := thrR_words h (by
          rw [List.map_append, List.nodup_append]
          refine ⟨nd, by simp, fun a ha b hb e => ?_⟩
          cases List.mem_singleton.mp hb
          exact c (.inl (by rw [show a = t.name from e] at ha; exact ha))) (fun t' ht => by
          rcases List.mem_append.mp ht with ht | ht
          · exact ok t' ht
          · cases List.mem_singleton.mp ht; exact o1) (by simp; omega)
        exact ⟨t :: more, by rw [e2]; simp, by rw [List.map_cons, ← e3, ← e1], e4, e5, e6⟩
theorem thr_pure {t : Thr} (h : ThOk t) : pureD t.toD 1 = true := by
  have := name_strOk h.nm
  simp [Thr.toD, pureD, pureL, this]
theorem thrs_pure : ∀ {ts : List Thr}, (∀ t ∈ ts, ThOk t) → pureL (ts.map Thr.toD) 1 = true
  | [], _ => rfl
  | t :: ts, h => by
    rw [List.map_cons, pureL, thr_pure (h t List.mem_cons_self), thrs_pure fun t ht => h t (List.mem_cons_of_mem _ ht)]
    rfl
noncomputable def thrTail : MS := (sSeq (sIf (TL.tB (eBin mEq (eVar 1) (eLst aNil))) (sRaiseI "BadWord" (eC (.int 4))) sNil) (sRet (eCallO nTuple (aCons (eVar 1) aNil))))
theorem throws_all (hl : ∀ x ∈ ws, x.length ≤ 1000) (hws : ws.length ≤ 100000) (h4 : 4 ≤ ws.length) {M : Mem} (hW : M[W]? = some (.lst (ws.map D.str))) :
    match thrR (ws.drop 4) 4 [] with
    | .ok ts => if ts = [] then Throws (m_throws_in [.ref W] M) M (badW 4) else ∃ M', m_throws_in [.ref W] M = .ok (.tup (ts.map Thr.toD)) M' ∧ Keep M M' ∧ ts.length ≤ 30
    | .bad s => Throws (m_throws_in [.ref W] M) M (badW s) := by
  have k0 := Keep.more M [MO.lst [], MO.lst []]
  have aT : (M ++ [MO.lst [], MO.lst []])[M.length]? = some (.lst (([] : List Thr).map Thr.toD)) := by simp
  have aN : (M ++ [MO.lst [], MO.lst []])[M.length + 1]? = some (.lst ((([] : List Thr).map (·.name)).map D.str)) := by simp
  have lp := thr_loop (M0 := M) (T := M.length) (N := M.length + 1) hl (Nat.le_refl _) (by omega) (by omega) hW (ws.drop 4) 4 [] _ none none rfl k0 aT aN (by simp)
  have sW := seqAt_lst (k0.at hW)
  have ln := len_at sW hws
  have e0 : m_throws_in [.ref W] M = endS (nextS (forL (fun _ => True) (gOne 3) lp_throws_in_0 (rngItems ((4 : Nat) : Int) (ws.drop 4).length) [some (.ref W), some (.ref M.length), some (.ref (M.length + 1)), none, none] (M ++ [MO.lst [], MO.lst []])) thrTail) := by
    show endS (b_throws_in [some (.ref W), none, none, none, none] M) = _
    unfold b_throws_in
    rw [TLP.asg (v := .ref M.length) (M' := M ++ [.lst []]) (by simp)]
    simp only [List.set]
    rw [TLP.asg (v := .ref (M.length + 1)) (M' := M ++ [.lst [], .lst []]) (by simp)]
    simp only [List.set]
    have ri : iRange2 (eC (.int 4)) (eCallO nLen (aCons (eVar 0) aNil)) [some (.ref W), some (.ref M.length), some (.ref (M.length + 1)), none, none] (M ++ [.lst [], .lst []]) = .ok ⟨rngItems 4 (ws.drop 4).length, fun _ => True⟩ (M ++ [.lst [], .lst []]) := by
      have r1 : RngOk 4 := rngOk_of (by omega) (by omega)
      have r4 : RngOk (ws.length : Nat) := rngOk_of (by omega) (by omega)
      have tn : ((ws.length : Int) - 4).toNat = (ws.drop 4).length := by rw [List.length_drop]; omega
      simp [-nLen_ref, -List.length_drop, ln, r1, r4, tn]
    show endS (nextS (thenS _ (iRange2 _ _ _ _) _) _) = _
    rw [ri]
    rfl
  cases q : thrR (ws.drop 4) 4 [] with
  | bad s =>
    rw [q] at lp
    obtain ⟨env', M', e, k⟩ := lp
    refine ⟨M', ?_, k⟩
    rw [e0, e]
    rfl
  | ok ts =>
    rw [q] at lp
    obtain ⟨e3, e4, M1, e, k, a, l30⟩ := lp
    rw [e] at e0
    replace e0 : m_throws_in [.ref W] M = endS (thrTail [some (.ref W), some (.ref M.length), some (.ref (M.length + 1)), e3, e4] M1) := e0
    unfold thrTail at e0
    simp only
    obtain ⟨_, _, _, _, oks, _⟩ := thrR_words q (by simp) (by simp) (by simp)
    have K1 := k.trans (Keep.more M1 [MO.lst []])
    have a2 := (Keep.more M1 [MO.lst []]).at a
    have s2 := seqAt_lst a2
    have eq := mEq_nil (seqAt_lst a2) (seqAt_lst (at_len M1 (MO.lst []))) (thrs_pure oks) (by decide)
    have tu := nTuple_ref s2
    generalize hM : M1 ++ [MO.lst []] = M2 at *
    by_cases c : ts = []
    · rw [if_pos c]
      subst c
      have eq' : mEq (.ref M.length) (.ref M1.length) M2 = some (.bl true, M2) := eq
      refine ⟨M2, ?_, K1⟩
      rw [e0, TLP.ifT (M' := M2) (by simp [hM, eq']), TLP.anyX (x := badW 4) (M' := M2) (sRaiseI_ap rfl)]
      rfl
    · rw [if_neg c]
      have eb : (ts.map Thr.toD).isEmpty = false := by
        cases ts with
        | nil => exact absurd rfl c
        | cons t tr => rfl
      rw [eb] at eq
      refine ⟨M2, ?_, K1, l30⟩
      rw [e0, TLP.ifN (M' := M2) (by simp [hM, eq]), TLP.ret (v := .tup (ts.map Thr.toD)) (M' := M2) (by simp [tu])]
      rfl
end
end CGW
end
section
set_option maxHeartbeats 4000000
namespace CGW
open PySem PySem.Spec PyProof.Rows L2 TL
open CM hiding b_l_unit m_l_unit g_l_unit b_l_rule m_l_rule b_l_any_rule m_l_any_rule any_rule rule_step rule_ok unit_ok
open CG
open CW hiding b_Reader_count b_Reader_is_dash b_Reader_last b_Reader_rule b_Reader_word b_read_rule g_Reader_rule m_Reader_count m_Reader_is_dash m_Reader_last m_Reader_rule m_Reader_word m_read_rule
open CWR
open RL TLQ RD
/-- words that a text is of -/
structure WsOk (ws : List Str) : Prop where
  ne : ws ≠ []
  free : ∀ x ∈ ws, 32 ∉ tlS x
  len : ∀ x ∈ ws, x.length ≤ 1000
  sum : (ws.map (·.length)).sum ≤ 400000
  few : ws.length ≤ 900
theorem WsOk.w1 {ws : List Str} (h : WsOk ws) : 1 ≤ ws.length := List.length_pos_iff.mpr h.ne
abbrev joinS (ws : List Str) : Str := Txt.join (Str.ofString " ") ws
theorem join_rule (r : List Str) : joinS r = joinS (ruleWs r) := by
  unfold ruleWs
  by_cases c : r = []
  · rw [if_pos c, c]
    decide +kernel
  · rw [if_neg c]
theorem join_any {M : Mem} {k : Nat} {ws : List Str} (h : seqAt M k = some (ws.map D.str)) (hs : (ws.map (·.length)).sum ≤ 500000) (hl : ws.length ≤ 1000) : mJoin (.str (Str.ofString " ")) [.ref k] M = some (.str (joinS ws), M) := by
  have e0 : (Str.ofString " ").length = 1 := by decide +kernel
  rw [mJoin_ref, h]
  simp only
  rw [joinO_strs (by rw [e0]; omega)]
  rfl
theorem WsOk.rule {ws : List Str} (h : WsOk ws) : WsOk (ruleWs (ws.drop 1)) := by
  unfold ruleWs
  by_cases c : ws.drop 1 = []
  · rw [if_pos c]
    exact ⟨by simp, by decide +kernel, by decide +kernel, by decide +kernel, by simp⟩
  · rw [if_neg c]
    refine ⟨c, fun x hx => h.free x (List.mem_of_mem_drop hx), fun x hx => h.len x (List.mem_of_mem_drop hx), ?_, by rw [List.length_drop]; have := h.few; omega⟩
    have e : (ws.map (·.length)).sum = ((ws.take 1).map (·.length)).sum + ((ws.drop 1).map (·.length)).sum := by rw [← List.sum_append, ← List.map_append, List.take_append_drop]
    have := h.sum
    omega
theorem BW : ∀ s, (badW s).cls = "BadWord" := fun _ => rfl
abbrev allX : List Str := ["NoThrow", "NoPins", "NoSide", "Over", "NoGame", "NoDeed", "TooMany", "NoLine", "BadWord", "Falls"]
theorem bw_in : ("BadWord" : Str) ∈ allX := by decide
theorem rally_in_all {ws : List Str} {W : Nat} {M : Mem} (h : WsOk ws) (hW : M[W]? = some (.lst (ws.map D.str))) :
    match readR (ruleWs (ws.drop 1)) with
    | .ok r _ _ => ∃ M', m_rally_in [.ref W] M = .ok r.toD M' ∧ Keep M M'
    | .bad s => Throws (m_rally_in [.ref W] M) M (badW (s + 1)) := by
  have hr := h.rule
  have few := h.few
  have k1 := Keep.more M [MO.lst ((ws.drop 1).map D.str)]
  have rr := read_rule_all (M := M ++ [.lst ((ws.drop 1).map D.str)]) hr.ne hr.free hr.len (Nat.le_trans hr.sum (by decide)) (Nat.le_trans hr.few (by decide))
  have a1 := at_len M (MO.lst ((ws.drop 1).map D.str))
  have sumd : ((ws.drop 1).map (·.length)).sum ≤ 500000 := by
    have e : (ws.map (·.length)).sum = ((ws.take 1).map (·.length)).sum + ((ws.drop 1).map (·.length)).sum := by rw [← List.sum_append, ← List.map_append, List.take_append_drop]
    have := h.sum
    omega
  have jn := join_any (seqAt_lst a1) sumd (by rw [List.length_drop]; omega)
  rw [join_rule] at jn
  have sl : mSl (.ref W) (some 1) none M = some (.ref M.length, M ++ [.lst ((ws.drop 1).map D.str)]) := by
    have e := mSl_fr (k := 1) (seqAt_lst hW) (by rw [List.length_map]; exact h.w1)
    rw [← List.map_drop] at e
    exact e
  simp only [joinS] at jn
  generalize Txt.join (Str.ofString " ") (ruleWs (ws.drop 1)) = tx at *
  generalize M ++ [MO.lst ((ws.drop 1).map D.str)] = M1 at *
  generalize M.length = L at *
  have e0 : m_rally_in [.ref W] M = endS ((sSeq (sTry allX (sAsg (gOne 2) (eCall m_read_rule (aCons (eMeth "str" mJoin (eC (.str " ")) (aCons (eSl (eVar 0) (oSome (eC (.int 1))) oNone) aNil)) aNil))) [⟨"BadWord", (some 3), (sAsg (gOne 1) (eAt ["BadWord", "Falls"] (eVar 3)))⟩])
    (sSeq (sIf (TL.tB (eBin mIsNot (eVar 1) (eC .non))) (sRaiseI "BadWord" (eBin mAdd (eVar 1) (eC (.int 1)))) sNil)
    (sRet (eVar 2)))) [some (.ref W), some .non, some .non, none] M) := by
    show endS (b_rally_in [some (.ref W), none, none, none] M) = _
    unfold b_rally_in
    rw [TLP.asg (v := .non) (M' := M) (by rfl), TLP.asg (v := .non) (M' := M) (by rfl)]
    rfl
  rw [e0]
  have arg : (eMeth "str" mJoin (eC (.str " ")) (aCons (eSl (eVar 0) (oSome (eC (.int 1))) oNone) aNil)) [some (.ref W), some .non, some .non, none] M = .ok (.str tx) M1 := by
    simp [sl, jn]
  cases q : readR (ruleWs (ws.drop 1)) with
  | ok r a m =>
    rw [q] at rr
    obtain ⟨M2, e, k⟩ := rr
    refine ⟨M2, ?_, k1.trans k⟩
    rw [TLP.any_ (env' := [some (.ref W), some .non, some r.toD, none]) (M' := M2) (by
      rw [sTry_ap]
      have body : (sAsg (gOne 2) (eCall m_read_rule (aCons (eMeth "str" mJoin (eC (.str " ")) (aCons (eSl (eVar 0) (oSome (eC (.int 1))) oNone) aNil)) aNil))) [some (.ref W), some .non, some .non, none] M = .next [some (.ref W), some .non, some r.toD, none] M2 := by
        generalize (eMeth "str" mJoin (eC (.str " ")) (aCons (eSl (eVar 0) (oSome (eC (.int 1))) oNone) aNil)) = ar at *
        simp [arg, e]
      rw [body])]
    rw [TLP.ifN (M' := M2) (by simp), TLP.ret (v := r.toD) (M' := M2) (by simp)]
    rfl
  | bad s =>
    rw [q] at rr
    obtain ⟨M2, e, k⟩ := rr
    refine ⟨M2, ?_, k1.trans k⟩
    have b1 : subX "BadWord" "BadWord" = true := by decide +kernel
    rw [TLP.any_ (env' := [some (.ref W), some (.int (s : Nat)), some .non, none]) (M' := M2) (by
      rw [sTry_ap]
      have body : (sAsg (gOne 2) (eCall m_read_rule (aCons (eMeth "str" mJoin (eC (.str " ")) (aCons (eSl (eVar 0) (oSome (eC (.int 1))) oNone) aNil)) aNil))) [some (.ref W), some .non, some .non, none] M = .exc (badW s) [some (.ref W), some .non, some .non, none] M2 := by
        generalize (eMeth "str" mJoin (eC (.str " ")) (aCons (eSl (eVar 0) (oSome (eC (.int 1))) oNone) aNil)) = ar at *
        simp [arg, e]
      rw [body]
      simp only
      rw [BW, if_pos bw_in, hdsRun_cons, BW, if_pos b1]
      simp [eAt, mAt, badW])]
    rw [TLP.ifT (M' := M2) (by simp), TLP.anyX (x := badW (s + 1)) (env' := [some (.ref W), some (.int (s : Nat)), some .non, none]) (M' := M2) (sRaiseI_ap (by simp))]
    rfl
theorem game_first {M : Mem} {W : Nat} {w : Str} {r : List Str} (hW : M[W]? = some (.lst ((w :: r).map D.str))) : mIdx (.ref W) (.int 0) M = some (.str w, M) := by
  have := wd_at (seqAt_lst hW) (a := 0) (x := w) rfl
  exact this
/-- a down's words, behind the first -/
theorem numbers_for {M : Mem} {W : Nat} {ws : List Str} (h : WsOk ws) (hW : M[W]? = some (.lst (ws.map D.str))) {m1 m2 m3 : Nat} :
    match numsR ws m1 m2 m3 with
    | .ok a b c => ∃ M', (eCall m_numbers_in (aCons (eVar 1) (aCons (eLst (aCons (eC (.int (m1 : Nat))) (aCons (eC (.int (m2 : Nat))) (aCons (eC (.int (m3 : Nat))) aNil)))) aNil))) [some (.str (joinS ws)), some (.ref W), none] M = .ok (.tup [.int (a : Nat), .int (b : Nat), .int (c : Nat)]) M' ∧ Keep M M' ∧ 4 ≤ ws.length
    | .bad s => Throws ((eCall m_numbers_in (aCons (eVar 1) (aCons (eLst (aCons (eC (.int (m1 : Nat))) (aCons (eC (.int (m2 : Nat))) (aCons (eC (.int (m3 : Nat))) aNil)))) aNil))) [some (.str (joinS ws)), some (.ref W), none] M) M (badW s) := by
  have k1 := Keep.more M [MO.lst [D.int (m1 : Nat), .int (m2 : Nat), .int (m3 : Nat)]]
  have a1 := at_len M (MO.lst [D.int (m1 : Nat), .int (m2 : Nat), .int (m3 : Nat)])
  have few := h.few
  have nn := nums_all h.len (by omega) h.w1 (k1.at hW) a1
  have e0 : (eCall m_numbers_in (aCons (eVar 1) (aCons (eLst (aCons (eC (.int (m1 : Nat))) (aCons (eC (.int (m2 : Nat))) (aCons (eC (.int (m3 : Nat))) aNil)))) aNil))) [some (.str (joinS ws)), some (.ref W), none] M = m_numbers_in [.ref W, .ref M.length] (M ++ [.lst [.int (m1 : Nat), .int (m2 : Nat), .int (m3 : Nat)]]) := by simp
  rw [e0]
  generalize M ++ [MO.lst [D.int (m1 : Nat), .int (m2 : Nat), .int (m3 : Nat)]] = M1 at *
  cases q : numsR ws m1 m2 m3 with
  | ok a b c =>
    rw [q] at nn
    obtain ⟨M', e, k, l⟩ := nn
    exact ⟨M', e, k1.trans k, l⟩
  | bad s =>
    rw [q] at nn
    obtain ⟨M', e, k⟩ := nn
    exact ⟨M', e, k1.trans k⟩
theorem read_game_all {ws : List Str} {M : Mem} (h : WsOk ws) :
    match gameR ws with
    | .ok g => ∃ M', m_read_game [.str (joinS ws)] M = .ok g.toD M' ∧ Keep M M'
    | .bad s => Throws (m_read_game [.str (joinS ws)] M) M (badW s) := by
  have sp : mSplit (.str (joinS ws)) [.str (Str.ofString " ")] M = some (.ref M.length, M ++ [.lst (ws.map D.str)]) := CW.split_ok h.ne h.free (by have := h.sum; omega) (by have := h.few; omega)
  have k1 := Keep.more M [MO.lst (ws.map D.str)]
  have hW := at_len M (MO.lst (ws.map D.str))
  have few := h.few
  obtain ⟨T, hT⟩ : ∃ T, T = joinS ws := ⟨_, rfl⟩
  have nd := fun m1 m2 m3 => numbers_for (m1 := m1) (m2 := m2) (m3 := m3) h hW
  rw [← hT] at sp nd ⊢
  have ri := rally_in_all h hW
  have ln := len_at (seqAt_lst hW) (by omega)
  have e0 : ∀ o, endS ((sSeq (sIf (TL.tB (eBin mEq (eBin mIdx (eVar 1) (eC (.int 0))) (eC (.str "rally")))) (sRet (eTup (aCons (eC (.str "rally")) (aCons (eCall m_rally_in (aCons (eVar 1) aNil)) aNil)))) sNil)
    (sSeq (sIf (TL.tB (eBin mEq (eBin mIdx (eVar 1) (eC (.int 0))) (eC (.str "down")))) (sRet (eTup (aCons (eC (.str "down")) (aCons (eBin mAdd (eCall m_numbers_in (aCons (eVar 1) (aCons (eLst (aCons (eC (.int 3)) (aCons (eC (.int 1000000)) (aCons (eC (.int 3)) aNil)))) aNil))) (eTup (aCons (eCall m_throws_in (aCons (eVar 1) aNil)) aNil))) aNil)))) sNil)
    (sSeq (sIf (TL.tB (eBin mNe (eBin mIdx (eVar 1) (eC (.int 0))) (eC (.str "lane")))) (sRaiseI "BadWord" (eC (.int 0))) sNil)
    (sSeq (sAsg (gOne 2) (eCall m_numbers_in (aCons (eVar 1) (aCons (eLst (aCons (eC (.int 3)) (aCons (eC (.int 20)) (aCons (eC (.int 12)) aNil)))) aNil))))
    (sSeq (sIf (TL.tB (eBin mGt (eCallO nLen (aCons (eVar 1) aNil)) (eC (.int 4)))) (sRaiseI "BadWord" (eC (.int 4))) sNil)
    (sRet (eTup (aCons (eC (.str "lane")) (aCons (eVar 2) aNil)))))))))
 [some (.str T), some (.ref M.length), none] (M ++ [.lst (ws.map D.str)])) = o → m_read_game [.str T] M = o := fun o ho => by
    show endS (b_read_game [some (.str T), none, none] M) = o
    unfold b_read_game
    rw [TLP.asg (v := .ref M.length) (M' := M ++ [.lst (ws.map D.str)]) (by simp [-mSplit_str, sp])]
    exact ho
  clear sp hT
  generalize M ++ [MO.lst (ws.map D.str)] = M1 at *
  generalize M.length = W at *
  cases ws with
  | nil => exact absurd rfl h.ne
  | cons w r =>
    have ix := game_first hW
    have q1 : mEq (.str w) (.str (Str.ofString "rally")) M1 = some (.bl (decide (w = Str.ofString "rally")), M1) := mEq_text
    have q2 : mEq (.str w) (.str (Str.ofString "down")) M1 = some (.bl (decide (w = Str.ofString "down")), M1) := mEq_text
    have q3 : mNe (.str w) (.str (Str.ofString "lane")) M1 = some (.bl (!decide (w = Str.ofString "lane")), M1) := mNe_text
    unfold gameR
    dsimp only
    by_cases c1 : w = Str.ofString "rally"
    · rw [if_pos c1]
      rw [decide_eq_true c1] at q1
      have st : ∀ {rest : MS} {a : MS}, (sSeq (sIf (TL.tB (eBin mEq (eBin mIdx (eVar 1) (eC (.int 0))) (eC (.str "rally")))) a sNil) rest) [some (.str T), some (.ref W), none] M1 = (sSeq a rest) [some (.str T), some (.ref W), none] M1 := TLP.ifT (by simp [-mIdx_ref, ix, q1])
      have ri' : match readR (ruleWs r) with
        | .ok q _ _ => ∃ M', m_rally_in [.ref W] M1 = .ok q.toD M' ∧ Keep M1 M'
        | .bad s => Throws (m_rally_in [.ref W] M1) M1 (badW (s + 1)) := ri
      cases q : readR (ruleWs r) with
      | ok ru a m =>
        rw [q] at ri'
        obtain ⟨M2, e, k⟩ := ri'
        refine ⟨M2, e0 _ ?_, k1.trans k⟩
        rw [st, TLP.ret1 (v := (Gm.rally ru).toD) (M' := M2) (by simp [e, Gm.toD])]
        rfl
      | bad s =>
        rw [q] at ri'
        obtain ⟨M2, e, k⟩ := ri'
        refine ⟨M2, e0 _ ?_, k1.trans k⟩
        rw [st, TLP.anyX (x := badW (s + 1)) (env' := [some (.str T), some (.ref W), none]) (M' := M2) (TLP.retX (by simp [e]))]
        rfl
    · rw [if_neg c1]
      rw [decide_eq_false c1] at q1
      have st1 : ∀ {rest : MS} {a : MS}, (sSeq (sIf (TL.tB (eBin mEq (eBin mIdx (eVar 1) (eC (.int 0))) (eC (.str "rally")))) a sNil) rest) [some (.str T), some (.ref W), none] M1 = rest [some (.str T), some (.ref W), none] M1 := TLP.ifN (by simp [-mIdx_ref, ix, q1])
      by_cases c2 : w = Str.ofString "down"
      · rw [if_pos c2]
        rw [decide_eq_true c2] at q2
        have st2 : ∀ {rest : MS} {a : MS}, (sSeq (sIf (TL.tB (eBin mEq (eBin mIdx (eVar 1) (eC (.int 0))) (eC (.str "down")))) a sNil) rest) [some (.str T), some (.ref W), none] M1 = (sSeq a rest) [some (.str T), some (.ref W), none] M1 := TLP.ifT (by simp [-mIdx_ref, ix, q2])
        have n3 := nd 3 1000000 3
        cases q : numsR (w :: r) 3 1000000 3 with
        | bad s =>
          rw [q] at n3
          obtain ⟨M2, e, k⟩ := n3
          refine ⟨M2, e0 _ ?_, k1.trans k⟩
          have e' : (eCall m_numbers_in (aCons (eVar 1) (aCons (eLst (aCons (eC (.int 3)) (aCons (eC (.int 1000000)) (aCons (eC (.int 3)) aNil)))) aNil))) [some (.str T), some (.ref W), none] M1 = .exc (badW s) M2 := e
          generalize (eCall m_numbers_in (aCons (eVar 1) (aCons (eLst (aCons (eC (.int 3)) (aCons (eC (.int 1000000)) (aCons (eC (.int 3)) aNil)))) aNil))) = en at *
          rw [st1, st2, TLP.anyX (x := badW s) (env' := [some (.str T), some (.ref W), none]) (M' := M2) (TLP.retX (by simp [e']))]
          rfl
        | ok a b c =>
          rw [q] at n3
          obtain ⟨M2, e, k, l4⟩ := n3
          have e' : (eCall m_numbers_in (aCons (eVar 1) (aCons (eLst (aCons (eC (.int 3)) (aCons (eC (.int 1000000)) (aCons (eC (.int 3)) aNil)))) aNil))) [some (.str T), some (.ref W), none] M1 = .ok (.tup [.int (a : Nat), .int (b : Nat), .int (c : Nat)]) M2 := e
          generalize (eCall m_numbers_in (aCons (eVar 1) (aCons (eLst (aCons (eC (.int 3)) (aCons (eC (.int 1000000)) (aCons (eC (.int 3)) aNil)))) aNil))) = en at *
          have th := throws_all h.len (by omega) l4 (k.at hW)
          have th' : match thrR (r.drop 3) 4 [] with
            | .ok ts => if ts = [] then Throws (m_throws_in [.ref W] M2) M2 (badW 4) else ∃ M', m_throws_in [.ref W] M2 = .ok (.tup (ts.map Thr.toD)) M' ∧ Keep M2 M' ∧ ts.length ≤ 30
            | .bad s => Throws (m_throws_in [.ref W] M2) M2 (badW s) := th
          have ff : ∀ s, Throws (m_throws_in [.ref W] M2) M2 (badW s) → Throws (m_read_game [.str T] M) M (badW s) := fun s ⟨M3, e3, k3⟩ => by
            refine ⟨M3, e0 _ ?_, (k1.trans k).trans k3⟩
            rw [st1, st2, TLP.anyX (x := badW s) (env' := [some (.str T), some (.ref W), none]) (M' := M3) (TLP.retX (by simp [e', e3]))]
            rfl
          simp only
          cases q4 : thrR (r.drop 3) 4 [] with
          | bad s => rw [q4] at th'; exact ff s th'
          | ok ts =>
            rw [q4] at th'
            simp only at th' ⊢
            by_cases c5 : ts = []
            · rw [if_pos c5] at th' ⊢
              exact ff 4 th'
            · rw [if_neg c5] at th' ⊢
              obtain ⟨M3, e3, k3, _⟩ := th'
              refine ⟨M3, e0 _ ?_, (k1.trans k).trans k3⟩
              rw [st1, st2, TLP.ret1 (v := (Gm.down ⟨a, b, c, ts⟩).toD) (M' := M3) (by simp [e', e3, Gm.toD, Down.toD])]
              rfl
      · rw [if_neg c2]
        rw [decide_eq_false c2] at q2
        have st2 : ∀ {rest : MS} {a : MS}, (sSeq (sIf (TL.tB (eBin mEq (eBin mIdx (eVar 1) (eC (.int 0))) (eC (.str "down")))) a sNil) rest) [some (.str T), some (.ref W), none] M1 = rest [some (.str T), some (.ref W), none] M1 := TLP.ifN (by simp [-mIdx_ref, ix, q2])
        by_cases c3 : w = Str.ofString "lane"
        · rw [if_pos c3]
          rw [decide_eq_true c3] at q3
          have q3' : mNe (.str w) (.str (Str.ofString "lane")) M1 = some (.bl false, M1) := q3
          have st3 : ∀ {rest : MS} {a : MS}, (sSeq (sIf (TL.tB (eBin mNe (eBin mIdx (eVar 1) (eC (.int 0))) (eC (.str "lane")))) a sNil) rest) [some (.str T), some (.ref W), none] M1 = rest [some (.str T), some (.ref W), none] M1 := TLP.ifN (by simp [-mIdx_ref, ix, q3'])
          have n3 := nd 3 20 12
          cases q : numsR (w :: r) 3 20 12 with
          | bad s =>
            rw [q] at n3
            obtain ⟨M2, e, k⟩ := n3
            refine ⟨M2, e0 _ ?_, k1.trans k⟩
            have e' : (eCall m_numbers_in (aCons (eVar 1) (aCons (eLst (aCons (eC (.int 3)) (aCons (eC (.int 20)) (aCons (eC (.int 12)) aNil)))) aNil))) [some (.str T), some (.ref W), none] M1 = .exc (badW s) M2 := e
            rw [st1, st2, st3, TLP.asgX (x := badW s) (M' := M2) e']
            rfl
          | ok a b c =>
            rw [q] at n3
            obtain ⟨M2, e, k, l4⟩ := n3
            have e' : (eCall m_numbers_in (aCons (eVar 1) (aCons (eLst (aCons (eC (.int 3)) (aCons (eC (.int 20)) (aCons (eC (.int 12)) aNil)))) aNil))) [some (.str T), some (.ref W), none] M1 = .ok (.tup [.int (a : Nat), .int (b : Nat), .int (c : Nat)]) M2 := e
            have ln2 := len_at (seqAt_lst (k.at hW)) (by omega)
            simp only
            by_cases c5 : 3 < r.length
            · rw [if_pos c5]
              refine ⟨M2, e0 _ ?_, k1.trans k⟩
              have c6 : (4 : Int) < ((w :: r).length : Nat) := by rw [List.length_cons]; omega
              rw [st1, st2, st3, TLP.asg e']
              simp only [List.set]
              generalize ((w :: r).length : Nat) = n at *
              rw [TLP.ifT (M' := M2) (by simp [-nLen_ref, ln2, c6]), TLP.anyX (x := badW 4) (env' := [some (.str T), some (.ref W), some (.tup [.int (a : Nat), .int (b : Nat), .int (c : Nat)])]) (M' := M2) (sRaiseI_ap rfl)]
              rfl
            · rw [if_neg c5]
              refine ⟨M2, e0 _ ?_, k1.trans k⟩
              have c6 : ¬ (4 : Int) < ((w :: r).length : Nat) := by rw [List.length_cons]; omega
              rw [st1, st2, st3, TLP.asg e']
              simp only [List.set]
              generalize ((w :: r).length : Nat) = n at *
              rw [TLP.ifN (M' := M2) (by simp [-nLen_ref, ln2, c6]), TLP.ret (v := (Gm.lane a b c).toD) (M' := M2) (by simp [Gm.toD, laneD])]
              rfl
        · rw [if_neg c3]
          rw [decide_eq_false c3] at q3
          have q3' : mNe (.str w) (.str (Str.ofString "lane")) M1 = some (.bl true, M1) := q3
          refine ⟨M1, e0 _ ?_, k1⟩
          rw [st1, st2, TLP.ifT (M' := M1) (by simp [-mIdx_ref, ix, q3']), TLP.anyX (x := badW 0) (env' := [some (.str T), some (.ref W), none]) (M' := M1) (sRaiseI_ap rfl)]
          rfl
end CGW
end
section
set_option maxHeartbeats 4000000
namespace CGW
open PySem PySem.Spec PyProof.Rows L2 TL
open CM hiding b_l_unit m_l_unit g_l_unit b_l_rule m_l_rule b_l_any_rule m_l_any_rule any_rule rule_step rule_ok unit_ok
open CG
open CW hiding b_Reader_count b_Reader_is_dash b_Reader_last b_Reader_rule b_Reader_word b_read_rule g_Reader_rule m_Reader_count m_Reader_is_dash m_Reader_last m_Reader_rule m_Reader_word m_read_rule
open CWR
open RL TLQ RD
theorem num1_inv {ws : List Str} {a most n : Nat} (h : num1 ws a most = some n) : ws[a]? = some (nW (n : Nat)) ∧ 1 ≤ n ∧ n ≤ most := by
  unfold num1 at h
  cases q : ws[a]? with
  | none => rw [q] at h; cases h
  | some x =>
    rw [q] at h
    simp only at h
    cases q2 : wM x most with
    | none => rw [q2] at h; cases h
    | some k =>
      rw [q2] at h
      cases k with
      | zero => cases h
      | succ k =>
        cases h
        unfold wM at q2
        cases q3 : wN x with
        | none => rw [q3] at q2; cases q2
        | some j =>
          rw [q3] at q2
          simp only at q2
          split at q2
          · cases q2
            exact ⟨by rw [(wN_nW q3).1], by omega, by assumption⟩
          · cases q2
theorem nums_inv {ws : List Str} {m1 m2 m3 a b c : Nat} (h : numsR ws m1 m2 m3 = .ok a b c) : (ws[1]? = some (nW (a : Nat)) ∧ 1 ≤ a ∧ a ≤ m1) ∧ (ws[2]? = some (nW (b : Nat)) ∧ 1 ≤ b ∧ b ≤ m2) ∧ ws[3]? = some (nW (c : Nat)) ∧ 1 ≤ c ∧ c ≤ m3 := by
  unfold numsR at h
  cases q1 : num1 ws 1 m1 with
  | none => rw [q1] at h; cases h
  | some x =>
    rw [q1] at h
    simp only at h
    cases q2 : num1 ws 2 m2 with
    | none => rw [q2] at h; cases h
    | some y =>
      rw [q2] at h
      simp only at h
      cases q3 : num1 ws 3 m3 with
      | none => rw [q3] at h; cases h
      | some z =>
        rw [q3] at h
        cases h
        exact ⟨num1_inv q1, num1_inv q2, num1_inv q3⟩
theorem four {w x y z : Str} {r : List Str} (h1 : (w :: r)[1]? = some x) (h2 : (w :: r)[2]? = some y) (h3 : (w :: r)[3]? = some z) : r = x :: y :: z :: r.drop 3 := by
  rcases r with _ | ⟨a, _ | ⟨b, _ | ⟨c, r⟩⟩⟩ <;> simp at h1 h2 h3
  subst h1 h2 h3
  rfl
theorem gameR_words {ws : List Str} {g : Gm} (h : gameR ws = .ok g) : gw g = ws ∧ Gx g := by
  cases ws with
  | nil => cases h
  | cons w r =>
    unfold gameR at h
    dsimp only at h
    by_cases c1 : w = Str.ofString "rally"
    · rw [if_pos c1] at h
      cases q : readR (ruleWs r) with
      | bad s => rw [q] at h; cases h
      | ok ru a m =>
        rw [q] at h
        cases h
        obtain ⟨e, g1, g2, g3⟩ := readR_words q
        refine ⟨?_, g1, g2, g3⟩
        unfold ruleWs at e
        by_cases c : r = []
        · exfalso
          rw [if_pos c] at e
          cases ru with
          | point => exact absurd (List.cons.inj e).1 (by decide +kernel)
          | unit => exact absurd (List.cons.inj e).1 (by decide +kernel)
          | unitL => exact absurd (List.cons.inj e).1 (by decide +kernel)
        · rw [if_neg c] at e
          show Str.ofString "rally" :: rw ru = _
          rw [← e, c1]
    · rw [if_neg c1] at h
      by_cases c2 : w = Str.ofString "down"
      · rw [if_pos c2] at h
        cases q : numsR (w :: r) 3 1000000 3 with
        | bad s => rw [q] at h; cases h
        | ok a b c =>
          rw [q] at h
          dsimp only at h
          obtain ⟨⟨e1, a0, a1⟩, ⟨e2, b0, b1⟩, e3, c0, c1⟩ := nums_inv q
          cases q2 : thrR (r.drop 3) 4 [] with
          | bad s => rw [q2] at h; cases h
          | ok ts =>
            rw [q2] at h
            dsimp only at h
            by_cases ct : ts = []
            · rw [if_pos ct] at h; cases h
            · rw [if_neg ct] at h
              cases h
              obtain ⟨more, f1, f2, f3, f4, f5⟩ := thrR_words q2 (by simp) (by simp) (by simp)
              rw [List.nil_append] at f1
              subst f1
              refine ⟨?_, a0, a1, by show (1 : Int) ≤ (b : Nat); omega, by show ((b : Nat) : Int) ≤ 1000000; omega, c0, c1, by show 1 ≤ ts.length; have := List.length_pos_iff.mpr ct; omega, f5, ⟨f3, fun t ht => (f4 t ht).nm, fun t ht => ⟨(f4 t ht).w0, (f4 t ht).w1⟩⟩⟩
              show Str.ofString "down" :: nW (a : Nat) :: nW (b : Nat) :: nW (c : Nat) :: ts.map tw = _
              rw [← f2, c2, ← four e1 e2 e3]
      · rw [if_neg c2] at h
        by_cases c3 : w = Str.ofString "lane"
        · rw [if_pos c3] at h
          cases q : numsR (w :: r) 3 20 12 with
          | bad s => rw [q] at h; cases h
          | ok a b c =>
            rw [q] at h
            dsimp only at h
            obtain ⟨⟨e1, a0, a1⟩, ⟨e2, b0, b1⟩, e3, c0, c1⟩ := nums_inv q
            by_cases c4 : 3 < r.length
            · rw [if_pos c4] at h; cases h
            · rw [if_neg c4] at h
              cases h
              refine ⟨?_, a0, a1, by omega, by omega, c0, c1⟩
              show [Str.ofString "lane", nW (a : Nat), nW (b : Nat), nW (c : Nat)] = _
              have f := four e1 e2 e3
              rw [List.drop_eq_nil_of_le (by omega)] at f
              rw [f, c3]
        · rw [if_neg c3] at h; cases h
theorem gameR_rally (r : List Str) : gameR (Str.ofString "rally" :: r) = (match readR (ruleWs r) with
      | .ok q _ _ => GR.ok (.rally q)
      | .bad s => GR.bad (s + 1)) := by
  unfold gameR
  dsimp only
  (rw [if_pos rfl]) <;> rfl
theorem gameR_down (r : List Str) : gameR (Str.ofString "down" :: r) = (match numsR (Str.ofString "down" :: r) 3 1000000 3 with
      | .bad s => GR.bad s
      | .ok a b c => match thrR (r.drop 3) 4 [] with
        | .bad s => GR.bad s
        | .ok ts => if ts = [] then GR.bad 4 else GR.ok (.down ⟨a, b, c, ts⟩)) := by
  have ne1 : ¬ Str.ofString "down" = Str.ofString "rally" := by decide +kernel
  unfold gameR
  dsimp only
  (rw [if_neg ne1, if_pos rfl]) <;> rfl
theorem gameR_lane (r : List Str) : gameR (Str.ofString "lane" :: r) = (match numsR (Str.ofString "lane" :: r) 3 20 12 with
      | .bad s => GR.bad s
      | .ok a b c => if 3 < r.length then GR.bad 4 else GR.ok (.lane a b c)) := by
  have ne1 : ¬ Str.ofString "lane" = Str.ofString "rally" := by decide +kernel
  have ne2 : ¬ Str.ofString "lane" = Str.ofString "down" := by decide +kernel
  unfold gameR
  dsimp only
  (rw [if_neg ne1, if_neg ne2, if_pos rfl]) <;> rfl
end CGW
end
section
set_option maxHeartbeats 4000000
namespace LW
open PySem PySem.Spec PyProof.Rows L2 TL
open CM hiding b_l_unit m_l_unit g_l_unit b_l_rule m_l_rule b_l_any_rule m_l_any_rule any_rule rule_step rule_ok unit_ok
open CG
open CW hiding b_Reader_count b_Reader_is_dash b_Reader_last b_Reader_rule b_Reader_word b_read_rule g_Reader_rule m_Reader_count m_Reader_is_dash m_Reader_last m_Reader_rule m_Reader_word m_read_rule
open CWR
open CGW
open RL TLQ RD
theorem find_fig (c : Nat) : decide (0 ≤ Txt.find (Str.ofString "0123456789") ⟨#[c]⟩) = figure c := by
  have : ∀ (x : Str) (c : Nat), decide (0 ≤ Txt.find x ⟨#[c]⟩) = decide (c ∈ x.cps.toList) := fun x c => by
    rw [← PySem.StrLaws.found_one]
    unfold Txt.find
    cases Builtin.Str.occurrences x ⟨#[c]⟩ 0 x.length 1 with
    | nil => rfl
    | cons k ks => simp
  rw [this]
  exact figs_mem
theorem minI_all (ns : List Int) (h : ns ≠ []) : decide (0 ≤ minI ns) = ns.all (fun i => decide (0 ≤ i)) := by
  obtain ⟨h1, h2⟩ := minI_mem h
  rw [Bool.eq_iff_iff, List.all_eq_true, decide_eq_true_iff]
  exact ⟨fun h a ha => decide_eq_true (Int.le_trans h (h2 a ha)), fun h => of_decide_eq_true (h _ h1)⟩
theorem l_number_all {x : Str} (hl : x.length ≤ 1000) {most : Nat} (M : Mem) : Ret (m_l_number [.str x, .int (most : Nat)] M) (TL.Gives M (oD (wM x most))) := by
  show Ret (endS (b_l_number [some (.str x), some (.int (most : Nat)), none] M)) _
  unfold b_l_number
  have ln := lenS x
  have sz : x.length ≤ 16777216 := by omega
  have e0 := empty_iff (x := x) M
  have wm : wN x = none → wM x most = none := fun h => by unfold wM; rw [h]
  have non : ∀ {t : MT} {rest : MS} {M1 : Mem}, Keep M M1 → wM x most = none → t [some (.str x), some (.int (most : Nat)), none] M = .ok true M1 → Ret (endS ((sSeq (sIf t (sRet (eC .non)) sNil) rest) [some (.str x), some (.int (most : Nat)), none] M)) (TL.Gives M (oD (wM x most))) := fun {t rest M1} k hn ht => by
    rw [TLP.ifT ht, TLP.ret1 (v := .non) (M' := M1) rfl, hn]
    exact .ok ⟨rfl, k⟩
  cases q : tlS x with
  | nil =>
    rw [q] at e0
    exact non (M1 := M) (Keep.refl _) (wm (by unfold wN; rw [q]; simp)) (by simp at e0; simp [e0])
  | cons a r =>
    rw [q] at e0 ln
    have e0' : mEq (.str x) (.str (Str.ofString "")) M = some (.bl false, M) := e0
    rw [List.length_cons] at ln
    have c := comp_signs (x := x) (i := 2) (j := 0) (env := [some (.str x), some (.int (most : Nat)), none]) (M := M) (e := eMeth "str" mFind (eC (.str "0123456789")) (aCons (eVar 2) aNil)) (fun c => .int (Txt.find (Str.ofString "0123456789") ⟨#[c]⟩)) hl rfl (fun c M' => by simp)
    have mm : (tlS x).map (fun c => D.int (Txt.find (Str.ofString "0123456789") ⟨#[c]⟩)) = ((tlS x).map fun c => Txt.find (Str.ofString "0123456789") ⟨#[c]⟩).map D.int := by rw [List.map_map]; rfl
    rw [mm, q] at c
    have na := nMin_ints (seqAt_lst (at_len M (MO.lst (((a :: r).map fun c => Txt.find (Str.ofString "0123456789") ⟨#[c]⟩).map D.int)))) (by simp)
    have nb := minI_all ((a :: r).map fun c => Txt.find (Str.ofString "0123456789") ⟨#[c]⟩) (by simp)
    have nc : ((a :: r).map fun c => Txt.find (Str.ofString "0123456789") ⟨#[c]⟩).all (fun i => decide (0 ≤ i)) = (a :: r).all figure := by
      rw [List.all_map]
      exact congrArg (List.all _) (funext fun c => find_fig c)
    rw [nc] at nb
    generalize minI ((a :: r).map fun c => Txt.find (Str.ofString "0123456789") ⟨#[c]⟩) = mi at *
    have k1 := Keep.more M [MO.lst (((a :: r).map fun c => Txt.find (Str.ofString "0123456789") ⟨#[c]⟩).map D.int)]
    generalize ((a :: r).map fun c => Txt.find (Str.ofString "0123456789") ⟨#[c]⟩).map D.int = bs at *
    generalize hee : eComp 2 (iAny (eVar 0)) tYesD (eMeth "str" mFind (eC (.str "0123456789")) (aCons (eVar 2) aNil)) = ee at *
    clear mm hee
    have i0 := mIdx0 q (by omega) (M ++ [.lst bs])
    have z0 := zero_eq (c := a) (M ++ [.lst bs])
    cases fa : (a :: r).all figure with
    | false =>
      rw [fa] at nb
      have nb' : mi < 0 := by have := of_decide_eq_false nb; omega
      exact non k1 (wm (by unfold wN figs; rw [q, fa]; simp)) (by simp [e0', c, na, nb'])
    | true =>
      rw [fa] at nb
      have nb' : ¬ mi < 0 := by have := of_decide_eq_true nb; omega
      by_cases z : a = 48 ∧ r ≠ []
      · obtain ⟨rfl, hr⟩ := z
        have l1 : (1 : Int) < (x.length : Nat) := by
          have := List.length_pos_iff.mpr hr
          omega
        exact non k1 (wm (by unfold wN figs; rw [q]; cases r with | nil => exact absurd rfl hr | cons b r => simp)) (by simp at z0; simp [e0', c, na, nb', sz, l1, i0, z0])
      have hh : ((a :: r).head? != some 48 || (a :: r) == [48]) = true := by
        by_cases z1 : a = 48
        · have hr : r = [] := Classical.byContradiction fun h => z ⟨z1, h⟩
          subst hr z1
          rfl
        · simp [z1]
      rw [TLP.ifN (M' := M ++ [.lst bs]) (by
        by_cases z1 : a = 48
        · have hr : r = [] := Classical.byContradiction fun h => z ⟨z1, h⟩
          subst hr
          have l1 : x.length ≤ 1 := by simp at ln; omega
          have l1' : ¬ (1 : Int) < (x.length : Nat) := by omega
          simp [e0', c, na, nb', sz, l1']
        · simp [z1] at z0
          simp [e0', c, na, nb', sz, i0, z0])]
      have fin : wN x = (if 7 < x.length then none else some (val (a :: r))) := by
        unfold wN figs
        rw [q, fa, hh]
        by_cases l7 : 7 < x.length
        · rw [if_pos l7, if_neg (by rw [List.length_cons]; omega)]
        · rw [if_neg l7, if_pos ⟨by simp, by rw [List.length_cons]; omega, rfl⟩]
      by_cases l7 : 7 < x.length
      · have l7' : (7 : Int) < (x.length : Nat) := by omega
        rw [if_pos l7] at fin
        rw [TLP.ifT (M' := M ++ [.lst bs]) (by simp [sz, l7']), TLP.ret1 (v := .non) (M' := M ++ [.lst bs]) rfl, wm fin]
        exact .ok ⟨rfl, k1⟩
      · have l7' : ¬ (7 : Int) < (x.length : Nat) := by omega
        rw [if_neg l7] at fin
        have is := intS fin (M ++ [.lst bs])
        by_cases lm : val (a :: r) ≤ most
        · have lm' : ¬ (most : Int) < (val (a :: r) : Nat) := by omega
          rw [TLP.ifN (M' := M ++ [.lst bs]) (by simp [sz, l7', is]; omega), TLP.ret (v := .int (val (a :: r) : Nat)) (M' := M ++ [.lst bs]) (by simp [is])]
          unfold wM
          rw [fin]
          simp only [lm, if_true]
          exact .ok ⟨rfl, k1⟩
        · have lm' : (most : Int) < (val (a :: r) : Nat) := by omega
          rw [TLP.ifT (M' := M ++ [.lst bs]) (by simp [sz, l7', is]; omega), TLP.ret1 (v := .non) (M' := M ++ [.lst bs]) rfl]
          unfold wM
          rw [fin]
          simp only [lm, if_false]
          exact .ok ⟨rfl, k1⟩
end LW
end
section
set_option maxHeartbeats 4000000
namespace LW
open PySem PySem.Spec PyProof.Rows L2 TL
open CM hiding b_l_unit m_l_unit g_l_unit b_l_rule m_l_rule b_l_any_rule m_l_any_rule any_rule rule_step rule_ok unit_ok
open CG
open CW hiding b_Reader_count b_Reader_is_dash b_Reader_last b_Reader_rule b_Reader_word b_read_rule g_Reader_rule m_Reader_count m_Reader_is_dash m_Reader_last m_Reader_rule m_Reader_word m_read_rule
open CWR
open CGW
open RL TLQ RD
theorem find_one (x : Str) (c : Nat) : decide (0 ≤ Txt.find x ⟨#[c]⟩) = decide (c ∈ x.cps.toList) := by
  rw [← PySem.StrLaws.found_one]
  unfold Txt.find
  cases Builtin.Str.occurrences x ⟨#[c]⟩ 0 x.length 1 with
  | nil => rfl
  | cons k ks => simp
theorem find_letter (c : Nat) : decide (0 ≤ Txt.find (Str.ofString "abcdefghijklmnopqrstuvwxyz") ⟨#[c]⟩) = letter c := by
  rw [find_one]; exact letters_mem
theorem signs_all (c : Nat) : decide (c ∈ RD.signs) = sign c := by
  unfold RD.signs sign
  rw [← letters_mem, ← figs_mem, letters_tl, figs_tl, Bool.eq_iff_iff]
  simp only [decide_eq_true_iff, List.mem_append, Bool.or_eq_true]
theorem find_sign (c : Nat) : decide (0 ≤ Txt.find (Str.ofString "abcdefghijklmnopqrstuvwxyz" ++ Str.ofString "0123456789") ⟨#[c]⟩) = sign c := by
  rw [find_one, ← signs_all, ← signs_tl]; rfl
/-- .. and by the law -/
theorem throw_name_all {x : Str} (hl : x.length ≤ 1000) (M : Mem) : Ret (m_l_throw_name [.str x] M) (TL.Gives M (match tN x with | some t => .str t.name | none => .non)) := by
  show Ret (endS (b_l_throw_name [some (.str x), none, none, none, none, none] M)) _
  unfold b_l_throw_name
  have pa := part_ok hl M
  have pl := part_len x
  have pc := part_cases x
  rw [TLP.asg (v := .str (Str.ofString "abcdefghijklmnopqrstuvwxyz")) (M' := M) (by rfl)]
  simp only [List.set]
  unfold tN
  have sg0 : (Txt.partition x (Str.ofString ":")).2.1 = Str.ofString "" → (Txt.partition x (Str.ofString ":")).2.2 = Str.ofString "" := fun h => by
    rcases pc with ⟨n, r, _, _, q⟩ | q
    · rw [q] at h
      have h' : Str.ofString ":" = Str.ofString "" := h
      exact absurd h' (by decide +kernel)
    · rw [q]
  have sg1 : (Txt.partition x (Str.ofString ":")).2.1 = Str.ofString "" ∨ (Txt.partition x (Str.ofString ":")).2.1 = Str.ofString ":" := by
    rcases pc with ⟨n, r, _, _, q⟩ | q
    · rw [q]; exact .inr rfl
    · rw [q]; exact .inl rfl
  clear pc
  generalize (Txt.partition x (Str.ofString ":")).1 = n at *
  generalize (Txt.partition x (Str.ofString ":")).2.1 = sg at *
  generalize (Txt.partition x (Str.ofString ":")).2.2 = r at *
  rw [TLP.asgG (v := .tup [.str n, .str sg, .str r]) (env' := [some (.str x), some (.str (Str.ofString "abcdefghijklmnopqrstuvwxyz")), some (.str n), some (.str sg), some (.str r), none]) (M' := M) (by simp [-mPartition_str, pa]) rfl]
  have ln := lenS n
  have sz : n.length ≤ 16777216 := by omega
  have non : ∀ {t : MT} {rest : MS} {env : TL.Env} {M0 M1 : Mem}, Keep M M1 → (match (match wM (restC r).2 1000000 with | some w => if nameB n = true then some (⟨n, (w : Int), (restC r).1⟩ : Thr) else none | none => none) with | some t => D.str t.name | none => .non) = .non → t env M0 = .ok true M1 → Ret (endS ((sSeq (sIf t (sRet (eC .non)) sNil) rest) env M0)) (TL.Gives M (match (match wM (restC r).2 1000000 with | some w => if nameB n = true then some (⟨n, (w : Int), (restC r).1⟩ : Thr) else none | none => none) with | some t => D.str t.name | none => .non)) := fun {t rest env M0 M1} k hn ht => by
    rw [TLP.ifT ht, TLP.ret1 (v := .non) (M' := M1) rfl, hn]
    exact .ok ⟨rfl, k⟩
  have bad : nameB n = false → (match (match wM (restC r).2 1000000 with | some w => if nameB n = true then some (⟨n, (w : Int), (restC r).1⟩ : Thr) else none | none => none) with | some t => D.str t.name | none => .non) = .non := fun h => by
    rw [h]
    cases wM (restC r).2 1000000 <;> rfl
  cases q : tlS n with
  | nil =>
    rw [q] at ln
    have l0 : n.length = 0 := ln
    exact non (M1 := M) (Keep.refl _) (bad (by unfold nameB nameL; rw [show n.cps.toList = _ from q]; rfl)) (by simp [l0])
  | cons c tl =>
    rw [q, List.length_cons] at ln
    by_cases l8 : 8 < n.length
    · have l8' : ¬ ((n.length : Nat) : Int) ≤ 8 := by omega
      exact non (M1 := M) (Keep.refl _) (bad (by
        unfold nameB nameL
        rw [show n.cps.toList = _ from q]
        have : ¬ (c :: tl).length ≤ 8 := by rw [List.length_cons]; omega
        simp only [decide_eq_false this, Bool.false_and, Bool.and_false])) (by simp [sz, l8'])
    have l8' : ((n.length : Nat) : Int) ≤ 8 := by omega
    have l1' : (1 : Int) ≤ ((n.length : Nat) : Int) := by omega
    have i0 := str_at0 q (by omega) M
    have fl := find_letter c
    have l1 : 1 ≤ n.length := by omega
    cases hc : letter c with
    | false =>
      rw [hc] at fl
      have fl' := of_decide_eq_false fl
      exact non (M1 := M) (Keep.refl _) (bad (by unfold nameB nameL; rw [show n.cps.toList = _ from q]; simp [hc])) (by simp [sz, l8', l1', i0, fl'])
    | true =>
      rw [hc] at fl
      have fl' := of_decide_eq_true fl
      have fl2 : ¬ Txt.find (Str.ofString "abcdefghijklmnopqrstuvwxyz") ⟨#[c]⟩ < 0 := by omega
      have se := empty_iff (x := sg) M
      rcases sg1 with hs | hs
      · have r0 := sg0 hs
        refine non (M1 := M) (Keep.refl _) ?_ ?_
        · rw [r0]
          have : wM (restC (Str.ofString "")).2 1000000 = none := by decide +kernel
          rw [this]
        · rw [hs] at se ⊢
          have : (tlS (Str.ofString "")).isEmpty = true := by decide +kernel
          rw [this] at se
          simp [sz, l8', l1', i0, fl2, se]
      rw [TLP.ifN (M' := M) (by
        rw [hs] at se ⊢
        have : (tlS (Str.ofString ":")).isEmpty = false := by decide +kernel
        rw [this] at se
        simp [sz, l8', l1', i0, fl2, se])]
      have ea : ∀ M', mAdd (.str (Str.ofString "abcdefghijklmnopqrstuvwxyz")) (.str (Str.ofString "0123456789")) M' = some (.str (Str.ofString "abcdefghijklmnopqrstuvwxyz" ++ Str.ofString "0123456789"), M') := fun M' => by
        rw [mAdd_str, if_pos (by rw [sizeLine_eq]; decide +kernel)]
      have cm := comp_signs (x := n) (i := 5) (j := 2) (env := [some (.str x), some (.str (Str.ofString "abcdefghijklmnopqrstuvwxyz")), some (.str n), some (.str sg), some (.str r), none]) (M := M) (e := eMeth "str" mFind (eBin mAdd (eVar 1) (eC (.str "0123456789"))) (aCons (eVar 5) aNil)) (fun c => .int (Txt.find (Str.ofString "abcdefghijklmnopqrstuvwxyz" ++ Str.ofString "0123456789") ⟨#[c]⟩)) (by omega) rfl (fun c M' => by simp [-mAdd_str, ea])
      have mm : (tlS n).map (fun c => D.int (Txt.find (Str.ofString "abcdefghijklmnopqrstuvwxyz" ++ Str.ofString "0123456789") ⟨#[c]⟩)) = ((tlS n).map fun c => Txt.find (Str.ofString "abcdefghijklmnopqrstuvwxyz" ++ Str.ofString "0123456789") ⟨#[c]⟩).map D.int := by rw [List.map_map]; rfl
      rw [mm, q] at cm
      have na := nMin_ints (seqAt_lst (at_len M (MO.lst (((c :: tl).map fun c => Txt.find (Str.ofString "abcdefghijklmnopqrstuvwxyz" ++ Str.ofString "0123456789") ⟨#[c]⟩).map D.int)))) (by simp)
      have nb := minI_all ((c :: tl).map fun c => Txt.find (Str.ofString "abcdefghijklmnopqrstuvwxyz" ++ Str.ofString "0123456789") ⟨#[c]⟩) (by simp)
      have nc : ((c :: tl).map fun c => Txt.find (Str.ofString "abcdefghijklmnopqrstuvwxyz" ++ Str.ofString "0123456789") ⟨#[c]⟩).all (fun i => decide (0 ≤ i)) = (c :: tl).all sign := by
        rw [List.all_map]
        exact congrArg (List.all _) (funext fun c => find_sign c)
      rw [nc] at nb
      generalize minI ((c :: tl).map fun c => Txt.find (Str.ofString "abcdefghijklmnopqrstuvwxyz" ++ Str.ofString "0123456789") ⟨#[c]⟩) = mi at *
      have k1 := Keep.more M [MO.lst (((c :: tl).map fun c => Txt.find (Str.ofString "abcdefghijklmnopqrstuvwxyz" ++ Str.ofString "0123456789") ⟨#[c]⟩).map D.int)]
      generalize ((c :: tl).map fun c => Txt.find (Str.ofString "abcdefghijklmnopqrstuvwxyz" ++ Str.ofString "0123456789") ⟨#[c]⟩).map D.int = bs at *
      generalize hee : eComp 5 (iAny (eVar 2)) tYesD (eMeth "str" mFind (eBin mAdd (eVar 1) (eC (.str "0123456789"))) (aCons (eVar 5) aNil)) = ee at *
      clear mm hee
      have nbv : nameB n = (c :: tl).all sign := by
        unfold nameB nameL
        rw [show n.cps.toList = _ from q]
        have : (c :: tl).length ≤ 8 := by rw [List.length_cons]; omega
        simp only [hc, decide_eq_true this, Bool.true_and]
      cases fa : (c :: tl).all sign with
      | false =>
        rw [fa] at nb nbv
        have nb' : mi < 0 := by have := of_decide_eq_false nb; omega
        exact non k1 (bad nbv) (by simp [cm, na, nb'])
      | true =>
        rw [fa] at nb nbv
        have nb' : ¬ mi < 0 := by have := of_decide_eq_true nb; omega
        rw [TLP.ifN (M' := M ++ [.lst bs]) (by simp [cm, na, nb'])]
        generalize M ++ [MO.lst bs] = M1 at *
        obtain ⟨t, s1, s2, s3, s4⟩ := rest_at r (by omega) M1
        have rl := rest_len r
        have st : ∀ rest : MS, (sSeq (sIf (TL.tB (eBin mEq (eSl (eVar 4) (oSome (eUn mNeg (eC (.int 1)))) oNone) (eC (.str "!")))) (sAsg (gOne 4) (eSl (eVar 4) oNone (oSome (eUn mNeg (eC (.int 1)))))) sNil) rest) [some (.str x), some (.str (Str.ofString "abcdefghijklmnopqrstuvwxyz")), some (.str n), some (.str sg), some (.str r), none] M1 = rest [some (.str x), some (.str (Str.ofString "abcdefghijklmnopqrstuvwxyz")), some (.str n), some (.str sg), some (.str (restC r).2), none] M1 := fun rest => by
          cases q : (restC r).1 with
          | true => rw [q] at s2; rw [TLP.ifT (M' := M1) (by simp [s1, s2]), TLP.asg (v := .str (restC r).2) (M' := M1) (by simp [s3 q])]; rfl
          | false => rw [q] at s2; rw [TLP.ifN (M' := M1) (by simp [s1, s2]), s4 q]
        rw [st]
        obtain ⟨M2, e2, k2⟩ := gives_of (l_number_all (x := (restC r).2) (by omega) (most := 1000000) M1)
        have e2' : m_l_number [.str (restC r).2, .int 1000000] M1 = .ok (oD (wM (restC r).2 1000000)) M2 := e2
        have pw : ∀ M', mPow (.int 10) (.int 6) M' = some (.int 1000000, M') := fun M' => by simp
        cases hw : wM (restC r).2 1000000 with
        | none =>
          rw [hw] at e2' non
          rw [TLP.ifT (M' := M2) (by simp [-mPow_int, pw, e2', oD]), TLP.ret1 (v := .non) (M' := M2) rfl]
          exact .ok ⟨rfl, k1.trans k2⟩
        | some w =>
          rw [hw] at e2'
          rw [TLP.ifN (M' := M2) (by simp [-mPow_int, pw, e2', oD]), TLP.ret (v := .str n) (M' := M2) (by simp)]
          simp only [nbv, if_true]
          exact .ok ⟨rfl, k1.trans k2⟩
end LW
end
section
set_option maxHeartbeats 4000000
namespace LW
open PySem PySem.Spec PyProof.Rows L2 TL
open CM hiding b_l_unit m_l_unit g_l_unit b_l_rule m_l_rule b_l_any_rule m_l_any_rule any_rule rule_step rule_ok unit_ok
open CG
open CW hiding b_Reader_count b_Reader_is_dash b_Reader_last b_Reader_rule b_Reader_word b_read_rule g_Reader_rule m_Reader_count m_Reader_is_dash m_Reader_last m_Reader_rule m_Reader_word m_read_rule
open CWR
open CGW
open RL TLQ RD
/-- the number of a rule -/
theorem num99 {x : Str} : (∃ n, wM x 99 = some n ∧ n ≠ 0 ∧ numW x = some n) ∨ ((wM x 99 = none ∨ wM x 99 = some 0) ∧ numW x = none) := by
  cases h : wM x 99 with
  | none =>
    refine .inr ⟨.inl rfl, ?_⟩
    cases q : numW x with
    | none => rfl
    | some n =>
      have e := numW_nW q
      have b := numW_bd q
      have s := (small_nums ⟨n, by omega⟩).2
      unfold wM at h
      rw [e, s] at h
      simp only at h
      rw [if_pos (by omega)] at h
      cases h
  | some n =>
    have h' := h
    unfold wM at h'
    cases q : wN x with
    | none => rw [q] at h'; cases h'
    | some k =>
      rw [q] at h'
      simp only at h'
      split at h'
      · rename_i hk
        cases h'
        obtain ⟨e, _⟩ := wN_nW q
        have s := (small_nums ⟨n, by omega⟩).1
        rw [← e] at s
        by_cases z : n = 0
        · subst z; exact .inr ⟨.inr rfl, s⟩
        · exact .inl ⟨n, rfl, z, by rw [s]; exact if_neg z⟩
      · cases h'
noncomputable def nest : MS := (sIf (tB (eBin mEq (eVar 6) (eC (.str "count")))) (sSeq (sIf (tOr (tB (eBin mIs (eVar 5) (eC .non))) (tB (eBin mEq (eVar 5) (eC (.int 0))))) (sRet (eVar 3)) sNil)
    (sSub (eVar 7) (eC (.int 0)) (eVar 5))) (sIf (tB (eBin mEq (eVar 6) (eC (.str "lead")))) (sIf (tOr (tB (eBin mIs (eVar 5) (eC .non))) (tB (eBin mEq (eVar 5) (eC (.int 0))))) (sRet (eVar 3)) sNil) (sIf (tB (eBin mEq (eVar 6) (eC (.str "cap")))) (sSeq (sIf (tAnd (tB (eBin mNe (eVar 4) (eC (.str "-")))) (tOr (tB (eBin mIs (eVar 5) (eC .non))) (tB (eBin mLt (eVar 5) (eBin mIdx (eVar 7) (eC (.int 0))))))) (sRet (eVar 3)) sNil)
    (sSub (eVar 7) (eC (.int 1)) (eVar 5))) (sIf (tAnd (tB (eBin mEq (eVar 4) (eC (.str "unit")))) (tAnd (tOr (tB (eBin mEq (eVar 6) (eC (.str "rule")))) (tB (eBin mIsNot (eBin mIdx (eVar 7) (eC (.int 1))) (eC .non)))) (tAnd (tB (eBin mLt (eVar 8) (eC (.int 4)))) (tB (eBin mLt (eVar 2) (eC (.int 10))))))) (sSeq (sAsg (gOne 2) (eBin mAdd (eVar 2) (eC (.int 1))))
    (sSeq (sAsg (gOne 9) (eLst (aCons (eC (.int 0)) (aCons (eC .non) aNil))))
    (sSeq (sAsg (gOne 1) (eBin mAdd (eVar 1) (eLst (aCons (eTup (aCons (eC (.str "last")) (aCons (eVar 9) (aCons (eBin mAdd (eVar 8) (eC (.int 1))) aNil)))) (aCons (eTup (aCons (eC (.str "rule")) (aCons (eVar 9) (aCons (eBin mAdd (eVar 8) (eC (.int 1))) aNil)))) (aCons (eTup (aCons (eC (.str "cap")) (aCons (eVar 9) (aCons (eC (.int 0)) aNil)))) aNil))))))
    (sAsg (gOne 1) (eBin mAdd (eVar 1) (eLst (aCons (eTup (aCons (eC (.str "lead")) (aCons (eVar 9) (aCons (eC (.int 0)) aNil)))) (aCons (eTup (aCons (eC (.str "count")) (aCons (eVar 9) (aCons (eC (.int 0)) aNil)))) aNil)))))))) (sIf (tOr (tAnd (tB (eBin mEq (eVar 4) (eC (.str "point")))) (tOr (tB (eBin mEq (eVar 6) (eC (.str "rule")))) (tB (eBin mIsNot (eBin mIdx (eVar 7) (eC (.int 1))) (eC .non))))) (tAnd (tB (eBin mEq (eVar 4) (eC (.str "-")))) (tB (eBin mEq (eVar 6) (eC (.str "last")))))) (sAsg (gOne 2) (eBin mAdd (eVar 2) (eC (.int 0)))) (sRet (eVar 3)))))))
theorem lp_nest : lp_l_rule_wrong_0 = (sSeq (sIf (TL.tB (eBin mEq (eCallO nLen (aCons (eVar 1) aNil)) (eC (.int 0)))) (sRet (eVar 3)) sNil)
    (sSeq (sAsg (gTupD [6, 7, 8]) (eMeth "list" mPop (eVar 1) aNil))
    (sSeq (sAsg (gOne 4) (eBin mIdx (eVar 0) (eVar 3)))
    (sSeq (sAsg (gOne 5) (eCall m_l_number (aCons (eVar 4) (aCons (eC (.int 99)) aNil)))) nest)))) := rfl
def item (κ : String) (F : Nat) (ar : Int) : D := .tup [.str (Str.ofString κ), .ref F, .int ar]
/-- all that stood stands, but these -/
structure Fr (L : List Nat) (M M' : Mem) : Prop where
  len : M.length ≤ M'.length
  at_ : ∀ n, n < M.length → n ∉ L → M'[n]? = M[n]?
theorem Fr.of {L : List Nat} {M M' : Mem} (k : Keep M M') : Fr L M M' := ⟨k.1, fun n h _ => k.2 n h⟩
theorem Fr.trans {L : List Nat} {M M1 M2 : Mem} (a : Fr L M M1) (b : Fr L M1 M2) : Fr L M M2 := ⟨Nat.le_trans a.len b.len, fun n h hn => (b.at_ n (Nat.lt_of_lt_of_le h a.len) hn).trans (a.at_ n h hn)⟩
theorem Fr.mono {L L' : List Nat} {M M' : Mem} (h : ∀ n ∈ L, n ∈ L' ∨ M.length ≤ n) (a : Fr L M M') : Fr L' M M' := ⟨a.len, fun n hl hn => a.at_ n hl fun hm => by
  rcases h n hm with h | h
  · exact hn h
  · omega⟩
theorem Fr.set {L : List Nat} {M M' : Mem} {n : Nat} {o : MO} (a : Fr L M M') (h : n ∈ L ∨ M.length ≤ n) : Fr L M (M'.set n o) := ⟨by rw [List.length_set]; exact a.len, fun m hm hn => by
  have ne : n ≠ m := fun e => by
    subst e
    rcases h with h | h
    · exact hn h
    · omega
  rw [List.getElem?_set_ne ne]
  exact a.at_ m hm hn⟩
theorem Fr.get {L : List Nat} {M M' : Mem} (a : Fr L M M') {n : Nat} {o : MO} (h : M[n]? = some o) (hn : n ∉ L) : M'[n]? = some o := (a.at_ n (lt_of_at h) hn).trans h
theorem mPop_ok {M : Mem} {n : Nat} {xs : List D} {y : D} (h : M[n]? = some (.lst (xs ++ [y]))) : mPop (.ref n) [] M = some (y, M.set n (.lst xs)) := by
  show (match M[n]? with | some (.lst xs) => (xs[xs.length - 1]?).map fun y => (y, M.set n (.lst xs.dropLast)) | _ => none) = _
  rw [h]
  simp
section
variable {M : Mem} {W S F a m n : Nat} {ws : List Str} {rest : List D} {ar : Int} {e3 e4 e5 e6 e7 e8 e9 : Option D}
/-- a word taken, the thing wanted popped -/
theorem lp_pre {κ : String} (hl : ∀ x ∈ ws, x.length ≤ 1000) (hW : M[W]? = some (.lst (ws.map D.str))) (hS : M[S]? = some (.lst (rest ++ [item κ F ar]))) {x : Str} (hx : ws[a]? = some x) :
    ∃ M', Fr [S] M M' ∧ M'[S]? = some (.lst rest) ∧ M'[W]? = some (.lst (ws.map D.str)) ∧ lp_l_rule_wrong_0 [some (.ref W), some (.ref S), some (.int (m : Nat)), some (.int (a : Nat)), e4, e5, e6, e7, e8, e9] M = nest [some (.ref W), some (.ref S), some (.int (m : Nat)), some (.int (a : Nat)), some (.str x), some (oD (wM x 99)), some (.str (Str.ofString κ)), some (.ref F), some (.int ar), e9] M' := by
  have WS : W ≠ S := fun e => by
    subst e
    rw [hW] at hS
    have := Option.some.inj hS
    injection this with this
    have z := congrArg List.getLast? this
    rw [List.getLast?_concat] at z
    unfold item at z
    rw [List.getLast?_map] at z
    cases q : ws.getLast? with
    | none => rw [q] at z; cases z
    | some y => rw [q] at z; cases z
  have sS := seqAt_lst hS
  have pp := mPop_ok hS
  have ltS := lt_of_at hS
  have f1 : Fr [S] M (M.set S (.lst rest)) := (Fr.of (Keep.refl M)).set (.inl (by simp))
  have s1 : (M.set S (.lst rest))[S]? = some (.lst rest) := List.getElem?_set_self ltS
  have w1 : (M.set S (.lst rest))[W]? = some (.lst (ws.map D.str)) := by rw [List.getElem?_set_ne (Ne.symm WS)]; exact hW
  have nz : ¬ ((rest.length : Nat) : Int) + 1 = 0 := by omega
  rw [lp_nest]
  unfold item at sS pp
  obtain ⟨M2, e2, k2⟩ := gives_of (l_number_all (x := x) (hl x (List.mem_of_getElem? hx)) (most := 99) (M.set S (.lst rest)))
  have e2' : m_l_number [.str x, .int 99] (M.set S (.lst rest)) = .ok (oD (wM x 99)) M2 := e2
  refine ⟨M2, f1.trans (Fr.of k2), k2.at s1, k2.at w1, ?_⟩
  rw [TLP.ifN (M' := M) (by simp [sS, nz]), TLP.asgG (v := .tup [.str (Str.ofString κ), .ref F, .int ar]) (env' := [some (.ref W), some (.ref S), some (.int (m : Nat)), some (.int (a : Nat)), e4, e5, some (.str (Str.ofString κ)), some (.ref F), some (.int ar), e9]) (M' := M.set S (.lst rest)) (by simp [sS, pp]) rfl]
  have ix : mIdx (.ref W) (.int (a : Nat)) (M.set S (.lst rest)) = some (.str x, M.set S (.lst rest)) := wd_at (seqAt_lst w1) hx
  rw [TLP.asg (v := .str x) (M' := M.set S (.lst rest)) (by simp [-mIdx_ref, ix])]
  simp only [List.set]
  rw [TLP.asg (v := oD (wM x 99)) (M' := M2) (by simp [e2'])]
  rfl
abbrev E (W S m a : Nat) (x : Str) (v : Option Nat) (κ : String) (F : Nat) (ar : Int) (e9 : Option D) : TL.Env := [some (.ref W), some (.ref S), some (.int (m : Nat)), some (.int (a : Nat)), some (.str x), some (oD v), some (.str (Str.ofString κ)), some (.ref F), some (.int ar), e9]
variable {x : Str} {v : Option Nat} {c0 c1 : D}
theorem setD_at {M : Mem} {n j : Nat} {xs : List D} {v : D} (h : M[n]? = some (.lst xs)) (hj : j < xs.length) : setD (.ref n) (.int (j : Nat)) v M = some (M.set n (.lst (xs.set j v))) := by
  show (match M[n]? with | some (.lst xs) => (ixN xs.length (j : Int)).map fun j => M.set n (.lst (xs.set j v)) | _ => none) = _
  rw [h]
  have e : ixN xs.length (j : Int) = some j := by
    unfold ixN
    rw [if_pos (by omega), if_pos (by omega)]
    simp
  simp only [e]
  rfl
theorem nest_count_no (hv : v = none ∨ v = some 0) : nest (E W S m a x v "count" F ar e9) M = .ret (.int (a : Nat)) M := by
  unfold nest
  rw [TLP.ifT1 (M' := M) (by simp)]
  rcases hv with rfl | rfl
  · rw [TLP.ifT (M' := M) (by simp [oD]), TLP.ret1 (v := .int (a : Nat)) (M' := M) (by simp)]
  · rw [TLP.ifT (M' := M) (by simp [oD]), TLP.ret1 (v := .int (a : Nat)) (M' := M) (by simp)]
theorem nest_count {k : Nat} (hv : v = some k) (hk : k ≠ 0) (hF : M[F]? = some (.lst [c0, c1])) : nest (E W S m a x v "count" F ar e9) M = .next (E W S m a x v "count" F ar e9) (M.set F (.lst [.int (k : Nat), c1])) := by
  subst hv
  unfold nest
  have sd := setD_at (j := 0) (v := .int (k : Nat)) hF (by simp)
  have sd' : setD (.ref F) (.int 0) (.int (k : Nat)) M = some (M.set F (.lst [.int (k : Nat), c1])) := sd
  rw [TLP.ifT1 (M' := M) (by simp), TLP.ifN (M' := M) (by simp [oD, hk])]
  simp [oD, sd']
theorem nest_lead_no (hv : v = none ∨ v = some 0) : nest (E W S m a x v "lead" F ar e9) M = .ret (.int (a : Nat)) M := by
  unfold nest
  rw [TLP.ifF1 (M' := M) (by simp), TLP.ifT1 (M' := M) (by simp)]
  rcases hv with rfl | rfl
  · rw [TLP.ifT1 (M' := M) (by simp [oD]), TLP.ret (v := .int (a : Nat)) (M' := M) (by simp)]
  · rw [TLP.ifT1 (M' := M) (by simp [oD]), TLP.ret (v := .int (a : Nat)) (M' := M) (by simp)]
theorem nest_lead {k : Nat} (hv : v = some k) (hk : k ≠ 0) : nest (E W S m a x v "lead" F ar e9) M = .next (E W S m a x v "lead" F ar e9) M := by
  subst hv
  unfold nest
  rw [TLP.ifF1 (M' := M) (by simp), TLP.ifT1 (M' := M) (by simp), TLP.ifF1 (M' := M) (by simp [oD, hk])]
  rfl
theorem nest_cap_no {to : Int} (hx : x ≠ Str.ofString "-") (hF : M[F]? = some (.lst [.int to, c1])) (hv : v = none ∨ ∃ k, v = some k ∧ (k : Int) < to) : nest (E W S m a x v "cap" F ar e9) M = .ret (.int (a : Nat)) M := by
  unfold nest
  have nx : mNe (.str x) (.str (Str.ofString "-")) M = some (.bl true, M) := by rw [mNe_text]; simp [hx]
  have sF := seqAt_lst hF
  rw [TLP.ifF1 (M' := M) (by simp), TLP.ifF1 (M' := M) (by simp), TLP.ifT1 (M' := M) (by simp)]
  rcases hv with rfl | ⟨k, rfl, hk⟩
  · rw [TLP.ifT (M' := M) (by simp [nx, oD]), TLP.ret1 (v := .int (a : Nat)) (M' := M) (by simp)]
  · rw [TLP.ifT (M' := M) (by simp [nx, oD, sF, hk]), TLP.ret1 (v := .int (a : Nat)) (M' := M) (by simp)]
theorem nest_cap {to : Int} (hF : M[F]? = some (.lst [.int to, c1])) (h : x = Str.ofString "-" ∨ ∃ k, v = some k ∧ to ≤ (k : Int)) : nest (E W S m a x v "cap" F ar e9) M = .next (E W S m a x v "cap" F ar e9) (M.set F (.lst [.int to, oD v])) := by
  unfold nest
  have sF := seqAt_lst hF
  have sd := setD_at (j := 1) (v := oD v) hF (by simp)
  have sd' : setD (.ref F) (.int 1) (oD v) M = some (M.set F (.lst [.int to, oD v])) := sd
  rw [TLP.ifF1 (M' := M) (by simp), TLP.ifF1 (M' := M) (by simp), TLP.ifT1 (M' := M) (by simp), TLP.ifN (M' := M) (by
    rcases h with rfl | ⟨k, rfl, hk⟩
    · have nx : mNe (.str (Str.ofString "-")) (.str (Str.ofString "-")) M = some (.bl false, M) := by rw [mNe_text]; simp
      simp [nx]
    · have nk : ¬ (k : Int) < to := by omega
      by_cases hx : x = Str.ofString "-"
      · have nx : mNe (.str x) (.str (Str.ofString "-")) M = some (.bl false, M) := by rw [mNe_text]; simp [hx]
        simp [nx]
      · have nx : mNe (.str x) (.str (Str.ofString "-")) M = some (.bl true, M) := by rw [mNe_text]; simp [hx]
        simp [nx, oD, sF, nk])]
  simp [sd']
/-- may a rule stand here -/
def Gd (κ : String) (F : Nat) (M : Mem) (g : Bool) : Prop := (κ = "rule" ∧ g = true) ∨ (κ = "last" ∧ ∃ to c, M[F]? = some (.lst [to, oD c]) ∧ g = c.isSome)
theorem guard_ok {κ : String} {g : Bool} (hg : Gd κ F M g) : (TL.tOr (TL.tB (eBin mEq (eVar 6) (eC (.str "rule")))) (TL.tB (eBin mIsNot (eBin mIdx (eVar 7) (eC (.int 1))) (eC .non)))) (E W S m a x v κ F ar e9) M = .ok g M := by
  rcases hg with ⟨rfl, rfl⟩ | ⟨rfl, to, c, hF, rfl⟩
  · simp
  · have sF := seqAt_lst hF
    cases c <;> simp [sF, oD]
theorem kind_no {κ : String} {g : Bool} (hg : Gd κ F M g) : κ = "rule" ∨ κ = "last" := by
  rcases hg with ⟨rfl, _⟩ | ⟨rfl, _⟩
  · exact .inl rfl
  · exact .inr rfl
noncomputable def guard : MT := (TL.tOr (TL.tB (eBin mEq (eVar 6) (eC (.str "rule")))) (TL.tB (eBin mIsNot (eBin mIdx (eVar 7) (eC (.int 1))) (eC .non))))
noncomputable def unitS : MS := (sSeq (sAsg (gOne 2) (eBin mAdd (eVar 2) (eC (.int 1))))
    (sSeq (sAsg (gOne 9) (eLst (aCons (eC (.int 0)) (aCons (eC .non) aNil))))
    (sSeq (sAsg (gOne 1) (eBin mAdd (eVar 1) (eLst (aCons (eTup (aCons (eC (.str "last")) (aCons (eVar 9) (aCons (eBin mAdd (eVar 8) (eC (.int 1))) aNil)))) (aCons (eTup (aCons (eC (.str "rule")) (aCons (eVar 9) (aCons (eBin mAdd (eVar 8) (eC (.int 1))) aNil)))) (aCons (eTup (aCons (eC (.str "cap")) (aCons (eVar 9) (aCons (eC (.int 0)) aNil)))) aNil))))))
    (sAsg (gOne 1) (eBin mAdd (eVar 1) (eLst (aCons (eTup (aCons (eC (.str "lead")) (aCons (eVar 9) (aCons (eC (.int 0)) aNil)))) (aCons (eTup (aCons (eC (.str "count")) (aCons (eVar 9) (aCons (eC (.int 0)) aNil)))) aNil))))))))
noncomputable def nest2 : MS := (sIf (TL.tAnd (TL.tB (eBin mEq (eVar 4) (eC (.str "unit")))) (TL.tAnd guard (TL.tAnd (TL.tB (eBin mLt (eVar 8) (eC (.int 4)))) (TL.tB (eBin mLt (eVar 2) (eC (.int 10))))))) unitS (sIf (TL.tOr (TL.tAnd (TL.tB (eBin mEq (eVar 4) (eC (.str "point")))) guard) (TL.tAnd (TL.tB (eBin mEq (eVar 4) (eC (.str "-")))) (TL.tB (eBin mEq (eVar 6) (eC (.str "last")))))) (sAsg (gOne 2) (eBin mAdd (eVar 2) (eC (.int 0)))) (sRet (eVar 3))))
theorem nest_rule {κ : String} (hκ : κ = "rule" ∨ κ = "last") : nest (E W S m a x v κ F ar e9) M = nest2 (E W S m a x v κ F ar e9) M := by
  unfold nest
  rcases hκ with rfl | rfl
  · rw [TLP.ifF1 (M' := M) (by simp), TLP.ifF1 (M' := M) (by simp), TLP.ifF1 (M' := M) (by simp)]
    rfl
  · rw [TLP.ifF1 (M' := M) (by simp), TLP.ifF1 (M' := M) (by simp), TLP.ifF1 (M' := M) (by simp)]
    rfl
theorem nest_point {κ : String} (hg : Gd κ F M true) : nest (E W S m a (Str.ofString "point") v κ F ar e9) M = .next (E W S m a (Str.ofString "point") v κ F ar e9) M := by
  rw [nest_rule (kind_no hg)]
  have gg : guard (E W S m a (Str.ofString "point") v κ F ar e9) M = .ok true M := guard_ok hg
  unfold nest2
  generalize guard = g at *
  simp only [E] at gg ⊢
  rw [TLP.ifF1 (M' := M) (by simp), TLP.ifT1 (M' := M) (by simp [gg])]
  simp
theorem nest_dash {g : Bool} (hg : Gd "last" F M g) : nest (E W S m a (Str.ofString "-") v "last" F ar e9) M = .next (E W S m a (Str.ofString "-") v "last" F ar e9) M := by
  rw [nest_rule (.inr rfl)]
  unfold nest2
  generalize guard = g at *
  rw [TLP.ifF1 (M' := M) (by simp), TLP.ifT1 (M' := M) (by simp)]
  simp
theorem nest_bad {κ : String} {g : Bool} (hg : Gd κ F M g) (h1 : x = Str.ofString "point" → g = false) (h2 : x = Str.ofString "-" → κ = "rule") (h3 : x = Str.ofString "unit" → g = false ∨ ¬ ar < 4 ∨ ¬ m < 10) : nest (E W S m a x v κ F ar e9) M = .ret (.int (a : Nat)) M := by
  rw [nest_rule (kind_no hg)]
  have gg : guard (E W S m a x v κ F ar e9) M = .ok g M := guard_ok hg
  unfold nest2
  generalize guard = gu at *
  simp only [E] at gg ⊢
  have t1 : mEq (.str x) (.str (Str.ofString "unit")) M = some (.bl (decide (x = Str.ofString "unit")), M) := mEq_text
  have t2 : mEq (.str x) (.str (Str.ofString "point")) M = some (.bl (decide (x = Str.ofString "point")), M) := mEq_text
  have t3 : mEq (.str x) (.str (Str.ofString "-")) M = some (.bl (decide (x = Str.ofString "-")), M) := mEq_text
  have u1 : (TL.tAnd (TL.tB (eBin mEq (eVar 4) (eC (.str "unit")))) (TL.tAnd gu (TL.tAnd (TL.tB (eBin mLt (eVar 8) (eC (.int 4)))) (TL.tB (eBin mLt (eVar 2) (eC (.int 10))))))) [some (.ref W), some (.ref S), some (.int (m : Nat)), some (.int (a : Nat)), some (.str x), some (oD v), some (.str (Str.ofString κ)), some (.ref F), some (.int ar), e9] M = .ok false M := by
    by_cases q : x = Str.ofString "unit"
    · rw [decide_eq_true q] at t1
      rcases h3 q with hf | hr | hm
      · rw [hf] at gg
        simp [t1, gg]
      · cases g
        · simp [t1, gg]
        · simp [t1, gg, hr]
      · have hm' : ¬ ((m : Nat) : Int) < 10 := by omega
        cases g
        · simp [t1, gg]
        · by_cases hr : ar < 4
          · simp [t1, gg, hr, hm']
          · simp [t1, gg, hr]
    · rw [decide_eq_false q] at t1
      simp [t1]
  have u2 : (TL.tOr (TL.tAnd (TL.tB (eBin mEq (eVar 4) (eC (.str "point")))) gu) (TL.tAnd (TL.tB (eBin mEq (eVar 4) (eC (.str "-")))) (TL.tB (eBin mEq (eVar 6) (eC (.str "last")))))) [some (.ref W), some (.ref S), some (.int (m : Nat)), some (.int (a : Nat)), some (.str x), some (oD v), some (.str (Str.ofString κ)), some (.ref F), some (.int ar), e9] M = .ok false M := by
    by_cases q : x = Str.ofString "point"
    · have hf := h1 q
      rw [hf] at gg
      have nd : ¬ x = Str.ofString "-" := by rw [q]; decide +kernel
      rw [decide_eq_true q] at t2
      rw [decide_eq_false nd] at t3
      simp [t2, t3, gg]
    · rw [decide_eq_false q] at t2
      by_cases q3 : x = Str.ofString "-"
      · have := h2 q3
        subst this
        rw [decide_eq_true q3] at t3
        simp [t2, t3, mEq_text (x := Str.ofString "rule")]
      · rw [decide_eq_false q3] at t3
        simp [t2, t3]
  rw [TLP.ifF1 u1, TLP.ifF1 u2, TLP.ret (v := .int (a : Nat)) (M' := M) (by simp)]
/-- five things wanted in its place -/
theorem nest_unit {κ : String} (hg : Gd κ F M true) (h1 : ar < 4) (h2 : m < 10) (hS : M[S]? = some (.lst rest)) (hr : rest.length ≤ 1000) : ∃ S' M', nest (E W S m a (Str.ofString "unit") v κ F ar e9) M = .next (E W S' (m + 1) a (Str.ofString "unit") v κ F ar (some (.ref M.length))) M' ∧ Keep M M' ∧ M.length < S' ∧ M'[M.length]? = some (.lst [.int 0, .non]) ∧
    M'[S']? = some (.lst (rest ++ [item "last" M.length (ar + 1)] ++ [item "rule" M.length (ar + 1)] ++ [item "cap" M.length 0] ++ [item "lead" M.length 0] ++ [item "count" M.length 0])) := by
  rw [nest_rule (kind_no hg)]
  have gg : guard (E W S m a (Str.ofString "unit") v κ F ar e9) M = .ok true M := guard_ok hg
  unfold nest2
  generalize guard = gu at *
  simp only [E] at gg ⊢
  have h2' : ((m : Nat) : Int) < 10 := by omega
  rw [TLP.ifT1 (M' := M) (by simp [gg, h1, h2'])]
  unfold unitS
  rw [TLP.asg (v := .int ((m + 1 : Nat) : Int)) (M' := M) (by simp)]
  simp only [List.set]
  have k1 := Keep.more M [MO.lst [D.int 0, .non]]
  have a1 := at_len M (MO.lst [D.int 0, .non])
  rw [TLP.asg (v := .ref M.length) (M' := M ++ [.lst [.int 0, .non]]) (by simp)]
  simp only [List.set]
  have s1 := k1.at hS
  have l1 : (M ++ [MO.lst [D.int 0, .non]]).length = M.length + 1 := by simp
  generalize hN : M.length = N at *
  generalize M ++ [MO.lst [D.int 0, .non]] = M1 at *
  have k2 := Keep.more M1 [MO.lst [item "last" N (ar + 1), item "rule" N (ar + 1), item "cap" N 0]]
  have ad := mAdd_lists (k2.at s1) (at_len M1 (MO.lst [item "last" N (ar + 1), item "rule" N (ar + 1), item "cap" N 0])) (by simp; omega)
  generalize hX : M1 ++ [MO.lst [item "last" N (ar + 1), item "rule" N (ar + 1), item "cap" N 0]] = M2 at *
  have lM2 : M2.length = M1.length + 1 := by rw [← hX]; simp
  generalize hl1 : rest ++ [item "last" N (ar + 1), item "rule" N (ar + 1), item "cap" N 0] = st1 at *
  have a3 := at_len M2 (MO.lst st1)
  have k3 := Keep.more M2 [MO.lst st1]
  rw [TLP.asg (v := .ref M2.length) (M' := M2 ++ [.lst st1]) (by
    unfold item at hX
    simp [ad, hX])]
  simp only [List.set]
  generalize hY : M2 ++ [MO.lst st1] = M3 at *
  have lM3 : M3.length = M2.length + 1 := by rw [← hY]; simp
  have k4 := Keep.more M3 [MO.lst [item "lead" N 0, item "count" N 0]]
  have ad2 := mAdd_lists (k4.at a3) (at_len M3 (MO.lst [item "lead" N 0, item "count" N 0])) (by rw [← hl1]; simp; omega)
  have a5 := at_len (M3 ++ [MO.lst [item "lead" N 0, item "count" N 0]]) (MO.lst (st1 ++ [item "lead" N 0, item "count" N 0]))
  have k5 := Keep.more (M3 ++ [MO.lst [item "lead" N 0, item "count" N 0]]) [MO.lst (st1 ++ [item "lead" N 0, item "count" N 0])]
  have kk := (((k1.trans k2).trans k3).trans k4).trans k5
  refine ⟨(M3 ++ [MO.lst [item "lead" N 0, item "count" N 0]]).length, _, ?_, kk, by simp; omega, k5.at (k4.at (k3.at (k2.at a1))), ?_⟩
  · unfold item at ad2
    simp [ad2]
    exact ⟨rfl, rfl⟩
  · rw [a5, ← hl1]
    simp
end
end LW
end
section
set_option maxHeartbeats 4000000
namespace LW
open PySem PySem.Spec PyProof.Rows L2 TL
open CM hiding b_l_unit m_l_unit g_l_unit b_l_rule m_l_rule b_l_any_rule m_l_any_rule any_rule rule_step rule_ok unit_ok
open CG
open CW hiding b_Reader_count b_Reader_is_dash b_Reader_last b_Reader_rule b_Reader_word b_read_rule g_Reader_rule m_Reader_count m_Reader_is_dash m_Reader_last m_Reader_rule m_Reader_word m_read_rule
open CWR
open CGW
open RL TLQ RD
noncomputable def after : MS := sSeq (sIf (TL.tB (eBin mGt (eCallO nLen (aCons (eVar 1) aNil)) (eC (.int 0)))) (sRet (eCallO nLen (aCons (eVar 0) aNil))) sNil) (sRet (eC .non))
/-- the loop from the word a on, and what follows it -/
def Goes (ws : List Str) (W S m a : Nat) (M : Mem) (P : D → Mem → Prop) : Prop := ∀ e3 e4 e5 e6 e7 e8 e9 : Option D,
  SRet (nextS (forL (fun _ => True) (gOne 3) lp_l_rule_wrong_0 (rngItems (a : Nat) (ws.length - a)) [some (.ref W), some (.ref S), some (.int (m : Nat)), e3, e4, e5, e6, e7, e8, e9] M) after) (fun _ _ => False) P
section
variable {M : Mem} {W S m a : Nat} {ws : List Str} {rest : List D} {P : D → Mem → Prop}
theorem goes_end (hW : M[W]? = some (.lst (ws.map D.str))) (hS : M[S]? = some (.lst rest)) (ha : ws[a]? = none) (hl : ws.length ≤ 100000) (hr : rest.length ≤ 100000) (h : P (if rest = [] then .non else .int (ws.length : Nat)) M) : Goes ws W S m a M P := by
  intro e3 e4 e5 e6 e7 e8 e9
  have ha' : ws.length ≤ a := List.getElem?_eq_none_iff.mp ha
  rw [show ws.length - a = 0 by omega]
  have z : rngItems (a : Nat) 0 = [] := rfl
  rw [z, forL_nil trivial]
  show SRet (after _ M) _ _
  unfold after
  have sS := seqAt_lst hS
  have sW := seqAt_lst hW
  by_cases c : rest = []
  · rw [if_pos c] at h
    subst c
    rw [TLP.ifN (M' := M) (by simp [sS]), TLP.ret (v := .non) (M' := M) (by simp)]
    exact SRet.ret h
  · rw [if_neg c] at h
    have c' : (0 : Int) < (rest.length : Nat) := by
      have := List.length_pos_iff.mpr c
      omega
    rw [TLP.ifT (M' := M) (by simp [sS, show rest.length ≤ 16777216 by omega]; omega), TLP.ret1 (v := .int (ws.length : Nat)) (M' := M) (by simp [sW, show ws.length ≤ 16777216 by omega])]
    exact SRet.ret h
theorem goes_over (hS : M[S]? = some (.lst [])) (ha : a < ws.length) (h : P (.int (a : Nat)) M) : Goes ws W S m a M P := by
  intro e3 e4 e5 e6 e7 e8 e9
  rw [show ws.length - a = (ws.length - a - 1) + 1 by omega, rng_cons, forL_cons (env1 := [some (.ref W), some (.ref S), some (.int (m : Nat)), some (.int (a : Nat)), e4, e5, e6, e7, e8, e9]) trivial rfl]
  have sS := seqAt_lst hS
  have e : lp_l_rule_wrong_0 [some (.ref W), some (.ref S), some (.int (m : Nat)), some (.int (a : Nat)), e4, e5, e6, e7, e8, e9] M = .ret (.int (a : Nat)) M := by
    rw [lp_nest, TLP.ifT (M' := M) (by simp [sS]), TLP.ret1 (v := .int (a : Nat)) (M' := M) (by simp)]
  rw [e]
  exact SRet.ret h
/-- one word -/
theorem goes_step {κ : String} {F : Nat} {ar : Int} (hl : ∀ x ∈ ws, x.length ≤ 1000) (hW : M[W]? = some (.lst (ws.map D.str))) (hS : M[S]? = some (.lst (rest ++ [item κ F ar]))) {x : Str} (hx : ws[a]? = some x)
    (h : ∀ M1 e9, Fr [S] M M1 → M1[S]? = some (.lst rest) → M1[W]? = some (.lst (ws.map D.str)) →
      (∃ M2, nest (E W S m a x (wM x 99) κ F ar e9) M1 = .ret (.int (a : Nat)) M2 ∧ P (.int (a : Nat)) M2) ∨
      (∃ S' m' e9' M2, nest (E W S m a x (wM x 99) κ F ar e9) M1 = .next (E W S' m' a x (wM x 99) κ F ar e9') M2 ∧ Goes ws W S' m' (a + 1) M2 P)) : Goes ws W S m a M P := by
  intro e3 e4 e5 e6 e7 e8 e9
  have ha : a < ws.length := (List.getElem?_eq_some_iff.mp hx).1
  rw [show ws.length - a = (ws.length - (a + 1)) + 1 by omega, rng_cons, forL_cons (env1 := [some (.ref W), some (.ref S), some (.int (m : Nat)), some (.int (a : Nat)), e4, e5, e6, e7, e8, e9]) trivial rfl]
  obtain ⟨M1, f1, s1, w1, e1⟩ := lp_pre (m := m) (e4 := e4) (e5 := e5) (e6 := e6) (e7 := e7) (e8 := e8) (e9 := e9) hl hW hS hx
  rw [e1]
  rcases h M1 e9 f1 s1 w1 with ⟨M2, e2, p⟩ | ⟨S', m', e9', M2, e2, g⟩
  · rw [show nest _ M1 = _ from e2]
    exact SRet.ret p
  · rw [show nest _ M1 = _ from e2]
    have g' := g (some (.int (a : Nat))) (some (.str x)) (some (oD (wM x 99))) (some (.str (Str.ofString κ))) (some (.ref F)) (some (.int ar)) e9'
    rw [show (((a + 1 : Nat) : Int)) = (a : Int) + 1 by omega] at g'
    exact g'
theorem cnt_none_at {lo : Int} (h : ws[a]? = none) : CWR.cnt ws a lo = (none, ws.length) := by unfold CWR.cnt; rw [h]
theorem cnt_bad_at {lo : Int} {x : Str} (h : ws[a]? = some x) (hn : numW x = none) : CWR.cnt ws a lo = (none, a) := by unfold CWR.cnt; rw [h]; simp only [hn]
theorem cnt_ok_at {lo : Int} {x : Str} {n : Nat} (h : ws[a]? = some x) (hn : numW x = some n) (hlo : lo ≤ (n : Int)) : CWR.cnt ws a lo = (some n, a) := by
  unfold CWR.cnt
  rw [h]
  simp only [hn]
  exact if_neg (by omega)
theorem cnt_low_at {lo : Int} {x : Str} {n : Nat} (h : ws[a]? = some x) (hn : numW x = some n) (hlo : (n : Int) < lo) : CWR.cnt ws a lo = (none, a) := by
  unfold CWR.cnt
  rw [h]
  simp only [hn]
  exact if_pos hlo
theorem Fr.more {L L' : List Nat} {M M1 M2 : Mem} (a : Fr L M M1) (b : Fr L' M1 M2) (h : ∀ n ∈ L', n ∈ L ∨ M.length ≤ n) : Fr L M M2 := ⟨Nat.le_trans a.len b.len, fun n hl hn => (b.at_ n (Nat.lt_of_lt_of_le hl a.len) (fun hm => by
  rcases h n hm with h | h
  · exact hn h
  · omega)).trans (a.at_ n hl hn)⟩
theorem Fr.one {S S1 : Nat} {M M1 M2 : Mem} (a : Fr [S] M M1) (b : Fr [S1] M1 M2) (h : M.length ≤ S1) : Fr [S] M M2 := a.more b fun n hn => .inr (by rw [List.mem_singleton.mp hn]; exact h)
/-- what is left to be read -/
def RdG (P : D → Mem → Prop) (ws : List Str) (W S : Nat) (rest : List D) (M : Mem) : RR → Prop
  | .bad s => ∀ M', Fr [S] M M' → P (.int (s : Nat)) M'
  | .ok _ a m => ∀ S' M', Fr [S] M M' → (S' = S ∨ M.length ≤ S') → M'[S']? = some (.lst rest) → m ≤ 10 → Goes ws W S' m a M' P
theorem goes_rule (hl : ∀ x ∈ ws, x.length ≤ 1000) (hws : ws.length ≤ 100000) : ∀ (k a m S F : Nat) (κ : String) (ar : Int) (rest : List D) (M : Mem), ar + k = 4 → m ≤ 10 → M[W]? = some (.lst (ws.map D.str)) → W ≠ S → F ≠ S → F < M.length → M[S]? = some (.lst (rest ++ [item κ F ar])) → Gd κ F M true →
    (κ = "last" → ws[a]? ≠ some (Str.ofString "-")) → rest.length + 5 * k ≤ 500 → RdG P ws W S rest M (rd ws k a m) → Goes ws W S m a M P
  | k, a, m, S, F, κ, ar, rest, M, har, hm, hW, hWS, hFS, hF, hS, hg, hd, hr, h => by
    cases hx : ws[a]? with
    | none =>
      have e : rd ws k a m = .bad ws.length := by cases k <;> (unfold rd; rw [hx])
      rw [e] at h
      refine goes_end hW hS hx hws (by simp; omega) ?_
      rw [if_neg (by simp)]
      exact h M (Fr.of (Keep.refl M))
    | some x =>
      have kind := kind_no hg
      refine goes_step hl hW hS hx fun M1 e9 f1 s1 w1 => ?_
      have gd1 : Gd κ F M1 true := by
        rcases hg with ⟨g1, g2⟩ | ⟨g1, to, c, g2, g3⟩
        · exact .inl ⟨g1, g2⟩
        · exact .inr ⟨g1, to, c, f1.get g2 (by simpa using hFS), g3⟩
      have nd : x = Str.ofString "-" → κ = "rule" := fun e => by
        rcases kind with q | q
        · exact q
        · exact absurd (by rw [hx, e]) (hd q)
      by_cases hp : x = Str.ofString "point"
      · subst hp
        have e : rd ws k a m = .ok .point (a + 1) m := by cases k <;> (unfold rd; rw [hx]; simp)
        rw [e] at h
        exact .inr ⟨S, m, e9, M1, nest_point gd1, h S M1 f1 (.inl rfl) s1 hm⟩
      · cases k with
        | zero =>
          have e : rd ws 0 a m = .bad a := by unfold rd; rw [hx]; simp [hp]
          rw [e] at h
          exact .inl ⟨M1, nest_bad gd1 (fun q => absurd q hp) nd (fun _ => .inr (.inl (by omega))), h M1 f1⟩
        | succ k =>
          by_cases hu : x = Str.ofString "unit" ∧ m ≠ 10
          · obtain ⟨rfl, hm10⟩ := hu
            have c1 : ar < 4 := by omega
            have c2 : m < 10 := by omega
            have c3 : rest.length ≤ 1000 := by omega
            obtain ⟨S1, M2, e1, k2, lS, aN, aS⟩ := nest_unit (W := W) (a := a) (v := wM (Str.ofString "unit") 99) (e9 := e9) gd1 c1 c2 s1 c3
            refine .inr ⟨S1, m + 1, _, M2, e1, ?_⟩
            have w2 := k2.at w1
            have l1 := f1.len
            have lW := lt_of_at w1
            have f2 : Fr [S] M M2 := f1.trans (Fr.of k2)
            generalize hN : M1.length = N at *
            have lN := lt_of_at aN
            have WN : W ≠ N := by omega
            have WS1 : W ≠ S1 := by omega
            have eS1 : M.length ≤ S1 := by omega
            -- the number to
            have erd : rd ws (k + 1) a m = (match CWR.cnt ws (a + 1) 1 with
        | (none, s) => .bad s
        | (some to, _) => match CWR.cnt ws (a + 2) 1 with
          | (none, s) => .bad s
          | (some lead, _) => match ws[a + 3]? with
            | none => .bad ws.length
            | some y => if y = Str.ofString "-" then tailR (rd ws k) ws to lead none (a + 4) (m + 1)
              else match CWR.cnt ws (a + 3) to with
                | (none, s) => .bad s
                | (some c, _) => tailR (rd ws k) ws to lead (some (c : Int)) (a + 4) (m + 1)) := by
              conv => lhs; unfold rd
              rw [hx]
              (simp [hm10]) <;> rfl
            rw [erd] at h
            clear erd e1
            have ends : ∀ (s : Nat) (M' : Mem), RdG P ws W S rest M (.bad s) → Fr [S] M M' → P (.int (s : Nat)) M' := fun s M' h f => h M' f
            cases hx1 : ws[a + 1]? with
            | none =>
              rw [cnt_none_at hx1] at h
              refine goes_end w2 aS hx1 hws (by simp; omega) ?_
              rw [if_neg (by simp)]
              exact h M2 f2
            | some x1 =>
              refine goes_step hl w2 aS hx1 fun M3 e9 f3 s3 w3 => ?_
              have aN3 := f3.get aN (by simp; omega)
              have g3 : Fr [S] M M3 := f2.one f3 (by omega)
              rcases (num99 (x := x1)).symm with ⟨q1, q3⟩ | ⟨to, q1, q2, q3⟩
              · rw [cnt_bad_at hx1 q3] at h
                exact .inl ⟨M3, nest_count_no q1, h M3 g3⟩
              rw [cnt_ok_at hx1 q3 (by omega)] at h
              refine .inr ⟨S1, m + 1, e9, _, nest_count q1 q2 aN3, ?_⟩
              have NS1 : N ≠ S1 := by omega
              have aN4 : (M3.set N (.lst [.int (to : Nat), .non]))[N]? = some (.lst [.int (to : Nat), .non]) := List.getElem?_set_self (lt_of_at aN3)
              have s4 : (M3.set N (.lst [.int (to : Nat), .non]))[S1]? = some (.lst (rest ++ [item "last" N (ar + 1)] ++ [item "rule" N (ar + 1)] ++ [item "cap" N 0] ++ [item "lead" N 0])) := by rw [List.getElem?_set_ne NS1]; exact s3
              have w4 : (M3.set N (.lst [.int (to : Nat), .non]))[W]? = some (.lst (ws.map D.str)) := by rw [List.getElem?_set_ne (Ne.symm WN)]; exact w3
              have g4 : Fr [S] M (M3.set N (.lst [.int (to : Nat), .non])) := g3.set (.inr (by omega))
              have l4 : M3.length ≤ (M3.set N (MO.lst [.int (to : Nat), .non])).length := by rw [List.length_set]; exact Nat.le_refl _
              generalize M3.set N (.lst [.int (to : Nat), .non]) = M4 at *
              cases hx2 : ws[a + 1 + 1]? with
              | none =>
                rw [show a + 2 = a + 1 + 1 by omega, cnt_none_at hx2] at h
                refine goes_end w4 s4 hx2 hws (by simp; omega) ?_
                rw [if_neg (by simp)]
                exact h M4 g4
              | some x2 =>
                refine goes_step hl w4 s4 hx2 fun M5 e9 f5 s5 w5 => ?_
                have aN5 := f5.get aN4 (by simp; omega)
                have g5 : Fr [S] M M5 := g4.one f5 (by omega)
                rcases (num99 (x := x2)).symm with ⟨r1, r3⟩ | ⟨lead, r1, r2, r3⟩
                · rw [show a + 2 = a + 1 + 1 by omega, cnt_bad_at hx2 r3] at h
                  exact .inl ⟨M5, nest_lead_no r1, h M5 g5⟩
                rw [show a + 2 = a + 1 + 1 by omega, cnt_ok_at hx2 r3 (by omega)] at h
                refine .inr ⟨S1, m + 1, e9, _, nest_lead r1 r2, ?_⟩
                simp only at h
                rw [show a + 3 = a + 1 + 1 + 1 by omega] at h
                cases hx3 : ws[a + 1 + 1 + 1]? with
                | none =>
                  rw [hx3] at h
                  refine goes_end w5 s5 hx3 hws (by simp; omega) ?_
                  rw [if_neg (by simp)]
                  exact h M5 g5
                | some x3 =>
                  rw [hx3] at h
                  simp only at h
                  refine goes_step hl w5 s5 hx3 fun M6 e9 f6 s6 w6 => ?_
                  have aN6 := f6.get aN5 (by simp; omega)
                  have g6 : Fr [S] M M6 := g5.one f6 (by omega)
                  have l6 := f6.len
                  have l5 := f5.len
                  have l3 := f3.len
                  have l2 := k2.1
                  -- behind the cap
                  have tail : ∀ (cap : Option Nat) (M7 : Mem), M7[N]? = some (.lst [.int (to : Nat), oD cap]) → M7[S1]? = some (.lst (rest ++ [item "last" N (ar + 1)] ++ [item "rule" N (ar + 1)])) → M7[W]? = some (.lst (ws.map D.str)) → Fr [S] M M7 → M6.length ≤ M7.length →
                      RdG P ws W S rest M (tailR (rd ws k) ws to lead (cap.map fun c => (c : Int)) (a + 4) (m + 1)) → Goes ws W S1 (m + 1) (a + 1 + 1 + 1 + 1) M7 P := by
                    intro cap M7 aN7 s7 w7 g7 l7 h
                    refine goes_rule hl hws k _ _ S1 N "rule" (ar + 1) _ M7 (by omega) (by omega) w7 WS1 NS1 (lt_of_at aN7) s7 (.inl ⟨rfl, rfl⟩) (fun q => absurd q (by decide)) (by simp; omega) ?_
                    rw [show a + 1 + 1 + 1 + 1 = a + 4 by omega]
                    unfold tailR at h
                    cases q : rd ws k (a + 4) (m + 1) with
                    | bad s =>
                      rw [q] at h
                      intro M' f
                      exact h M' (g7.one f (by omega))
                    | ok inner a2 m2 =>
                      rw [q] at h
                      simp only at h
                      intro S2 M8 f8 hS2 s8 hm2
                      have aN8 := f8.get aN7 (by simp; omega)
                      have w8 := f8.get w7 (by simp; omega)
                      have g8 : Fr [S] M M8 := g7.one f8 (by omega)
                      have WS2 : W ≠ S2 := by omega
                      have NS2 : N ≠ S2 := by
                        have := lt_of_at aN7
                        omega
                      have S2M : M.length ≤ S2 := by omega
                      have l8 := f8.len
                      cases hz : ws[a2]? with
                      | none =>
                        rw [hz] at h
                        refine goes_end w8 s8 hz hws (by simp; omega) ?_
                        rw [if_neg (by simp)]
                        exact h M8 g8
                      | some z =>
                        rw [hz] at h
                        simp only at h
                        by_cases zd : z = Str.ofString "-"
                        · subst zd
                          rw [if_pos rfl] at h
                          refine goes_step hl w8 s8 hz fun M9 e9 f9 s9 w9 => ?_
                          have aN9 := f9.get aN8 (by simp; omega)
                          have g9 : Fr [S] M M9 := g8.one f9 (by omega)
                          exact .inr ⟨S2, m2, e9, M9, nest_dash (g := cap.isSome) (.inr ⟨rfl, _, _, aN9, rfl⟩), h S2 M9 g9 (.inr S2M) s9 hm2⟩
                        · rw [if_neg zd] at h
                          cases cap with
                          | none =>
                            refine goes_step hl w8 s8 hz fun M9 e9 f9 s9 w9 => ?_
                            have aN9 := f9.get aN8 (by simp; omega)
                            have g9 : Fr [S] M M9 := g8.one f9 (by omega)
                            exact .inl ⟨M9, nest_bad (g := false) (.inr ⟨rfl, _, none, aN9, rfl⟩) (fun _ => rfl) (fun q => absurd q zd) (fun _ => .inl rfl), h M9 g9⟩
                          | some c =>
                            refine goes_rule hl hws k _ _ S2 N "last" (ar + 1) _ M8 (by omega) hm2 w8 WS2 NS2 (lt_of_at aN8) s8 (.inr ⟨rfl, _, some c, aN8, rfl⟩) (fun _ q => zd (by rw [hz] at q; exact Option.some.inj q)) (by omega) ?_
                            replace h : RdG P ws W S rest M (match rd ws k a2 m2 with | .bad s => .bad s | .ok last a3 m3 => .ok (.unitL to lead c inner last) a3 m3) := h
                            cases q2 : rd ws k a2 m2 with
                            | bad s =>
                              rw [q2] at h
                              intro M' f
                              exact h M' (g8.one f (by omega))
                            | ok last a3 m3 =>
                              rw [q2] at h
                              intro S3 M10 f10 hS3 s10 hm3
                              exact h S3 M10 (g8.one f10 (by omega)) (.inr (by omega)) s10 hm3
                  have set7 : ∀ d : D, (M6.set N (.lst [.int (to : Nat), d]))[N]? = some (.lst [.int (to : Nat), d]) ∧ (M6.set N (.lst [.int (to : Nat), d]))[S1]? = some (.lst (rest ++ [item "last" N (ar + 1)] ++ [item "rule" N (ar + 1)])) ∧ (M6.set N (.lst [.int (to : Nat), d]))[W]? = some (.lst (ws.map D.str)) ∧ Fr [S] M (M6.set N (.lst [.int (to : Nat), d])) ∧ M6.length ≤ (M6.set N (MO.lst [.int (to : Nat), d])).length := fun d =>
                    ⟨List.getElem?_set_self (lt_of_at aN6), by rw [List.getElem?_set_ne NS1]; exact s6, by rw [List.getElem?_set_ne (Ne.symm WN)]; exact w6, g6.set (.inr (by omega)), by rw [List.length_set]; exact Nat.le_refl _⟩
                  by_cases yd : x3 = Str.ofString "-"
                  · subst yd
                    rw [if_pos rfl] at h
                    have wn : wM (Str.ofString "-") 99 = none := by decide +kernel
                    rw [wn]
                    obtain ⟨u1, u2, u3, u4, u5⟩ := set7 .non
                    exact .inr ⟨S1, m + 1, e9, _, nest_cap (v := none) aN6 (.inl rfl), tail none _ u1 u2 u3 u4 u5 h⟩
                  · rw [if_neg yd] at h
                    rcases (num99 (x := x3)).symm with ⟨t1, t3⟩ | ⟨c, t1, t2, t3⟩
                    · rw [cnt_bad_at hx3 t3] at h
                      refine .inl ⟨M6, nest_cap_no yd aN6 ?_, h M6 g6⟩
                      rcases t1 with t1 | t1
                      · exact .inl t1
                      · exact .inr ⟨0, t1, by omega⟩
                    by_cases lo : (c : Int) < (to : Int)
                    · rw [cnt_low_at hx3 t3 lo] at h
                      exact .inl ⟨M6, nest_cap_no yd aN6 (.inr ⟨c, t1, lo⟩), h M6 g6⟩
                    · rw [cnt_ok_at hx3 t3 (by omega)] at h
                      obtain ⟨u1, u2, u3, u4, u5⟩ := set7 (oD (some c))
                      rw [t1]
                      exact .inr ⟨S1, m + 1, e9, _, nest_cap (v := some c) aN6 (.inr ⟨c, rfl, by omega⟩), tail (some c) _ u1 u2 u3 u4 u5 h⟩
          · have e : rd ws (k + 1) a m = .bad a := by
              conv => lhs; unfold rd
              rw [hx]
              simp only [hp, if_false]
              rw [if_pos]
              by_cases q : x = Str.ofString "unit"
              · exact .inr (by
                  by_cases q2 : m = 10
                  · exact q2
                  · exact absurd ⟨q, q2⟩ hu)
              · exact .inl q
            rw [e] at h
            refine .inl ⟨M1, nest_bad gd1 (fun q => absurd q hp) nd (fun q => .inr (.inr ?_)), h M1 f1⟩
            intro z
            exact hu ⟨q, by omega⟩
termination_by k => k
end
/-- the first word that is none of a rule's, or how many there are -/
def wrongR (ws : List Str) : Option Nat := match readR ws with
  | .ok _ _ _ => none
  | .bad s => some s
theorem l_rule_wrong_ok {ws : List Str} {W : Nat} {M : Mem} (hl : ∀ x ∈ ws, x.length ≤ 1000) (hws : ws.length ≤ 100000) (hW : M[W]? = some (.lst (ws.map D.str))) : Ret (m_l_rule_wrong [.ref W] M) (TL.Gives M (oD (wrongR ws))) := by
  show Ret (endS (b_l_rule_wrong [some (.ref W), none, none, none, none, none, none, none, none, none] M)) _
  unfold b_l_rule_wrong
  have k1 := Keep.more M [MO.lst [D.int 0, .non]]
  have a1 := at_len M (MO.lst [D.int 0, .non])
  have k2 := Keep.more (M ++ [MO.lst [D.int 0, .non]]) [MO.lst [item "rule" M.length 0]]
  have a2 := at_len (M ++ [MO.lst [D.int 0, .non]]) (MO.lst [item "rule" M.length 0])
  have lW := lt_of_at hW
  rw [TLP.asg (v := .ref (M ++ [MO.lst [D.int 0, .non]]).length) (M' := M ++ [MO.lst [D.int 0, .non]] ++ [MO.lst [item "rule" M.length 0]]) (by
    unfold item
    simp)]
  simp only [List.set]
  have K := k1.trans k2
  have a1' := k2.at a1
  have w := K.at hW
  have lS : (M ++ [MO.lst [D.int 0, .non]]).length = M.length + 1 := by simp
  generalize hS : (M ++ [MO.lst [D.int 0, .non]]).length = S at *
  generalize M ++ [MO.lst [D.int 0, .non]] ++ [MO.lst [item "rule" M.length 0]] = M2 at *
  rw [TLP.asg (v := .int (0 : Nat)) (M' := M2) (by simp)]
  simp only [List.set]
  have sW := seqAt_lst w
  refine Ret.endS ?_
  have ro : RngOk (ws.length : Nat) := rngOk_of (by omega) (by omega)
  have key : Goes ws W S 0 0 M2 (fun d M' => TL.Gives M (oD (wrongR ws)) d M') := by
    refine goes_rule hl hws 4 0 0 S M.length "rule" 0 [] M2 (by decide) (by decide) w (by omega) (by omega) (lt_of_at a1') a2 (.inl ⟨rfl, rfl⟩) (fun q => absurd q (by decide)) (by simp) ?_
    have keep : ∀ M', Fr [S] M2 M' → Keep M M' := fun M' f => ⟨Nat.le_trans K.1 f.len, fun n hn => by rw [f.at_ n (Nat.lt_of_lt_of_le hn K.1) (by simp; omega), K.2 n hn]⟩
    cases q : rd ws 4 0 0 with
    | bad s =>
      intro M' f
      refine ⟨?_, keep M' f⟩
      unfold wrongR readR
      rw [q]
      rfl
    | ok r a m =>
      intro S' M' f hS' s' hm
      by_cases c : a < ws.length
      · refine goes_over s' c ⟨?_, keep M' f⟩
        unfold wrongR readR
        rw [q]
        simp only [c, if_true]
        rfl
      · refine goes_end (f.get w (by simp; omega)) s' (List.getElem?_eq_none_iff.mpr (by omega)) hws (by simp) ⟨?_, keep M' f⟩
        unfold wrongR readR
        rw [q]
        simp only [c, if_false]
        rfl
  have g := key none none none none none none none
  rw [show ((0 : Nat) : Int) = 0 by rfl, Nat.sub_zero] at g
  have t : thenS [some (.ref W), some (.ref S), some (.int (0 : Nat)), none, none, none, none, none, none, none] (iRange1 (eCallO nLen (aCons (eVar 0) aNil)) [some (.ref W), some (.ref S), some (.int (0 : Nat)), none, none, none, none, none, none, none] M2) (fun s M1 => forL s.good (gOne 3) lp_l_rule_wrong_0 s.items [some (.ref W), some (.ref S), some (.int (0 : Nat)), none, none, none, none, none, none, none] M1) = forL (fun _ => True) (gOne 3) lp_l_rule_wrong_0 (rngItems 0 ws.length) [some (.ref W), some (.ref S), some (.int (0 : Nat)), none, none, none, none, none, none, none] M2 := by
    have e : iRange1 (eCallO nLen (aCons (eVar 0) aNil)) [some (.ref W), some (.ref S), some (.int (0 : Nat)), none, none, none, none, none, none, none] M2 = .ok ⟨rngItems 0 ws.length, fun _ => True⟩ M2 := by
      simp [sW, ro, show ws.length ≤ 16777216 by omega]
    rw [e]
    rfl
  show SRet (nextS (thenS _ (iRange1 (eCallO nLen (aCons (eVar 0) aNil)) _ M2) (fun s M1 => forL s.good (gOne 3) lp_l_rule_wrong_0 s.items _ M1)) after) _ _
  rw [t]
  exact SRet.imp g (fun _ _ h => h.elim) (fun _ _ h => h)
end LW
end
section
set_option maxHeartbeats 4000000
namespace LW
open PySem PySem.Spec PyProof.Rows L2 TL
open CM hiding b_l_unit m_l_unit g_l_unit b_l_rule m_l_rule b_l_any_rule m_l_any_rule any_rule rule_step rule_ok unit_ok
open CG
open CW hiding b_Reader_count b_Reader_is_dash b_Reader_last b_Reader_rule b_Reader_word b_read_rule g_Reader_rule m_Reader_count m_Reader_is_dash m_Reader_last m_Reader_rule m_Reader_word m_read_rule
open CWR
open CGW
open RL TLQ RD
def wrongG (ws : List Str) : Option Nat := match gameR ws with
  | .ok _ => none
  | .bad s => some s
theorem wrongR_rule (r : List Str) : wrongR r = match readR (ruleWs r) with | .ok _ _ _ => none | .bad s => some s := by
  unfold ruleWs
  by_cases c : r = []
  · rw [if_pos c, c]
    have e1 : readR [] = .bad 0 := rfl
    have e2 : readR [Str.ofString ""] = .bad 0 := by
      have n1 : ¬ Str.ofString "" = Str.ofString "point" := by decide +kernel
      have n2 : Str.ofString "" ≠ Str.ofString "unit" := by decide +kernel
      have e : rd [Str.ofString ""] 4 0 0 = .bad 0 := by
        unfold rd
        simp [n1, n2]
      unfold readR
      rw [e]
    unfold wrongR
    rw [e1, e2]
  · rw [if_neg c]
    rfl
noncomputable def tailW : MS := (sSeq (sIf (TL.tOr (TL.tB (eBin mLt (eCallO nLen (aCons (eVar 0) aNil)) (eC (.int 4)))) (TL.tAnd (TL.tB (eBin mEq (eBin mIdx (eVar 0) (eC (.int 0))) (eC (.str "down")))) (TL.tB (eBin mEq (eCallO nLen (aCons (eVar 0) aNil)) (eC (.int 4)))))) (sRet (eCallO nLen (aCons (eVar 0) aNil))) sNil)
    (sRet (eC .non)))
def GoesW (M0 : Mem) (ws : List Str) (W Q N a : Nat) (M : Mem) (res : Option Nat) : Prop := ∀ e3 e5 e6 : Option D,
  SRet (nextS (forL (fun _ => True) (gOne 3) lp_l_wrong_0 (rngItems (a : Nat) (ws.length - a)) [some (.ref W), some (.ref Q), some (.ref N), e3, none, e5, e6] M) tailW) (fun _ _ => False) (fun d M' => d = oD res ∧ Keep M0 M')
section
variable {M0 M : Mem} {W Q N a : Nat} {ws : List Str} {w : Str} {res : Option Nat}
theorem w_end (hW : M[W]? = some (.lst (ws.map D.str))) (h0 : ws[0]? = some w) (hl : ws.length ≤ 100000) (ha : ws[a]? = none) (k : Keep M0 M) (h : res = if ws.length < 4 ∨ (w = Str.ofString "down" ∧ ws.length = 4) then some ws.length else none) : GoesW M0 ws W Q N a M res := by
  intro e3 e5 e6
  have ha' : ws.length ≤ a := List.getElem?_eq_none_iff.mp ha
  rw [show ws.length - a = 0 by omega]
  have z : rngItems (a : Nat) 0 = [] := rfl
  rw [z, forL_nil trivial]
  show SRet (tailW _ M) _ _
  unfold tailW
  have sW := seqAt_lst hW
  have ln := len_at sW hl
  have ix : mIdx (.ref W) (.int 0) M = some (.str w, M) := wd_at sW h0
  have q2 : mEq (.str w) (.str (Str.ofString "down")) M = some (.bl (decide (w = Str.ofString "down")), M) := mEq_text
  by_cases c1 : ws.length < 4
  · rw [if_pos (.inl c1)] at h
    have c1' : ((ws.length : Nat) : Int) < 4 := by omega
    rw [TLP.ifT (M' := M) (by simp [-nLen_ref, ln, c1']), TLP.ret1 (v := .int (ws.length : Nat)) (M' := M) (by simp [-nLen_ref, ln])]
    exact SRet.ret ⟨by rw [h]; rfl, k⟩
  · have c1' : ¬ ((ws.length : Nat) : Int) < 4 := by omega
    by_cases c2 : w = Str.ofString "down"
    · rw [decide_eq_true c2] at q2
      by_cases c3 : ws.length = 4
      · rw [if_pos (.inr ⟨c2, c3⟩)] at h
        rw [c3] at ln
        rw [TLP.ifT (M' := M) (by simp [-nLen_ref, -mIdx_ref, ln, ix, q2]), TLP.ret1 (v := .int (4 : Nat)) (M' := M) (by simp [-nLen_ref, ln])]
        exact SRet.ret ⟨by rw [h, c3]; rfl, k⟩
      · have c3' : ¬ ((ws.length : Nat) : Int) = 4 := by omega
        rw [if_neg (by rintro (z | ⟨_, z⟩); exact c1 z; exact c3 z)] at h
        rw [TLP.ifN (M' := M) (by simp [-nLen_ref, -mIdx_ref, ln, ix, q2, c1', c3']), TLP.ret (v := .non) (M' := M) rfl]
        exact SRet.ret ⟨by rw [h]; rfl, k⟩
    · rw [decide_eq_false c2] at q2
      rw [if_neg (by rintro (z | ⟨z, _⟩); exact c1 z; exact c2 z)] at h
      rw [TLP.ifN (M' := M) (by simp [-nLen_ref, -mIdx_ref, ln, ix, q2, c1']), TLP.ret (v := .non) (M' := M) rfl]
      exact SRet.ret ⟨by rw [h]; rfl, k⟩
/-- a number's turn -/
theorem w_num (hl : ∀ x ∈ ws, x.length ≤ 1000) (hws : ws.length ≤ 100000) (hW : M[W]? = some (.lst (ws.map D.str))) (h0 : ws[0]? = some w) {qs : List Int} (hQ : M[Q]? = some (.lst (qs.map D.int))) {most : Nat} (hq : qs[a]? = some (most : Int)) (ha : a + 1 ≤ ws.length) (ha4 : a + 1 < 4) (k : Keep M0 M)
    (h : match num1 ws (a + 1) most with
      | none => res = some (a + 1)
      | some n => ∀ M', Keep M M' → Keep M0 M' → GoesW M0 ws W Q N (a + 1 + 1) M' res) : GoesW M0 ws W Q N (a + 1) M res := by
  cases q : ws[a + 1]? with
  | none =>
    have e : num1 ws (a + 1) most = none := by unfold num1; rw [q]
    rw [e] at h
    have la : a + 1 = ws.length := by have := List.getElem?_eq_none_iff.mp q; omega
    refine w_end hW h0 hws q k ?_
    rw [if_pos (.inl (by omega)), ← la]
    exact h
  | some x =>
    intro e3 e5 e6
    have la := (List.getElem?_eq_some_iff.mp q).1
    rw [show ws.length - (a + 1) = (ws.length - (a + 1 + 1)) + 1 by omega, rng_cons, forL_cons (env1 := [some (.ref W), some (.ref Q), some (.ref N), some (.int ((a + 1 : Nat) : Int)), none, e5, e6]) trivial rfl]
    have sW := seqAt_lst hW
    have ix := wd_at sW q
    have iq : mIdx (.ref Q) (.int (a : Nat)) M = some (.int (most : Int), M) := by
      have e := atI_nat (xs := qs.map D.int) (j := a) (v := .int (most : Int)) (by rw [List.getElem?_map, hq]; rfl)
      simp [seqAt_lst hQ, e]
    obtain ⟨M1, e1, k1⟩ := gives_of (l_number_all (x := x) (hl x (List.mem_of_getElem? q)) (most := most) M)
    have lt4 : ((a + 1 : Nat) : Int) < 4 := by omega
    have sub : mSub (.int ((a + 1 : Nat) : Int)) (.int 1) M = some (.int (a : Nat), M) := by
      show some (D.int (((a + 1 : Nat) : Int) - 1), M) = _
      congr 3
      omega
    have body : lp_l_wrong_0 [some (.ref W), some (.ref Q), some (.ref N), some (.int ((a + 1 : Nat) : Int)), none, e5, e6] M = (sIf (TL.tOr (TL.tB (eBin mIs (eVar 5) (eC .non))) (TL.tB (eBin mEq (eVar 5) (eC (.int 0))))) (sRet (eVar 3)) sNil) [some (.ref W), some (.ref Q), some (.ref N), some (.int ((a + 1 : Nat) : Int)), none, some (oD (wM x most)), e6] M1 := by
      generalize ((a + 1 : Nat) : Int) = z at ix lt4 sub ⊢
      unfold lp_l_wrong_0
      rw [TLP.ifT1 (M' := M) (by simp [lt4]), TLP.asg (v := oD (wM x most)) (M' := M1) (by simp [-mIdx_ref, -mSub_int, ix, sub, iq, e1])]
      rfl
    rw [body]
    have nm : num1 ws (a + 1) most = (match wM x most with | some (n + 1) => some (n + 1) | _ => none) := by unfold num1; (rw [q]) <;> rfl
    have stop : num1 ws (a + 1) most = none → wM x most = none ∨ wM x most = some 0 → SRet (nextS ((sIf (TL.tOr (TL.tB (eBin mIs (eVar 5) (eC .non))) (TL.tB (eBin mEq (eVar 5) (eC (.int 0))))) (sRet (eVar 3)) sNil) [some (.ref W), some (.ref Q), some (.ref N), some (.int ((a + 1 : Nat) : Int)), none, some (oD (wM x most)), e6] M1) (forL (fun _ => True) (gOne 3) lp_l_wrong_0 (rngItems (((a + 1 : Nat) : Int) + 1) (ws.length - (a + 1 + 1)))) |> fun o => nextS o tailW) (fun _ _ => False) (fun d M' => d = oD res ∧ Keep M0 M') := by
      intro hn hv
      rw [hn] at h
      rw [TLP.ifT1 (M' := M1) (by rcases hv with hv | hv <;> (rw [hv]; simp [oD])), TLP.ret (v := .int ((a + 1 : Nat) : Int)) (M' := M1) rfl]
      exact SRet.ret ⟨by rw [h]; rfl, k.trans k1⟩
    cases v : wM x most with
    | none => rw [v] at nm; exact v ▸ stop nm (.inl v)
    | some n =>
      cases n with
      | zero => rw [v] at nm; exact v ▸ stop nm (.inr v)
      | succ n =>
        rw [v] at nm
        rw [nm] at h
        have nz : ¬ ((n : Int) + 1 = 0) := by omega
        have e : (sIf (TL.tOr (TL.tB (eBin mIs (eVar 5) (eC .non))) (TL.tB (eBin mEq (eVar 5) (eC (.int 0))))) (sRet (eVar 3)) sNil) [some (.ref W), some (.ref Q), some (.ref N), some (.int ((a + 1 : Nat) : Int)), none, some (oD (some (n + 1))), e6] M1 = .next [some (.ref W), some (.ref Q), some (.ref N), some (.int ((a + 1 : Nat) : Int)), none, some (oD (some (n + 1))), e6] M1 := by
          rw [TLP.ifF1 (M' := M1) (by simp [oD, nz])]
          rfl
        rw [e]
        exact h M1 k1 (k.trans k1) _ _ _
/-- a throw's turn -/
theorem w_thr (hl : ∀ x ∈ ws, x.length ≤ 1000) (hws : ws.length ≤ 100000) (hW0 : M0[W]? = some (.lst (ws.map D.str))) (hN : M0.length ≤ N) (h0 : ws[0]? = some w) (hd : w = Str.ofString "down") (res : Option Nat) : ∀ (left : List Str) (a : Nat) (acc : List Thr) (M : Mem), 4 ≤ a → a ≤ ws.length → ws.drop a = left → Keep M0 M → M[N]? = some (.lst ((acc.map (·.name)).map D.str)) → acc.length ≤ 30 →
    (res = match thrR left a acc with | .ok _ => (if ws.length = 4 then some ws.length else none) | .bad s => some s) → GoesW M0 ws W Q N a M res
  | [], a, acc, M, ha, hal, hdr, k, aN, hc, h => by
    refine w_end (k.at hW0) h0 hws (List.getElem?_eq_none_iff.mpr (List.drop_eq_nil_iff.mp hdr)) k ?_
    rw [h]
    unfold thrR
    by_cases c : ws.length = 4
    · simp only [c, if_true]
      rw [if_pos (.inr ⟨hd, trivial⟩)]
    · simp only [c, if_false]
      rw [if_neg (by rintro (z | ⟨_, z⟩); omega; exact z)]
  | x :: xs, a, acc, M, ha, hal, hdr, k, aN, hc, h => by
    obtain ⟨hx, hd'⟩ := at_drop hdr
    have la := (List.getElem?_eq_some_iff.mp hx).1
    intro e3 e5 e6
    rw [show ws.length - a = (ws.length - (a + 1)) + 1 by omega, rng_cons, forL_cons (env1 := [some (.ref W), some (.ref Q), some (.ref N), some (.int (a : Nat)), none, e5, e6]) trivial rfl]
    have sW := seqAt_lst (k.at hW0)
    have ix := wd_at sW hx
    obtain ⟨M1, e1, k1⟩ := gives_of (throw_name_all (x := x) (hl x (List.mem_of_getElem? hx)) M)
    have n4 : ¬ ((a : Nat) : Int) < 4 := by omega
    have aN1 := k1.at aN
    have sN := seqAt_lst aN1
    have ln : nLen [.ref N] M1 = some (.int (acc.length : Nat), M1) := by
      rw [nLen_ref, sN]
      simp [show acc.length ≤ 16777216 by omega]
    have sW1 := seqAt_lst ((k.trans k1).at hW0)
    have i0 : mIdx (.ref W) (.int 0) M1 = some (.str w, M1) := wd_at sW1 h0
    have ql : mEq (.str w) (.str (Str.ofString "lane")) M1 = some (.bl false, M1) := by
      have ne : ¬ w = Str.ofString "lane" := by rw [hd]; decide +kernel
      have e : mEq (.str w) (.str (Str.ofString "lane")) M1 = some (.bl (decide (w = Str.ofString "lane")), M1) := mEq_text
      rw [e, decide_eq_false ne]
    obtain ⟨v, hv, e1⟩ : ∃ v : D, v = (match tN x with | some t => D.str t.name | none => D.non) ∧ m_l_throw_name [.str x] M = .ok v M1 := ⟨_, rfl, e1⟩
    have body : lp_l_wrong_0 [some (.ref W), some (.ref Q), some (.ref N), some (.int (a : Nat)), none, e5, e6] M = (sSeq (sIf (TL.tOr (TL.tB (eBin mEq (eBin mIdx (eVar 0) (eC (.int 0))) (eC (.str "lane")))) (TL.tOr (TL.tB (eBin mIs (eVar 6) (eC .non))) (TL.tOr (TL.tB (eBin mIn (eVar 6) (eVar 2))) (TL.tB (eBin mEq (eCallO nLen (aCons (eVar 2) aNil)) (eC (.int 30))))))) (sRet (eVar 3)) sNil)
    (sExpr (eMeth "list" mAppend (eVar 2) (aCons (eVar 6) aNil)))) [some (.ref W), some (.ref Q), some (.ref N), some (.int (a : Nat)), none, e5, some v] M1 := by
      unfold lp_l_wrong_0
      rw [TLP.ifF1 (M' := M) (by simp [n4]), TLP.asg (v := v) (M' := M1) (by simp [-mIdx_ref, ix, e1])]
      rfl
    rw [body]
    unfold thrR at h
    cases q : tN x with
    | none =>
      rw [q] at hv h
      subst hv
      rw [TLP.ifT (M' := M1) (by simp [-mIdx_ref, i0, ql]), TLP.ret1 (v := .int (a : Nat)) (M' := M1) rfl]
      exact SRet.ret ⟨by rw [h]; rfl, k.trans k1⟩
    | some t =>
      rw [q] at hv h
      dsimp only at hv h
      subst hv
      have i1 := in_strs (x := t.name) sN
      have tst : (TL.tOr (TL.tB (eBin mEq (eBin mIdx (eVar 0) (eC (.int 0))) (eC (.str "lane")))) (TL.tOr (TL.tB (eBin mIs (eVar 6) (eC .non))) (TL.tOr (TL.tB (eBin mIn (eVar 6) (eVar 2))) (TL.tB (eBin mEq (eCallO nLen (aCons (eVar 2) aNil)) (eC (.int 30))))))) [some (.ref W), some (.ref Q), some (.ref N), some (.int (a : Nat)), none, e5, some (.str t.name)] M1 = .ok (decide (t.name ∈ acc.map (·.name)) || decide (acc.length = 30)) M1 := by
        by_cases c : t.name ∈ acc.map (·.name)
        · rw [decide_eq_true c] at i1 ⊢
          simp [-mIdx_ref, i0, ql, i1]
        · rw [decide_eq_false c] at i1 ⊢
          by_cases c2 : acc.length = 30
          · rw [c2] at ln
            simp [-nLen_ref, -mIdx_ref, i0, ql, i1, ln, c2]
          · have c3 : ¬ ((acc.length : Nat) : Int) = 30 := by omega
            simp [-nLen_ref, -mIdx_ref, i0, ql, i1, ln, c2, c3]
      by_cases c : t.name ∈ acc.map (·.name) ∨ acc.length = 30
      · rw [if_pos c] at h
        have cb : (decide (t.name ∈ acc.map (·.name)) || decide (acc.length = 30)) = true := by simpa using c
        rw [cb] at tst
        rw [TLP.ifT (M' := M1) tst, TLP.ret1 (v := .int (a : Nat)) (M' := M1) rfl]
        exact SRet.ret ⟨by rw [h]; rfl, k.trans k1⟩
      · rw [if_neg c] at h
        have cb : (decide (t.name ∈ acc.map (·.name)) || decide (acc.length = 30)) = false := by simpa using c
        rw [cb] at tst
        have ap := mAppend_ok (y := .str t.name) aN1 (by simp; omega)
        have K2 := (k.trans k1).setNew (n := N) (o := .lst ((acc.map (·.name)).map D.str ++ [.str t.name])) hN
        have aN2 : (M1.set N (.lst ((acc.map (·.name)).map D.str ++ [.str t.name])))[N]? = some (.lst (((acc ++ [t]).map (·.name)).map D.str)) := by
          rw [List.getElem?_set_self (lt_of_at aN1)]
          simp
        have e2 : (sExpr (eMeth "list" mAppend (eVar 2) (aCons (eVar 6) aNil))) [some (.ref W), some (.ref Q), some (.ref N), some (.int (a : Nat)), none, e5, some (.str t.name)] M1 = .next [some (.ref W), some (.ref Q), some (.ref N), some (.int (a : Nat)), none, e5, some (.str t.name)] (M1.set N (.lst ((acc.map (·.name)).map D.str ++ [.str t.name]))) := by
          simp only [List.map_map] at sN ap ⊢
          simp [sN, ap]
        rw [TLP.ifN (M' := M1) tst, e2]
        generalize M1.set N (.lst ((acc.map (·.name)).map D.str ++ [.str t.name])) = M2 at *
        exact w_thr hl hws hW0 hN h0 hd res xs (a + 1) (acc ++ [t]) M2 (by omega) (by omega) hd' K2 aN2 (by simp; omega) h _ _ _
end
end LW
end
section
set_option maxHeartbeats 4000000
namespace LW
open PySem PySem.Spec PyProof.Rows L2 TL
open CM hiding b_l_unit m_l_unit g_l_unit b_l_rule m_l_rule b_l_any_rule m_l_any_rule any_rule rule_step rule_ok unit_ok
open CG
open CW hiding b_Reader_count b_Reader_is_dash b_Reader_last b_Reader_rule b_Reader_word b_read_rule g_Reader_rule m_Reader_count m_Reader_is_dash m_Reader_last m_Reader_rule m_Reader_word m_read_rule
open CWR
open CGW
open RL TLQ RD
theorem blank_is : Str.ofString " " = (⟨#[32]⟩ : Str) := by decide +kernel
abbrev splitS (x : Str) : List Str := Txt.split x (Str.ofString " ")
theorem split_free1 (x : Str) : ∀ p ∈ splitS x, 32 ∉ tlS p := by
  unfold splitS
  rw [blank_is]
  exact PySem.StrLaws.split_free x 32
theorem split_join1 (x : Str) : joinS (splitS x) = x := by
  show Txt.join _ _ = _
  rw [join_eq]
  exact PySem.StrLaws.join_split x (Str.ofString " ")
theorem split_w (x : Str) : ((splitS x).map (·.length)).sum + (splitS x).length ≤ x.length + 1 := PyProof.Rows.split_weight x _ (by decide +kernel)
theorem split_ne (x : Str) : splitS x ≠ [] := fun e => by
  have := PyProof.Rows.split_pos x (Str.ofString " ")
  rw [show Txt.split x (Str.ofString " ") = [] from e] at this
  simp at this
theorem joinL_app {S : List Nat} : ∀ {a b : List (List Nat)}, a ≠ [] → b ≠ [] → joinL S (a ++ b) = joinL S a ++ (S ++ joinL S b)
  | [x], b, _, hb => by
    cases b with
    | nil => exact absurd rfl hb
    | cons y b => rfl
  | x :: y :: a, b, _, hb => by
    have ih := joinL_app (S := S) (a := y :: a) (b := b) (by simp) hb
    show x ++ (S ++ joinL S ((y :: a) ++ b)) = (x ++ (S ++ joinL S (y :: a))) ++ (S ++ joinL S b)
    rw [ih]
    simp
theorem tl_joinS (ws : List Str) : tlS (joinS ws) = joinL [32] (ws.map tlS) := by
  have h : tlS (joinS ws) = tl (joinS ws) := rfl
  have e1 : tl (Str.ofString " ") = [32] := by decide +kernel
  rw [h]
  show tl (Txt.join (Str.ofString " ") ws) = _
  rw [join_eq, tl_join, e1]
/-- the pieces of all -/
def pieces (ws : List Str) : List Str := (ws.map splitS).flatten
theorem pieces_ne {ws : List Str} (h : ws ≠ []) : pieces ws ≠ [] := by
  cases ws with
  | nil => exact absurd rfl h
  | cons w ws =>
    intro e
    unfold pieces at e
    rw [List.map_cons, List.flatten_cons, List.append_eq_nil_iff] at e
    exact split_ne w e.1
theorem join_pieces : ∀ {ws : List Str}, joinL [32] ((pieces ws).map tlS) = joinL [32] (ws.map tlS)
  | [] => rfl
  | [w] => by
    have e : pieces [w] = splitS w := by simp [pieces]
    rw [e, ← tl_joinS, split_join1]
    rfl
  | w :: v :: ws => by
    have ih := join_pieces (ws := v :: ws)
    have e : pieces (w :: v :: ws) = splitS w ++ pieces (v :: ws) := by simp [pieces]
    rw [e, List.map_append, joinL_app (by simpa using split_ne w) (by simpa using pieces_ne (ws := v :: ws) (by simp)), ih, ← tl_joinS, split_join1]
    rfl
theorem joinS_pieces (ws : List Str) : joinS (pieces ws) = joinS ws := str_of_tl (by rw [tl_joinS, tl_joinS, join_pieces])
def pc (x : Str) : Nat := (splitS x).length
theorem pc_le (x : Str) : pc x ≤ x.length + 1 := by
  have := split_w x
  unfold pc
  omega
theorem pc_one (x : Str) : 1 ≤ pc x := List.length_pos_iff.mpr (split_ne x)
/-- words, bent or not -/
structure Bent (n : Nat) (ws : List Str) : Prop where
  len : ∀ x ∈ ws, x.length ≤ 100
  few : (ws.map pc).sum ≤ n
theorem pieces_len (ws : List Str) : (pieces ws).length = (ws.map pc).sum := by
  unfold pieces
  rw [List.length_flatten, List.map_map]
  rfl
theorem Bent.many {n : Nat} {ws : List Str} (h : Bent n ws) : ws.length ≤ n := by
  have go : ∀ ws : List Str, ws.length ≤ (ws.map pc).sum := by
    intro ws
    induction ws with
    | nil => exact Nat.le_refl _
    | cons w ws ih =>
      have := pc_one w
      rw [List.map_cons, List.sum_cons, List.length_cons]
      omega
  exact Nat.le_trans (go ws) h.few
theorem sum_bd {k : Nat} : ∀ {ws : List Str}, (∀ x ∈ ws, x.length ≤ k) → (ws.map (·.length)).sum ≤ k * ws.length
  | [], _ => Nat.zero_le _
  | x :: ws, h => by
    have i := sum_bd (ws := ws) fun y hy => h y (List.mem_cons_of_mem _ hy)
    have := h x List.mem_cons_self
    rw [List.map_cons, List.sum_cons, List.length_cons, Nat.mul_succ]
    omega
theorem Bent.ok {n : Nat} {ws : List Str} (h : Bent n ws) (hn : n ≤ 900) (hne : ws ≠ []) : WsOk (pieces ws) := by
  have ln : ∀ x ∈ pieces ws, x.length ≤ 100 := fun x hx => by
    unfold pieces at hx
    rw [List.mem_flatten] at hx
    obtain ⟨l, hl, hx⟩ := hx
    obtain ⟨w, hw, rfl⟩ := List.mem_map.mp hl
    exact Nat.le_trans (PyProof.Rows.part_short hx) (h.len w hw)
  have few : (pieces ws).length ≤ 900 := by rw [pieces_len]; exact Nat.le_trans h.few hn
  refine ⟨pieces_ne hne, fun x hx => ?_, fun x hx => Nat.le_trans (ln x hx) (by decide), ?_, few⟩
  · unfold pieces at hx
    rw [List.mem_flatten] at hx
    obtain ⟨l, hl, hx⟩ := hx
    obtain ⟨w, _, rfl⟩ := List.mem_map.mp hl
    exact split_free1 w x hx
  · have := sum_bd ln
    omega
/-- a text, taken apart -/
theorem bent_text {n : Nat} {ws : List Str} (h : Bent n ws) (hn : n ≤ 900) : ∃ ps, WsOk ps ∧ joinS ws = joinS ps := by
  cases ws with
  | nil =>
    refine ⟨[Str.ofString ""], ⟨by simp, by decide +kernel, by decide +kernel, by decide +kernel, by simp⟩, by decide +kernel⟩
  | cons w ws => exact ⟨pieces (w :: ws), h.ok hn (by simp), (joinS_pieces _).symm⟩
/-- a lane's last look -/
theorem w_lane {M0 M : Mem} {W Q N : Nat} {ws : List Str} {w : Str} {res : Option Nat} (hl : ∀ x ∈ ws, x.length ≤ 1000) (hws : ws.length ≤ 100000) (hW : M[W]? = some (.lst (ws.map D.str))) (h0 : ws[0]? = some w) (hd : w = Str.ofString "lane") (h4 : 4 ≤ ws.length) (k : Keep M0 M) (h : res = if 4 < ws.length then some 4 else none) : GoesW M0 ws W Q N 4 M res := by
  cases hx : ws[4]? with
  | none =>
    have := List.getElem?_eq_none_iff.mp hx
    refine w_end hW h0 hws hx k ?_
    have nd : ¬ w = Str.ofString "down" := by rw [hd]; decide +kernel
    rw [h, if_neg (by omega), if_neg (by rintro (z | ⟨z, _⟩); omega; exact nd z)]
  | some x =>
    have la := (List.getElem?_eq_some_iff.mp hx).1
    rw [if_pos la] at h
    intro e3 e5 e6
    rw [show ws.length - 4 = (ws.length - (4 + 1)) + 1 by omega, rng_cons, forL_cons (env1 := [some (.ref W), some (.ref Q), some (.ref N), some (.int ((4 : Nat) : Int)), none, e5, e6]) trivial rfl]
    have sW := seqAt_lst hW
    have ix : mIdx (.ref W) (.int 4) M = some (.str x, M) := wd_at sW hx
    obtain ⟨M1, e1, k1⟩ := gives_of (throw_name_all (x := x) (hl x (List.mem_of_getElem? hx)) M)
    have sW1 := seqAt_lst (k1.at hW)
    obtain ⟨v, hv, e1⟩ : ∃ v : D, v = (match tN x with | some t => D.str t.name | none => D.non) ∧ m_l_throw_name [.str x] M = .ok v M1 := ⟨_, rfl, e1⟩
    have i0 : mIdx (.ref W) (.int 0) M1 = some (.str w, M1) := wd_at sW1 h0
    have ql : mEq (.str w) (.str (Str.ofString "lane")) M1 = some (.bl true, M1) := by
      have e : mEq (.str w) (.str (Str.ofString "lane")) M1 = some (.bl (decide (w = Str.ofString "lane")), M1) := mEq_text
      rw [e, decide_eq_true hd]
    have body : lp_l_wrong_0 [some (.ref W), some (.ref Q), some (.ref N), some (.int ((4 : Nat) : Int)), none, e5, e6] M = .ret (.int 4) M1 := by
      unfold lp_l_wrong_0
      rw [TLP.ifF1 (M' := M) (by simp), TLP.asg (v := v) (M' := M1) (by simp [-mIdx_ref, ix, e1])]
      simp only [List.set]
      rw [TLP.ifT (M' := M1) (by simp [-mIdx_ref, i0, ql]), TLP.ret1 (v := .int 4) (M' := M1) rfl]
    rw [body]
    exact SRet.ret ⟨by rw [h]; rfl, k.trans k1⟩
theorem l_wrong_ok {ws : List Str} {W : Nat} {M : Mem} (h : WsOk ws) (hW : M[W]? = some (.lst (ws.map D.str))) : Ret (m_l_wrong [.ref W] M) (TL.Gives M (oD (wrongG ws))) := by
  show Ret (endS (b_l_wrong [some (.ref W), none, none, none, none, none, none] M)) _
  have few := h.few
  cases ws with
  | nil => exact absurd rfl h.ne
  | cons w r =>
    have sW := seqAt_lst hW
    have ix := game_first hW
    have q1 : mEq (.str w) (.str (Str.ofString "rally")) M = some (.bl (decide (w = Str.ofString "rally")), M) := mEq_text
    unfold b_l_wrong
    by_cases c1 : w = Str.ofString "rally"
    · rw [decide_eq_true c1] at q1
      have sl : mSl (.ref W) (some 1) none M = some (.ref M.length, M ++ [.lst (r.map D.str)]) := mSl_fr (k := 1) sW (by simp)
      have k1 := Keep.more M [MO.lst (r.map D.str)]
      have a1 := at_len M (MO.lst (r.map D.str))
      have few' : r.length ≤ 900 := by simp at few; omega
      obtain ⟨M2, e2, k2⟩ := gives_of (l_rule_wrong_ok (fun x hx => h.len x (List.mem_cons_of_mem _ hx)) (by omega) a1)
      rw [TLP.ifT (M' := M) (by simp [-mIdx_ref, ix, q1]), TLP.assoc, TLP.asg (v := oD (wrongR r)) (M' := M2) (by simp [-mSl_ref, sl, e2])]
      simp only [List.set]
      have g : wrongG (w :: r) = (wrongR r).map (· + 1) := by
        unfold wrongG
        rw [c1, gameR_rally, wrongR_rule]
        cases readR (ruleWs r) <;> rfl
      rw [g]
      cases q : wrongR r with
      | none =>
        rw [TLP.ret1 (v := .non) (M' := M2) (by simp [oD])]
        exact .ok ⟨rfl, k1.trans k2⟩
      | some s =>
        rw [TLP.ret1 (v := .int ((s + 1 : Nat) : Int)) (M' := M2) (by simp [oD])]
        exact .ok ⟨rfl, k1.trans k2⟩
    · rw [decide_eq_false c1] at q1
      rw [TLP.ifN (M' := M) (by simp [-mIdx_ref, ix, q1])]
      have k1 := Keep.more M [MO.lst [D.str (Str.ofString "down"), .str (Str.ofString "lane")]]
      have a1 := at_len M (MO.lst [D.str (Str.ofString "down"), .str (Str.ofString "lane")])
      have ni : mNotIn (.str w) (.ref M.length) (M ++ [MO.lst [D.str (Str.ofString "down"), .str (Str.ofString "lane")]]) = some (.bl (!decide (w ∈ [Str.ofString "down", Str.ofString "lane"])), M ++ [MO.lst [D.str (Str.ofString "down"), .str (Str.ofString "lane")]]) := by
        have := in_strs (x := w) (ys := [Str.ofString "down", Str.ofString "lane"]) (seqAt_lst a1)
        show (inD _ _ _).map _ = _
        have e : (inD (M ++ [MO.lst [D.str (Str.ofString "down"), .str (Str.ofString "lane")]]) (.str w) (.ref M.length)).map (fun k => (D.bl k, M ++ [MO.lst [D.str (Str.ofString "down"), .str (Str.ofString "lane")]])) = some (.bl (decide (w ∈ [Str.ofString "down", Str.ofString "lane"])), M ++ [MO.lst [D.str (Str.ofString "down"), .str (Str.ofString "lane")]]) := this
        cases q : inD (M ++ [MO.lst [D.str (Str.ofString "down"), .str (Str.ofString "lane")]]) (.str w) (.ref M.length) with
        | none => rw [q] at e; cases e
        | some b =>
          rw [q] at e
          simp only [Option.map_some, Option.some.injEq, Prod.mk.injEq, D.bl.injEq, and_true] at e ⊢
          rw [e]
      have hW1 := k1.at hW
      have ixM := game_first hW
      by_cases c2 : w = Str.ofString "down" ∨ w = Str.ofString "lane"
      · have m : decide (w ∈ [Str.ofString "down", Str.ofString "lane"]) = true := by simpa using c2
        rw [m] at ni
        rw [TLP.ifN (M' := M ++ [MO.lst [D.str (Str.ofString "down"), .str (Str.ofString "lane")]]) (by simp [-mIdx_ref, ixM, ni])]
        generalize M ++ [MO.lst [D.str (Str.ofString "down"), .str (Str.ofString "lane")]] = M1 at *
        have ix1 := game_first hW1
        -- the greatest numbers
        obtain ⟨Q, M2, m1, m2, m3, e2, k2, aQ, hm⟩ : ∃ (Q : Nat) (M2 : Mem) (m1 m2 m3 : Nat), (eBin mIdx (eLst (aCons (eLst (aCons (eC (.int 3)) (aCons (eC (.int 20)) (aCons (eC (.int 12)) aNil)))) (aCons (eLst (aCons (eC (.int 3)) (aCons (eBin mPow (eC (.int 10)) (eC (.int 6))) (aCons (eC (.int 3)) aNil)))) aNil))) (eCallO nInt (aCons (eBin mEq (eBin mIdx (eVar 0) (eC (.int 0))) (eC (.str "down"))) aNil))) [some (.ref W), none, none, none, none, none, none] M1 = .ok (.ref Q) M2 ∧ Keep M1 M2 ∧ M2[Q]? = some (.lst (([(m1 : Int), (m2 : Int), (m3 : Int)]).map D.int)) ∧ ((w = Str.ofString "down" ∧ m1 = 3 ∧ m2 = 1000000 ∧ m3 = 3) ∨ (w = Str.ofString "lane" ∧ m1 = 3 ∧ m2 = 20 ∧ m3 = 12)) := by
          have K := ((Keep.more M1 [MO.lst [D.int 3, .int 20, .int 12]]).trans (Keep.more _ [MO.lst [D.int 3, .int 1000000, .int 3]])).trans (Keep.more _ [MO.lst [D.ref M1.length, .ref (M1.length + 1)]])
          have ix2 := game_first (K.at hW1)
          have q2 : mEq (.str w) (.str (Str.ofString "down")) (M1 ++ [MO.lst [D.int 3, .int 20, .int 12]] ++ [MO.lst [D.int 3, .int 1000000, .int 3]] ++ [MO.lst [D.ref M1.length, .ref (M1.length + 1)]]) = some (.bl (decide (w = Str.ofString "down")), _) := mEq_text
          have pw : mPow (.int 10) (.int 6) (M1 ++ [MO.lst [D.int 3, .int 20, .int 12]]) = some (.int 1000000, M1 ++ [MO.lst [D.int 3, .int 20, .int 12]]) := by simp [mPow]
          have l3 : seqAt (M1 ++ [MO.lst [D.int 3, .int 20, .int 12]] ++ [MO.lst [D.int 3, .int 1000000, .int 3]] ++ [MO.lst [D.ref M1.length, .ref (M1.length + 1)]]) (M1.length + 1 + 1) = some [D.ref M1.length, .ref (M1.length + 1)] := seqAt_lst (by
            have := at_len (M1 ++ [MO.lst [D.int 3, .int 20, .int 12]] ++ [MO.lst [D.int 3, .int 1000000, .int 3]]) (MO.lst [D.ref M1.length, .ref (M1.length + 1)])
            rw [show (M1 ++ [MO.lst [D.int 3, .int 20, .int 12]] ++ [MO.lst [D.int 3, .int 1000000, .int 3]]).length = M1.length + 1 + 1 by simp] at this
            exact this)
          rcases c2 with c2 | c2
          · refine ⟨M1.length + 1, _, 3, 1000000, 3, ?_, K, ?_, .inl ⟨c2, rfl, rfl, rfl⟩⟩
            · rw [decide_eq_true c2] at q2
              simp only [List.append_assoc, List.cons_append, List.nil_append] at ix2 q2 l3 ⊢
              simp [-mIdx_ref, ix2, q2, pw]
              simp [l3]
            · simp
          · have nd : ¬ w = Str.ofString "down" := by rw [c2]; decide +kernel
            refine ⟨M1.length, _, 3, 20, 12, ?_, K, ?_, .inr ⟨c2, rfl, rfl, rfl⟩⟩
            · rw [decide_eq_false nd] at q2
              simp only [List.append_assoc, List.cons_append, List.nil_append] at ix2 q2 l3 ⊢
              simp [-mIdx_ref, ix2, q2, pw]
              simp [l3]
            · simp
        have k3 := Keep.more M2 [MO.lst []]
        have aN := at_len M2 (MO.lst [])
        rw [TLP.asg e2]
        simp only [List.set]
        rw [TLP.asg (v := .ref M2.length) (M' := M2 ++ [.lst []]) (by simp)]
        simp only [List.set]
        have K3 := (k1.trans k2).trans k3
        have aQ3 := k3.at aQ
        have lN : M.length ≤ M2.length := (k1.trans k2).1
        generalize M2 ++ [MO.lst []] = M3 at *
        generalize M2.length = N at *
        have hW3 := K3.at hW
        have ri : iRange2 (eC (.int 1)) (eCallO nLen (aCons (eVar 0) aNil)) [some (.ref W), some (.ref Q), some (.ref N), none, none, none, none] M3 = .ok ⟨rngItems 1 ((w :: r).length - 1), fun _ => True⟩ M3 := by
          have ln := len_at (seqAt_lst hW3) (by omega)
          have r1 : RngOk 1 := rngOk_of (by omega) (by omega)
          have r4 : RngOk ((w :: r).length : Nat) := rngOk_of (by omega) (by omega)
          have tn : ((((w :: r).length : Nat) : Int) - 1).toNat = (w :: r).length - 1 := by omega
          generalize (w :: r).length = n at *
          simp [-nLen_ref, ln, r1, r4, tn]
        refine Ret.endS ?_
        suffices key : GoesW M (w :: r) W Q N 1 M3 (wrongG (w :: r)) by
          have g := key none none none
          show SRet (nextS (thenS _ (iRange2 _ _ _ _) _) tailW) _ _
          rw [ri]
          exact g.imp (fun _ _ h => h.elim) (fun _ _ h => h)
        have hl := h.len
        have h0 : (w :: r)[0]? = some w := rfl
        have hg : wrongG (w :: r) = (match numsR (w :: r) m1 m2 m3 with
          | .bad s => some s
          | .ok _ _ _ => if w = Str.ofString "down" then (match thrR ((w :: r).drop 4) 4 [] with | .bad s => some s | .ok _ => if (w :: r).length = 4 then some (w :: r).length else none) else (if 4 < (w :: r).length then some 4 else none)) := by
          unfold wrongG
          rcases hm with ⟨hw, rfl, rfl, rfl⟩ | ⟨hw, rfl, rfl, rfl⟩
          · rw [hw, gameR_down]
            cases q : numsR (Str.ofString "down" :: r) 3 1000000 3 with
            | bad s => rfl
            | ok a b c =>
              obtain ⟨_, _, l3, _⟩ := nums_inv q
              have l4 : 4 ≤ (Str.ofString "down" :: r).length := by have := (List.getElem?_eq_some_iff.mp l3).1; omega
              dsimp only
              rw [if_pos rfl, show (Str.ofString "down" :: r).drop 4 = r.drop 3 from rfl]
              cases q2 : thrR (r.drop 3) 4 [] with
              | bad s => rfl
              | ok ts =>
                obtain ⟨more, f1, f2, _⟩ := thrR_words q2 (by simp) (by simp) (by simp)
                rw [List.nil_append] at f1
                subst f1
                have dl : (r.drop 3).length = ts.length := by rw [f2, List.length_map]
                rw [List.length_drop] at dl
                rw [List.length_cons] at l4
                dsimp only
                by_cases c : ts = []
                · rw [c] at dl
                  rw [if_pos c, if_pos (by rw [List.length_cons]; simp at dl; omega)]
                  simp at dl
                  dsimp only
                  congr 1
                  rw [List.length_cons]
                  omega
                · have := List.length_pos_iff.mpr c
                  rw [if_neg c, if_neg (by rw [List.length_cons]; omega)]
          · have nd : ¬ Str.ofString "lane" = Str.ofString "down" := by decide +kernel
            rw [hw, gameR_lane]
            cases q : numsR (Str.ofString "lane" :: r) 3 20 12 with
            | bad s => rfl
            | ok a b c =>
              dsimp only
              rw [if_neg nd]
              by_cases c : 3 < r.length
              · rw [if_pos c, if_pos (by rw [List.length_cons]; omega)]
              · rw [if_neg c, if_neg (by rw [List.length_cons]; omega)]
        generalize wrongG (w :: r) = res at *
        have hws : (w :: r).length ≤ 100000 := by omega
        have l1 : 0 + 1 ≤ (w :: r).length := by simp
        unfold numsR at hg
        refine w_num (a := 0) (most := m1) hl hws hW3 h0 aQ3 rfl l1 (by decide) K3 ?_
        cases n1 : num1 (w :: r) 1 m1 with
        | none =>
          try rw [show num1 (w :: r) (0 + 1) m1 = none from n1]
          rw [n1] at hg
          exact hg
        | some a =>
          try rw [show num1 (w :: r) (0 + 1) m1 = some a from n1]
          rw [n1] at hg
          dsimp only at hg
          have la := (List.getElem?_eq_some_iff.mp (num1_inv n1).1).1
          intro M4 k4 K4
          refine w_num (a := 1) (most := m2) hl hws (k4.at hW3) h0 (k4.at aQ3) rfl (by omega) (by decide) K4 ?_
          cases n2 : num1 (w :: r) 2 m2 with
          | none =>
            try rw [show num1 (w :: r) (1 + 1) m2 = none from n2]
            rw [n2] at hg
            exact hg
          | some b =>
            try rw [show num1 (w :: r) (1 + 1) m2 = some b from n2]
            rw [n2] at hg
            dsimp only at hg
            have lb := (List.getElem?_eq_some_iff.mp (num1_inv n2).1).1
            intro M5 k5 K5
            refine w_num (a := 2) (most := m3) hl hws ((k4.trans k5).at hW3) h0 ((k4.trans k5).at aQ3) rfl (by omega) (by decide) K5 ?_
            cases n3 : num1 (w :: r) 3 m3 with
            | none =>
              try rw [show num1 (w :: r) (2 + 1) m3 = none from n3]
              rw [n3] at hg
              exact hg
            | some c =>
              try rw [show num1 (w :: r) (2 + 1) m3 = some c from n3]
              rw [n3] at hg
              dsimp only at hg
              have lc := (List.getElem?_eq_some_iff.mp (num1_inv n3).1).1
              intro M6 k6 K6
              have k46 := (k4.trans k5).trans k6
              rcases hm with ⟨hw, _⟩ | ⟨hw, _⟩
              · rw [if_pos hw] at hg
                exact w_thr hl hws hW lN h0 hw res ((w :: r).drop 4) 4 [] M6 (Nat.le_refl _) (by omega) rfl K6 (k46.at aN) (by simp) (by rw [hg]; cases thrR ((w :: r).drop 4) 4 [] <;> rfl)
              · have nd : ¬ w = Str.ofString "down" := by rw [hw]; decide +kernel
                rw [if_neg nd] at hg
                exact w_lane hl hws (k46.at hW3) h0 hw (by omega) K6 hg
      · have m : decide (w ∈ [Str.ofString "down", Str.ofString "lane"]) = false := by simpa using c2
        rw [m] at ni
        rw [TLP.ifT (M' := M ++ [MO.lst [D.str (Str.ofString "down"), .str (Str.ofString "lane")]]) (by simp [-mIdx_ref, ixM, ni]), TLP.ret1 (v := .int (0 : Nat)) (M' := M ++ [MO.lst [D.str (Str.ofString "down"), .str (Str.ofString "lane")]]) rfl]
        refine .ok ⟨?_, k1⟩
        have g : wrongG (w :: r) = some 0 := by
          unfold wrongG gameR
          dsimp only
          rw [if_neg c1, if_neg (fun z => c2 (.inl z)), if_neg (fun z => c2 (.inr z))]
        rw [g]
        rfl
end LW
end
section
set_option maxHeartbeats 4000000
namespace LW
open PySem PySem.Spec PyProof.Rows L2 TL
open CM hiding b_l_unit m_l_unit g_l_unit b_l_rule m_l_rule b_l_any_rule m_l_any_rule any_rule rule_step rule_ok unit_ok
open CG
open CW hiding b_Reader_count b_Reader_is_dash b_Reader_last b_Reader_rule b_Reader_word b_read_rule g_Reader_rule m_Reader_count m_Reader_is_dash m_Reader_last m_Reader_rule m_Reader_word m_read_rule
open CWR
open CGW
open RL TLQ RD
theorem own_ok (s : Nat) (M : Mem) : Ret (m_l_own [.err (badW s)] M) (TL.Gives M (.str "word")) := by
  show Ret (endS (b_l_own [some (.err (badW s)), none, none] M)) _
  unfold b_l_own
  have s1 : ∀ (C : Str) (M : Mem), mIsE allX C (.err (badW s)) M = some (.bl (subX "BadWord" C), M) := fun C M => by rw [mIsE_err, BW, if_pos bw_in]
  have f : ∀ C ∈ (["NoThrow", "NoPins", "NoSide", "Over", "NoGame", "NoDeed", "TooMany", "NoLine", "Falls"] : List Str), subX "BadWord" C = false := by decide +kernel
  have t1 : subX "BadWord" "BadWord" = true := by decide +kernel
  have t2 : subX "BadWord" "ValueError" = true := by decide +kernel
  simp [-mIsE_err, s1, f, t1, t2, seq_new, seq_new0]
  simp [seqAt, List.findIdx?_cons]
  exact .ok ⟨rfl, Keep.more _ _⟩
def readD (ps : List Str) : D := match gameR ps with
  | .ok g => .tup [.str "read", g.toD]
  | .bad s => .tup [.str "word", .err (badW s)]
theorem l_read_ok {ps : List Str} (h : WsOk ps) (M : Mem) : Ret (m_l_read [.str (joinS ps)] M) (TL.Gives M (readD ps)) := by
  have rg := read_game_all (M := M) h
  show Ret (endS (b_l_read [some (.str (joinS ps)), none, none] M)) _
  generalize joinS ps = T at *
  unfold b_l_read readD
  rw [TLP.asg (v := .tup [.str "", .non]) (M' := M) (by simp)]
  simp only [List.set]
  cases q : gameR ps with
  | ok g =>
    rw [q] at rg
    obtain ⟨M', e, k⟩ := rg
    rw [TLP.any_ (env' := [some (.str T), some (.tup [.str "read", g.toD]), none]) (M' := M') (by
      rw [sTry_ap]
      simp [e]), TLP.ret (v := .tup [.str "read", g.toD]) (M' := M') (by simp)]
    exact .ok ⟨rfl, k⟩
  | bad s =>
    rw [q] at rg
    obtain ⟨M', e, k⟩ := rg
    obtain ⟨M2, e2, k2⟩ := gives_of (own_ok s M')
    have b0 : subX "BadWord" "ScoreError" = true := by decide +kernel
    rw [TLP.any_ (env' := [some (.str T), some (.tup [.str "word", .err (badW s)]), none]) (M' := M2) (by
      rw [sTry_ap]
      have body : (sAsg (gOne 1) (eTup (aCons (eC (.str "read")) (aCons (eCall m_read_game (aCons (eVar 0) aNil)) aNil)))) [some (.str T), some (.tup [.str "", .non]), none] M = .exc (badW s) [some (.str T), some (.tup [.str "", .non]), none] M' := by simp [e]
      rw [body]
      simp only
      rw [BW, if_pos bw_in, hdsRun_cons, BW, if_pos b0]
      simp [e2]), TLP.ret (v := .tup [.str "word", .err (badW s)]) (M' := M2) (by simp)]
    exact .ok ⟨rfl, k.trans k2⟩
theorem l_right_ok {n : Nat} {ws : List Str} (hb : Bent n ws) (hn : n ≤ 900) (M : Mem) : Ret (m_l_right [.str (joinS ws)] M) (TL.Gives M (.bl true)) := by
  obtain ⟨ps, h, e⟩ := bent_text hb hn
  rw [e]
  show Ret (endS (b_l_right [some (.str (joinS ps)), none, none] M)) _
  have sp : mSplit (.str (joinS ps)) [.str (Str.ofString " ")] M = some (.ref M.length, M ++ [.lst (ps.map D.str)]) := CW.split_ok h.ne h.free (by have := h.sum; omega) (by have := h.few; omega)
  have k1 := Keep.more M [MO.lst (ps.map D.str)]
  obtain ⟨M2, e2, k2⟩ := gives_of (l_wrong_ok h (at_len M (MO.lst (ps.map D.str))))
  obtain ⟨M3, e3, k3⟩ := gives_of (l_read_ok h M2)
  have K := (k1.trans k2).trans k3
  unfold b_l_right
  unfold readD at e3
  unfold wrongG at e2
  obtain ⟨T, hT⟩ : ∃ T, T = joinS ps := ⟨_, rfl⟩
  rw [← hT] at sp e3 ⊢
  cases q : gameR ps with
  | ok g =>
    rw [q] at e2 e3
    have e2' : m_l_wrong [.ref M.length] (M ++ [.lst (ps.map D.str)]) = .ok .non M2 := e2
    obtain ⟨gw_, gx⟩ := gameR_words q
    obtain ⟨M4, e4, k4⟩ := gives_of (show_game_ok gx M3)
    have tx : textG g = T := by
      rw [hT, ← gw_]
      rfl
    rw [tx] at e4
    have eq : mEq (.str T) (.str T) M4 = some (.bl true, M4) := by rw [mEq_text, decide_eq_true rfl]
    rw [TLP.asg (v := .non) (M' := M2) (by simp [-mSplit_str, sp, e2']), TLP.asg (v := .tup [.str "read", g.toD]) (M' := M3) (by simp [e3])]
    simp only [List.set]
    rw [TLP.ifT (M' := M3) (by simp), TLP.ret1 (v := .bl true) (M' := M4) (by simp [e4, eq])]
    exact .ok ⟨rfl, K.trans k4⟩
  | bad s =>
    rw [q] at e2 e3
    have e2' : m_l_wrong [.ref M.length] (M ++ [.lst (ps.map D.str)]) = .ok (.int (s : Nat)) M2 := e2
    rw [TLP.asg (v := .int (s : Nat)) (M' := M2) (by simp [-mSplit_str, sp, e2']), TLP.asg (v := .tup [.str "word", .err (badW s)]) (M' := M3) (by simp [e3])]
    simp only [List.set]
    rw [TLP.ifN (M' := M3) (by simp), TLP.ifN (M' := M3) (by simp), TLP.ret (v := .bl true) (M' := M3) (by simp [eAt, mAt, badW])]
    exact .ok ⟨rfl, K⟩
end LW
end
section
set_option maxHeartbeats 4000000
namespace LW
open PySem PySem.Spec PyProof.Rows L2 TL
open CM hiding b_l_unit m_l_unit g_l_unit b_l_rule m_l_rule b_l_any_rule m_l_any_rule any_rule rule_step rule_ok unit_ok
open CG
open CW hiding b_Reader_count b_Reader_is_dash b_Reader_last b_Reader_rule b_Reader_word b_read_rule g_Reader_rule m_Reader_count m_Reader_is_dash m_Reader_last m_Reader_rule m_Reader_word m_read_rule
open CWR
open CGW
open RL TLQ RD
section
variable {e1 e2 e3 : ME} {env : TL.Env} {M M1 M2 M3 : Mem} {a b c : Nat} {xs ys zs : List D}
theorem cat2 (h1 : e1 env M = .ok (.ref a) M1) (a1 : M1[a]? = some (.lst xs)) (h2 : e2 env M1 = .ok (.ref b) M2) (k2 : Keep M1 M2) (b2 : M2[b]? = some (.lst ys)) (hl : xs.length + ys.length ≤ 1000000) :
    (eBin mAdd e1 e2) env M = .ok (.ref M2.length) (M2 ++ [.lst (xs ++ ys)]) := by
  have ad := mAdd_lists (k2.at a1) b2 hl
  simp [-mAdd_ref, h1, h2, ad]
theorem cat3 (h1 : e1 env M = .ok (.ref a) M1) (a1 : M1[a]? = some (.lst xs)) (h2 : e2 env M1 = .ok (.ref b) M2) (k2 : Keep M1 M2) (b2 : M2[b]? = some (.lst ys)) (h3 : e3 env (M2 ++ [.lst (xs ++ ys)]) = .ok (.ref c) M3) (k3 : Keep (M2 ++ [.lst (xs ++ ys)]) M3) (c3 : M3[c]? = some (.lst zs)) (hl : xs.length + ys.length + zs.length ≤ 1000000) :
    (eBin mAdd (eBin mAdd e1 e2) e3) env M = .ok (.ref M3.length) (M3 ++ [.lst (xs ++ ys ++ zs)]) :=
  cat2 (cat2 h1 a1 h2 k2 b2 (by omega)) (at_len _ _) h3 k3 c3 (by rw [List.length_append]; omega)
end
section
variable {env : TL.Env} {M : Mem} {W i : Nat} {ws : List Str} {lo : ME}
theorem sl_to (h1 : env[1]? = some (some (.ref W))) (hW : M[W]? = some (.lst (ws.map D.str))) (hi : i ≤ ws.length) (hlo : lo env M = .ok (.int (i : Nat)) M) : (eSl (eVar 1) oNone (oSome lo)) env M = .ok (.ref M.length) (M ++ [.lst ((ws.take i).map D.str)]) := by
  have e := mSl_to (n := W) (k := i) (seqAt_lst hW) (by rw [List.length_map]; exact hi)
  rw [← List.map_take] at e
  simp [-mSl_ref, h1, hlo, e]
theorem sl_fr (h1 : env[1]? = some (some (.ref W))) (hW : M[W]? = some (.lst (ws.map D.str))) (hi : i ≤ ws.length) (hlo : lo env M = .ok (.int (i : Nat)) M) : (eSl (eVar 1) (oSome lo) oNone) env M = .ok (.ref M.length) (M ++ [.lst ((ws.drop i).map D.str)]) := by
  have e := mSl_fr (n := W) (k := i) (seqAt_lst hW) (by rw [List.length_map]; exact hi)
  rw [← List.map_drop] at e
  simp [-mSl_ref, h1, hlo, e]
end
/-- words of no great length -/
structure Bn (k n : Nat) (ws : List Str) : Prop where
  len : ∀ x ∈ ws, x.length ≤ k
  few : (ws.map pc).sum ≤ n
theorem Bn.many {k n : Nat} {ws : List Str} (h : Bn k n ws) : ws.length ≤ n := by
  have go : ∀ ws : List Str, ws.length ≤ (ws.map pc).sum := by
    intro ws
    induction ws with
    | nil => exact Nat.le_refl _
    | cons w ws ih =>
      have := pc_one w
      rw [List.map_cons, List.sum_cons, List.length_cons]
      omega
  exact Nat.le_trans (go ws) h.few
theorem Bn.app {k n m : Nat} {a b : List Str} (h : Bn k n a) (g : Bn k m b) : Bn k (n + m) (a ++ b) := ⟨fun x hx => by
  rcases List.mem_append.mp hx with hx | hx
  · exact h.len x hx
  · exact g.len x hx, by rw [List.map_append, List.sum_append]; have := h.few; have := g.few; omega⟩
theorem Bn.one {k : Nat} {x : Str} (h : x.length ≤ k) : Bn k (k + 1) [x] := ⟨fun y hy => by cases List.mem_singleton.mp hy; exact h, by have := pc_le x; simp; omega⟩
theorem Bn.mono {k n k' n' : Nat} {ws : List Str} (h : Bn k n ws) (hk : k ≤ k') (hn : n ≤ n') : Bn k' n' ws := ⟨fun x hx => Nat.le_trans (h.len x hx) hk, Nat.le_trans h.few hn⟩
theorem sum_split (ws : List Str) (i : Nat) : (ws.map pc).sum = ((ws.take i).map pc).sum + ((ws.drop i).map pc).sum := by rw [← List.sum_append, ← List.map_append, List.take_append_drop]
theorem Bn.cut {k n : Nat} {ws : List Str} (h : Bn k n ws) {i j : Nat} (hij : i ≤ j) : ((ws.take i).map pc).sum + ((ws.drop j).map pc).sum ≤ n := by
  have e1 := sum_split ws i
  have e2 := sum_split (ws.drop i) (j - i)
  rw [List.drop_drop, show i + (j - i) = j by omega] at e2
  have := h.few
  omega
theorem Bn.tk {k n : Nat} {ws : List Str} (h : Bn k n ws) (i : Nat) : ∀ x ∈ ws.take i, x.length ≤ k := fun x hx => h.len x (List.mem_of_mem_take hx)
theorem Bn.dr {k n : Nat} {ws : List Str} (h : Bn k n ws) (i : Nat) : ∀ x ∈ ws.drop i, x.length ≤ k := fun x hx => h.len x (List.mem_of_mem_drop hx)
/-- the middle one made anew -/
theorem Bn.mid {k n K : Nat} {ws : List Str} (h : Bn k n ws) {i j : Nat} (hij : i ≤ j) {z : Str} (hz : z.length ≤ K) (hK : k ≤ K) : Bn K (n + (K + 1)) (ws.take i ++ [z] ++ ws.drop j) := by
  refine ⟨fun x hx => ?_, ?_⟩
  · simp only [List.mem_append, List.mem_singleton] at hx
    rcases hx with (hx | rfl) | hx
    · exact Nat.le_trans (h.tk i x hx) hK
    · exact hz
    · exact Nat.le_trans (h.dr j x hx) hK
  · have := h.cut hij
    have := pc_le z
    simp only [List.map_append, List.sum_append, List.map_cons, List.map_nil, List.sum_cons, List.sum_nil]
    omega
theorem cutL_len {α : Type} (xs : List α) (lo hi : Option Int) : (cutL xs lo hi).length ≤ xs.length := by
  unfold cutL
  rw [List.length_take, List.length_drop]
  omega
theorem sl_text (x : Str) (lo hi : Option Int) (h : x.length ≤ 1000) : ∃ y : Str, y.length ≤ x.length ∧ ∀ M, mSl (.str x) lo hi M = some (.str y, M) := by
  refine ⟨S (cutL (tlS x) lo hi), by rw [S_len, lenS]; exact cutL_len _ _ _, fun M => ?_⟩
  have e := mSl_S (w := tlS x) (lo := lo) (hi := hi) (M := M) (by rw [← lenS]; exact h)
  rw [tl_S] at e
  exact e
theorem add_text {x y : Str} {n m : Nat} (hx : x.length ≤ n) (hy : y.length ≤ m) (h : n + m ≤ 10000) : ∃ z : Str, z.length ≤ n + m ∧ ∀ M, mAdd (.str x) (.str y) M = some (.str z, M) := by
  refine ⟨x ++ y, by rw [PySem.Str.length_append]; omega, fun M => ?_⟩
  rw [mAdd_str, if_pos (by rw [sizeLine_eq]; omega)]
theorem at_text {x : Str} {r : Int} (h : x.length ≤ 1000) (h0 : 0 ≤ r) (h1 : r < x.length) : ∃ y : Str, y.length = 1 ∧ ∀ M, mIdx (.str x) (.int r) M = some (.str y, M) := by
  obtain ⟨c, _, e⟩ := atI_ok (xs := x.cps.toList) h0 (by rw [show x.cps.toList.length = x.length by simp [Str.length]]; exact h1)
  refine ⟨⟨#[c]⟩, rfl, fun M => ?_⟩
  show (if x.length ≤ sizeLine then (atI x.cps.toList r).map fun c => (D.str ⟨#[c]⟩, M) else none) = _
  rw [e, if_pos (by rw [sizeLine_eq]; omega)]
  rfl
def oddA : List Str := (["", "-", "0", "1", "2", "3", "4", "7", "99", "100", "09", "12", "13", "20", "21", "1000000", "1000001"] : List String).map Str.ofString
def oddB : List Str := (["unit", "point", "Point", "rally", "down", "lane", "a:1", "a:1!", "a:01", "a:", ":1", "a:1000000!"] : List String).map Str.ofString
def oddC : List Str := (["a:1000001", "9a:1", "abcdefghi:1", "a:1!!", "a!", "a:-1", "+1", "1_0", "won", "!", "a:b:1"] : List String).map Str.ofString
theorem odd_short : ∀ x ∈ oddA ++ oddB ++ oddC, x.length ≤ 20 := by
  have h : ∀ x ∈ oddA ++ oddB ++ oddC, decide (x.length ≤ 20) = true := by decide +kernel
  exact fun x hx => of_decide_eq_true (h x hx)
theorem pick_odd {M : Mem} {O : Nat} (hO : M[O]? = some (.lst ((oddA ++ oddB ++ oddC).map D.str))) {r : Int} (h0 : 0 ≤ r) (h1 : r < 40) : ∃ w : Str, w.length ≤ 20 ∧ mIdx (.ref O) (.int r) M = some (.str w, M) := by
  have l : ((oddA ++ oddB ++ oddC).map D.str).length = 40 := rfl
  obtain ⟨d, hd, e⟩ := pick_at (seqAt_lst hO) h0 (by rw [l]; exact h1)
  obtain ⟨w, hw, rfl⟩ := List.mem_map.mp hd
  exact ⟨w, odd_short w hw, e⟩
def SpQ (t : Nat) (M : Mem) (k n : Nat) (d : D) (M' : Mem) : Prop := ∃ (W' : Nat) (ws' : List Str), d = .ref W' ∧ W' ≠ t ∧ M'[W']? = some (.lst (ws'.map D.str)) ∧ Bn (2 * k + 1) (n + 300) ws' ∧ Adv t M M'
/-- a throw's word, made of a number -/
def tk (k : Nat) : Str := Str.ofString "t" ++ nW (k : Nat) ++ Str.ofString ":" ++ nW (k : Nat)
theorem tk_len {k : Nat} (h : k ≤ 99) : (tk k).length ≤ 16 := by
  have l := nW_len (n := k) (by omega)
  have l1 : (Str.ofString "t").length = 1 := by decide +kernel
  have l2 : (Str.ofString ":").length = 1 := by decide +kernel
  unfold tk
  rw [PySem.Str.length_append, PySem.Str.length_append, PySem.Str.length_append]
  omega
theorem tk_ok {k : Nat} (h : k ≤ 99) (M : Mem) {env : TL.Env} (he : env[9]? = some (some (.int (k : Nat)))) : (eBin mAdd (eBin mAdd (eBin mAdd (eC (.str "t")) (eCallO nStr (aCons (eVar 9) aNil))) (eC (.str ":"))) (eCallO nStr (aCons (eVar 9) aNil))) env M = .ok (.str (tk k)) M := by
  have l := nW_len (n := k) (by omega)
  have l1 : (Str.ofString "t").length = 1 := by decide +kernel
  have l2 : (Str.ofString ":").length = 1 := by decide +kernel
  have s1 := nStr_nW (i := (k : Nat)) (by omega) (by omega) M
  have a1 : mAdd (.str (Str.ofString "t")) (.str (nW (k : Nat))) M = some (.str (Str.ofString "t" ++ nW (k : Nat)), M) := by rw [mAdd_str, if_pos (by rw [sizeLine_eq]; omega)]
  have a2 : mAdd (.str (Str.ofString "t" ++ nW (k : Nat))) (.str (Str.ofString ":")) M = some (.str (Str.ofString "t" ++ nW (k : Nat) ++ Str.ofString ":"), M) := by rw [mAdd_str, if_pos (by rw [sizeLine_eq, PySem.Str.length_append]; omega)]
  have a3 : mAdd (.str (Str.ofString "t" ++ nW (k : Nat) ++ Str.ofString ":")) (.str (nW (k : Nat))) M = some (.str (tk k), M) := by rw [mAdd_str, if_pos (by rw [sizeLine_eq, PySem.Str.length_append, PySem.Str.length_append]; omega)]; rfl
  simp [-mAdd_str, -nStr_int, he, s1, a1, a2, a3]
theorem notin_strs {M : Mem} {n : Nat} {x : Str} {ys : List Str} (hn : seqAt M n = some (ys.map D.str)) : mNotIn (.str x) (.ref n) M = some (.bl (!decide (x ∈ ys)), M) := by
  have a : (ys.map D.str).all flatD = true := List.all_eq_true.mpr fun x h => by obtain ⟨s, _, rfl⟩ := List.mem_map.mp h; rfl
  have e : inD M (.str x) (.ref n) = some (inF (.str x) (ys.map D.str)) := by
    have e0 : inD M (.str x) (.ref n) = (match seqAt M n with | some xs => if flatD (.str x) = true ∧ xs.all flatD = true then some (inF (.str x) xs) else none | none => none) := rfl
    rw [e0, hn]
    simp only [a, and_true]
    rfl
  show (inD M (.str x) (.ref n)).map _ = _
  rw [e, inF_strs]
  rfl
end LW
end
section
set_option maxHeartbeats 4000000
namespace LW
open PySem PySem.Spec PyProof.Rows L2 TL
open CM hiding b_l_unit m_l_unit g_l_unit b_l_rule m_l_rule b_l_any_rule m_l_any_rule any_rule rule_step rule_ok unit_ok
open CG
open CW hiding b_Reader_count b_Reader_is_dash b_Reader_last b_Reader_rule b_Reader_word b_read_rule g_Reader_rule m_Reader_count m_Reader_is_dash m_Reader_last m_Reader_rule m_Reader_word m_read_rule
open CWR
open CGW
open RL TLQ RD
theorem odd_at (M : Mem) {e1 e3 e4 e5 e6 e7 e8 e9 e10 : Option D} {t : D} : ∃ O M', Keep M M' ∧ M'[O]? = some (.lst ((oddA ++ oddB ++ oddC).map D.str)) ∧ ∀ rest : MS, (sSeq (sAsg (gOne 2) (eLst (aCons (eC (.str "")) (aCons (eC (.str "-")) (aCons (eC (.str "0")) (aCons (eC (.str "1")) (aCons (eC (.str "2")) (aCons (eC (.str "3")) (aCons (eC (.str "4")) (aCons (eC (.str "7")) (aCons (eC (.str "99")) (aCons (eC (.str "100")) (aCons (eC (.str "09")) (aCons (eC (.str "12")) (aCons (eC (.str "13")) (aCons (eC (.str "20")) (aCons (eC (.str "21")) (aCons (eC (.str "1000000")) (aCons (eC (.str "1000001")) aNil)))))))))))))))))))
    (sSeq (sAsg (gOne 2) (eBin mAdd (eVar 2) (eLst (aCons (eC (.str "unit")) (aCons (eC (.str "point")) (aCons (eC (.str "Point")) (aCons (eC (.str "rally")) (aCons (eC (.str "down")) (aCons (eC (.str "lane")) (aCons (eC (.str "a:1")) (aCons (eC (.str "a:1!")) (aCons (eC (.str "a:01")) (aCons (eC (.str "a:")) (aCons (eC (.str ":1")) (aCons (eC (.str "a:1000000!")) aNil)))))))))))))))
    (sSeq (sAsg (gOne 2) (eBin mAdd (eVar 2) (eLst (aCons (eC (.str "a:1000001")) (aCons (eC (.str "9a:1")) (aCons (eC (.str "abcdefghi:1")) (aCons (eC (.str "a:1!!")) (aCons (eC (.str "a!")) (aCons (eC (.str "a:-1")) (aCons (eC (.str "+1")) (aCons (eC (.str "1_0")) (aCons (eC (.str "won")) (aCons (eC (.str "!")) (aCons (eC (.str "a:b:1")) aNil)))))))))))))) rest))) [some t, e1, none, e3, e4, e5, e6, e7, e8, e9, e10] M = rest [some t, e1, some (.ref O), e3, e4, e5, e6, e7, e8, e9, e10] M' := by
  have a1 := at_len M (MO.lst (oddA.map D.str))
  have k1 := Keep.more M [MO.lst (oddA.map D.str)]
  obtain ⟨M1, hM1⟩ : ∃ M1, M1 = M ++ [MO.lst (oddA.map D.str)] := ⟨_, rfl⟩
  rw [← hM1] at a1 k1
  have v1 : ∀ {env : TL.Env}, (eLst (aCons (eC (.str "")) (aCons (eC (.str "-")) (aCons (eC (.str "0")) (aCons (eC (.str "1")) (aCons (eC (.str "2")) (aCons (eC (.str "3")) (aCons (eC (.str "4")) (aCons (eC (.str "7")) (aCons (eC (.str "99")) (aCons (eC (.str "100")) (aCons (eC (.str "09")) (aCons (eC (.str "12")) (aCons (eC (.str "13")) (aCons (eC (.str "20")) (aCons (eC (.str "21")) (aCons (eC (.str "1000000")) (aCons (eC (.str "1000001")) aNil)))))))))))))))))) env M = .ok (.ref M.length) M1 := by
    intro env
    rw [hM1]
    simp [oddA]
  have a2 := at_len M1 (MO.lst (oddB.map D.str))
  have k2 := Keep.more M1 [MO.lst (oddB.map D.str)]
  have v2 : ∀ {env : TL.Env}, (eLst (aCons (eC (.str "unit")) (aCons (eC (.str "point")) (aCons (eC (.str "Point")) (aCons (eC (.str "rally")) (aCons (eC (.str "down")) (aCons (eC (.str "lane")) (aCons (eC (.str "a:1")) (aCons (eC (.str "a:1!")) (aCons (eC (.str "a:01")) (aCons (eC (.str "a:")) (aCons (eC (.str ":1")) (aCons (eC (.str "a:1000000!")) aNil))))))))))))) env M1 = .ok (.ref M1.length) (M1 ++ [.lst (oddB.map D.str)]) := by
    intro env
    simp [oddB]
  have va : ∀ {e3 e4 e5 e6 e7 e8 e9 e10 : Option D}, (eVar 2) [some t, e1, some (.ref M.length), e3, e4, e5, e6, e7, e8, e9, e10] M1 = .ok (.ref M.length) M1 := by intros; simp
  have c1 := cat2 (va (e3 := e3) (e4 := e4) (e5 := e5) (e6 := e6) (e7 := e7) (e8 := e8) (e9 := e9) (e10 := e10)) a1 v2 k2 a2 (by decide)
  obtain ⟨M3, hM3⟩ : ∃ M3, M3 = M1 ++ [MO.lst (oddB.map D.str)] ++ [.lst (oddA.map D.str ++ oddB.map D.str)] := ⟨_, rfl⟩
  have a3 := at_len (M1 ++ [MO.lst (oddB.map D.str)]) (MO.lst (oddA.map D.str ++ oddB.map D.str))
  have k3 := k2.trans (Keep.more (M1 ++ [MO.lst (oddB.map D.str)]) [MO.lst (oddA.map D.str ++ oddB.map D.str)])
  rw [← hM3] at c1 a3 k3
  generalize (M1 ++ [MO.lst (oddB.map D.str)]).length = O1 at *
  have v3 : ∀ {env : TL.Env}, (eLst (aCons (eC (.str "a:1000001")) (aCons (eC (.str "9a:1")) (aCons (eC (.str "abcdefghi:1")) (aCons (eC (.str "a:1!!")) (aCons (eC (.str "a!")) (aCons (eC (.str "a:-1")) (aCons (eC (.str "+1")) (aCons (eC (.str "1_0")) (aCons (eC (.str "won")) (aCons (eC (.str "!")) (aCons (eC (.str "a:b:1")) aNil)))))))))))) env M3 = .ok (.ref M3.length) (M3 ++ [.lst (oddC.map D.str)]) := by
    intro env
    simp [oddC]
  have a4 := at_len M3 (MO.lst (oddC.map D.str))
  have k4 := Keep.more M3 [MO.lst (oddC.map D.str)]
  have vb : ∀ {e3 e4 e5 e6 e7 e8 e9 e10 : Option D}, (eVar 2) [some t, e1, some (.ref O1), e3, e4, e5, e6, e7, e8, e9, e10] M3 = .ok (.ref O1) M3 := by intros; simp
  have c2 := cat2 (vb (e3 := e3) (e4 := e4) (e5 := e5) (e6 := e6) (e7 := e7) (e8 := e8) (e9 := e9) (e10 := e10)) a3 v3 k4 a4 (by decide)
  refine ⟨(M3 ++ [MO.lst (oddC.map D.str)]).length, M3 ++ [MO.lst (oddC.map D.str)] ++ [.lst (oddA.map D.str ++ oddB.map D.str ++ oddC.map D.str)], ((k1.trans k3).trans k4).trans (Keep.more _ _), ?_, fun rest => ?_⟩
  rotate_left
  · rw [TLP.asg v1]
    simp only [List.set]
    rw [TLP.asg c1]
    simp only [List.set]
    rw [TLP.asg c2]
    simp only [List.set]
  · rw [at_len, List.map_append, List.map_append]
/-- the last word that is put in its place, changed by its way -/
noncomputable def chg : MS := (sIf (TL.tB (eBin mLt (eVar 7) (eC (.int 6)))) (sAsg (gOne 4) (eBin mIdx (eVar 2) (eCall m_l_draw (aCons (eVar 0) (aCons (eC (.int 40)) aNil))))) (sIf (TL.tB (eBin mEq (eVar 7) (eC (.int 6)))) (sAsg (gOne 4) (eBin mAdd (eBin mAdd (eSl (eVar 4) oNone (oSome (eVar 5))) (eVar 6)) (eSl (eVar 4) (oSome (eVar 5)) oNone))) (sIf (TL.tB (eBin mEq (eVar 7) (eC (.int 7)))) (sAsg (gOne 4) (eBin mAdd (eBin mAdd (eSl (eVar 4) oNone (oSome (eVar 5))) (eVar 6)) (eSl (eVar 4) (oSome (eBin mAdd (eVar 5) (eC (.int 1)))) oNone))) (sAsg (gOne 4) (eBin mAdd (eSl (eVar 4) oNone (oSome (eVar 5))) (eSl (eVar 4) (oSome (eBin mAdd (eVar 5) (eC (.int 1)))) oNone))))))
theorem chg_ok {t O k : Nat} {M : Mem} (T : Tape M t) (hO : M[O]? = some (.lst ((oddA ++ oddB ++ oddC).map D.str))) (Ot : O ≠ t) {u g : Str} (hu : u.length ≤ k) (h20 : 20 ≤ k) (hk : k ≤ 900) (hg : g.length = 1) {s y : Nat} {e1 e3 e8 e9 e10 : Option D} :
    ∃ z M', chg [some (.ref t), e1, some (.ref O), e3, some (.str u), some (.int (s : Nat)), some (.str g), some (.int (y : Nat)), e8, e9, e10] M = .next [some (.ref t), e1, some (.ref O), e3, some (.str z), some (.int (s : Nat)), some (.str g), some (.int (y : Nat)), e8, e9, e10] M' ∧ z.length ≤ 2 * k + 1 ∧ Adv t M M' := by
  obtain ⟨y1, l1, s1⟩ := sl_text u none (some (s : Int)) (by omega)
  obtain ⟨y2, l2, s2⟩ := sl_text u (some (s : Int)) none (by omega)
  obtain ⟨y3, l3, s3⟩ := sl_text u (some ((s : Int) + 1)) none (by omega)
  obtain ⟨z1, m1, a1⟩ := add_text (x := y1) (y := g) (n := k) (m := 1) (by omega) (by omega) (by omega)
  obtain ⟨z2, m2, a2⟩ := add_text (x := z1) (y := y2) (n := k + 1) (m := k) m1 (by omega) (by omega)
  obtain ⟨z3, m3, a3⟩ := add_text (x := z1) (y := y3) (n := k + 1) (m := k) m1 (by omega) (by omega)
  obtain ⟨z4, m4, a4⟩ := add_text (x := y1) (y := y3) (n := k) (m := k) (by omega) (by omega) (by omega)
  unfold chg
  by_cases c6 : y < 6
  · obtain ⟨_, M1, e, r, rfl, r0, r1, A⟩ := draw (many := 40) T (by decide) (by decide)
    obtain ⟨w, hw, ix⟩ := pick_odd (A.at hO Ot) r0 r1
    have c6' : ((y : Nat) : Int) < 6 := by omega
    refine ⟨w, M1, ?_, by omega, A⟩
    rw [TLP.ifT1 (M' := M) (by simp [c6'])]
    simp [-mIdx_ref, e, ix]
  · have c6' : ¬ ((y : Nat) : Int) < 6 := by omega
    rw [TLP.ifF1 (M' := M) (by simp [c6'])]
    by_cases c7 : y = 6
    · subst c7
      refine ⟨z2, M, ?_, by omega, Adv.refl T⟩
      rw [TLP.ifT1 (M' := M) (by simp)]
      simp [-mAdd_str, s1, s2, a1, a2]
    · have c7' : ¬ ((y : Nat) : Int) = 6 := by omega
      rw [TLP.ifF1 (M' := M) (by simp [c7'])]
      by_cases c8 : y = 7
      · subst c8
        refine ⟨z3, M, ?_, by omega, Adv.refl T⟩
        rw [TLP.ifT1 (M' := M) (by simp)]
        simp [-mAdd_str, s1, s3, a1, a3]
      · have c8' : ¬ ((y : Nat) : Int) = 7 := by omega
        refine ⟨z4, M, ?_, by omega, Adv.refl T⟩
        rw [TLP.ifF1 (M' := M) (by simp [c8'])]
        simp [-mAdd_str, s1, s3, a4]
end LW
end
section
set_option maxHeartbeats 4000000
namespace LW
open PySem PySem.Spec PyProof.Rows L2 TL
open CM hiding b_l_unit m_l_unit g_l_unit b_l_rule m_l_rule b_l_any_rule m_l_any_rule any_rule rule_step rule_ok unit_ok
open CG
open CW hiding b_Reader_count b_Reader_is_dash b_Reader_last b_Reader_rule b_Reader_word b_read_rule g_Reader_rule m_Reader_count m_Reader_is_dash m_Reader_last m_Reader_rule m_Reader_word m_read_rule
open CWR
open CGW
open RL TLQ RD
theorem l_spoilt_ok {t W k n : Nat} {ws : List Str} {M : Mem} (T : Tape M t) (hW : M[W]? = some (.lst (ws.map D.str))) (Wt : W ≠ t) (hne : ws ≠ []) (hb : Bn k n ws) (hk : 20 ≤ k) (hk2 : k ≤ 100) (hn : n ≤ 600) :
    Ret (m_l_spoilt [.ref t, .ref W] M) (SpQ t M k n) := by
  show Ret (endS (b_l_spoilt [some (.ref t), some (.ref W), none, none, none, none, none, none, none, none, none] M)) _
  unfold b_l_spoilt
  have tl := T.lt
  have many := hb.many
  obtain ⟨O, M1, k1, aO, st⟩ := odd_at M (t := .ref t) (e1 := some (.ref W)) (e3 := none) (e4 := none) (e5 := none) (e6 := none) (e7 := none) (e8 := none) (e9 := none) (e10 := none)
  rw [st]
  clear st
  have T1 := T.keep k1
  have Ot : O ≠ t := fun e => by
    subst e
    obtain ⟨s, ns, spot, left, way, ht, _⟩ := T1
    rw [aO] at ht
    have := congrArg (fun o : Option MO => match o with | some (.lst xs) => xs.length | _ => 0) ht
    simp [oddA, oddB, oddC] at this
  have W1 := k1.at hW
  have n1 : 1 ≤ ws.length := by cases ws with | nil => exact absurd rfl hne | cons x xs => simp
  obtain ⟨_, M2, e2, r2, rfl, r20, r21, A2⟩ := draw (many := (ws.length : Nat)) T1 (by omega) (by omega)
  obtain ⟨p, rfl⟩ : ∃ p : Nat, r2 = (p : Int) := ⟨r2.toNat, by omega⟩
  have pl : p < ws.length := by omega
  have lnw := len_at (seqAt_lst W1) (by omega)
  rw [TLP.asg (v := .int (p : Nat)) (M' := M2) (by simp [-nLen_ref, lnw, e2])]
  simp only [List.set]
  have W2 := A2.at W1 Wt
  have aO2 := A2.at aO Ot
  obtain ⟨u, hu, ul⟩ : ∃ u, ws[p]? = some u ∧ u.length ≤ k := ⟨ws[p], List.getElem?_eq_getElem pl, hb.len _ (List.getElem_mem pl)⟩
  have ixp := wd_at (seqAt_lst W2) hu
  rw [TLP.asg (v := .str u) (M' := M2) (by simp [-mIdx_ref, ixp])]
  simp only [List.set]
  obtain ⟨_, M3, e3, r3, rfl, r30, r31, A3⟩ := draw (many := ((u.length : Nat) : Int) + 1) A2.tape (by omega) (by omega)
  obtain ⟨s, rfl⟩ : ∃ s : Nat, r3 = (s : Int) := ⟨r3.toNat, by omega⟩
  have ln : nLen [.str u] M2 = some (.int (u.length : Nat), M2) := by simp; omega
  rw [TLP.asg (v := .int (s : Nat)) (M' := M3) (by simp [-nLen_str, ln, e3])]
  simp only [List.set]
  obtain ⟨_, M4, e4, r4, rfl, r40, r41, A4⟩ := draw (many := 8) A3.tape (by decide) (by decide)
  obtain ⟨g, gl, ixg⟩ := at_text (x := Str.ofString "0a-:! 9Z") (r := r4) (by decide +kernel) r40 (by
    have : (Str.ofString "0a-:! 9Z").length = 8 := by decide +kernel
    omega)
  rw [TLP.asg (v := .str g) (M' := M4) (by simp [e4, ixg])]
  simp only [List.set]
  obtain ⟨_, M5, e5, r5, rfl, r50, r51, A5⟩ := draw (many := 9) A4.tape (by decide) (by decide)
  obtain ⟨y, rfl⟩ : ∃ y : Nat, r5 = (y : Int) := ⟨r5.toNat, by omega⟩
  rw [TLP.asg (v := .int (y : Nat)) (M' := M5) (by simp [e5])]
  simp only [List.set]
  have A25 := (A3.trans A4).trans A5
  have A05 := ((Adv.of T k1).trans A2).trans A25
  have W5 := A25.at W2 Wt
  have aO5 := A25.at aO2 Ot
  have T5 := A05.tape
  have t5 := T5.lt
  clear e2 e3 e4 e5 ixg ln lnw ixp W2 W1 aO2 aO
  generalize hE : ([some (.ref t), some (.ref W), some (.ref O), some (.int (p : Nat)), some (.str u), some (.int (s : Nat)), some (.str g), some (.int (y : Nat)), none, none, none] : TL.Env) = E
  have E0 : E[0]? = some (some (.ref t)) := by rw [← hE]; rfl
  have E1 : E[1]? = some (some (.ref W)) := by rw [← hE]; rfl
  have E3 : E[3]? = some (some (.int (p : Nat))) := by rw [← hE]; rfl
  have E4 : E[4]? = some (some (.str u)) := by rw [← hE]; rfl
  have E5 : E[5]? = some (some (.int (s : Nat))) := by rw [← hE]; rfl
  have E7 : E[7]? = some (some (.int (y : Nat))) := by rw [← hE]; rfl
  have v1 : ∀ M' : Mem, (eVar 3) E M' = .ok (.int (p : Nat)) M' := fun M' => by simp [E3]
  have v2 : ∀ M' : Mem, (eBin mAdd (eVar 3) (eC (.int 1))) E M' = .ok (.int ((p + 1 : Nat) : Int)) M' := fun M' => by simp [E3]
  have vW : ∀ M' : Mem, (eVar 1) E M' = .ok (.ref W) M' := fun M' => by simp [E1]
  have to : ∀ {M'}, Keep M5 M' → (eSl (eVar 1) oNone (oSome (eVar 3))) E M' = .ok (.ref M'.length) (M' ++ [.lst ((ws.take p).map D.str)]) := fun k => sl_to E1 (k.at W5) (by omega) (v1 _)
  have fr0 : ∀ {M'}, Keep M5 M' → (eSl (eVar 1) (oSome (eVar 3)) oNone) E M' = .ok (.ref M'.length) (M' ++ [.lst ((ws.drop p).map D.str)]) := fun k => sl_fr E1 (k.at W5) (by omega) (v1 _)
  have fr1 : ∀ {M'}, Keep M5 M' → (eSl (eVar 1) (oSome (eBin mAdd (eVar 3) (eC (.int 1)))) oNone) E M' = .ok (.ref M'.length) (M' ++ [.lst ((ws.drop (p + 1)).map D.str)]) := fun k => sl_fr E1 (k.at W5) (by omega) (v2 _)
  have lw1 : ∀ M' : Mem, (eLst (aCons (eVar 4) aNil)) E M' = .ok (.ref M'.length) (M' ++ [.lst [.str u]]) := fun M' => by simp [E4]
  have fin : ∀ {W' : Nat} {ws' : List Str} {M' : Mem}, Keep M5 M' → M5.length ≤ W' → M'[W']? = some (.lst (ws'.map D.str)) → Bn (2 * k + 1) (n + 300) ws' → SpQ t M k n (.ref W') M' := fun kk h1 h2 h3 => ⟨_, _, rfl, by omega, h2, h3, A05.trans (Adv.of T5 kk)⟩
  have yt : ∀ (i : Int) M', (TL.tB (eBin mEq (eVar 7) (eC (.int i)))) E M' = .ok (decide ((y : Int) = i)) M' := fun i M' => by simp [E7]
  by_cases c0 : y = 0
  · rw [TLP.ifT (M' := M5) (by rw [yt]; simp [c0])]
    have K1 := Keep.more M5 [MO.lst ((ws.take p).map D.str)]
    have c := cat2 (to (Keep.refl _)) (at_len _ _) (fr1 K1) (Keep.more _ _) (at_len _ _) (by simp; omega)
    rw [TLP.ret1 c]
    refine .ok (fin (ws' := ws.take p ++ ws.drop (p + 1)) ((K1.trans (Keep.more _ _)).trans (Keep.more _ _)) (by simp only [List.length_append]; omega) (by rw [at_len, List.map_append]) ⟨fun x hx => ?_, ?_⟩)
    · rcases List.mem_append.mp hx with hx | hx
      · have := hb.tk p x hx; omega
      · have := hb.dr (p + 1) x hx; omega
    · have := hb.cut (show p ≤ p + 1 by omega)
      rw [List.map_append, List.sum_append]
      omega
  rw [TLP.ifN (M' := M5) (by rw [yt]; simp; omega)]
  by_cases c1 : y = 1
  · rw [TLP.ifT (M' := M5) (by rw [yt]; simp [c1])]
    have K1 := Keep.more M5 [MO.lst ((ws.take p).map D.str)]
    have K2 := K1.trans (Keep.more (M5 ++ [MO.lst ((ws.take p).map D.str)]) [MO.lst [.str u]])
    have K3 := K2.trans (Keep.more (M5 ++ [MO.lst ((ws.take p).map D.str)] ++ [MO.lst [.str u]]) [MO.lst ((ws.take p).map D.str ++ [.str u])])
    have c := cat3 (to (Keep.refl _)) (at_len _ _) (lw1 _) (Keep.more _ _) (at_len _ _) (fr0 K3) (Keep.more _ _) (at_len _ _) (by simp; omega)
    rw [TLP.ret1 c]
    exact .ok (fin (ws' := ws.take p ++ [u] ++ ws.drop p) (((K3.trans (Keep.more _ _)).trans (Keep.more _ _))) (by simp only [List.length_append]; omega) (by rw [at_len]; simp) ((hb.mid (Nat.le_refl p) (z := u) (K := k) ul (Nat.le_refl _)).mono (by omega) (by omega)))
  rw [TLP.ifN (M' := M5) (by rw [yt]; simp; omega)]
  obtain ⟨w0, hw0⟩ : ∃ w0, ws[0]? = some w0 := ⟨ws[0], List.getElem?_eq_getElem (by omega)⟩
  have ix0 : mIdx (.ref W) (.int 0) M5 = some (.str w0, M5) := wd_at (seqAt_lst W5) hw0
  have qd : mEq (.str w0) (.str (Str.ofString "down")) M5 = some (.bl (decide (w0 = Str.ofString "down")), M5) := mEq_text
  obtain ⟨b2, tst⟩ : ∃ b2, (TL.tAnd (TL.tB (eBin mEq (eVar 7) (eC (.int 2)))) (TL.tAnd (TL.tB (eBin mEq (eBin mIdx (eVar 1) (eC (.int 0))) (eC (.str "down")))) (TL.tB (eBin mGt (eVar 5) (eC (.int 0)))))) E M5 = .ok b2 M5 := by
    by_cases c2 : y = 2
    · by_cases c3 : w0 = Str.ofString "down"
      · rw [decide_eq_true c3] at qd
        exact ⟨_, by simp [-mIdx_ref, E7, E1, E5, c2, ix0, qd]; rfl⟩
      · rw [decide_eq_false c3] at qd
        exact ⟨false, by simp [-mIdx_ref, E7, E1, E5, c2, ix0, qd]⟩
    · have c2' : ¬ ((y : Nat) : Int) = 2 := by omega
      exact ⟨false, by simp [E7, c2']⟩
  cases b2 with
  | true =>
    rw [TLP.ifT tst, TLP.assoc]
    obtain ⟨_, M6, e6, r6, rfl, r60, r61, A6⟩ := draw (many := 8) T5 (by decide) (by decide)
    obtain ⟨j, rfl⟩ : ∃ j : Nat, r6 = (j : Int) := ⟨r6.toNat, by omega⟩
    have W6 := A6.at W5 Wt
    have T6 := A6.tape
    have t6 := T6.lt
    -- the words made
    obtain ⟨M7, e7, k7, a7⟩ : ∃ M7, (eComp 9 (iRange1 (eBin mAdd (eC (.int 27)) (eCall m_l_draw (aCons (eVar 0) (aCons (eC (.int 8)) aNil))))) tYesD (eBin mAdd (eBin mAdd (eBin mAdd (eC (.str "t")) (eCallO nStr (aCons (eVar 9) aNil))) (eC (.str ":"))) (eCallO nStr (aCons (eVar 9) aNil)))) E M5 = .ok (.ref M6.length) M7 ∧ Keep M6 M7 ∧ M7[M6.length]? = some (.lst (((List.range (27 + j)).map tk).map D.str)) := by
      have ro : RngOk ((27 : Int) + (j : Nat)) := rngOk_of (by omega) (by omega)
      have src : (iRange1 (eBin mAdd (eC (.int 27)) (eCall m_l_draw (aCons (eVar 0) (aCons (eC (.int 8)) aNil))))) E M5 = .ok ⟨rngItems 0 (27 + j), fun _ => True⟩ M6 := by
        have tn : ((27 : Int) + (j : Nat)).toNat = 27 + j := by omega
        simp [E0, e6, ro, tn]
      have cc : Ret (compL (fun _ => True) 9 tYesD (eBin mAdd (eBin mAdd (eBin mAdd (eC (.str "t")) (eCallO nStr (aCons (eVar 9) aNil))) (eC (.str ":"))) (eCallO nStr (aCons (eVar 9) aNil))) M6.length E (rngItems 0 (27 + j)) (M6 ++ [.lst []])) (fun _ M7 => Keep M6 M7 ∧ M7[M6.length]? = some (.lst (((List.range (27 + j)).map tk).map D.str))) := by
        refine Ret.comp (fun d => match d with | .int i => .str (tk i.toNat) | _ => .non) (fun _ _ => trivial) (by rw [rng_length]; omega) (fun d hd M' k' => ?_) fun M2 k2 a2 => ⟨k2, ?_⟩
        · unfold rngItems at hd
          obtain ⟨q, hq, rfl⟩ := List.mem_map.mp hd
          have hq' := List.mem_range.mp hq
          have z : (0 : Int) + (q : Nat) = (q : Nat) := by omega
          rw [z]
          have := tk_ok (k := q) (by omega) M' (env := E.set 9 (some (.int (q : Nat)))) (List.getElem?_set_self (by rw [← hE]; simp))
          rw [this]
          exact .ok ⟨by simp, Keep.refl _⟩
        · rw [a2]
          unfold rngItems
          rw [List.map_map, List.map_map]
          congr 3
          funext q
          simp
      obtain ⟨_, M7, e7, k7, a7⟩ := cc
      refine ⟨M7, ?_, k7, a7⟩
      simp only [eComp_ap, src, Out.bind_ok, e7]
    rw [TLP.asg e7]
    generalize hms : (List.range (27 + j)).map tk = ms at *
    have ml : ∀ x ∈ ms, x.length ≤ 16 := fun x hx => by
      rw [← hms] at hx
      obtain ⟨q, hq, rfl⟩ := List.mem_map.mp hx
      exact tk_len (by have := List.mem_range.mp hq; omega)
    have mn : ms.length ≤ 34 := by rw [← hms]; simp; omega
    generalize hE8 : E.set 8 (some (.ref M6.length)) = F
    have F1 : F[1]? = some (some (.ref W)) := by rw [← hE8, List.getElem?_set_ne (by decide)]; exact E1
    have F8 : F[8]? = some (some (.ref M6.length)) := by rw [← hE8]; exact List.getElem?_set_self (by rw [← hE]; simp)
    have Fl : 10 < F.length := by rw [← hE8, ← hE]; simp
    have W7 := k7.at W6
    have cc : Ret (compL (fun M => seqAt M M6.length = some (ms.map D.str)) 10 (TL.tB (eBin mNotIn (eVar 10) (eVar 1))) (eVar 10) M7.length F (ms.map D.str) (M7 ++ [.lst []])) (fun _ M8 => Keep M7 M8 ∧ M8[M7.length]? = some (.lst ((ms.filter fun x => !decide (x ∈ ws)).map D.str))) := by
      refine Ret.compF (fun d => match d with | .str x => !decide (x ∈ ws) | _ => false) (fun d => d) (fun M' k' => k'.seq (seqAt_lst a7)) (by rw [List.length_map]; omega) (fun d hd M' k' => ?_) fun M2 k2 a2 => ⟨k2, ?_⟩
      · obtain ⟨x, hx, rfl⟩ := List.mem_map.mp hd
        have ni := notin_strs (x := x) (k'.seq (seqAt_lst W7))
        have g10 : (F.set 10 (some (.str x)))[10]? = some (some (.str x)) := List.getElem?_set_self Fl
        have g1 : (F.set 10 (some (.str x)))[1]? = some (some (.ref W)) := by rw [List.getElem?_set_ne (by decide)]; exact F1
        generalize F.set 10 (some (.str x)) = F' at *
        have e : (TL.tB (eBin mNotIn (eVar 10) (eVar 1))) F' M' = .ok (!decide (x ∈ ws)) M' := by simp [g10, g1, ni]
        rw [e]
        exact .ok ⟨rfl, Keep.refl _, fun _ => by simp [g10]; exact .ok ⟨rfl, Keep.refl _⟩⟩
      · rw [a2, List.map_id', List.filter_map]
        rfl
    obtain ⟨_, M8, e8, k8, a8⟩ := cc
    have e8' : (eComp 10 (iAny (eVar 8)) (TL.tB (eBin mNotIn (eVar 10) (eVar 1))) (eVar 10)) F M7 = .ok (.ref M7.length) M8 := by
      have so := srcOf_ref (seqAt_lst a7)
      simp [F8, so, e8]
    have vF : (eVar 1) F M7 = .ok (.ref W) M7 := by simp [F1]
    have fl : (ms.filter fun x => !decide (x ∈ ws)).length ≤ 34 := Nat.le_trans (List.length_filter_le _ _) mn
    have c := cat2 vF W7 e8' k8 a8 (by simp only [List.length_map]; omega)
    rw [TLP.ret1 c]
    have A68 := A6.trans (Adv.of T6 ((k7.trans k8).trans (Keep.more M8 [MO.lst (ws.map D.str ++ (ms.filter fun x => !decide (x ∈ ws)).map D.str)])))
    refine .ok ⟨_, ws ++ (ms.filter fun x => !decide (x ∈ ws)), rfl, ?_, by rw [at_len, List.map_append], ?_, A05.trans A68⟩
    · have := (k7.trans k8).1
      omega
    · refine (hb.mono (by omega) (Nat.le_refl n)).app (m := 300) ⟨fun x hx => ?_, ?_⟩
      · have := ml x ((List.mem_filter.mp hx).1)
        omega
      · have bd : ∀ l : List Str, (∀ x ∈ l, x ∈ ms ∧ pc x ≤ 3) → (l.map pc).sum ≤ 3 * l.length := fun l => by
          induction l with
          | nil => intro _; exact Nat.le_refl _
          | cons x l ih =>
            intro h
            have := ih fun y hy => h y (List.mem_cons_of_mem _ hy)
            have := (h x List.mem_cons_self).2
            rw [List.map_cons, List.sum_cons, List.length_cons]
            omega
        have pm : ∀ x ∈ ms, pc x ≤ 3 := fun x hx => by
          rw [← hms] at hx
          obtain ⟨q, hq, rfl⟩ := List.mem_map.mp hx
          have hq := List.mem_range.mp hq
          have : ∀ q : Fin 34, decide (pc (tk q.val) ≤ 3) = true := by decide +kernel
          exact of_decide_eq_true (this ⟨q, by omega⟩)
        have hf : ∀ x ∈ (ms.filter fun x => !decide (x ∈ ws)), x ∈ ms ∧ pc x ≤ 3 := fun x hx => by
          have := (List.mem_filter.mp hx).1
          exact ⟨this, pm x this⟩
        have := bd _ hf
        omega
  | false =>
    rw [TLP.ifN tst]
    by_cases c2 : y = 2
    · rw [TLP.ifT (M' := M5) (by rw [yt]; simp [c2])]
      have K1 := Keep.more M5 [MO.lst [D.str u]]
      have c := cat2 (vW M5) W5 (lw1 M5) K1 (at_len _ _) (by simp; omega)
      rw [TLP.ret1 c]
      exact .ok (fin (ws' := ws ++ [u]) (K1.trans (Keep.more _ _)) (by simp only [List.length_append]; omega) (by rw [at_len]; simp) ((hb.app (Bn.one ul)).mono (by omega) (by omega)))
    rw [TLP.ifN (M' := M5) (by rw [yt]; simp; omega)]
    by_cases c3 : y = 3
    · rw [TLP.ifT (M' := M5) (by rw [yt]; simp [c3]), TLP.ret1 (to (Keep.refl _))]
      refine .ok (fin (ws' := ws.take p) (Keep.more _ _) (Nat.le_refl _) (at_len _ _) ⟨fun x hx => by have := hb.tk p x hx; omega, ?_⟩)
      have := hb.cut (show p ≤ p by omega)
      omega
    rw [TLP.ifN (M' := M5) (by rw [yt]; simp; omega)]
    obtain ⟨z, M6, ez, lz, A6⟩ := chg_ok (e1 := some (.ref W)) (e3 := some (.int (p : Nat))) (e8 := none) (e9 := none) (e10 := none) T5 aO5 Ot ul hk (by omega) gl (s := s) (y := y)
    rw [hE] at ez
    have ez' : (sSeq chg (sRet (eBin mAdd (eBin mAdd (eSl (eVar 1) oNone (oSome (eVar 3))) (eLst (aCons (eVar 4) aNil))) (eSl (eVar 1) (oSome (eBin mAdd (eVar 3) (eC (.int 1)))) oNone)))) E M5 = (sRet (eBin mAdd (eBin mAdd (eSl (eVar 1) oNone (oSome (eVar 3))) (eLst (aCons (eVar 4) aNil))) (eSl (eVar 1) (oSome (eBin mAdd (eVar 3) (eC (.int 1)))) oNone))) [some (.ref t), some (.ref W), some (.ref O), some (.int (p : Nat)), some (.str z), some (.int (s : Nat)), some (.str g), some (.int (y : Nat)), none, none, none] M6 := TLP.any_ ez
    show Ret (endS ((sSeq chg (sRet (eBin mAdd (eBin mAdd (eSl (eVar 1) oNone (oSome (eVar 3))) (eLst (aCons (eVar 4) aNil))) (eSl (eVar 1) (oSome (eBin mAdd (eVar 3) (eC (.int 1)))) oNone)))) E M5)) _
    rw [ez']
    have W6 := A6.at W5 Wt
    have T6 := A6.tape
    have t6 := T6.lt
    generalize hF : ([some (.ref t), some (.ref W), some (.ref O), some (.int (p : Nat)), some (.str z), some (.int (s : Nat)), some (.str g), some (.int (y : Nat)), none, none, none] : TL.Env) = F
    have F1 : F[1]? = some (some (.ref W)) := by rw [← hF]; rfl
    have F3 : F[3]? = some (some (.int (p : Nat))) := by rw [← hF]; rfl
    have F4 : F[4]? = some (some (.str z)) := by rw [← hF]; rfl
    have u1 : ∀ M' : Mem, (eVar 3) F M' = .ok (.int (p : Nat)) M' := fun M' => by simp [F3]
    have u2 : ∀ M' : Mem, (eBin mAdd (eVar 3) (eC (.int 1))) F M' = .ok (.int ((p + 1 : Nat) : Int)) M' := fun M' => by simp [F3]
    have lz1 : ∀ M' : Mem, (eLst (aCons (eVar 4) aNil)) F M' = .ok (.ref M'.length) (M' ++ [.lst [.str z]]) := fun M' => by simp [F4]
    have toF := sl_to (lo := eVar 3) F1 W6 (show p ≤ ws.length by omega) (u1 _)
    have K1 := Keep.more M6 [MO.lst ((ws.take p).map D.str)]
    have K2 := K1.trans (Keep.more (M6 ++ [MO.lst ((ws.take p).map D.str)]) [MO.lst [.str z]])
    have K3 := K2.trans (Keep.more (M6 ++ [MO.lst ((ws.take p).map D.str)] ++ [MO.lst [.str z]]) [MO.lst ((ws.take p).map D.str ++ [.str z])])
    have frF := sl_fr (lo := eBin mAdd (eVar 3) (eC (.int 1))) F1 (K3.at W6) (show p + 1 ≤ ws.length by omega) (u2 _)
    have c := cat3 toF (at_len _ _) (lz1 _) (Keep.more _ _) (at_len _ _) frF (Keep.more _ _) (at_len _ _) (by simp; omega)
    rw [TLP.ret c]
    refine .ok ⟨_, ws.take p ++ [z] ++ ws.drop (p + 1), rfl, by simp only [List.length_append]; omega, by rw [at_len]; simp, (hb.mid (show p ≤ p + 1 by omega) lz (by omega)).mono (by omega) (by omega), A05.trans (A6.trans (Adv.of T6 ((K3.trans (Keep.more _ _)).trans (Keep.more _ _))))⟩
end LW
end
section
set_option maxHeartbeats 4000000
namespace LW
open PySem PySem.Spec PyProof.Rows L2 TL
open CM hiding b_l_unit m_l_unit g_l_unit b_l_rule m_l_rule b_l_any_rule m_l_any_rule any_rule rule_step rule_ok unit_ok
open CG
open CW hiding b_Reader_count b_Reader_is_dash b_Reader_last b_Reader_rule b_Reader_word b_read_rule g_Reader_rule m_Reader_count m_Reader_is_dash m_Reader_last m_Reader_rule m_Reader_word m_read_rule
open CWR
open CGW
open RL TLQ RD
theorem lw_len : ∀ o : Option Rule, 1 ≤ (lw o).length ∧ (lw o).length ≤ 6 * lu o + 1
  | none => ⟨Nat.le_refl _, Nat.le_refl _⟩
  | some r => rw_len r
def odepth : Option Rule → Nat
  | none => 0
  | some r => r.depth + 1
theorem l_rule_words_ok : ∀ (n : Nat) (o : Option Rule) (M : Mem), odepth o < n → odepth o ≤ 60 → lu o ≤ 1000 → (∀ r, o = some r → r.good) → Ret (m_l_rule_words n [lastD o] M) (NewL M (lw o))
  | 0, _, _, h, _, _, _ => by omega
  | n + 1, none, M, h, h6, hu, hg => by
    show Ret (endS (b_l_rule_words (m_l_rule_words n) [some .non, none] M)) _
    unfold b_l_rule_words
    simp
    exact TL.Ret.ok (P := NewL M _) ⟨M.length, rfl, Nat.le_refl _, Keep.more _ _, at_len _ _⟩
  | n + 1, some r, M, h, h6, hu, hg => by
    show Ret (endS (b_l_rule_words (m_l_rule_words n) [some r.toD, none] M)) _
    unfold b_l_rule_words
    have hg := hg r rfl
    simp only [odepth, lu] at h h6 hu
    have ep : mEq r.toD (.tup [.str (Str.ofString "point")]) M = some (.bl (decide (r = .point)), M) := mEq_point (by omega)
    have nn : isNon r.toD = false := isNon_toD
    by_cases hp : r = .point
    · subst hp
      simp only [decide_true] at ep
      simp [ep, nn]
      exact TL.Ret.ok (P := NewL M _) ⟨M.length, rfl, Nat.le_refl _, Keep.more _ _, at_len _ _⟩
    · simp only [hp, decide_false] at ep
      obtain ⟨g1, g2, g3, g4, g5, g6, g7⟩ := good_nums hg hp
      obtain ⟨p1, p2⟩ := parts_depth hp
      obtain ⟨q1, q2, q3⟩ := parts_units hp
      have hi := rw_len r.inner
      have hl := lw_len r.last
      have lul : lu r.last + r.inner.units + 1 = r.units := by
        cases e : r.last with
        | none => have := q3 e; simp only [lu]; omega
        | some l => have := q2 l e; simp only [lu]; omega
      have odl : odepth r.last ≤ r.depth := by
        cases e : r.last with
        | none => simp [odepth]
        | some l => have := p2 l e; simp only [odepth]; omega
      have s1 := nStr_nW (i := r.to) (by omega) (by omega)
      have s2 := nStr_nW (i := r.lead) (by omega) (by omega)
      have ec : ∀ (i : Decidable (r.cap = none)) (M' : Mem), @ite (Out D) (r.cap = none) i (Out.ok (D.str (Str.ofString "-")) M') (liftO (nStr [capD r.cap] M')) = .ok (.str (capW r.cap)) M' := by
        intro i M'
        by_cases hc : r.cap = none
        · rw [if_pos hc, hc]; rfl
        · obtain ⟨c, hc'⟩ := Option.ne_none_iff_exists'.mp hc
          have := g5 c hc'
          have s3 := nStr_nW (i := c) (by omega) (by omega) M'
          rw [if_neg hc, hc']
          simp [-nStr_int, capD, capW, s3]
      have rin := fun M' => l_rule_words_ok n (some r.inner) M' (by simp only [odepth]; omega) (by simp only [odepth]; omega) (by simp only [lu]; omega) (fun r' e => by cases e; exact g6)
      have rla := fun M' => l_rule_words_ok n r.last M' (by omega) (by omega) (by omega) (fun l e => g7 l e)
      have rin' : ∀ M', Ret (m_l_rule_words n [r.inner.toD] M') (NewL M' (rw r.inner)) := rin
      rw [toD_unit hp] at ep nn ⊢
      have sq0 : seqAt (M ++ [MO.lst [.str (Str.ofString "unit"), .str (nW r.to), .str (nW r.lead)]]) M.length = some [.str (Str.ofString "unit"), .str (nW r.to), .str (nW r.lead)] := seqAt_lst (at_len _ _)
      obtain ⟨L4, hL4⟩ : ∃ L : List D, L = [.str (Str.ofString "unit"), .str (nW r.to), .str (nW r.lead), .str (capW r.cap)] := ⟨_, rfl⟩
      have hL4' : L4 = ([Str.ofString "unit", nW r.to, nW r.lead, capW r.cap]).map D.str := hL4
      have len4 : L4.length = 4 := by rw [hL4]; rfl
      have ap : mAppend (.ref M.length) [.str (capW r.cap)] (M ++ [.lst [.str (Str.ofString "unit"), .str (nW r.to), .str (nW r.lead)]]) = some (.non, M ++ [.lst L4]) := by
        rw [mAppend_ok (at_len _ _) (by simp), hL4]
        simp
      simp [-nStr_int, ep, s1, s2, sq0, ec, ap]
      refine Ret.bindQ (rin' (M ++ [.lst L4])) ?_
      rintro _ M1 ⟨k, rfl, hk, k1, a1⟩
      have b1 := k1.at (n := M.length) (at_len M (.lst L4))
      have ad1 := mAdd_lists b1 a1 (by rw [List.length_map, len4]; omega)
      simp [-mAdd_ref, ad1]
      refine Ret.bindQ (rla (M1 ++ [.lst (L4 ++ (rw r.inner).map D.str)])) ?_
      rintro _ M2 ⟨k', rfl, hk', k2, a2⟩
      have b2 := k2.at (n := M1.length) (at_len M1 (.lst (L4 ++ (rw r.inner).map D.str)))
      have ad2 := mAdd_lists b2 a2 (by rw [List.length_append, List.length_map, List.length_map, len4]; omega)
      simp [-mAdd_ref, ad2]
      have KK := (Keep.more M _).trans (k1.trans ((Keep.more M1 _).trans k2))
      refine TL.Ret.ok (P := NewL M _) ⟨M2.length, rfl, KK.1, KK.trans (Keep.more _ _), ?_⟩
      rw [at_len, hL4']
      show some (MO.lst _) = some (MO.lst ((rw r).map D.str))
      rw [rw_unit hp]
      simp
/-- a game as the law draws it -/
def Gg : Gm → Prop
  | .rally r => r.good ∧ r.depth ≤ 4 ∧ r.units ≤ 7
  | .down w => DownOk w
  | .lane k P n => Lane k P n
def GgQ (t : Nat) (M : Mem) (d : D) (M' : Mem) : Prop := ∃ g : Gm, d = g.toD ∧ Gg g ∧ Adv t M M'
theorem game7 {M : Mem} {t : Nat} (T : Tape M t) : Ret (m_l_game [.ref t] M) (GgQ t M) := by
  show Ret (endS (b_l_game [some (.ref t), none] M)) _
  unfold b_l_game
  simp
  refine Ret.bindQ (draw T (by decide) (by decide)) ?_
  rintro _ M1 ⟨r, rfl, h0, h1, A1⟩
  have hr : r = 0 ∨ r = 1 ∨ r = 2 := by omega
  rcases hr with rfl | rfl | rfl
  · simp
    refine Ret.bindQ (CG.any_rule A1.tape) ?_
    rintro _ M2 ⟨r, rfl, g, d, u, A2⟩
    exact .ok ⟨.rally r, rfl, ⟨g, d, u⟩, A1.trans A2⟩
  · simp
    refine Ret.bindQ (l_down_ok A1.tape) ?_
    rintro _ M2 ⟨w, rfl, o, A2⟩
    exact .ok ⟨.down w, rfl, o, A1.trans A2⟩
  · simp
    refine Ret.bindQ (l_lane_ok A1.tape) ?_
    rintro _ M2 ⟨k, P, n, rfl, l, A2⟩
    exact .ok ⟨.lane k P n, rfl, l, A1.trans A2⟩
theorem word_turn {nm : Str} {wo : Int} {en : Bool} (h : ThOk ⟨nm, wo, en⟩) {e0 e5 : Option D} {W : Nat} {ys : List D} {M : Mem} (hW : M[W]? = some (.lst ys)) (hl : ys.length ≤ 1000) :
    ∃ M', lp_l_game_words_0 [e0, some (.ref W), some (.str nm), some (.int wo), some (.bl en), e5] M = .next [e0, some (.ref W), some (.str nm), some (.int wo), some (.bl en), e5] (M'.set W (.lst (ys ++ [.str (tw ⟨nm, wo, en⟩)]))) ∧ Keep M M' := by
  have l7 := num_len h
  have w0 : 0 ≤ wo := h.w0
  have w1 : wo ≤ 1000000 := h.w1
  have hn := name_S h.nm
  obtain ⟨n, rfl⟩ : ∃ n : Nat, wo = (n : Int) := ⟨wo.toNat, by omega⟩
  have hn : (tlS nm).length ≤ 8 ∧ 1 ≤ (tlS nm).length ∧ ∀ c ∈ tlS nm, 48 ≤ c ∧ c ≤ 122 ∧ c ≠ 58 := hn
  have l7 : (numL n).length ≤ 7 := by simpa using l7
  have s1 := nStr_nW (i := (n : Nat)) w0 w1 M
  rw [nW_S] at s1
  have nmS : nm = S (tlS nm) := (S_of nm).symm
  have a1 : mAdd (.str nm) (.str (Str.ofString ":")) M = some (.str (S (tlS nm ++ [58])), M) := by
    conv => lhs; rw [nmS, colon_S]
    exact add_S (by omega) (by simp)
  have a2 : mAdd (.str (S (tlS nm ++ [58]))) (.str (S (numL n))) M = some (.str (S (tlS nm ++ [58] ++ numL n)), M) := add_S (by rw [List.length_append, List.length_singleton]; omega) (by omega)
  refine ⟨M ++ [.lst [.str (Str.ofString ""), .str (Str.ofString "!")]], ?_, Keep.more _ _⟩
  have K := Keep.more M [MO.lst [.str (Str.ofString ""), .str (Str.ofString "!")]]
  have sq : seqAt (M ++ [MO.lst [.str (Str.ofString ""), .str (Str.ofString "!")]]) M.length = some [.str (Str.ofString ""), .str (Str.ofString "!")] := seqAt_lst (at_len _ _)
  have emp : Str.ofString "" = S [] := by decide +kernel
  have a3 : mAdd (.str (S (tlS nm ++ [58] ++ numL n))) (.str (Str.ofString "!")) (M ++ [MO.lst [.str (Str.ofString ""), .str (Str.ofString "!")]]) = some (.str (S (tlS nm ++ [58] ++ numL n ++ [33])), M ++ [MO.lst [.str (Str.ofString ""), .str (Str.ofString "!")]]) := by
    rw [bang_S]
    exact add_S (by rw [List.length_append, List.length_append, List.length_singleton]; omega) (by simp)
  have a4 : mAdd (.str (S (tlS nm ++ [58] ++ numL n))) (.str (Str.ofString "")) (M ++ [MO.lst [.str (Str.ofString ""), .str (Str.ofString "!")]]) = some (.str (S (tlS nm ++ [58] ++ numL n)), M ++ [MO.lst [.str (Str.ofString ""), .str (Str.ofString "!")]]) := by
    rw [emp, add_S (by rw [List.length_append, List.length_append, List.length_singleton]; omega) (by simp), List.append_nil]
  have hK := K.at hW
  have sqW := seqAt_lst hW
  have e2 : ((n : Int)).toNat = n := by simp
  unfold lp_l_game_words_0
  cases en with
  | false =>
    have ap := mAppend_ok (y := .str (tw ⟨nm, (n : Int), false⟩)) hK (by omega)
    have et : tw ⟨nm, (n : Int), false⟩ = S (tlS nm ++ [58] ++ numL n) := by simp [tw, twL, CGW.tail]
    rw [et] at ap ⊢
    simp [-mAdd_str, -nStr_int, -List.append_assoc, s1, a1, a2, a4, sq, sqW, ap]
  | true =>
    have ap := mAppend_ok (y := .str (tw ⟨nm, (n : Int), true⟩)) hK (by omega)
    have et : tw ⟨nm, (n : Int), true⟩ = S (tlS nm ++ [58] ++ numL n ++ [33]) := by simp [tw, twL, CGW.tail]
    rw [et] at ap ⊢
    simp [-mAdd_str, -nStr_int, -List.append_assoc, s1, a1, a2, a3, sq, sqW, ap]
def WInv (M : Mem) (W : Nat) (hd : List D) (ts : List Thr) : List D → TL.Env → Mem → Prop := fun ds env M' => ∃ (e0 e2 e3 e4 e5 : Option D) (dn rest : List Thr), env = [e0, some (.ref W), e2, e3, e4, e5] ∧ ts = dn ++ rest ∧ ds = rest.map Thr.toD ∧ Keep M M' ∧ M'[W]? = some (.lst (hd ++ (dn.map tw).map D.str))
theorem words_loop {M M1 : Mem} {W : Nat} {hd : List D} {ts : List Thr} {e0 e2 e3 e4 e5 : Option D} (hW : M.length ≤ W) (h1 : M1[W]? = some (.lst hd)) (k : Keep M M1) (hl : hd.length ≤ 10) (ht : ∀ t ∈ ts, ThOk t) (hn : ts.length ≤ 30) :
    SRet (forL (fun _ => True) (gTupD [2, 3, 4]) lp_l_game_words_0 (ts.map Thr.toD) [e0, some (.ref W), e2, e3, e4, e5] M1) (fun env M' => ∃ e0 e2 e3 e4 e5 : Option D, env = [e0, some (.ref W), e2, e3, e4, e5] ∧ Keep M M' ∧ M'[W]? = some (.lst (hd ++ (ts.map tw).map D.str))) (fun _ _ => False) := by
  refine SRet.for_ (WInv M W hd ts) ⟨e0, e2, e3, e4, e5, [], ts, rfl, rfl, rfl, k, by simpa using h1⟩ (fun _ _ _ _ => trivial) ?_ ?_
  · rintro d ds env M' ⟨e0, e2, e3, e4, e5, dn, rest, rfl, rfl, hds, k', h'⟩
    cases rest with
    | nil => cases hds
    | cons t rest =>
      rw [List.map_cons] at hds
      cases hds
      obtain ⟨nm, wo, en⟩ := t
      obtain ⟨M2, e, k2⟩ := word_turn (ht ⟨nm, wo, en⟩ (by simp)) (e0 := e0) (e5 := e5) h' (by rw [List.length_append, List.length_map, List.length_map]; rw [List.length_append] at hn; omega)
      refine ⟨[e0, some (.ref W), some (.str nm), some (.int wo), some (.bl en), e5], rfl, ?_⟩
      rw [e]
      have lt2 := lt_of_at (k2.at h')
      refine SRet.next ⟨e0, _, _, _, e5, dn ++ [⟨nm, wo, en⟩], rest, rfl, by simp, rfl, (k'.trans k2).setNew hW, ?_⟩
      rw [List.getElem?_set_self lt2]
      simp
  · rintro env M' ⟨e0, e2, e3, e4, e5, dn, rest, rfl, rfl, hds, k', h'⟩
    cases rest with
    | cons t rest => cases hds
    | nil => exact ⟨e0, e2, e3, e4, e5, rfl, k', by simpa using h'⟩
theorem l_game_words_ok {g : Gm} (h : Gg g) (M : Mem) : Ret (m_l_game_words [g.toD] M) (NewL M (gw g)) := by
  show Ret (endS (b_l_game_words [some g.toD, none, none, none, none, none] M)) _
  unfold b_l_game_words
  cases g with
  | rally r =>
    obtain ⟨h1, h2, h3⟩ := h
    have rw_ := l_rule_words_ok 14 (some r) (M ++ [.lst [.str (Str.ofString "rally")]]) (by simp only [odepth]; omega) (by simp only [odepth]; omega) (by simp only [lu]; omega) (fun r' e => by cases e; exact h1)
    have rw' : Ret (m_l_rule_words 14 [r.toD] (M ++ [.lst [.str (Str.ofString "rally")]])) (NewL (M ++ [.lst [.str (Str.ofString "rally")]]) (rw r)) := rw_
    simp [Gm.toD]
    refine Ret.bindQ rw' ?_
    rintro _ M1 ⟨k, rfl, hk, k1, a1⟩
    have hl := rw_len r
    have b1 := k1.at (at_len M (.lst [.str (Str.ofString "rally")]))
    have ad := mAdd_lists b1 a1 (by rw [List.length_map]; simp; omega)
    simp [-mAdd_ref, ad]
    have KK := (Keep.more M [.lst [.str (Str.ofString "rally")]]).trans k1
    refine TL.Ret.ok (P := NewL M _) ⟨M1.length, rfl, KK.1, KK.trans (Keep.more _ _), ?_⟩
    rw [at_len]
    rfl
  | down w =>
    have h : DownOk w := h
    have := h.s0; have := h.s1; have := h.b0; have := h.b1; have := h.t0; have := h.t1
    have c3 : cutL [D.int (w.sides : Nat), .int w.start, .int (w.turn : Nat), .tup (w.throws.map Thr.toD)] none (some 3) = [(w.sides : Int), w.start, (w.turn : Int)].map D.int := rfl
    have hc := nums_comp (i := 5) (bs := [(w.sides : Int), w.start, (w.turn : Int)]) (env := [some (Gm.toD (.down w)), none, none, none, none, none]) (M := M ++ [.lst [.str (Str.ofString "down")]]) (by simp) (by simp) (fun b hb => by
      simp only [List.mem_cons, List.not_mem_nil, or_false] at hb
      rcases hb with rfl | rfl | rfl <;> omega)
    simp [-mAdd_ref, Gm.toD, Down.toD] at hc ⊢
    rw [c3]
    simp [-mAdd_ref]
    refine Ret.bindQ hc ?_
    rintro _ M1 ⟨k1, a1⟩
    have b1 := k1.at (at_len M (.lst [.str (Str.ofString "down")]))
    have ad := mAdd_lists b1 a1 (by simp)
    have k2 : Keep M (M1 ++ [.lst ([D.str (Str.ofString "down")] ++ [D.str (nW (w.sides : Nat)), .str (nW w.start), .str (nW (w.turn : Nat))])]) := ((Keep.more M _).trans k1).trans (Keep.more _ _)
    have a2 := at_len M1 (.lst ([D.str (Str.ofString "down")] ++ [D.str (nW (w.sides : Nat)), .str (nW w.start), .str (nW (w.turn : Nat))]))
    have lW : M.length ≤ M1.length := by have := k1.1; rw [List.length_append] at this; omega
    simp [-mAdd_ref, ad]
    have lp := words_loop (M := M) (W := M1.length) (e0 := some (.tup [.str (Str.ofString "down"), .tup [.int (w.sides : Nat), .int w.start, .int (w.turn : Nat), .tup (w.throws.map Thr.toD)]])) (e2 := none) (e3 := none) (e4 := none) (e5 := none) lW a2 k2 (by simp) (th_of h) h.n1
    simp only [List.cons_append, List.nil_append] at lp
    refine Ret.endS (SRet.nextQ (SRet.imp lp ?_ (fun _ _ z => z.elim)))
    rintro env M2 ⟨e0, e2, e3, e4, e5, rfl, k3, h3⟩
    simp
    exact ⟨M1.length, rfl, lW, k3, by rw [h3]; simp [gw]⟩
  | lane k P n =>
    have h : Lane k P n := h
    have := h.k0; have := h.k1; have := h.p0; have := h.p1; have := h.n0; have := h.n1
    have hc := nums_comp (i := 5) (bs := [(k : Int), P, (n : Int)]) (env := [some (Gm.toD (.lane k P n)), none, none, none, none, none]) (M := M ++ [.lst [.str (Str.ofString "lane")]]) (by simp) (by simp) (fun b hb => by
      simp only [List.mem_cons, List.not_mem_nil, or_false] at hb
      rcases hb with rfl | rfl | rfl <;> omega)
    have c3 : cutL [D.int (k : Nat), .int P, .int (n : Nat)] none (some 3) = [(k : Int), P, (n : Int)].map D.int := rfl
    simp [-mAdd_ref, Gm.toD, laneD] at hc ⊢
    rw [c3]
    simp [-mAdd_ref]
    refine Ret.bindQ hc ?_
    rintro _ M1 ⟨k1, a1⟩
    have b1 := k1.at (at_len M (.lst [.str (Str.ofString "lane")]))
    have ad := mAdd_lists b1 a1 (by simp)
    have k2 : Keep M (M1 ++ [.lst ([D.str (Str.ofString "lane")] ++ [D.str (nW (k : Nat)), .str (nW P), .str (nW (n : Nat))])]) := ((Keep.more M _).trans k1).trans (Keep.more _ _)
    have lW : M.length ≤ M1.length := by have := k1.1; rw [List.length_append] at this; omega
    simp [-mAdd_ref, ad]
    exact TL.Ret.ok (P := NewL M (gw (.lane k P n))) ⟨M1.length, rfl, lW, k2, by rw [at_len]; simp [gw]⟩
end LW
end
section
set_option maxHeartbeats 4000000
namespace LW
open PySem PySem.Spec PyProof.Rows L2 TL
open CM hiding b_l_unit m_l_unit g_l_unit b_l_rule m_l_rule b_l_any_rule m_l_any_rule any_rule rule_step rule_ok unit_ok
open CG
open CW hiding b_Reader_count b_Reader_is_dash b_Reader_last b_Reader_rule b_Reader_word b_read_rule g_Reader_rule m_Reader_count m_Reader_is_dash m_Reader_last m_Reader_rule m_Reader_word m_read_rule
open CWR
open CGW
open RL TLQ RD
theorem gg_gx {g : Gm} (h : Gg g) : Gx g := by
  cases g with
  | rally r => exact ⟨h.1, h.2.1, by have := h.2.2; omega⟩
  | down w => exact h
  | lane k P n => exact h
theorem gw_bn {g : Gm} (h : Gg g) : Bn 20 80 (gw g) := by
  obtain ⟨h1, _, h3⟩ := gw_ok (gg_gx h)
  refine ⟨fun x hx => (h3 x hx).len, ?_⟩
  have go : ∀ ws : List Str, (∀ x ∈ ws, 32 ∉ tlS x) → (ws.map pc).sum = ws.length := by
    intro ws
    induction ws with
    | nil => intro _; rfl
    | cons w ws ih =>
      intro hh
      have e : pc w = 1 := by
        have f := hh w List.mem_cons_self
        have sj := split_join (y := Str.ofString " ") (s := 32) (S := []) (parts := [w]) (by decide +kernel) (by decide +kernel) (by simp) (fun x hx => by cases List.mem_singleton.mp hx; exact f)
        have e2 : Txt.join (Str.ofString " ") [w] = w := by
          refine str_of_tl ?_
          rw [tl_joinS]
          rfl
        rw [e2] at sj
        show (Txt.split w _).length = 1
        rw [sj]
        rfl
      rw [List.map_cons, List.sum_cons, List.length_cons, e, ih fun x hx => hh x (List.mem_cons_of_mem _ hx)]
      omega
  rw [go _ fun x hx => (h3 x hx).free]
  exact h1
theorem Bn.bent {k n : Nat} {ws : List Str} (h : Bn k n ws) (hk : k ≤ 100) : Bent n ws := ⟨fun x hx => Nat.le_trans (h.len x hx) hk, h.few⟩
theorem Bn.join {k n : Nat} {ws : List Str} (h : Bn k n ws) (hk : k ≤ 100) (hn : n ≤ 900) {M : Mem} {W : Nat} (hW : M[W]? = some (.lst (ws.map D.str))) : mJoin (.str (Str.ofString " ")) [.ref W] M = some (.str (joinS ws), M) := by
  have m := h.many
  have s := sum_bd (k := k) h.len
  have : k * ws.length ≤ 100 * 900 := Nat.mul_le_mul hk (by omega)
  exact join_any (seqAt_lst hW) (by omega) (by omega)
def Tru (d : D) (_ : Mem) : Prop := d = .bl true
def LInv (t W : Nat) (ws : List Str) : List D → TL.Env → Mem → Prop := fun _ env M => ∃ e3 e4 : Option D, env = [some (.ref 0), some (.ref t), some (.ref W), e3, e4] ∧ M[W]? = some (.lst (ws.map D.str)) ∧ Tape M t
theorem turn {t W : Nat} {ws : List Str} (Wt : W ≠ t) (hne : ws ≠ []) (hb : Bn 20 80 ws) {d : D} {ds : List D} {env : TL.Env} {M : Mem} (h : LInv t W ws (d :: ds) env M) : ∃ env1, gOne 3 d env = some env1 ∧ SRet (lp_law_0 env1 M) (LInv t W ws ds) Tru := by
  obtain ⟨e3, e4, rfl, hW, T⟩ := h
  refine ⟨_, rfl, ?_⟩
  unfold lp_law_0
  obtain ⟨_, M1, e1, W1, ws1, rfl, W1t, a1, b1, A1⟩ := l_spoilt_ok T hW Wt hne hb (by decide) (by decide) (by decide)
  have b1 : Bn 41 380 ws1 := b1
  rw [TLP.asg (v := .ref W1) (M' := M1) (by simp [e1])]
  simp only [List.set]
  obtain ⟨_, M2, e2, r2, rfl, r20, r21, A2⟩ := draw (many := 3) A1.tape (by decide) (by decide)
  have a2 := A2.at a1 W1t
  have l2 := len_at (seqAt_lst a2) (by have := b1.many; omega)
  have A02 := A1.trans A2
  have hW2 := A02.at hW Wt
  have fin : ∀ (W2 : Nat) (ws2 : List Str) (M3 : Mem), M3[W2]? = some (.lst (ws2.map D.str)) → Bn 83 680 ws2 → M3[W]? = some (.lst (ws.map D.str)) → Tape M3 t →
      SRet ((sIf (TL.tNot (tTru (eCall m_l_right (aCons (eMeth "str" mJoin (eC (.str " ")) (aCons (eVar 4) aNil)) aNil)))) (sRet (eC (.bl false))) sNil) [some (.ref 0), some (.ref t), some (.ref W), some d, some (.ref W2)] M3) (LInv t W ws ds) Tru := by
    intro W2 ws2 M3 a3 b3 hW3 T3
    have j := b3.join (by decide) (by decide) a3
    obtain ⟨M4, e4, k4⟩ := gives_of (l_right_ok (b3.bent (by decide)) (by decide) M3)
    rw [TLP.ifF1 (M' := M4) (by simp [j, e4])]
    exact SRet.next ⟨_, _, rfl, k4.at hW3, T3.keep k4⟩
  by_cases c : r2 = 0 ∧ ws1 ≠ []
  · obtain ⟨rfl, hne1⟩ := c
    have lt := List.length_pos_iff.mpr hne1
    obtain ⟨_, M3, e3, W2, ws2, rfl, W2t, a3, b3, A3⟩ := l_spoilt_ok A2.tape a2 W1t hne1 b1 (by decide) (by decide) (by decide)
    rw [TLP.ifT (M' := M2) (by simp [-nLen_ref, e2, l2, lt]), TLP.asg (v := .ref W2) (M' := M3) (by simp [e3])]
    simp only [List.set]
    exact fin W2 ws2 M3 a3 b3 (A3.at hW2 Wt) A3.tape
  · rw [TLP.ifN (M' := M2) (by
      by_cases z : r2 = 0
      · have : ws1 = [] := Classical.byContradiction fun h => c ⟨z, h⟩
        rw [this] at l2
        simp [-nLen_ref, e2, l2, z]
      · simp [e2, z])]
    exact fin W1 ws1 M2 a2 (b1.mono (by decide) (by decide)) hW2 A2.tape
theorem law_true (ns : List Int) (hl : ns.length ≤ 63) : ∃ M', m_law [.ref 0] [.rol (ns.map D.int)] = .ok (.bl true) M' := by
  suffices h : Ret (m_law [.ref 0] [.rol (ns.map D.int)]) Tru by
    obtain ⟨d, M, e, rfl⟩ := h
    exact ⟨M, e⟩
  show Ret (endS (b_law [some (.ref 0), none, none, none, none] [.rol (ns.map D.int)])) _
  unfold b_law
  have hs : ([.rol (ns.map D.int)] : Mem)[0]? = some (.rol (ns.map D.int)) := rfl
  obtain ⟨way, et⟩ := tape_ok hs hl
  have T0 := tape_at hs hl (way := way)
  generalize ([.rol (ns.map D.int)] : Mem) = M0 at et T0
  rw [TLP.asg (v := .ref M0.length) (M' := M0 ++ [.lst [.ref 0, .int 0, .int 0, .int way]]) (by simp [et])]
  simp only [List.set]
  generalize M0 ++ [MO.lst [.ref 0, .int 0, .int 0, .int way]] = M1 at *
  generalize M0.length = t at et T0 ⊢
  obtain ⟨_, M2, e2, g, rfl, gg, A2⟩ := game7 T0
  obtain ⟨_, M3, e3, W, rfl, hW, k3, a3⟩ := l_game_words_ok gg M2
  rw [TLP.asg (v := .ref W) (M' := M3) (by simp [e2, e3])]
  simp only [List.set]
  have T3 := A2.tape.keep k3
  have Wt : W ≠ t := by have := A2.tape.lt; omega
  have gb := gw_bn gg
  have gn := (gw_ok (gg_gx gg)).2.1
  obtain ⟨M4, e4, k4⟩ := gives_of (l_right_ok (gb.bent (by decide)) (by decide) M3)
  have j := gb.join (by decide) (by decide) a3
  rw [TLP.ifN (M' := M4) (by simp [j, e4])]
  have tn := fun d ds env M h => turn (t := t) (W := W) (ws := gw g) Wt gn gb (d := d) (ds := ds) (env := env) (M := M) h
  generalize lp_law_0 = lp at *
  simp [rngOk_of]
  refine Ret.endS ?_
  refine SRet.forQ (LInv t W (gw g)) ⟨_, _, rfl, k4.at a3, T3.keep k4⟩ (fun _ _ _ _ => trivial) tn ?_
  intro env M h
  obtain ⟨_, _, rfl, _⟩ := h
  simp
  exact SRet.ret rfl
end LW
end
set_option maxHeartbeats 0
open PySem PySem.W PySem.Calls PyProof.Rows
theorem PySem.Challenge.cw_tally_k45_what_writes_no_game_holds : PySem.Challenge.rw_tally_k45_what_writes_no_game.Holds := by
  w_on; o_law
  refine HandSHeadRun.head_any (r := OpenLaw.row PySem.Challenge.rw_tally_k45_what_writes_no_game) (q := view (OpenLaw.row PySem.Challenge.rw_tally_k45_what_writes_no_game).prog [59]) (H := LW.hk) (ob := LW.ob) (M := 9000) (loose := LW.loose) (d := HandSHeadRun.topDef (OpenLaw.row PySem.Challenge.rw_tally_k45_what_writes_no_game).prog 59) (kwd := []) LW.ob_eq
    (by kernel_rfl) (fun s => by kernel_rfl) LW.run (by kernel_rfl) (by kernel_rfl) (by kernel_rfl) (by rfl) (by first | assumption | decide +kernel) (by decide +kernel) ⟨rfl, rfl, rfl, rfl, rfl, by decide +kernel⟩ ?hw ?hc
  case hw => w_witness2
  case hc =>
    refine TL.walk_ofW (l := PySem.Challenge.rw_tally_k45_what_writes_no_game) (n := 63) (k := 24) (x := "_law_script") (CX := fun w => L2N.CX (PySem.Challenge.rw_tally_k45_what_writes_no_game).prog w) rfl (by decide) (by kernel_rfl) ⟨rfl, by decide, by decide⟩ ?F (fun _ _ _ _ _ z => TL.cx_false z)
    intro w mg fa h Y G hmg0
    obtain ⟨K, KX, c⟩ := Y
    have hmg : mg ("law" : PySem.Str) = some (.ref fa) := by
      have e : (HandSHeadRun.topDef (OpenLaw.row PySem.Challenge.rw_tally_k45_what_writes_no_game).prog 59).name = ("law" : PySem.Str) := by kernel_rfl
      rw [← e]
      exact hmg0
    have Z : LW.Facts K mg := LW.facts KX G c
    have hfa : fa = He.ga K "law" := by
      have e := hmg.symm.trans Z.mg_law
      cases e
      rfl
    subst hfa
    obtain ⟨fd, F⟩ := Z.fn_law
    have b := L2.FunD.bindsA (ps := ["_law_script"]) F fun _ _ _ _ _ _ us hl => match us, hl with | [_], _ => rfl
    exact ⟨K, fd, TL.spD K 1 LW.m_law, KX, fun s v => b s [v] rfl, fun H a ns hl hO hS => TL.law_sp hO hS (LW.law_true ns hl), fun base _ _ => LW.ok_law Z F⟩
