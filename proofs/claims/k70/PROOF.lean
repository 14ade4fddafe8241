import PyProof.Rows.All
import Wide.All
import OpenK.AllK
import Wide.FinOn
import HandS.ForMost
import HandS.ForExc
import HandS.Defaults
import HandS.TupAny
import HandS.HeadHook2
import KE.KDictKeyed
import HandS.IsInst
import HandS.TupLe
import HandS.TupMul
import HandS.Conv
import HandS.StrMore
import HandS.Flow
import HandS.ExcCtx
import Lean
import HandS.Head0
import HandS.Head1
import HandS.Head2
import HandS.HeadEnd
import HandS.ExcIs
import HandS.ExcInit
import HandS.HotCalls
import HandS.ExcField
import KE.KExcIs
import HandS.Text
import HandS.RaiseMore
import HandS.Replace
import HandS.Deep
import PyProof.ReprRoads
import PyProof.ReprLen
import PyProof.FitsInt
import HandS.Strs
import HandS.CallSlots
import HandS.Iter
import KE.KDictDisplayH
import HandS.SetFor
import HandS.TupSets
import KE.KeyNested
import KE.KDictPairs
import PySem.Challenge.RW_tally_k70_whole_alike_within
set_option Elab.async false
set_option linter.all false
set_option maxRecDepth 100000
section
namespace TL
open PySem PySem.Spec PyProof.Rows L2
/-- an exception of an own class: its class, its field at -/
structure Ex where
  cls : Str
  at_ : Option Int
inductive D where
  | non | bl (b : Bool) | int (i : Int) | str (x : Str) | tup (xs : List D) | ref (n : Nat) | err (x : Ex)
  deriving Inhabited
inductive MO where
  | lst (xs : List D)
  | rol (xs : List D)
  | ins (c : Str) (fs : List (Str × D))
  | dct (kvs : List (D × D))
  | dcs (fs : List (Str × D))
  | dcz (kvs : List (D × D))
abbrev Mem := List MO
mutual
/-- a key of a dict: whole numbers, None and tuples of these -/
def nk : D → Option NestedKey
  | .non => some .none
  | .int i => some (.num i)
  | .tup xs => (nkL xs).map .tup
  | _ => none
def nkL : List D → Option (List NestedKey)
  | [] => some []
  | d :: ds => match nk d, nkL ds with
    | some k, some ks => some (k :: ks)
    | _, _ => none
end
/-- the very object of a dict with such keys -/
def DctIs (a : Addr) (xs : List (NestedKey × Addr × V)) (h : Heap) : Prop := (a == sysModules) = false ∧ ∃ (o : Obj) (es : Array DictEntry) (ep : Nat) (vs : List (NestedKey × Addr × Value)), h.get? a = some o ∧ o.ExactDict ∧ o.data = .dict es ep ∧
  Paired (fun p q => p.1 = q.1 ∧ p.2.1 = q.2.1 ∧ RelV p.2.2 q.2.2) xs vs ∧ ∀ w : World, es.toList = vs.map fun x => (⟨NestedKey.hash w x.1, .ref x.2.1, x.2.2⟩ : DictEntry)
abbrev Env := List (Option D)
inductive Out (α : Type) where
  | ok (a : α) (M : Mem)
  | exc (x : Ex) (M : Mem)
  | stuck
def Out.bind {α β : Type} (o : Out α) (f : α → Mem → Out β) : Out β :=
  match o with
  | .ok a M => f a M
  | .exc x M => .exc x M
  | .stuck => .stuck
@[simp] theorem Out.bind_ok {α β : Type} (a : α) (M : Mem) (f : α → Mem → Out β) : (Out.ok a M).bind f = f a M := rfl
@[simp] theorem Out.bind_exc {α β : Type} (x : Ex) (M : Mem) (f : α → Mem → Out β) : (Out.exc x M : Out α).bind f = .exc x M := rfl
@[simp] theorem Out.bind_stuck {α β : Type} (f : α → Mem → Out β) : (Out.stuck : Out α).bind f = .stuck := rfl
inductive SOut where
  | next (env : Env) (M : Mem)
  | ret (d : D) (M : Mem)
  | exc (x : Ex) (env : Env) (M : Mem)
  | stuck
abbrev ME := Env → Mem → Out D
abbrev MT := Env → Mem → Out Bool
abbrev MA := Env → Mem → Out (List D)
abbrev MS := Env → Mem → SOut
section
variable (K : PySem.W.Frag)
/-- the field of an exception: its own dict -/
def ErrD (H : Hp) (at_ : Option Int) (dx : Option Addr) : Prop := (at_ = none ∧ dx = none) ∨ ∃ i d, at_ = some i ∧ dx = some d ∧ H d = some (.xd [(("at" : Str), V.int i)])
/-- what is kept of an exception that was caught: its very object -/
def errO (oe : Obj) : HO := .frz oe (.ext fun _ => True)
/-- an exception that was caught -/
def ErrAt (H : Hp) (a : Addr) (x : Ex) : Prop := ∃ (oe : Obj) (vs : Array Value), H a = some (errO oe) ∧ oe.cls = .ref (He.ga K x.cls) ∧ oe.data = .fields vs ∧ vs[2]? = vs[2]? ∧ ErrD H x.at_ oe.dict
mutual
inductive Rp (ι : List Addr) (H : Hp) : D → V → Prop
  | non : Rp ι H .non .non
  | bl (b : Bool) : Rp ι H (.bl b) (.bl b)
  | int (i : Int) : Rp ι H (.int i) (.int i)
  | str (x : Str) : Rp ι H (.str x) (.str x)
  | tup {a : Addr} {xs : List D} {vs : List V} : SqT K H a vs → RpA ι H xs vs → Rp ι H (.tup xs) (.ref a)
  | ref {n : Nat} {a : Addr} : ι[n]? = some a → Rp ι H (.ref n) (.ref a)
  | err {x : Ex} {a : Addr} : ErrAt K H a x → Rp ι H (.err x) (.ref a)
inductive RpA (ι : List Addr) (H : Hp) : List D → List V → Prop
  | nil : RpA ι H [] []
  | cons {d : D} {v : V} {ds : List D} {vs : List V} : Rp ι H d v → RpA ι H ds vs → RpA ι H (d :: ds) (v :: vs)
end
structure Ext (ι : List Addr) (H : Hp) (ι' : List Addr) (H' : Hp) : Prop where
  pre : ∀ (n : Nat) (a : Addr), ι[n]? = some a → ι'[n]? = some a
  tup : ∀ (a : Addr) (vs : List V), SqT K H a vs → SqT K H' a vs
  err : ∀ (a : Addr) (x : Ex), ErrAt K H a x → ErrAt K H' a x
  frz : ∀ (a : Addr) (o : Obj) (u : HO), H a = some (.frz o u) → H' a = some (.frz o u)
/-- a list that is only read -/
def RoL (H : Hp) (a : Addr) (vs : List V) : Prop := (∃ o, H a = some (.frz o (.lst vs))) ∨
  ∃ (o : Obj) (its : Array Value) (n : Nat), K.lookup a = some o ∧ o.cls = .type "list" ∧ o.dict = none ∧ o.data = .seq its n ∧ its.size ≤ sizeLine ∧ Vals vs its.toList
inductive RpF (ι : List Addr) (H : Hp) : List (Str × D) → List (Str × V) → Prop
  | nil : RpF ι H [] []
  | cons {x : Str} {d : D} {v : V} {ds : List (Str × D)} {vs : List (Str × V)} : Rp K ι H d v → RpF ι H ds vs → RpF ι H ((x, d) :: ds) ((x, v) :: vs)
inductive RpD (ι : List Addr) (H : Hp) : List (D × D) → List (NestedKey × Addr × V) → Prop
  | nil : RpD ι H [] []
  | cons {d e : D} {k : NestedKey} {b : Addr} {v : V} {ds : List (D × D)} {vs : List (NestedKey × Addr × V)} : nk d = some k → k.depth ≤ 8 → Rp K ι H d (.ref b) → Rp K ι H e v → RpD ι H ds vs → RpD ι H ((d, e) :: ds) ((k, b, v) :: vs)
def MOk (ι : List Addr) (H : Hp) (a : Addr) : MO → Prop
  | .lst xs => ∃ vs, H a = some (.lst vs) ∧ RpA K ι H xs vs
  | .rol xs => ∃ vs, RoL K H a vs ∧ RpA K ι H xs vs
  | .ins c fs => ∃ dx vs, H a = some (.ins (He.ga K c) dx vs) ∧ RpF K ι H fs vs
  | .dct kvs => ∃ xs, H a = some (.ext (DctIs a xs)) ∧ RpD K ι H kvs xs ∧ (xs.map (·.1)).Nodup
  | .dcs fs => ∃ vs : List (Str × V), H a = some (.dK (vs.map fun p => (.inr p.1, p.2))) ∧ RpF K ι H fs vs
  | .dcz kvs => ∃ xs o, H a = some (.frz o (.ext (DctIs a xs))) ∧ RpD K ι H kvs xs ∧ (xs.map (·.1)).Nodup
def mutable : MO → Bool
  | .rol _ => false
  | _ => true
/-- what may be written -/
def wr : MO → Bool
  | .rol _ => false
  | .dcz _ => false
  | _ => true
theorem wr_mut {o : MO} (h : wr o = true) : mutable o = true := by cases o <;> first | rfl | exact h
structure SR (ι : List Addr) (H : Hp) (M : Mem) : Prop where
  len : ι.length = M.length
  ok : ∀ (n : Nat) (a : Addr) (o : MO), ι[n]? = some a → M[n]? = some o → MOk K ι H a o
  nd : ∀ (n m : Nat) (a : Addr) (o u : MO), ι[n]? = some a → ι[m]? = some a → M[n]? = some o → M[m]? = some u → mutable o = true → mutable u = true → n = m
def RpO (ι : List Addr) (H : Hp) : Option D → Option V → Prop
  | none, _ => True
  | some d, some v => Rp K ι H d v
  | some _, none => False
inductive EnvR (ι : List Addr) (H : Hp) : Env → L2.St → Prop
  | nil : EnvR ι H [] []
  | cons {d : Option D} {v : Option V} {ds : Env} {vs : L2.St} : RpO K ι H d v → EnvR ι H ds vs → EnvR ι H (d :: ds) (v :: vs)
end
section
variable {K : PySem.W.Frag} {ι ι' ι'' : List Addr} {H H' H'' : Hp}
theorem Ext.refl : Ext K ι H ι H := ⟨fun _ _ h => h, fun _ _ h => h, fun _ _ h => h, fun _ _ _ h => h⟩
theorem Ext.trans (a : Ext K ι H ι' H') (b : Ext K ι' H' ι'' H'') : Ext K ι H ι'' H'' :=
  ⟨fun n c h => b.pre n c (a.pre n c h), fun c vs h => b.tup c vs (a.tup c vs h), fun c x h => b.err c x (a.err c x h), fun c o u h => b.frz c o u (a.frz c o u h)⟩
mutual
theorem Rp.ext (e : Ext K ι H ι' H') : ∀ {d : D} {v : V}, Rp K ι H d v → Rp K ι' H' d v
  | _, _, .non => .non
  | _, _, .bl b => .bl b
  | _, _, .int i => .int i
  | _, _, .str x => .str x
  | _, _, .tup h r => .tup (e.tup _ _ h) (RpA.ext e r)
  | _, _, .ref h => .ref (e.pre _ _ h)
  | _, _, .err h => .err (e.err _ _ h)
theorem RpA.ext (e : Ext K ι H ι' H') : ∀ {d : List D} {v : List V}, RpA K ι H d v → RpA K ι' H' d v
  | _, _, .nil => .nil
  | _, _, .cons h r => .cons (Rp.ext e h) (RpA.ext e r)
end
theorem RpF.ext (e : Ext K ι H ι' H') : ∀ {d : List (Str × D)} {v : List (Str × V)}, RpF K ι H d v → RpF K ι' H' d v
  | _, _, .nil => .nil
  | _, _, .cons h r => .cons (h.ext e) (RpF.ext e r)
theorem RpD.ext (e : Ext K ι H ι' H') : ∀ {d : List (D × D)} {v : List (NestedKey × Addr × V)}, RpD K ι H d v → RpD K ι' H' d v
  | _, _, .nil => .nil
  | _, _, .cons h1 h2 h3 h4 r => .cons h1 h2 (h3.ext e) (h4.ext e) (RpD.ext e r)
theorem RpO.ext (e : Ext K ι H ι' H') {d : Option D} {v : Option V} (h : RpO K ι H d v) : RpO K ι' H' d v := by
  cases d <;> cases v <;> first | trivial | exact h.elim | exact Rp.ext e h
theorem EnvR.ext (e : Ext K ι H ι' H') : ∀ {d : Env} {v : L2.St}, EnvR K ι H d v → EnvR K ι' H' d v
  | _, _, .nil => .nil
  | _, _, .cons h r => .cons (h.ext e) (EnvR.ext e r)
theorem EnvR.get : ∀ {env : Env} {σ : L2.St} {i : Nat} {d : D}, EnvR K ι H env σ → env[i]? = some (some d) → ∃ v, σ[i]? = some (some v) ∧ Rp K ι H d v
  | _, _, _, _, .nil, e => by simp at e
  | _, _, 0, d, .cons (d := x) (v := v) h _, e => by
    simp at e; subst e
    cases v with
    | none => exact h.elim
    | some v => exact ⟨v, rfl, h⟩
  | _, _, i + 1, d, .cons _ t, e => by
    obtain ⟨v, h1, h2⟩ := EnvR.get (i := i) (d := d) t (by simpa using e)
    exact ⟨v, by simpa using h1, h2⟩
theorem EnvR.set {d : D} {v : V} (r : Rp K ι H d v) : ∀ {env : Env} {σ : L2.St} (i : Nat), EnvR K ι H env σ → EnvR K ι H (env.set i (some d)) (σ.set i (some v))
  | _, _, _, .nil => .nil
  | _, _, 0, .cons _ t => .cons (show RpO K ι H (some d) (some v) from r) t
  | _, _, i + 1, .cons q t => .cons q (EnvR.set r i t)
theorem EnvR.unset : ∀ {env : Env} {σ : L2.St} (i : Nat), EnvR K ι H env σ → EnvR K ι H (env.set i none) (σ.set i none)
  | _, _, _, .nil => .nil
  | _, _, 0, .cons _ t => .cons trivial t
  | _, _, i + 1, .cons q t => .cons q (EnvR.unset i t)
theorem EnvR.length : ∀ {env : Env} {σ : L2.St}, EnvR K ι H env σ → env.length = σ.length
  | _, _, .nil => rfl
  | _, _, .cons _ t => congrArg (· + 1) t.length
theorem RpA.length : ∀ {ds : List D} {vs : List V}, RpA K ι H ds vs → ds.length = vs.length
  | _, _, .nil => rfl
  | _, _, .cons _ t => congrArg (· + 1) t.length
theorem RpA.get : ∀ {ds : List D} {vs : List V} {i : Nat} {d : D}, RpA K ι H ds vs → ds[i]? = some d → ∃ v, vs[i]? = some v ∧ Rp K ι H d v
  | _, _, _, _, .nil, e => by simp at e
  | _, _, 0, d, .cons h _, e => by simp at e; subst e; exact ⟨_, rfl, h⟩
  | _, _, i + 1, d, .cons _ t, e => by
    obtain ⟨v, h1, h2⟩ := RpA.get (i := i) (d := d) t (by simpa using e)
    exact ⟨v, by simpa using h1, h2⟩
theorem RpA.append : ∀ {ds es : List D} {vs us : List V}, RpA K ι H ds vs → RpA K ι H es us → RpA K ι H (ds ++ es) (vs ++ us)
  | _, _, _, _, .nil, s => s
  | _, _, _, _, .cons r t, s => .cons r (RpA.append t s)
theorem RpA.take : ∀ {ds : List D} {vs : List V} (n : Nat), RpA K ι H ds vs → RpA K ι H (ds.take n) (vs.take n)
  | _, _, 0, _ => .nil
  | _, _, _ + 1, .nil => .nil
  | _, _, n + 1, .cons r t => .cons r (RpA.take n t)
theorem RpA.drop : ∀ {ds : List D} {vs : List V} (n : Nat), RpA K ι H ds vs → RpA K ι H (ds.drop n) (vs.drop n)
  | _, _, 0, r => r
  | _, _, _ + 1, .nil => .nil
  | _, _, n + 1, .cons _ t => RpA.drop n t
theorem RpA.set {d : D} {v : V} (r : Rp K ι H d v) : ∀ {ds : List D} {vs : List V} (i : Nat), RpA K ι H ds vs → RpA K ι H (ds.set i d) (vs.set i v)
  | _, _, _, .nil => .nil
  | _, _, 0, .cons _ t => .cons r t
  | _, _, i + 1, .cons q t => .cons q (RpA.set r i t)
theorem RpA.reverse : ∀ {ds : List D} {vs : List V}, RpA K ι H ds vs → RpA K ι H ds.reverse vs.reverse
  | _, _, .nil => .nil
  | _, _, .cons r t => by
    rw [List.reverse_cons, List.reverse_cons]
    exact (RpA.reverse t).append (.cons r .nil)
theorem RpA.rep {ds : List D} {vs : List V} (h : RpA K ι H ds vs) : ∀ k : Nat, RpA K ι H (List.replicate k ds).flatten (List.replicate k vs).flatten
  | 0 => .nil
  | k + 1 => by
    rw [List.replicate_succ, List.replicate_succ, List.flatten_cons, List.flatten_cons]
    exact h.append (RpA.rep h k)
theorem upd_tup {a p : Addr} {o : HO} {vs : List V} (hp : H p = none) (h : SqT K H a vs) : SqT K (upd H p o) a vs := by
  rcases h with (h | ⟨u, h⟩) | h
  · exact .inl (.inl (by rw [upd_ne (ne_of_none h hp)]; exact h))
  · exact .inl (.inr ⟨u, by rw [upd_ne (ne_of_none h hp)]; exact h⟩)
  · exact .inr h
def isTupO : Option HO → Prop
  | some (.tup _) => True
  | some (.frz _ _) => True
  | some (.xd _) => True
  | _ => False
theorem upd_tup' {a p : Addr} {o : HO} {vs : List V} (hp : ¬ isTupO (H p)) (h : SqT K H a vs) : SqT K (upd H p o) a vs := by
  rcases h with (h | ⟨u, h⟩) | h
  · exact .inl (.inl (by rw [upd_ne (fun e => by subst e; rw [h] at hp; exact hp trivial)]; exact h))
  · exact .inl (.inr ⟨u, by rw [upd_ne (fun e => by subst e; rw [h] at hp; exact hp trivial)]; exact h⟩)
  · exact .inr h
theorem upd_err {a p : Addr} {o : HO} {x : Ex} (hp : ¬ isTupO (H p)) (h : ErrAt K H a x) : ErrAt K (upd H p o) a x := by
  obtain ⟨oe, vs, h1, h2, h3, h4, h5⟩ := h
  refine ⟨oe, vs, by rw [upd_ne (fun e => by subst e; rw [h1] at hp; exact hp trivial)]; exact h1, h2, h3, h4, ?_⟩
  rcases h5 with h5 | ⟨i, d, e1, e2, e3⟩
  · exact .inl h5
  · exact .inr ⟨i, d, e1, e2, by rw [upd_ne (fun e => by subst e; rw [e3] at hp; exact hp trivial)]; exact e3⟩
theorem upd_frz {p a : Addr} {o : HO} {ob : Obj} {u : HO} (hp : ¬ isTupO (H p)) (h : H a = some (.frz ob u)) : upd H p o a = some (.frz ob u) := by
  rw [upd_ne (fun e => by subst e; rw [h] at hp; exact hp trivial)]; exact h
theorem Ext.upd {p : Addr} {o : HO} (hp : ¬ isTupO (H p)) : Ext K ι H ι (upd H p o) := ⟨fun _ _ h => h, fun _ _ h => upd_tup' hp h, fun _ _ h => upd_err hp h, fun _ _ _ h => upd_frz hp h⟩
theorem Ext.new {p : Addr} {o : HO} (hp : H p = none) : Ext K ι H ι (L2.upd H p o) := Ext.upd (by rw [hp]; exact fun z => z)
theorem Ext.more {p : Addr} {o : HO} (hp : H p = none) : Ext K ι H (ι ++ [p]) (L2.upd H p o) :=
  ⟨fun n a h => by
    obtain ⟨hl, _⟩ := List.getElem?_eq_some_iff.mp h
    rw [List.getElem?_append_left hl]; exact h, fun _ _ h => upd_tup hp h, fun _ _ h => upd_err (by rw [hp]; exact fun z => z) h, fun _ _ _ h => upd_frz (by rw [hp]; exact fun z => z) h⟩
theorem RoL.sq {a : Addr} {vs : List V} (h : RoL K H a vs) : SqL K H a vs := by
  rcases h with ⟨o, h⟩ | h
  · exact .inl (.inr ⟨o, h⟩)
  · exact .inr h
theorem RoL.upd {a p : Addr} {o : HO} {vs : List V} (hp : ¬ isTupO (H p)) (h : RoL K H a vs) : RoL K (L2.upd H p o) a vs := by
  rcases h with ⟨u, h⟩ | h
  · exact .inl ⟨u, by rw [upd_ne (fun e => by subst e; rw [h] at hp; exact hp trivial)]; exact h⟩
  · exact .inr h
/-- an object that is there stays what it is where another place is written -/
theorem MOk.upd {a p : Addr} {o : HO} {u : MO} (e : Ext K ι H ι' (L2.upd H p o)) (hne : mutable u = true → a ≠ p) (hp : ¬ isTupO (H p)) (h : MOk K ι H a u) : MOk K ι' (L2.upd H p o) a u := by
  cases u with
  | lst xs => obtain ⟨vs, h1, h2⟩ := h; exact ⟨vs, by rw [upd_ne (hne rfl)]; exact h1, h2.ext e⟩
  | rol xs => obtain ⟨vs, h1, h2⟩ := h; exact ⟨vs, h1.upd hp, h2.ext e⟩
  | ins c fs => obtain ⟨dx, vs, h1, h2⟩ := h; exact ⟨dx, vs, by rw [upd_ne (hne rfl)]; exact h1, h2.ext e⟩
  | dct kvs => obtain ⟨xs, h1, h2, h3⟩ := h; exact ⟨xs, by rw [upd_ne (hne rfl)]; exact h1, h2.ext e, h3⟩
  | dcs fs => obtain ⟨vs, h1, h2⟩ := h; exact ⟨vs, by rw [upd_ne (hne rfl)]; exact h1, h2.ext e⟩
  | dcz kvs => obtain ⟨xs, o, h1, h2, h3⟩ := h; exact ⟨xs, o, by rw [upd_ne (hne rfl)]; exact h1, h2.ext e, h3⟩
theorem MOk.there {a : Addr} {u : MO} (m : mutable u = true) (h : MOk K ι H a u) : H a ≠ none := by
  cases u with
  | lst xs => obtain ⟨vs, h1, _⟩ := h; rw [h1]; exact fun z => nomatch z
  | rol xs => exact nomatch m
  | ins c fs => obtain ⟨dx, vs, h1, _⟩ := h; rw [h1]; exact fun z => nomatch z
  | dct kvs => obtain ⟨xs, h1, _⟩ := h; rw [h1]; exact fun z => nomatch z
  | dcs fs => obtain ⟨vs, h1, _⟩ := h; rw [h1]; exact fun z => nomatch z
  | dcz kvs => obtain ⟨xs, o, h1, _⟩ := h; rw [h1]; exact fun z => nomatch z
theorem MOk.notTup {a : Addr} {u : MO} (m : wr u = true) (h : MOk K ι H a u) : ¬ isTupO (H a) := by
  cases u with
  | lst xs => obtain ⟨vs, h1, _⟩ := h; rw [h1]; exact fun z => z
  | rol xs => exact nomatch m
  | ins c fs => obtain ⟨dx, vs, h1, _⟩ := h; rw [h1]; exact fun z => z
  | dct kvs => obtain ⟨xs, h1, _⟩ := h; rw [h1]; exact fun z => z
  | dcs fs => obtain ⟨vs, h1, _⟩ := h; rw [h1]; exact fun z => z
  | dcz kvs => exact nomatch m
variable {M : Mem}
theorem SR.at (S : SR K ι H M) {n : Nat} {o : MO} (h : M[n]? = some o) : ∃ a, ι[n]? = some a ∧ MOk K ι H a o := by
  obtain ⟨hl, _⟩ := List.getElem?_eq_some_iff.mp h
  have hl' : n < ι.length := by rw [S.len]; exact hl
  exact ⟨ι[n], List.getElem?_eq_getElem hl', S.ok n _ o (List.getElem?_eq_getElem hl') h⟩
/-- an untracked place gets a thing that is no memory of ours (a tuple, an instance's dict) -/
theorem SR.new (S : SR K ι H M) {p : Addr} {o : HO} (hp : H p = none) : SR K ι (L2.upd H p o) M where
  len := S.len
  ok := fun n a u h1 h2 => by
    have k := S.ok n a u h1 h2
    refine k.upd (Ext.new hp) (fun m e => ?_) (by rw [hp]; exact fun z => z)
    subst e; exact k.there m hp
  nd := S.nd
/-- a new object of ours -/
theorem SR.alloc (S : SR K ι H M) {p : Addr} {o : HO} {u : MO} (hp : H p = none) (hm : MOk K (ι ++ [p]) (L2.upd H p o) p u) : SR K (ι ++ [p]) (L2.upd H p o) (M ++ [u]) := by
  have hl := S.len
  have split : ∀ {n : Nat} {a : Addr} {v : MO}, (ι ++ [p])[n]? = some a → (M ++ [u])[n]? = some v → (ι[n]? = some a ∧ M[n]? = some v) ∨ (n = ι.length ∧ a = p ∧ v = u) := by
    intro n a v h1 h2
    by_cases q : n < ι.length
    · rw [List.getElem?_append_left q] at h1
      rw [List.getElem?_append_left (by omega)] at h2
      exact .inl ⟨h1, h2⟩
    · have e : n = ι.length := by
        have := (List.getElem?_eq_some_iff.mp h1).1
        simp at this; omega
      subst e
      have a1 : p = a := by simpa using h1
      have a2 : u = v := by rw [hl] at h2; simpa using h2
      exact .inr ⟨rfl, a1.symm, a2.symm⟩
  refine ⟨by simp [hl], fun n a v h1 h2 => ?_, fun n m a v w h1 h2 h3 h4 m1 m2 => ?_⟩
  · rcases split h1 h2 with ⟨g1, g2⟩ | ⟨rfl, rfl, rfl⟩
    · have k := S.ok n a v g1 g2
      refine k.upd (Ext.more hp) (fun m e => ?_) (by rw [hp]; exact fun z => z)
      subst e; exact k.there m hp
    · exact hm
  · rcases split h1 h3 with ⟨g1, g2⟩ | ⟨rfl, rfl, rfl⟩ <;> rcases split h2 h4 with ⟨f1, f2⟩ | ⟨rfl, e, rfl⟩
    · exact S.nd n m a v w g1 f1 g2 f2 m1 m2
    · exact absurd hp (by rw [← e]; exact (S.ok n _ v g1 g2).there m1)
    · exact absurd hp ((S.ok m _ w f1 f2).there m2)
    · rfl
/-- an object of ours is written -/
theorem SR.write (S : SR K ι H M) {n : Nat} {a : Addr} {o u : MO} {x : HO} (ha : ι[n]? = some a) (ho : M[n]? = some o) (mo : wr o = true) (mu : mutable u = true)
    (hm : MOk K ι (L2.upd H a x) a u) : SR K ι (L2.upd H a x) (M.set n u) := by
  have k0 := S.ok n a o ha ho
  have nt := k0.notTup mo
  obtain ⟨hl, _⟩ := List.getElem?_eq_some_iff.mp ho
  have split : ∀ {m : Nat} {v : MO}, (M.set n u)[m]? = some v → (m = n ∧ v = u) ∨ (m ≠ n ∧ M[m]? = some v) := by
    intro m v h
    by_cases e : m = n
    · subst e
      rw [List.getElem?_set_self hl] at h
      exact .inl ⟨rfl, (Option.some.inj h).symm⟩
    · rw [List.getElem?_set_ne (fun z => e z.symm)] at h
      exact .inr ⟨e, h⟩
  refine ⟨by rw [List.length_set]; exact S.len, fun m b v h1 h2 => ?_, fun m m' b v w h1 h2 h3 h4 m1 m2 => ?_⟩
  · rcases split h2 with ⟨rfl, rfl⟩ | ⟨e, g⟩
    · rw [ha] at h1; cases h1; exact hm
    · refine (S.ok m b v h1 g).upd (Ext.upd nt) (fun mv z => ?_) nt
      subst z; exact e (S.nd m n b v o h1 ha g ho mv (wr_mut mo))
  · rcases split h3 with ⟨rfl, rfl⟩ | ⟨e, g⟩ <;> rcases split h4 with ⟨rfl, rfl⟩ | ⟨e', g'⟩
    · rfl
    · exact (S.nd m' m b w o h2 h1 g' ho m2 (wr_mut mo)).symm
    · exact S.nd m m' b v o h1 h2 g ho m1 (wr_mut mo)
    · exact S.nd m m' b v w h1 h2 g g' m1 m2
end
/-- an exception: its class, its dict -/
def ExR (K : PySem.W.Frag) (ι : List Addr) (x : Ex) (cls : Value) (dx : Option Addr) (H : Hp) : Prop :=
  cls = .ref (He.ga K x.cls) ∧ ErrD H x.at_ dx
/-- what is wanted of an outcome, from ι and H on -/
def OutP {α : Type} (K : PySem.W.Frag) (W : Value → Option Addr → Hp → Prop) (ι : List Addr) (H : Hp) (o : Out α) (R : α → Mem → List Addr → Hp → Prop) : Prop :=
  match o with
  | .ok a M => ∀ ι' H', Ext K ι H ι' H' → SR K ι' H' M → R a M ι' H'
  | .exc x M => ∀ ι' H' cls dx, Ext K ι H ι' H' → SR K ι' H' M → ExR K ι' x cls dx H' → W cls dx H'
  | .stuck => False
def SOutP (K : PySem.W.Frag) (W : WX) (ι : List Addr) (H : Hp) (o : SOut) (En : Ends) : Prop :=
  match o with
  | .next env M => ∀ ι' σ' H', Ext K ι H ι' H' → SR K ι' H' M → EnvR K ι' H' env σ' → En.nx σ' H'
  | .ret d M => ∀ ι' v H', Ext K ι H ι' H' → SR K ι' H' M → Rp K ι' H' d v → En.rt v H'
  | .exc x env M => ∀ ι' σ' H' cls dx, Ext K ι H ι' H' → SR K ι' H' M → EnvR K ι' H' env σ' → ExR K ι' x cls dx H' → W cls dx σ' H'
  | .stuck => False
abbrev W1 (W : WX) (σ : L2.St) : Value → Option Addr → Hp → Prop := fun c d H => W c d σ H
/-- what is wanted of a value -/
abbrev VR (K : PySem.W.Frag) (Q : VK) : D → Mem → List Addr → Hp → Prop := fun d _ ι H => ∀ v, Rp K ι H d v → Q v H
abbrev AR (K : PySem.W.Frag) (Q : List V → Hp → Prop) : List D → Mem → List Addr → Hp → Prop := fun d _ ι H => ∀ v, RpA K ι H d v → Q v H
abbrev TR (Q : Bool → Hp → Prop) : Bool → Mem → List Addr → Hp → Prop := fun b _ _ H => Q b H
def LE (K : PySem.W.Frag) (W : WX) (m : ME) : TE := fun σ H Q => ∃ ι env M, SR K ι H M ∧ EnvR K ι H env σ ∧ OutP K (W1 W σ) ι H (m env M) (VR K Q)
def LT (K : PySem.W.Frag) (W : WX) (m : MT) : TT := fun σ H Q => ∃ ι env M, SR K ι H M ∧ EnvR K ι H env σ ∧ OutP K (W1 W σ) ι H (m env M) (TR Q)
def LA (K : PySem.W.Frag) (W : WX) (m : MA) : TA := fun σ H Q => ∃ ι env M, SR K ι H M ∧ EnvR K ι H env σ ∧ OutP K (W1 W σ) ι H (m env M) (AR K Q)
def LS (K : PySem.W.Frag) (W : WX) (m : MS) : TS := fun En σ H => ∃ ι env M, SR K ι H M ∧ EnvR K ι H env σ ∧ SOutP K W ι H (m env M) En
section
variable {K : PySem.W.Frag} {W : Value → Option Addr → Hp → Prop} {ι ι' : List Addr} {H H' : Hp} {α β : Type}
theorem OutP.imp {o : Out α} {R R' : α → Mem → List Addr → Hp → Prop} (h : OutP K W ι H o R) (k : ∀ a M ι' H', Ext K ι H ι' H' → SR K ι' H' M → R a M ι' H' → R' a M ι' H') : OutP K W ι H o R' := by
  cases o with
  | ok a M => exact fun ι' H' e s => k a M ι' H' e s (h ι' H' e s)
  | exc x M => exact h
  | stuck => exact h
theorem OutP.ext {o : Out α} {R : α → Mem → List Addr → Hp → Prop} (e : Ext K ι H ι' H') (h : OutP K W ι H o R) : OutP K W ι' H' o R := by
  cases o with
  | ok a M => exact fun ι2 H2 e2 s => h ι2 H2 (e.trans e2) s
  | exc x M => exact fun ι2 H2 c d e2 s x => h ι2 H2 c d (e.trans e2) s x
  | stuck => exact h
theorem OutP.bind {o : Out α} {f : α → Mem → Out β} {R : β → Mem → List Addr → Hp → Prop} (h : OutP K W ι H (o.bind f) R) : OutP K W ι H o (fun a M ι1 H1 => OutP K W ι1 H1 (f a M) R) := by
  cases o with
  | ok a M => exact fun ι' H' e s => OutP.ext e h
  | exc x M => exact h
  | stuck => exact h
end
theorem SOutP.ext {K : PySem.W.Frag} {W : WX} {ι ι' : List Addr} {H H' : Hp} {o : SOut} {En : Ends} (e : Ext K ι H ι' H') (h : SOutP K W ι H o En) : SOutP K W ι' H' o En := by
  cases o with
  | next env M => exact fun ι2 σ2 H2 e2 s r => h ι2 σ2 H2 (e.trans e2) s r
  | ret d M => exact fun ι2 v H2 e2 s r => h ι2 v H2 (e.trans e2) s r
  | exc x env M => exact fun ι2 σ2 H2 c d e2 s r x => h ι2 σ2 H2 c d (e.trans e2) s r x
  | stuck => exact h
section
variable {X : Cx}
theorem _root_.L2.PE.imp {e : Expr} {t t' : TE} (h : PE X e t) (k : ∀ σ H Q, t' σ H Q → t σ H Q) : PE X e t' := ⟨fun pins s σ H Q I q => h.run pins s σ H Q I (k σ H Q q)⟩
theorem _root_.L2.PT.imp {e : Expr} {t t' : TT} (h : PT X e t) (k : ∀ σ H Q, t' σ H Q → t σ H Q) : PT X e t' := ⟨fun pins s σ H Q I q => h.run pins s σ H Q I (k σ H Q q)⟩
theorem _root_.L2.PW.imp {e : Expr} {t t' : TT} (h : PW X e t) (k : ∀ σ H Q, t' σ H Q → t σ H Q) : PW X e t' := ⟨fun w pins s σ H Q I q => h.run w pins s σ H Q I (k σ H Q q)⟩
theorem _root_.L2.PA.imp {e : List Expr} {t t' : TA} (h : PA X e t) (k : ∀ σ H Q, t' σ H Q → t σ H Q) : PA X e t' := ⟨fun p pins s σ H Q I q => h.run p pins s σ H Q I (k σ H Q q)⟩
theorem _root_.L2.PS.imp {e : Stmt} {t t' : TS} (h : PS X e t) (k : ∀ En σ H, t' En σ H → t En σ H) : PS X e t' := ⟨fun pins s σ H En I q => h.run pins s σ H En I (k En σ H q)⟩
theorem _root_.L2.PSs.imp {e : List Stmt} {t t' : TS} (h : PSs X e t) (k : ∀ En σ H, t' En σ H → t En σ H) : PSs X e t' := ⟨fun pins s σ H En I q => h.run pins s σ H En I (k En σ H q)⟩
end
end TL
end
section
namespace TL
open PySem PySem.Spec PyProof.Rows L2
/-- the context of a body -/
structure Ctx (X : Cx) (W : WX) (k : Nat) : Prop where
  calm : X.calm = true
  nd : X.N.Nodup
  room : Room k X.A
  tk : L2N.Takes X W
  pass : PassesOwn (model X.prog X.w) X.A X.env X.xe
def liftO {α : Type} (o : Option (α × Mem)) : Out α := match o with
  | some (a, M) => .ok a M
  | none => .stuck
@[simp] theorem liftO_some {α : Type} (a : α) (M : Mem) : liftO (some (a, M)) = .ok a M := rfl
@[simp] theorem liftO_none {α : Type} : liftO (none : Option (α × Mem)) = .stuck := rfl
def OpO {α : Type} (K : PySem.W.Frag) (ι : List Addr) (H : Hp) (o : Option (α × Mem)) (R : α → Mem → List Addr → Hp → Prop) : Prop := match o with
  | some (a, M) => ∀ ι' H', Ext K ι H ι' H' → SR K ι' H' M → R a M ι' H'
  | none => False
theorem OpO.of {α : Type} {K : PySem.W.Frag} {W : Value → Option Addr → Hp → Prop} {ι : List Addr} {H : Hp} {o : Option (α × Mem)} {R : α → Mem → List Addr → Hp → Prop} (h : OutP K W ι H (liftO o) R) : OpO K ι H o R := by
  cases o with
  | none => exact h
  | some p => exact h
abbrev Op2 := D → D → Mem → Option (D × Mem)
abbrev Op1 := D → Mem → Option (D × Mem)
abbrev OpN := List D → Mem → Option (D × Mem)
def rD2 (K : PySem.W.Frag) (f : Op2) : R2 := fun x y H Q => ∃ ι M a b, SR K ι H M ∧ Rp K ι H a x ∧ Rp K ι H b y ∧ OpO K ι H (f a b M) (VR K Q)
def rDN (K : PySem.W.Frag) (f : OpN) : List V → Hp → VK → Prop := fun xs H Q => ∃ ι M ds, SR K ι H M ∧ RpA K ι H ds xs ∧ OpO K ι H (f ds M) (VR K Q)
def rDM (K : PySem.W.Frag) (f : D → OpN) : V → List V → Hp → VK → Prop := fun x xs H Q => ∃ ι M d ds, SR K ι H M ∧ Rp K ι H d x ∧ RpA K ι H ds xs ∧ OpO K ι H (f d ds M) (VR K Q)
def rDSl (K : PySem.W.Frag) (f : D → Option Int → Option Int → Mem → Option (D × Mem)) : V → Option Int → Option Int → Hp → VK → Prop := fun x lo hi H Q => ∃ ι M d, SR K ι H M ∧ Rp K ι H d x ∧ OpO K ι H (f d lo hi M) (VR K Q)
section
variable {X : Cx}
theorem OpR.imp {f : Value → Value → Sem Value} {r r' : R2} (h : OpR X f r) (k : ∀ x y H Q, r' x y H Q → r x y H Q) : OpR X f r' :=
  fun pins s σ H x y v u Q I rx ry q => h pins s σ H x y v u Q I rx ry (k x y H Q q)
theorem CallR.imp {f : Value} {r r' : List V → Hp → VK → Prop} (h : CallR X f r) (k : ∀ xs H Q, r' xs H Q → r xs H Q) : CallR X f r' :=
  fun pins s σ H xs us Q I rx q => h pins s σ H xs us Q I rx (k xs H Q q)
theorem IxR.imp {r r' : R2} (h : IxR X r) (k : ∀ x y H Q, r' x y H Q → r x y H Q) : IxR X r' :=
  fun a b pins s σ H x y v u Q I rx ry q e => h a b pins s σ H x y v u Q I rx ry (k x y H Q q) e
theorem MtR.imp {id : String} {r r' : V → List V → Hp → VK → Prop} (h : MtR X id r) (k : ∀ x xs H Q, r' x xs H Q → r x xs H Q) : MtR X id r' :=
  fun pins s σ H x xs v us Q I rx rxs q => h pins s σ H x xs v us Q I rx rxs (k x xs H Q q)
theorem UnR.imp {f : Value → Sem Value} {r r' : V → Hp → VK → Prop} (h : UnR X f r) (k : ∀ x H Q, r' x H Q → r x H Q) : UnR X f r' :=
  fun pins s σ H x v Q I rx q => h pins s σ H x v Q I rx (k x H Q q)
theorem SlR.imp {r r' : V → Option Int → Option Int → Hp → VK → Prop} (h : SlR X r) (k : ∀ x l u H Q, r' x l u H Q → r x l u H Q) : SlR X r' :=
  fun pins s σ H x v vl vu lo hi sl Q I rx hs pl pu q => h pins s σ H x v vl vu lo hi sl Q I rx hs pl pu (k x lo hi H Q q)
end
section
variable {K : PySem.W.Frag} {ι ι' : List Addr} {H H' : Hp} {M : Mem}
/-- a value is told, the memory as it is -/
theorem OpO.val {d : D} {Q : VK} {v : V} (S : SR K ι H M) (h : OpO K ι H (some (d, M)) (VR K Q)) (r : Rp K ι H d v) : Q v H := h ι H Ext.refl S v r
theorem Rp.bl_inv {b : Bool} {v : V} (r : Rp K ι H (.bl b) v) : v = .bl b := by cases r; rfl
theorem Rp.int_inv {i : Int} {v : V} (r : Rp K ι H (.int i) v) : v = .int i := by cases r; rfl
theorem Rp.str_inv {i : Str} {v : V} (r : Rp K ι H (.str i) v) : v = .str i := by cases r; rfl
theorem Rp.non_inv {v : V} (r : Rp K ι H .non v) : v = .non := by cases r; rfl
theorem Rp.tup_inv {xs : List D} {v : V} (r : Rp K ι H (.tup xs) v) : ∃ a vs, v = .ref a ∧ SqT K H a vs ∧ RpA K ι H xs vs := by cases r with | tup h k => exact ⟨_, _, rfl, h, k⟩
theorem Rp.ref_inv {n : Nat} {v : V} (r : Rp K ι H (.ref n) v) : ∃ a, v = .ref a ∧ ι[n]? = some a := by cases r with | ref h => exact ⟨_, rfl, h⟩
/-- a new tuple -/
theorem OpO.newTup {xs : List D} {vs : List V} {Q : VK} (S : SR K ι H M) (h : OpO K ι H (some (.tup xs, M)) (VR K Q)) (r : RpA K ι H xs vs) : ∀ p, H p = none → Q (.ref p) (upd H p (.tup vs)) := fun p hp =>
  h ι _ (Ext.new hp) (S.new hp) _ (.tup (.inl (.inl upd_same)) (r.ext (Ext.new hp)))
/-- a new list -/
theorem OpO.newLst {xs : List D} {vs : List V} {Q : VK} (S : SR K ι H M) (h : OpO K ι H (some (.ref M.length, M ++ [.lst xs])) (VR K Q)) (r : RpA K ι H xs vs) : ∀ p, H p = none → Q (.ref p) (upd H p (.lst vs)) := fun p hp =>
  h (ι ++ [p]) _ (Ext.more hp) (S.alloc hp ⟨vs, upd_same, r.ext (Ext.more hp)⟩) _ (.ref (by rw [← S.len]; simp))
/-- a list is written, a value told -/
theorem OpO.setLst {n : Nat} {a : Addr} {xs ys : List D} {vs : List V} {d : D} {v : V} {Q : VK} (S : SR K ι H M) (h : OpO K ι H (some (d, M.set n (.lst ys))) (VR K Q)) (ha : ι[n]? = some a) (hm : M[n]? = some (.lst xs)) (r : RpA K ι H ys vs) (rd : Rp K ι H d v) :
    Q v (upd H a (.lst vs)) := by
  have k0 := S.ok n a _ ha hm
  have nt := k0.notTup (u := .lst xs) rfl
  exact h ι _ (Ext.upd nt) (S.write ha hm rfl rfl ⟨vs, upd_same, r.ext (Ext.upd nt)⟩) v (rd.ext (Ext.upd nt))
/-- a list that is there -/
def seqAt (M : Mem) (n : Nat) : Option (List D) := match M[n]? with
  | some (.lst xs) => some xs
  | some (.rol xs) => some xs
  | _ => none
theorem SR.seq (S : SR K ι H M) {n : Nat} {a : Addr} {xs : List D} (ha : ι[n]? = some a) (h : seqAt M n = some xs) : ∃ vs, SqL K H a vs ∧ RpA K ι H xs vs := by
  unfold seqAt at h
  cases q : M[n]? with
  | none => rw [q] at h; cases h
  | some o =>
    rw [q] at h
    cases o with
    | lst ys => cases h; obtain ⟨vs, h1, h2⟩ := S.ok n a _ ha q; exact ⟨vs, SqL.of h1, h2⟩
    | rol ys => cases h; obtain ⟨vs, h1, h2⟩ := S.ok n a _ ha q; exact ⟨vs, h1.sq, h2⟩
    | ins c fs => cases h
    | dct kvs => cases h
    | dcs fs => cases h
    | dcz kvs => cases h
theorem SR.lst (S : SR K ι H M) {n : Nat} {a : Addr} {xs : List D} (ha : ι[n]? = some a) (h : M[n]? = some (.lst xs)) : ∃ vs, H a = some (.lst vs) ∧ RpA K ι H xs vs := S.ok n a _ ha h
end
def mAdd : Op2 := fun a b M => match a, b with
  | .int i, .int j => some (.int (i + j), M)
  | .str x, .str y => if x.length + y.length ≤ sizeLine then some (.str (x ++ y), M) else none
  | .tup xs, .tup ys => if xs.length + ys.length ≤ sizeLine then some (.tup (xs ++ ys), M) else none
  | .ref n, .ref m => match M[n]?, M[m]? with
    | some (.lst xs), some (.lst ys) => if xs.length + ys.length ≤ sizeLine then some (.ref M.length, M ++ [.lst (xs ++ ys)]) else none
    | _, _ => none
  | _, _ => none
theorem o_add {X : Cx} : OpR X (binaryOp .Add) (rD2 X.K mAdd) := by
  refine OpR.imp ((op_add.or op_add_str).or (op_catA.or op_cat)) fun x y H Q h => ?_
  obtain ⟨ι, M, a, b, S, ra, rb, h⟩ := h
  unfold mAdd at h
  split at h
  · cases ra.int_inv; cases rb.int_inv
    exact .inl (.inl ⟨_, _, rfl, rfl, h.val S (.int _)⟩)
  · cases ra.str_inv; cases rb.str_inv
    split at h
    · exact .inl (.inr ⟨_, _, rfl, rfl, by assumption, h.val S (.str _)⟩)
    · exact h.elim
  · obtain ⟨p, vs, rfl, t1, r1⟩ := ra.tup_inv
    obtain ⟨q, us, rfl, t2, r2⟩ := rb.tup_inv
    have l1 := r1.length
    have l2 := r2.length
    split at h
    · refine .inr (.inl ⟨_, _, vs, us, rfl, rfl, t1, t2, by omega, fun e => ?_, fun e1 e2 => ?_, fun e1 e2 => ?_⟩)
      · subst e
        cases r1
        exact h.val S (.tup t2 r2)
      · subst e2
        cases r2
        refine h.val S (.tup t1 ?_)
        rw [List.append_nil]; exact r1
      · exact h.newTup S (r1.append r2)
    · exact h.elim
  · obtain ⟨p, rfl, hp⟩ := ra.ref_inv
    obtain ⟨q, rfl, hq⟩ := rb.ref_inv
    split at h
    · rename_i m1 m2
      obtain ⟨vs, h1, r1⟩ := S.lst hp m1
      obtain ⟨us, h2, r2⟩ := S.lst hq m2
      have l1 := r1.length
      have l2 := r2.length
      split at h
      · exact .inr (.inr ⟨_, _, _, _, rfl, rfl, h1, h2, by omega, h.newLst S (r1.append r2)⟩)
      · exact h.elim
    · exact h.elim
  · exact h.elim
def mSub : Op2 := fun a b M => match a, b with
  | .int i, .int j => some (.int (i - j), M)
  | _, _ => none
theorem o_sub {X : Cx} : OpR X (binaryOp .Sub) (rD2 X.K mSub) := by
  refine OpR.imp op_sub fun x y H Q h => ?_
  obtain ⟨ι, M, a, b, S, ra, rb, h⟩ := h
  unfold mSub at h
  split at h
  · cases ra.int_inv; cases rb.int_inv
    exact ⟨_, _, rfl, rfl, h.val S (.int _)⟩
  · exact h.elim
def mMod : Op2 := fun a b M => match a, b with
  | .int i, .int j => if 0 < j then some (.int (i % j), M) else none
  | _, _ => none
theorem o_mod {X : Cx} : OpR X (binaryOp .Mod) (rD2 X.K mMod) := by
  refine OpR.imp op_mod fun x y H Q h => ?_
  obtain ⟨ι, M, a, b, S, ra, rb, h⟩ := h
  unfold mMod at h
  split at h
  · cases ra.int_inv; cases rb.int_inv
    split at h
    · exact ⟨_, _, rfl, rfl, by assumption, h.val S (.int _)⟩
    · exact h.elim
  · exact h.elim
def mFdiv : Op2 := fun a b M => match a, b with
  | .int i, .int j => if 0 < j ∧ j < 1073741824 then some (.int (i / j), M) else none
  | _, _ => none
theorem o_fdiv {X : Cx} : OpR X (binaryOp .FloorDiv) (rD2 X.K mFdiv) := by
  refine OpR.imp op_fdiv fun x y H Q h => ?_
  obtain ⟨ι, M, a, b, S, ra, rb, h⟩ := h
  unfold mFdiv at h
  split at h
  · cases ra.int_inv; cases rb.int_inv
    split at h
    · exact ⟨_, _, rfl, rfl, by assumption, h.val S (.int _)⟩
    · exact h.elim
  · exact h.elim
def mPow : Op2 := fun a b M => match a, b with
  | .int i, .int j => if 0 ≤ j ∧ j ≤ 1000000 ∧ i.natAbs < 2 ^ 64 then some (.int (i ^ j.toNat), M) else none
  | _, _ => none
end TL
end
section
namespace TL
open PySem PySem.Spec PyProof.Rows L2
theorem tuple_mul1 (l : Addr) (items : Array Value) (n : Nat) (dd : Option Addr) (sl : Array (Option Value)) (u : Tok) :
    Meets (Builtin.«tuple.__mul__» ⟨[.ref l, .int 1 u], []⟩) (fun _ R s => s.heap.get? l = some { cls := .type "tuple", dict := dd, data := .seq items n, slots := sl } ∧
      R (.ok (.ret (Value.ref l))) s) :=
  .of_wp fun prog w A R s h => by
    obtain ⟨hp, g, d, tk, os⟩ := s
    obtain ⟨hl, h⟩ := h
    have f1 := AutoSeq1.idx_int
    have c1 : (items.isEmpty || (1 : Int) == 1) = true := by simp
    wp_walk using wpAny_loadPart' hl
    exact ⟨_, rfl, h⟩
def rRep1 (K : PySem.W.Frag) : R2 := fun x y H Q => ∃ l xs, x = .ref l ∧ y = .int 1 ∧ SqT K H l xs ∧ Q (.ref l) H
theorem op_rep1 {X : Cx} : OpR X (binaryOp .Mult) (rRep1 X.K) := by
  intro pins s σ H x y v u Q I rx ry h
  obtain ⟨l, xs, rfl, rfl, hT, q⟩ := h
  cases rx
  obtain ⟨t, rfl⟩ := ry
  obtain ⟨its, r, ⟨⟨cls, dd, data, sl⟩, ho, hc, n, hd⟩, hs⟩ := I.tuple hT
  simp only at hc hd
  subst hc hd
  refine wpAny_binaryOp_repeat_ref (T := "tuple") (U := "int") (by decide) ⟨_, ho, rfl⟩ (fun s' => typeIs_int s' 1 t) noFill_tuple_mul F.fills_int_mul F.slot_int_rmul repeat_tuple F.slot_int_index.lookup
    (call_meets F.slot_int_rmul (typeIs_int s 1 t) F.entry_int_rmul (F.args_int_rmul_2 _ _) (int_rmul_tuple 1 t l its.toArray n dd sl)
      ⟨ho, rfl, ⟨_, ho, rfl⟩, call_meets F.slot_tuple_mul ⟨_, ho, rfl⟩ F.entry_tuple_mul (F.args_tuple_mul_2 _ _) (tuple_mul1 l its.toArray n dd sl t) ⟨ho, ?_⟩⟩)
  exact ⟨.ref l, _, I.tok s.toks, rfl, q⟩
noncomputable def mMul : Op2 := fun a b M => match a, b with
  | .int i, .int j => @ite _ ((-(2 ^ 64) < i ∧ i < 2 ^ 64) ∨ (-(2 ^ 64) < j ∧ j < 2 ^ 64)) (Classical.propDecidable _) (some (.int (i * j), M)) none
  | .tup xs, .int k => if k = 1 then some (.tup xs, M) else
      if xs ≠ [] ∧ 2 ≤ k ∧ k ≤ 1000 ∧ xs.length ≤ 1000 then some (.tup (List.replicate k.toNat xs).flatten, M) else none
  | .ref n, .int k => match M[n]? with
    | some (.lst xs) => @ite _ (-(2 ^ 63) ≤ k ∧ k < 2 ^ 63 ∧ xs.length * k.toNat ≤ sizeLine) (Classical.propDecidable _) (some (.ref M.length, M ++ [.lst (List.replicate k.toNat xs).flatten])) none
    | _ => none
  | _, _ => none
theorem o_mul {X : Cx} : OpR X (binaryOp .Mult) (rD2 X.K mMul) := by
  refine OpR.imp ((op_mul.or op_rep1).or (op_repT.or op_rep)) fun x y H Q h => ?_
  obtain ⟨ι, M, a, b, S, ra, rb, h⟩ := h
  unfold mMul at h
  split at h
  · cases ra.int_inv; cases rb.int_inv
    split at h
    · exact .inl (.inl ⟨_, _, rfl, rfl, by assumption, h.val S (.int _)⟩)
    · exact h.elim
  · cases rb.int_inv
    obtain ⟨p, vs, rfl, t1, r1⟩ := ra.tup_inv
    have l1 := r1.length
    split at h
    · rename_i e; subst e
      exact .inl (.inr ⟨_, _, rfl, rfl, t1, h.val S (.tup t1 r1)⟩)
    · split at h
      · rename_i c
        refine .inr (.inl ⟨_, _, vs, rfl, rfl, t1, fun e => c.1 ?_, c.2.1, c.2.2.1, by omega, h.newTup S (r1.rep _)⟩)
        subst e; cases r1; rfl
      · exact h.elim
  · cases rb.int_inv
    obtain ⟨p, rfl, hp⟩ := ra.ref_inv
    split at h
    · rename_i m1
      obtain ⟨vs, h1, r1⟩ := S.lst hp m1
      have l1 := r1.length
      split at h
      · rename_i c
        exact .inr (.inr ⟨_, _, vs, rfl, rfl, h1, c.1, c.2.1, by rw [← l1]; exact c.2.2, h.newLst S (r1.rep _)⟩)
      · exact h.elim
    · exact h.elim
  · exact h.elim
def mNeg : Op1 := fun a M => match a with
  | .int i => some (.int (-i), M)
  | _ => none
def mCmp (p : Int → Int → Bool) : Op2 := fun a b M => match a, b with
  | .int i, .int j => some (.bl (p i j), M)
  | _, _ => none
theorem o_cmp {X : Cx} {f : Value → Value → Sem Value} {p : Int → Int → Bool} (h : OpR X f (rI0 fun i j => .bl (p i j))) : OpR X f (rD2 X.K (mCmp p)) := by
  refine OpR.imp h fun x y H Q h => ?_
  obtain ⟨ι, M, a, b, S, ra, rb, h⟩ := h
  unfold mCmp at h
  split at h
  · cases ra.int_inv; cases rb.int_inv
    exact ⟨_, _, rfl, rfl, h.val S (.bl _)⟩
  · exact h.elim
abbrev mLt : Op2 := mCmp fun i j => decide (i < j)
abbrev mLe : Op2 := mCmp fun i j => decide (i ≤ j)
abbrev mGt : Op2 := mCmp fun i j => decide (j < i)
abbrev mGe : Op2 := mCmp fun i j => decide (j ≤ i)
theorem o_lt {X : Cx} : OpR X (compareOp .Lt) (rD2 X.K mLt) := o_cmp op_lt
theorem o_le {X : Cx} : OpR X (compareOp .LtE) (rD2 X.K mLe) := o_cmp op_le
theorem o_gt {X : Cx} : OpR X (compareOp .Gt) (rD2 X.K mGt) := o_cmp op_gt
theorem o_ge {X : Cx} : OpR X (compareOp .GtE) (rD2 X.K mGe) := o_cmp op_ge
def optAll {α β : Type} (f : α → Option β) : List α → Option (List β)
  | [] => some []
  | x :: xs => match f x, optAll f xs with
    | some y, some ys => some (y :: ys)
    | _, _ => none
def toP : Nat → Mem → D → Option PyData
  | 0, _, _ => none
  | _ + 1, _, .non => some .none
  | _ + 1, _, .bl b => some (.bool b)
  | _ + 1, _, .int i => some (.int i)
  | _ + 1, _, .str x => some (.str x)
  | n + 1, M, .tup xs => (optAll (toP n M) xs).map .tuple
  | n + 1, M, .ref r => match seqAt M r with
    | some xs => (optAll (toP n M) xs).map .list
    | none => none
  | _ + 1, _, .err _ => none
section
variable {K : PySem.W.Frag} {ι : List Addr} {H : Hp} {M : Mem}
theorem dpAll_of {f : D → Option PyData} (ih : ∀ d v p, Rp K ι H d v → f d = some p → Dp K H v p) : ∀ {ds : List D} {vs : List V} {ps : List PyData}, RpA K ι H ds vs → optAll f ds = some ps → DpAll K H vs ps
  | _, _, _, .nil, e => by cases e; exact .nil
  | d :: ds, v :: vs, ps, .cons r t, e => by
    unfold optAll at e
    split at e
    · rename_i h1 h2
      cases e
      exact .cons (ih _ _ _ r h1) (dpAll_of ih t h2)
    · cases e
theorem dp_of (S : SR K ι H M) : ∀ (n : Nat) (d : D) (v : V) (p : PyData), Rp K ι H d v → toP n M d = some p → Dp K H v p
  | 0, _, _, _, _, e => by cases e
  | n + 1, d, v, p, r, e => by
    cases d with
    | non => cases r.non_inv; cases e; exact .non
    | bl b => cases r.bl_inv; cases e; exact .bl b
    | int i => cases r.int_inv; cases e; exact .int i
    | str x => cases r.str_inv; cases e; exact .str x
    | err x => cases e
    | tup xs =>
      obtain ⟨a, vs, rfl, h1, h2⟩ := r.tup_inv
      have e' : (optAll (toP n M) xs).map PyData.tuple = some p := e
      cases q : optAll (toP n M) xs with
      | none => rw [q] at e'; cases e'
      | some ps => rw [q] at e'; cases e'; exact .tup h1 (dpAll_of (fun d v p => dp_of S n d v p) h2 q)
    | ref m =>
      obtain ⟨a, rfl, ha⟩ := r.ref_inv
      have e' : (match seqAt M m with | some xs => (optAll (toP n M) xs).map PyData.list | none => none) = some p := e
      cases q0 : seqAt M m with
      | none => rw [q0] at e'; cases e'
      | some xs =>
        rw [q0] at e'
        obtain ⟨vs, h1, h2⟩ := S.seq ha q0
        cases q : optAll (toP n M) xs with
        | none => simp only [q] at e'; cases e'
        | some ps => simp only [q] at e'; cases e'; exact .lst h1 (dpAll_of (fun d v p => dp_of S n d v p) h2 q)
end
/-- two texts, whatever their signs -/
def strEq (a b : D) : Option Bool := match a, b with
  | .str x, .str y => some (decide (x = y))
  | _, _ => none
theorem strEq_ok {a b : D} {k : Bool} (h : strEq a b = some k) : ∃ x y, a = .str x ∧ b = .str y ∧ k = decide (x = y) := by
  unfold strEq at h
  split at h
  · exact ⟨_, _, rfl, rfl, (Option.some.inj h).symm⟩
  · cases h
theorem scal_str {x y : Str} : scal (V.str x) (V.str y) = true := rfl
theorem str_dec {x y : Str} : decide (V.str x = V.str y) = decide (x = y) := by
  by_cases h : x = y
  · subst h; simp
  · have : V.str x ≠ V.str y := fun e => h (V.str.inj e)
    simp [h]
/-- a == b -/
def eqD (M : Mem) (a b : D) : Option Bool := match toP 64 M a, toP 64 M b with
  | some p, some q => if SeqAt.shaped p = true ∧ SeqAt.shaped q = true then some (PyData.eqv p q) else strEq a b
  | _, _ => none
def mEq : Op2 := fun a b M => (eqD M a b).map fun k => (.bl k, M)
def mNe : Op2 := fun a b M => (eqD M a b).map fun k => (.bl (!k), M)
theorem o_eq {X : Cx} (hu : X.A.units + 64 < cLine) : OpR X (compareOp .Eq) (rD2 X.K mEq) := by
  refine OpR.imp ((op_eqD hu).or op_eq) fun x y H Q h => ?_
  obtain ⟨ι, M, a, b, S, ra, rb, h⟩ := h
  unfold mEq eqD at h
  split at h
  · rename_i p q h1 h2
    split at h
    · rename_i c
      exact .inl ⟨p, q, dp_of S _ _ _ _ ra h1, dp_of S _ _ _ _ rb h2, c.1, c.2, h.val S (.bl _)⟩
    · cases e : strEq a b with
      | none => rw [e] at h; exact h.elim
      | some k =>
        rw [e] at h
        obtain ⟨x, y, rfl, rfl, rfl⟩ := strEq_ok e
        cases ra.str_inv; cases rb.str_inv
        refine .inr ⟨scal_str, ?_⟩
        rw [str_dec]
        exact OpO.val S h (.bl _)
  · exact h.elim
theorem o_ne {X : Cx} (hu : X.A.units + 64 < cLine) : OpR X (compareOp .NotEq) (rD2 X.K mNe) := by
  refine OpR.imp ((op_neD hu).or op_ne) fun x y H Q h => ?_
  obtain ⟨ι, M, a, b, S, ra, rb, h⟩ := h
  unfold mNe eqD at h
  split at h
  · rename_i p q h1 h2
    split at h
    · rename_i c
      exact .inl ⟨p, q, dp_of S _ _ _ _ ra h1, dp_of S _ _ _ _ rb h2, c.1, c.2, h.val S (.bl _)⟩
    · cases e : strEq a b with
      | none => rw [e] at h; exact h.elim
      | some k =>
        rw [e] at h
        obtain ⟨x, y, rfl, rfl, rfl⟩ := strEq_ok e
        cases ra.str_inv; cases rb.str_inv
        refine .inr ⟨scal_str, ?_⟩
        rw [str_dec]
        exact OpO.val S h (.bl _)
  · exact h.elim
def isNon : D → Bool
  | .non => true
  | _ => false
def mIs : Op2 := fun a b M => match b with
  | .non => some (.bl (isNon a), M)
  | .bl c => match a with
    | .bl b => some (.bl (b == c), M)
    | _ => none
  | _ => none
def mIsNot : Op2 := fun a b M => match b with
  | .non => some (.bl (!isNon a), M)
  | .bl c => match a with
    | .bl b => some (.bl (!(b == c)), M)
    | _ => none
  | _ => none
theorem isNon_v {K : PySem.W.Frag} {ι : List Addr} {H : Hp} {d : D} {v : V} (r : Rp K ι H d v) : decide (v = .non) = isNon d := by
  cases r <;> simp [isNon]
theorem o_is {X : Cx} : OpR X (compareOp .Is) (rD2 X.K mIs) := by
  refine OpR.imp (op_isN.or op_is_bl) fun x y H Q h => ?_
  obtain ⟨ι, M, a, b, S, ra, rb, h⟩ := h
  unfold mIs at h
  split at h
  · cases rb.non_inv
    exact .inl ⟨rfl, by rw [isNon_v ra]; exact h.val S (.bl _)⟩
  · cases rb.bl_inv
    split at h
    · cases ra.bl_inv
      refine .inr ⟨_, _, rfl, rfl, ?_⟩
      rw [show ∀ a b : Bool, decide (a = b) = (a == b) from by decide]
      exact h.val S (.bl _)
    · exact h.elim
  · exact h.elim
theorem o_isNot {X : Cx} : OpR X (compareOp .IsNot) (rD2 X.K mIsNot) := by
  refine OpR.imp (op_notN.or op_isnot_bl) fun x y H Q h => ?_
  obtain ⟨ι, M, a, b, S, ra, rb, h⟩ := h
  unfold mIsNot at h
  split at h
  · cases rb.non_inv
    exact .inl ⟨rfl, by rw [isNon_v ra]; exact h.val S (.bl _)⟩
  · cases rb.bl_inv
    split at h
    · cases ra.bl_inv
      refine .inr ⟨_, _, rfl, rfl, ?_⟩
      rw [show ∀ a b : Bool, decide (a = b) = (a == b) from by decide]
      exact h.val S (.bl _)
    · exact h.elim
  · exact h.elim
def flatD : D → Bool
  | .non => true
  | .bl _ => true
  | .int _ => true
  | .str _ => true
  | _ => false
def eqF : D → D → Bool
  | .non, .non => true
  | .bl a, .bl b => a == b
  | .bl a, .int b => (if a then 1 else 0) == b
  | .int a, .bl b => a == (if b then 1 else 0)
  | .int a, .int b => a == b
  | .str a, .str b => a == b
  | _, _ => false
def inF (x : D) (xs : List D) : Bool := xs.any fun y => eqF y x
section
variable {K : PySem.W.Frag} {ι : List Addr} {H : Hp} {M : Mem}
theorem flat_v {d : D} {v : V} (r : Rp K ι H d v) : flatV v = flatD d := by cases r <;> rfl
theorem flat_all : ∀ {ds : List D} {vs : List V}, RpA K ι H ds vs → vs.all flatV = ds.all flatD
  | _, _, .nil => rfl
  | _, _, .cons r t => by rw [List.all_cons, List.all_cons, flat_v r, flat_all t]
theorem eqF_v {d e : D} {v u : V} (r : Rp K ι H d v) (q : Rp K ι H e u) : eqV v u = eqF d e := by cases r <;> cases q <;> rfl
theorem inF_v {d : D} {v : V} (r : Rp K ι H d v) : ∀ {ds : List D} {vs : List V}, RpA K ι H ds vs → inV v vs = inF d ds
  | _, _, .nil => rfl
  | _, _, .cons q t => by
    show (eqV _ _ || _) = (eqF _ _ || _)
    rw [eqF_v q r]
    congr 1
    exact inF_v r t
end
def inD (M : Mem) (a b : D) : Option Bool := match a, b with
  | .str x, .str z => if h : x.cps.size = 1 then some (decide (x.cps[0] ∈ z.cps.toList)) else none
  | d, .tup xs => if flatD d = true ∧ xs.all flatD = true then some (inF d xs) else none
  | d, .ref n => match seqAt M n with
    | some xs => if flatD d = true ∧ xs.all flatD = true then some (inF d xs) else none
    | none => none
  | _, _ => none
def mNotIn : Op2 := fun a b M => (inD M a b).map fun k => (.bl (!k), M)
theorem str1 {x : Str} (h : x.cps.size = 1) : x = ⟨#[x.cps[0]]⟩ := by
  obtain ⟨⟨l⟩⟩ := x
  match l, h with
  | [c], _ => rfl
theorem o_notIn {X : Cx} : OpR X (compareOp .NotIn) (rD2 X.K mNotIn) := by
  refine OpR.imp (op_notIn_sign.or op_notIn_seq) fun x y H Q h => ?_
  obtain ⟨ι, M, a, b, S, ra, rb, h⟩ := h
  unfold mNotIn inD at h
  split at h
  · cases ra.str_inv; cases rb.str_inv
    split at h
    · rename_i c
      exact .inl ⟨_, _, congrArg V.str (str1 c), rfl, h.val S (.bl _)⟩
    · exact h.elim
  · obtain ⟨p, vs, rfl, t1, r1⟩ := rb.tup_inv
    split at h
    · rename_i c
      refine .inr ⟨_, vs, rfl, .inr t1, by rw [flat_v ra]; exact c.1, by rw [flat_all r1]; exact c.2, ?_⟩
      rw [inF_v ra r1]
      exact h.val S (.bl _)
    · exact h.elim
  · obtain ⟨p, rfl, hp⟩ := rb.ref_inv
    split at h
    · rename_i m
      obtain ⟨vs, h1, r1⟩ := S.seq hp m
      split at h
      · rename_i c
        refine .inr ⟨_, vs, rfl, .inl h1, by rw [flat_v ra]; exact c.1, by rw [flat_all r1]; exact c.2, ?_⟩
        rw [inF_v ra r1]
        exact h.val S (.bl _)
      · exact h.elim
    · exact h.elim
  · exact h.elim
def mIdx : Op2 := fun a b M => match a, b with
  | .tup xs, .int i => (atI xs i).map fun d => (d, M)
  | .ref n, .int i => match seqAt M n with
    | some xs => (atI xs i).map fun d => (d, M)
    | none => none
  | .str z, .int i => if z.length ≤ sizeLine then (atI z.cps.toList i).map fun c => (.str ⟨#[c]⟩, M) else none
  | _, _ => none
section
variable {K : PySem.W.Frag} {ι : List Addr} {H : Hp} {M : Mem}
theorem atI_v {ds : List D} {vs : List V} {i : Int} {d : D} (r : RpA K ι H ds vs) (h : atI ds i = some d) : ∃ v, atI vs i = some v ∧ Rp K ι H d v := by
  unfold atI at h ⊢
  rw [← r.length]
  cases q : ixN ds.length i with
  | none => rw [q] at h; cases h
  | some j =>
    rw [q] at h
    exact r.get (i := j) h
end
theorem ix_D {X : Cx} : IxR X (rD2 X.K mIdx) := by
  refine IxR.imp ix_seq fun x y H Q h => ?_
  obtain ⟨ι, M, a, b, S, ra, rb, h⟩ := h
  unfold mIdx at h
  split at h
  · cases rb.int_inv
    obtain ⟨p, vs, rfl, t1, r1⟩ := ra.tup_inv
    rename_i xs i
    cases q : atI xs i with
    | none => rw [q] at h; exact h.elim
    | some d =>
      rw [q] at h
      obtain ⟨v, e, rv⟩ := atI_v r1 q
      exact .inr (.inl ⟨_, _, _, v, rfl, rfl, t1, e, h.val S rv⟩)
  · cases rb.int_inv
    obtain ⟨p, rfl, hp⟩ := ra.ref_inv
    split at h
    · rename_i xs m
      obtain ⟨vs, h1, r1⟩ := S.seq hp m
      rename_i i _
      cases q : atI xs i with
      | none => rw [q] at h; exact h.elim
      | some d =>
        rw [q] at h
        obtain ⟨v, e, rv⟩ := atI_v r1 q
        exact .inl ⟨_, _, _, v, rfl, rfl, h1, e, h.val S rv⟩
    · exact h.elim
  · cases ra.str_inv; cases rb.int_inv
    split at h
    · rename_i z i c
      cases q : atI z.cps.toList i with
      | none => rw [q] at h; exact h.elim
      | some d =>
        rw [q] at h
        exact .inr (.inr ⟨_, _, _, rfl, rfl, c, q, h.val S (.str _)⟩)
    · exact h.elim
  · exact h.elim
/-- the items from lo to hi -/
def cutL {α : Type} (xs : List α) (lo hi : Option Int) : List α := (xs.drop (HT.sIx xs.length 0 lo)).take (HT.sIx xs.length xs.length hi - HT.sIx xs.length 0 lo)
def mSl : D → Option Int → Option Int → Mem → Option (D × Mem) := fun d lo hi M => match d with
  | .tup xs => some (.tup (cutL xs lo hi), M)
  | .ref n => match seqAt M n with
    | some xs => some (.ref M.length, M ++ [.lst (cutL xs lo hi)])
    | none => none
  | .str z => if z.length ≤ sizeLine then some (.str (cutS z lo hi), M) else none
  | _ => none
section
variable {K : PySem.W.Frag} {ι : List Addr} {H : Hp} {M : Mem}
theorem cut_v {ds : List D} {vs : List V} {lo hi : Option Int} (r : RpA K ι H ds vs) : RpA K ι H (cutL ds lo hi) (cutV vs lo hi) := by
  unfold cutL cutV
  rw [← r.length]
  exact (r.drop _).take _
theorem cut_whole {α : Type} {xs : List α} {lo hi : Option Int} (h : HT.sIx xs.length 0 lo = 0 ∧ HT.sIx xs.length xs.length hi = xs.length) : cutL xs lo hi = xs := by
  unfold cutL
  rw [h.1, h.2]
  simp
end
theorem sl_D {X : Cx} : SlR X (rDSl X.K mSl) := by
  refine SlR.imp ((sl_tupA.or sl_list).or sl_str) fun x lo hi H Q h => ?_
  obtain ⟨ι, M, a, S, ra, h⟩ := h
  unfold mSl at h
  split at h
  · obtain ⟨p, vs, rfl, t1, r1⟩ := ra.tup_inv
    refine .inl (.inl ⟨_, vs, rfl, t1, fun e => ?_, fun _ => h.newTup S (cut_v r1)⟩)
    refine h.val S (.tup t1 ?_)
    rw [← r1.length] at e
    rw [cut_whole e]
    exact r1
  · obtain ⟨p, rfl, hp⟩ := ra.ref_inv
    split at h
    · rename_i m
      obtain ⟨vs, h1, r1⟩ := S.seq hp m
      exact .inl (.inr ⟨_, vs, rfl, h1, h.newLst S (cut_v r1)⟩)
    · exact h.elim
  · cases ra.str_inv
    split at h
    · exact .inr ⟨_, rfl, by assumption, h.val S (.str _)⟩
    · exact h.elim
  · exact h.elim
end TL
end
section
namespace TL
open PySem PySem.Spec PyProof.Rows L2
def eVar (i : Nat) : ME := fun env M => match env[i]? with
  | some (some d) => .ok d M
  | _ => .stuck
def eC (d : D) : ME := fun _ M => .ok d M
def eBin (f : Op2) (a b : ME) : ME := fun env M => (a env M).bind fun x M1 => (b env M1).bind fun y M2 => liftO (f x y M2)
def eUn (f : Op1) (a : ME) : ME := fun env M => (a env M).bind fun x M1 => liftO (f x M1)
def kBl {β : Type} (d : D) (f : Bool → Out β) : Out β := match d with
  | .bl k => f k
  | _ => .stuck
@[simp] theorem kBl_bl {β : Type} (k : Bool) (f : Bool → Out β) : kBl (.bl k) f = f k := rfl
def eChain (f g : Op2) (a b c : ME) : ME := fun env M => (a env M).bind fun x M1 => (b env M1).bind fun y M2 => (liftO (f x y M2)).bind fun z M3 => kBl z fun k =>
  if k = true then (c env M3).bind fun w M4 => liftO (g y w M4) else .ok (.bl false) M3
def eAnd (a b : ME) : ME := fun env M => (a env M).bind fun x M1 => kBl x fun k => if k = true then b env M1 else .ok (.bl false) M1
def eOr (a b : ME) : ME := fun env M => (a env M).bind fun x M1 => kBl x fun k => if k = true then .ok (.bl true) M1 else b env M1
def eNot (a : ME) : ME := fun env M => (a env M).bind fun x M1 => kBl x fun k => .ok (.bl (!k)) M1
def eIf (t : MT) (a b : ME) : ME := fun env M => (t env M).bind fun k M1 => if k = true then a env M1 else b env M1
def truD (M : Mem) (d : D) : Option Bool := match d with
  | .non => some false
  | .bl b => some b
  | .int i => some (i != 0)
  | .str x => if x.length ≤ sizeLine then some ((x.length : Int) != 0) else none
  | .tup xs => some (!xs.isEmpty)
  | .ref n => (seqAt M n).map fun xs => !xs.isEmpty
  | .err _ => none
def tB (e : ME) : MT := fun env M => (e env M).bind fun d M1 => kBl d fun k => .ok k M1
def tTru (e : ME) : MT := fun env M => (e env M).bind fun d M1 => match truD M1 d with
  | some k => .ok k M1
  | none => .stuck
def tAnd (a b : MT) : MT := fun env M => (a env M).bind fun k M1 => if k = true then b env M1 else .ok false M1
def tOr (a b : MT) : MT := fun env M => (a env M).bind fun k M1 => if k = true then .ok true M1 else b env M1
def tNot (a : MT) : MT := fun env M => (a env M).bind fun k M1 => .ok (!k) M1
def aNil : MA := fun _ M => .ok [] M
def aCons (a : ME) (r : MA) : MA := fun env M => (a env M).bind fun x M1 => (r env M1).bind fun xs M2 => .ok (x :: xs) M2
def eTup (a : MA) : ME := fun env M => (a env M).bind fun xs M1 => if xs.length ≤ 1000 then .ok (.tup xs) M1 else .stuck
def eLst (a : MA) : ME := fun env M => (a env M).bind fun xs M1 => if xs.length ≤ 1000 then .ok (.ref M1.length) (M1 ++ [.lst xs]) else .stuck
def eCall (m : List D → Mem → Out D) (a : MA) : ME := fun env M => (a env M).bind m
def eCallO (f : OpN) (a : MA) : ME := fun env M => (a env M).bind fun xs M1 => liftO (f xs M1)
def kInt {β : Type} (d : D) (f : Int → Out β) : Out β := match d with
  | .int k => f k
  | _ => .stuck
@[simp] theorem kInt_int {β : Type} (k : Int) (f : Int → Out β) : kInt (.int k) f = f k := rfl
/-- a slice's part -/
abbrev MO' := Env → Mem → Out (Option Int)
def oNone : MO' := fun _ M => .ok none M
def oSome (a : ME) : MO' := fun env M => (a env M).bind fun x M1 => kInt x fun i => .ok (some i) M1
def eSl (a : ME) (lo hi : MO') : ME := fun env M => (a env M).bind fun x M1 => (lo env M1).bind fun l M2 => (hi env M2).bind fun h M3 => liftO (mSl x l h M3)
section
variable {K : PySem.W.Frag} {W : Value → Option Addr → Hp → Prop} {ι : List Addr} {H : Hp} {M : Mem}
theorem OutP.val {α : Type} {a : α} {R : α → Mem → List Addr → Hp → Prop} (S : SR K ι H M) (h : OutP K W ι H (.ok a M) R) : R a M ι H := h ι H Ext.refl S
theorem kBl_inv {β : Type} {d : D} {f : Bool → Out β} {R : β → Mem → List Addr → Hp → Prop} (h : OutP K W ι H (kBl d f) R) : ∃ k, d = .bl k ∧ OutP K W ι H (f k) R := by
  cases d with
  | bl k => exact ⟨k, rfl, h⟩
  | _ => exact h.elim
theorem kInt_inv {β : Type} {d : D} {f : Int → Out β} {R : β → Mem → List Addr → Hp → Prop} (h : OutP K W ι H (kInt d f) R) : ∃ k, d = .int k ∧ OutP K W ι H (f k) R := by
  cases d with
  | int k => exact ⟨k, rfl, h⟩
  | _ => exact h.elim
end
section
variable {X : Cx} {W : WX} {k : Nat}
variable {a b c e : Expr} {es : List Expr} {ma mb mc me : ME} {mas : MA} {pos : Pos} {mt mu : MT}
theorem d_var {i : Nat} {x : Str} (hN : X.N[i]? = some x := by rfl) (hv : Vis X.env.scope x := by first | exact Or.inl rfl | exact Or.inr (Or.inl rfl) | exact Or.inr (Or.inr rfl)) (hd : (x == ("__debug__" : Str)) = false := by decide)
    (hcd : (x == ("__classdict__" : Str)) = false := by decide) : PE X (.Name x pos) (LE X.K W (eVar i)) := (pe_var hN hv hd hcd).imp fun σ H Q ⟨ι, env, M, S, R, h⟩ => by
  unfold eVar at h
  split at h
  · rename_i d e
    obtain ⟨v, h1, h2⟩ := R.get e
    exact ⟨v, h1, h.val S v h2⟩
  · exact h.elim
theorem d_int {i : Int} {j : Nat} : PE X (.Constant (.int i) j pos) (LE X.K W (eC (.int i))) := pe_int.imp fun σ H Q ⟨ι, env, M, S, R, h⟩ => h.val S _ (.int i)
theorem d_str {x : Str} {j : Nat} : PE X (.Constant (.str x) j pos) (LE X.K W (eC (.str x))) := pe_str.imp fun σ H Q ⟨ι, env, M, S, R, h⟩ => h.val S _ (.str x)
theorem d_bl {x : Bool} {j : Nat} : PE X (.Constant (.bool x) j pos) (LE X.K W (eC (.bl x))) := pe_bl.imp fun σ H Q ⟨ι, env, M, S, R, h⟩ => h.val S _ (.bl x)
theorem d_non {j : Nat} : PE X (.Constant .none j pos) (LE X.K W (eC .non)) := pe_non.imp fun σ H Q ⟨ι, env, M, S, R, h⟩ => h.val S _ .non
/-- a module's constant -/
structure Glob (K : PySem.W.Frag) (mg : Str → Option Value) (x : Str) (d : D) : Prop where
  ex : ∃ (v : V) (u : Value), mg x = some u ∧ RelV v u ∧ ∀ ι H, Rp K ι H d v
theorem d_glob {x : Str} {d : D} (G : Glob X.K X.mg x d) (hg : Gl X x := by rfl) (hd : (x == ("__debug__" : Str)) = false := by decide) : PE X (.Name x pos) (LE X.K W (eC d)) := by
  obtain ⟨v, u, hm, r, q⟩ := G.ex
  exact (pe_glob hg hm r hd).imp fun σ H Q ⟨ι, env, M, S, R, h⟩ => h.val S v (q ι H)
/-- two in a row -/
theorem le_bin {r : R2} {f : Op2} (hr : ∀ x y H Q, rD2 X.K f x y H Q → r x y H Q) {σ : L2.St} {H : Hp} {Q : VK} (h : LE X.K W (eBin f ma mb) σ H Q) : tOp r (LE X.K W ma) (LE X.K W mb) σ H Q := by
  obtain ⟨ι, env, M, S, R, h⟩ := h
  exact ⟨ι, env, M, S, R, (OutP.bind h).imp fun x M1 ι1 H1 e1 S1 h1 v rv => ⟨ι1, env, M1, S1, R.ext e1, (OutP.bind h1).imp fun y M2 ι2 H2 e2 S2 h2 u ru =>
    hr _ _ _ _ ⟨ι2, M2, x, y, S2, rv.ext e2, ru, OpO.of h2⟩⟩⟩
theorem d_bin {op : Operator} {f : Op2} (ho : OpR X (binaryOp op) (rD2 X.K f)) (ha : PE X a (LE X.K W ma)) (hb : PE X b (LE X.K W mb)) : PE X (.BinOp a op b pos) (LE X.K W (eBin f ma mb)) :=
  (pe_op ho ha hb).imp fun σ H Q h => le_bin (fun _ _ _ _ z => z) h
theorem d_cmp {op : CmpOp} {f : Op2} (ho : OpR X (compareOp op) (rD2 X.K f)) (ha : PE X a (LE X.K W ma)) (hb : PE X b (LE X.K W mb)) (hm : behindInMarks op b = false) : PE X (.Compare a [op] [b] pos) (LE X.K W (eBin f ma mb)) :=
  (pe_cmpR ho ha hb hm).imp fun σ H Q h => le_bin (fun _ _ _ _ z => z) h
theorem d_idx (ha : PE X a (LE X.K W ma)) (hb : PE X b (LE X.K W mb)) (hs : PlainIx b := by exact fun _ _ => rfl) : PE X (.Subscript a b pos) (LE X.K W (eBin mIdx ma mb)) :=
  (pe_ix ix_D ha hb hs).imp fun σ H Q h => le_bin (fun _ _ _ _ z => z) h
/-- a written negative number -/
theorem le_chain {f g : Op2} {σ : L2.St} {H : Hp} {Q : VK} (h : LE X.K W (eChain f g ma mb mc) σ H Q) : tChain (rD2 X.K f) (rD2 X.K g) (LE X.K W ma) (LE X.K W mb) (LE X.K W mc) σ H Q := by
  obtain ⟨ι, env, M, S, R, h⟩ := h
  refine ⟨ι, env, M, S, R, (OutP.bind h).imp fun x M1 ι1 H1 e1 S1 h1 v rv => ⟨ι1, env, M1, S1, R.ext e1, (OutP.bind h1).imp fun y M2 ι2 H2 e2 S2 h2 u ru => ?_⟩⟩
  refine ⟨ι2, M2, x, y, S2, rv.ext e2, ru, OpO.of ((OutP.bind h2).imp fun z M3 ι3 H3 e3 S3 h3 w rw => ?_)⟩
  obtain ⟨kk, rfl, h4⟩ := kBl_inv h3
  cases rw.bl_inv
  refine ⟨kk, rfl, ?_⟩
  cases kk with
  | false =>
    refine iteF ?_
    exact h4.val S3 _ (.bl _)
  | true =>
    refine iteT ?_
    exact ⟨ι3, env, M3, S3, R.ext ((e1.trans e2).trans e3), (OutP.bind h4).imp fun q M4 ι4 H4 e4 S4 h5 p rp => ⟨ι4, M4, y, q, S4, ru.ext (e3.trans e4), rp, OpO.of h5⟩⟩
theorem d_chain {op op' : CmpOp} {f g : Op2} (ho : OpR X (compareOp op) (rD2 X.K f)) (ho' : OpR X (compareOp op') (rD2 X.K g)) (ha : PE X a (LE X.K W ma)) (hb : PE X b (LE X.K W mb)) (hc : PE X c (LE X.K W mc))
    (hm : lastMarks [op, op'] [b, c] = false := by with_unfolding_all rfl) : PE X (.Compare a [op, op'] [b, c] pos) (LE X.K W (eChain f g ma mb mc)) :=
  (pe_chain ho ho' ha hb hc hm).imp fun σ H Q h => le_chain h
theorem d_one {op : BoolOp} (ha : PE X a (LE X.K W ma)) : PE X (.BoolOp op [a] pos) (LE X.K W ma) := pe_one ha
theorem d_and {rest : List Expr} (ha : PE X a (LE X.K W ma)) (hb : PE X (.BoolOp .And (b :: rest) pos) (LE X.K W mb)) : PE X (.BoolOp .And (a :: b :: rest) pos) (LE X.K W (eAnd ma mb)) :=
  (pe_and ha hb).imp fun σ H Q ⟨ι, env, M, S, R, h⟩ => ⟨ι, env, M, S, R, (OutP.bind h).imp fun x M1 ι1 H1 e1 S1 h1 v rv => by
    obtain ⟨kk, rfl, h4⟩ := kBl_inv h1
    cases rv.bl_inv
    refine ⟨kk, rfl, ?_⟩
    cases kk with
    | false => exact iteF (h4.val S1 _ (.bl _))
    | true => exact iteT ⟨ι1, env, M1, S1, R.ext e1, h4⟩⟩
theorem d_not (ha : PE X a (LE X.K W ma)) : PE X (.UnaryOp .Not a pos) (LE X.K W (eNot ma)) :=
  (pe_not ha).imp fun σ H Q ⟨ι, env, M, S, R, h⟩ => ⟨ι, env, M, S, R, (OutP.bind h).imp fun x M1 ι1 H1 e1 S1 h1 v rv => by
    obtain ⟨kk, rfl, h4⟩ := kBl_inv h1
    cases rv.bl_inv
    exact ⟨kk, rfl, h4.val S1 _ (.bl _)⟩⟩
theorem lt_tB {t : TE} {σ : L2.St} {H : Hp} {Q : Bool → Hp → Prop} (hk : ∀ Q, LE X.K W me σ H Q → t σ H Q) (h : LT X.K W (tB me) σ H Q) : tTest t σ H Q := by
  obtain ⟨ι, env, M, S, R, h⟩ := h
  refine hk _ ⟨ι, env, M, S, R, (OutP.bind h).imp fun x M1 ι1 H1 e1 S1 h1 v rv => ?_⟩
  obtain ⟨kk, rfl, h4⟩ := kBl_inv h1
  cases rv.bl_inv
  exact ⟨kk, rfl, h4.val S1⟩
theorem dt_cmp {op : CmpOp} {f : Op2} (ho : OpR X (compareOp op) (rD2 X.K f)) (ha : PE X a (LE X.K W ma)) (hb : PE X b (LE X.K W mb)) (hm : behindInMarks op b = false) : PT X (.Compare a [op] [b] pos) (LT X.K W (tB (eBin f ma mb))) :=
  (pt_cmpR ho ha hb hm).imp fun σ H Q h => lt_tB (fun Q h => le_bin (fun _ _ _ _ z => z) h) h
theorem dt_and1 (ha : PT X a (LT X.K W mt)) : PW X (.BoolOp .And [a] pos) (LT X.K W mt) := pw_and1 ha
theorem dt_or1 (ha : PT X a (LT X.K W mt)) : PW X (.BoolOp .Or [a] pos) (LT X.K W mt) := pw_or1 ha
theorem dt_and {rest : List Expr} (ha : PT X a (LT X.K W mt)) (hb : PW X (.BoolOp .And (b :: rest) pos) (LT X.K W mu)) : PW X (.BoolOp .And (a :: b :: rest) pos) (LT X.K W (tAnd mt mu)) :=
  (pw_and ha hb).imp fun σ H Q ⟨ι, env, M, S, R, h⟩ => ⟨ι, env, M, S, R, (OutP.bind h).imp fun kk M1 ι1 H1 e1 S1 h1 => by
    show if kk = true then _ else _
    cases kk with
    | false => exact iteF (h1.val S1)
    | true => exact iteT ⟨ι1, env, M1, S1, R.ext e1, h1⟩⟩
theorem dt_or {rest : List Expr} (ha : PT X a (LT X.K W mt)) (hb : PW X (.BoolOp .Or (b :: rest) pos) (LT X.K W mu)) : PW X (.BoolOp .Or (a :: b :: rest) pos) (LT X.K W (tOr mt mu)) :=
  (pw_or ha hb).imp fun σ H Q ⟨ι, env, M, S, R, h⟩ => ⟨ι, env, M, S, R, (OutP.bind h).imp fun kk M1 ι1 H1 e1 S1 h1 => by
    show if kk = true then _ else _
    cases kk with
    | false => exact iteF ⟨ι1, env, M1, S1, R.ext e1, h1⟩
    | true => exact iteT (h1.val S1)⟩
theorem dt_not (ha : PT X a (LT X.K W mt)) : PT X (.UnaryOp .Not a pos) (LT X.K W (tNot mt)) :=
  (pt_not ha).imp fun σ H Q ⟨ι, env, M, S, R, h⟩ => ⟨ι, env, M, S, R, (OutP.bind h).imp fun kk M1 ι1 H1 e1 S1 h1 => OutP.val (W := W1 W σ) (R := TR Q) (a := !kk) S1 h1⟩
theorem dt_tru (ha : PE X a (LE X.K W ma)) (he : ∀ whole, isTrue a X.env whole = (do let v ← whole; standAt a.pos; holding [v] (truthy v)) := by exact fun _ => rfl) : PT X a (LT X.K W (tTru ma)) :=
  (pt_truth ha he).imp fun σ H Q ⟨ι, env, M, S, R, h⟩ => ⟨ι, env, M, S, R, (OutP.bind h).imp fun d M1 ι1 H1 e1 S1 h1 v rv => by
    revert h1
    cases q : truD M1 d with
    | none => exact fun h1 => h1.elim
    | some kk =>
      intro h1
      refine ⟨kk, ?_, h1.val S1⟩
      cases d with
      | non => cases rv.non_inv; cases q; rfl
      | bl b => cases rv.bl_inv; cases q; rfl
      | int i => cases rv.int_inv; cases q; rfl
      | err x => cases q
      | str x =>
        cases rv.str_inv
        have q' : (if x.length ≤ sizeLine then some ((x.length : Int) != 0) else none) = some kk := q
        by_cases c : x.length ≤ sizeLine
        · rw [if_pos c] at q'; cases q'; exact ⟨c, rfl⟩
        · rw [if_neg c] at q'; cases q'
      | tup xs =>
        obtain ⟨p, vs, rfl, t1, r1⟩ := rv.tup_inv
        cases q
        refine .inr (.inl ⟨vs, t1, ?_⟩)
        cases r1 <;> rfl
      | ref n =>
        obtain ⟨p, rfl, hp⟩ := rv.ref_inv
        have q' : (seqAt M1 n).map (fun xs => !xs.isEmpty) = some kk := q
        cases q2 : seqAt M1 n with
        | none => rw [q2] at q'; cases q'
        | some xs =>
          rw [q2] at q'
          cases q'
          obtain ⟨vs, h1, r1⟩ := S1.seq hp q2
          refine .inl ⟨vs, h1, ?_⟩
          cases r1 <;> rfl⟩
theorem da_nil : PA X [] (LA X.K W aNil) := pa_nil.imp fun σ H Q ⟨ι, env, M, S, R, h⟩ => h.val S _ .nil
theorem da_cons (ha : PE X e (LE X.K W me)) (hr : PA X es (LA X.K W mas)) (hs : starEach (e :: es) X.env = (false, eval e X.env) :: starEach es X.env := by rfl) : PA X (e :: es) (LA X.K W (aCons me mas)) :=
  (pa_cons ha hr hs).imp fun σ H Q ⟨ι, env, M, S, R, h⟩ => ⟨ι, env, M, S, R, (OutP.bind h).imp fun x M1 ι1 H1 e1 S1 h1 v rv => ⟨ι1, env, M1, S1, R.ext e1, (OutP.bind h1).imp fun xs M2 ι2 H2 e2 S2 h2 vs rvs => h2.val S2 _ (.cons (rv.ext e2) rvs)⟩⟩
theorem d_tup {x1 : Nat} (h : PA X es (LA X.K W mas)) : PE X (.Tuple es x1 pos) (LE X.K W (eTup mas)) :=
  (pe_tup h).imp fun σ H Q ⟨ι, env, M, S, R, h⟩ => ⟨ι, env, M, S, R, (OutP.bind h).imp fun xs M1 ι1 H1 e1 S1 h1 vs rvs => by
    have hl := rvs.length
    revert h1
    split
    · intro h1
      exact ⟨by rw [← hl, sizeLine_eq]; omega, OpO.newTup S1 (h1 : OutP X.K (W1 W σ) ι1 H1 (.ok _ _) _) rvs⟩
    · exact fun h1 => h1.elim⟩
theorem d_lst (h : PA X es (LA X.K W mas)) : PE X (.List es pos) (LE X.K W (eLst mas)) :=
  (pe_lst h).imp fun σ H Q ⟨ι, env, M, S, R, h⟩ => ⟨ι, env, M, S, R, (OutP.bind h).imp fun xs M1 ι1 H1 e1 S1 h1 vs rvs => by
    have hl := rvs.length
    revert h1
    split
    · intro h1
      exact ⟨by rw [← hl, sizeLine_eq]; omega, OpO.newLst S1 (h1 : OutP X.K (W1 W σ) ι1 H1 (.ok _ _) _) rvs⟩
    · exact fun h1 => h1.elim⟩
def LO (K : PySem.W.Frag) (W : WX) (m : MO') : TO := fun σ H Q => ∃ ι env M, SR K ι H M ∧ EnvR K ι H env σ ∧ OutP K (W1 W σ) ι H (m env M) (fun o _ _ H' => Q o H')
theorem _root_.L2.PO.imp {e : Option Expr} {t t' : TO} (h : PO X e t) (k : ∀ σ H Q, t' σ H Q → t σ H Q) : PO X e t' := ⟨fun pins s σ H Q I q => h.run pins s σ H Q I (k σ H Q q)⟩
theorem do_none : PO X none (LO X.K W oNone) := po_none.imp fun σ H Q ⟨ι, env, M, S, R, h⟩ => h.val S
theorem do_some (ha : PE X a (LE X.K W ma)) : PO X (some a) (LO X.K W (oSome ma)) :=
  (po_some ha).imp fun σ H Q ⟨ι, env, M, S, R, h⟩ => ⟨ι, env, M, S, R, (OutP.bind h).imp fun x M1 ι1 H1 e1 S1 h1 v rv => by
    obtain ⟨i, rfl, h2⟩ := kInt_inv h1
    cases rv.int_inv
    exact ⟨i, rfl, h2.val S1⟩⟩
theorem d_sl {lo hi : Option Expr} {ml mh : MO'} {p2 : Pos} (ha : PE X a (LE X.K W ma)) (hl : PO X lo (LO X.K W ml)) (hh : PO X hi (LO X.K W mh)) : PE X (.Subscript a (.Slice lo hi none p2) pos) (LE X.K W (eSl ma ml mh)) :=
  (pe_slice sl_D ha hl hh).imp fun σ H Q ⟨ι, env, M, S, R, h⟩ => ⟨ι, env, M, S, R, (OutP.bind h).imp fun x M1 ι1 H1 e1 S1 h1 v rv =>
    ⟨ι1, env, M1, S1, R.ext e1, (OutP.bind h1).imp fun l M2 ι2 H2 e2 S2 h2 => ⟨ι2, env, M2, S2, R.ext (e1.trans e2), (OutP.bind h2).imp fun h M3 ι3 H3 e3 S3 h3 => ⟨ι3, M3, x, S3, rv.ext (e2.trans e3), OpO.of h3⟩⟩⟩⟩
end
end TL
end
section
namespace TL
open PySem PySem.Spec PyProof.Rows L2
def nLen : OpN := fun ds M => match ds with
  | [.str x] => if x.length ≤ sizeLine then some (.int (x.length : Nat), M) else none
  | [.tup xs] => some (.int (xs.length : Nat), M)
  | [.ref n] => (seqAt M n).map fun xs => (.int (xs.length : Nat), M)
  | _ => none
def nMax2 : OpN := fun ds M => match ds with
  | [.int i, .int j] => some (.int (if j > i then j else i), M)
  | _ => none
def nMin2 : OpN := fun ds M => match ds with
  | [.int i, .int j] => some (.int (if j < i then j else i), M)
  | _ => none
def nList : OpN := fun ds M => match ds with
  | [.tup xs] => some (.ref M.length, M ++ [.lst xs])
  | [.ref n] => (seqAt M n).map fun xs => (.ref M.length, M ++ [.lst xs])
  | _ => none
def nTuple : OpN := fun ds M => match ds with
  | [.tup xs] => some (.tup xs, M)
  | [.ref n] => (seqAt M n).map fun xs => (.tup xs, M)
  | _ => none
section
variable {K : PySem.W.Frag} {ι : List Addr} {H : Hp} {M : Mem}
theorem RpA.one_inv {d : D} {vs : List V} (r : RpA K ι H [d] vs) : ∃ v, vs = [v] ∧ Rp K ι H d v := by
  cases r with | cons h t => cases t; exact ⟨_, rfl, h⟩
theorem RpA.two_inv {d e : D} {vs : List V} (r : RpA K ι H [d, e] vs) : ∃ v u, vs = [v, u] ∧ Rp K ι H d v ∧ Rp K ι H e u := by
  cases r with | cons h t => cases t with | cons h' t => cases t; exact ⟨_, _, rfl, h, h'⟩
end
section
variable {X : Cx}
theorem c_len : CallR X (.builtin "len") (rDN X.K nLen) := by
  refine CallR.imp call_len fun xs H Q h => ?_
  obtain ⟨ι, M, ds, S, r, h⟩ := h
  unfold nLen at h
  split at h
  · obtain ⟨v, rfl, r1⟩ := r.one_inv
    cases r1.str_inv
    split at h
    · exact ⟨_, _, rfl, ⟨by assumption, rfl⟩, h.val S (.int _)⟩
    · exact h.elim
  · obtain ⟨v, rfl, r1⟩ := r.one_inv
    obtain ⟨p, vs, rfl, t1, r2⟩ := r1.tup_inv
    exact ⟨_, _, rfl, .inr ⟨vs, t1, rfl⟩, by rw [← r2.length]; exact h.val S (.int _)⟩
  · rename_i n
    obtain ⟨v, rfl, r1⟩ := r.one_inv
    obtain ⟨p, rfl, hp⟩ := r1.ref_inv
    cases q : seqAt M n with
    | none => rw [q] at h; exact h.elim
    | some xs =>
      rw [q] at h
      obtain ⟨vs, h1, r2⟩ := S.seq hp q
      exact ⟨_, _, rfl, .inl ⟨vs, h1, rfl⟩, by rw [← r2.length]; exact h.val S (.int _)⟩
  · exact h.elim
theorem c_max2 (hc : X.calm = true) : CallR X (.builtin "max") (rDN X.K nMax2) := by
  refine CallR.imp (call_max2 hc) fun xs H Q h => ?_
  obtain ⟨ι, M, ds, S, r, h⟩ := h
  unfold nMax2 at h
  split at h
  · obtain ⟨v, u, rfl, r1, r2⟩ := r.two_inv
    cases r1.int_inv; cases r2.int_inv
    exact ⟨_, _, rfl, h.val S (.int _)⟩
  · exact h.elim
theorem c_min2 (hc : X.calm = true) : CallR X (.builtin "min") (rDN X.K nMin2) := by
  refine CallR.imp (call_min2 hc) fun xs H Q h => ?_
  obtain ⟨ι, M, ds, S, r, h⟩ := h
  unfold nMin2 at h
  split at h
  · obtain ⟨v, u, rfl, r1, r2⟩ := r.two_inv
    cases r1.int_inv; cases r2.int_inv
    exact ⟨_, _, rfl, h.val S (.int _)⟩
  · exact h.elim
theorem c_tuple : CallR X (.type "tuple") (rDN X.K nTuple) := by
  refine CallR.imp call_tuple_of fun xs H Q h => ?_
  obtain ⟨ι, M, ds, S, r, h⟩ := h
  unfold nTuple at h
  split at h
  · obtain ⟨v, rfl, r1⟩ := r.one_inv
    obtain ⟨p, vs, rfl, t1, r2⟩ := r1.tup_inv
    exact ⟨_, vs, rfl, .inr ⟨t1, h.val S (.tup t1 r2)⟩⟩
  · rename_i n
    obtain ⟨v, rfl, r1⟩ := r.one_inv
    obtain ⟨p, rfl, hp⟩ := r1.ref_inv
    cases q : seqAt M n with
    | none => rw [q] at h; exact h.elim
    | some xs =>
      rw [q] at h
      obtain ⟨vs, h1, r2⟩ := S.seq hp q
      exact ⟨_, vs, rfl, .inl ⟨h1, h.newTup S r2⟩⟩
  · exact h.elim
end
def tyName (M : Mem) : D → Option String
  | .err _ => none
  | .non => some "NoneType"
  | .bl _ => some "bool"
  | .int _ => some "int"
  | .str _ => some "str"
  | .tup _ => some "tuple"
  | .ref n => (seqAt M n).map fun _ => "list"
def mIsi (T : String) : Op1 := fun d M => match tyName M d with
  | some t => (kitB t T).map fun b => (.bl b, M)
  | none => none
def eIsi (T : String) (a : ME) : ME := eUn (mIsi T) a
section
variable {X : Cx} {W : WX} {e : Expr} {me : ME}
theorem tyX_of {ι : List Addr} {H : Hp} {M : Mem} {d : D} {v : V} {t : String} (S : SR X.K ι H M) (r : Rp X.K ι H d v) (h : tyName M d = some t) : TyX X.K H v (.type t) := by
  cases d with
  | non => cases r.non_inv; cases h; exact .base .non
  | bl b => cases r.bl_inv; cases h; exact .base (.bl _)
  | int i => cases r.int_inv; cases h; exact .base (.int _)
  | str x => cases r.str_inv; cases h; exact .base (.str _)
  | err x => cases h
  | tup xs =>
    obtain ⟨p, vs, rfl, t1, r1⟩ := r.tup_inv
    cases h
    rcases t1 with (h | ⟨o, h⟩) | ⟨o, its, n, h1, h2, _⟩
    · exact .base (.tup h)
    · exact .fTuple h
    · exact .kTuple h1 h2
  | ref n =>
    obtain ⟨p, rfl, hp⟩ := r.ref_inv
    have h' : (seqAt M n).map (fun _ => "list") = some t := h
    cases q : seqAt M n with
    | none => rw [q] at h'; cases h'
    | some xs =>
      rw [q] at h'
      cases h'
      obtain ⟨vs, h1, r2⟩ := S.seq hp q
      rcases h1 with (h | ⟨o, h⟩) | ⟨o, its, n, h1, h2, _⟩
      · exact .base (.lst h)
      · exact .base (.frz h)
      · exact .kList h1 h2
theorem d_isi {T : Str} {U : String} {p p2 pos : Pos} (hg : Gl X "isinstance") (hm : X.mg "isinstance" = none) (hg2 : Gl X T) (hm2 : X.mg T = none) (hv : bootBuiltins T = some (.type U)) (he : PE X e (LE X.K W me))
    (hn : T ≠ "__name__" := by decide) (hd : (T == ("__debug__" : Str)) = false := by decide) (h1 : starEach [e, .Name T p2] X.env = (false, eval e X.env) :: starEach [.Name T p2] X.env := by rfl) (h2 : starEach [.Name T p2] X.env = (false, eval (.Name T p2) X.env) :: starEach [] X.env := by rfl)
    (h3 : (backTo pos (starEach [.Name T p2] X.env)).any (·.1) = false := by rfl) :
    PE X (.Call (.Name "isinstance" p) [e, .Name T p2] [] pos) (LE X.K W (eIsi U me)) :=
  (pe_callB call_isi hg hm boot_isinstance (pa_cons he (pa_cons (pe_bltn hg2 hm2 hv (v := .ty U) rfl hn hd) pa_nil h2) h1) (by decide) (by decide) h1 h3).imp fun σ H Q ⟨ι, env, M, S, R, h⟩ =>
    ⟨ι, env, M, S, R, (OutP.bind h).imp fun d M1 ι1 H1 e1 S1 h1 v rv => by
      revert h1
      unfold mIsi
      cases q : tyName M1 d with
      | none => exact fun h1 => h1.elim
      | some t =>
        intro h1
        cases q2 : kitB t U with
        | none => simp only [q2] at h1; exact h1.elim
        | some b =>
          simp only [q2] at h1
          exact ⟨v, .ty U, .type t, .type U, b, rfl, .ty U, tyX_of S1 rv q, kit_ty q2, OutP.val S1 h1 _ (.bl _)⟩⟩
end
section
variable {X : Cx} {W : WX} {e : Expr} {es : List Expr} {mas : MA} {x : Str} {p pos : Pos}
theorem d_callB {id : String} {f : OpN} (hc : CallR X (.builtin id) (rDN X.K f)) (hg : Gl X x) (hm : X.mg x = none) (hv : bootBuiltins x = some (.builtin id)) (ha : PA X (e :: es) (LA X.K W mas)) (hn : x ≠ "__name__" := by decide)
    (hd : (x == ("__debug__" : Str)) = false := by decide) (hst : starEach (e :: es) X.env = (false, eval e X.env) :: starEach es X.env := by rfl) (hpl : (backTo pos (starEach es X.env)).any (·.1) = false := by rfl) :
    PE X (.Call (.Name x p) (e :: es) [] pos) (LE X.K W (eCallO f mas)) :=
  (pe_callB hc hg hm hv ha hn hd hst hpl).imp fun σ H Q ⟨ι, env, M, S, R, h⟩ => ⟨ι, env, M, S, R, (OutP.bind h).imp fun ds M1 ι1 H1 e1 S1 h1 vs rv => ⟨ι1, M1, ds, S1, rv, OpO.of h1⟩⟩
theorem d_callTy {T : String} {f : OpN} (hc : CallR X (.type T) (rDN X.K f)) (hg : Gl X x) (hm : X.mg x = none) (hv : bootBuiltins x = some (.type T)) (ha : PA X (e :: es) (LA X.K W mas)) (hn : x ≠ "__name__" := by decide)
    (hd : (x == ("__debug__" : Str)) = false := by decide) (hst : starEach (e :: es) X.env = (false, eval e X.env) :: starEach es X.env := by rfl) (hpl : (backTo pos (starEach es X.env)).any (·.1) = false := by rfl) :
    PE X (.Call (.Name x p) (e :: es) [] pos) (LE X.K W (eCallO f mas)) :=
  (pe_callTy hc hg hm hv ha hn hd hst hpl).imp fun σ H Q ⟨ι, env, M, S, R, h⟩ => ⟨ι, env, M, S, R, (OutP.bind h).imp fun ds M1 ι1 H1 e1 S1 h1 vs rv => ⟨ι1, M1, ds, S1, rv, OpO.of h1⟩⟩
end
abbrev Fn := List D → Mem → Out D
/-- what a def of ours promises -/
def spD (K : PySem.W.Frag) (n : Nat) (m : Fn) : Sp := fun vs H Q E => vs.length = n ∧ ∃ ι ds M, SR K ι H M ∧ RpA K ι H ds vs ∧ OutP K E ι H (m ds M) (VR K Q)
structure Callee (P : Program) (w : World) (K : PySem.W.Frag) (mg : Str → Option Value) (base : Heap) (x : Str) (n k : Nat) (m : Fn) : Prop where
  ex : ∃ (f : Addr) (fd : FuncData) (ps : List Str), FnOk P w K mg base (L2N.CX P w) k f fd ps (spD K n m) ∧ mg x = some (.ref f) ∧ PySem.W.keepIn K (.ref f) = true ∧ Binds K fd ps [] ∧ ps.length = n
  len : ∀ ds M, ds.length ≠ n → m ds M = .stuck
theorem Callee.mono {P : Program} {w : World} {K : PySem.W.Frag} {mg : Str → Option Value} {base : Heap} {x : Str} {n j k : Nat} {m : Fn} (C : Callee P w K mg base x n j m) (h : j ≤ k) : Callee P w K mg base x n k m := by
  obtain ⟨f, fd, ps, F, a, b, c, d⟩ := C.ex
  exact ⟨⟨f, fd, ps, F.mono h, a, b, c, d⟩, C.len⟩
section
variable {X : Cx} {W : WX} {e : Expr} {es : List Expr} {mas : MA} {x : Str} {p pos : Pos}
theorem d_call {k k' n : Nat} {m : Fn} (C : Ctx X W k') (F : Callee X.prog X.w X.K X.mg X.base x n k m) (hk : k ≤ k') (ha : PA X (e :: es) (LA X.K W mas)) (hg : Gl X x := by rfl)
    (hdb : (x == ("__debug__" : Str)) = false := by decide) (hst : starEach (e :: es) X.env = (false, eval e X.env) :: starEach es X.env := by rfl) (hpl : (backTo pos (starEach es X.env)).any (·.1) = false := by rfl) :
    PE X (.Call (.Name x p) (e :: es) [] pos) (LE X.K W (eCall m mas)) := by
  have hlen := F.len
  obtain ⟨f, fd, ps, F, hm, kp, hb, _⟩ := F.ex
  refine (pe_callS F (C.room.mono hk) hg hm kp hb (fun σ => L2N.passAt C.tk σ) ha hdb hst hpl).imp fun σ H Q ⟨ι, env, M, S, R, h⟩ => ⟨ι, env, M, S, R, ?_⟩
  refine (OutP.bind h).imp fun ds M1 ι1 H1 e1 S1 h1 vs rv => ⟨?_, ι1, ds, M1, S1, rv, h1⟩
  rw [← rv.length]
  by_cases q : ds.length = n
  · exact q
  · rw [hlen ds M1 q] at h1
    exact h1.elim
end
def thenS {α : Type} (env : Env) (o : Out α) (f : α → Mem → SOut) : SOut := match o with
  | .ok a M => f a M
  | .exc x M => .exc x env M
  | .stuck => .stuck
@[simp] theorem thenS_ok {α : Type} (env : Env) (a : α) (M : Mem) (f : α → Mem → SOut) : thenS env (.ok a M) f = f a M := rfl
@[simp] theorem thenS_exc {α : Type} (env : Env) (x : Ex) (M : Mem) (f : α → Mem → SOut) : thenS env (.exc x M) f = .exc x env M := rfl
@[simp] theorem thenS_stuck {α : Type} (env : Env) (f : α → Mem → SOut) : thenS env .stuck f = .stuck := rfl
def nextS (o : SOut) (f : Env → Mem → SOut) : SOut := match o with
  | .next env M => f env M
  | o => o
@[simp] theorem nextS_next (env : Env) (M : Mem) (f : Env → Mem → SOut) : nextS (.next env M) f = f env M := rfl
@[simp] theorem nextS_ret (d : D) (M : Mem) (f : Env → Mem → SOut) : nextS (.ret d M) f = .ret d M := rfl
@[simp] theorem nextS_exc (x : Ex) (env : Env) (M : Mem) (f : Env → Mem → SOut) : nextS (.exc x env M) f = .exc x env M := rfl
@[simp] theorem nextS_stuck (f : Env → Mem → SOut) : nextS .stuck f = .stuck := rfl
def sNil : MS := fun env M => .next env M
def sSeq (a b : MS) : MS := fun env M => nextS (a env M) b
def sExpr (e : ME) : MS := fun env M => thenS env (e env M) fun _ M1 => .next env M1
def sRet (e : ME) : MS := fun env M => thenS env (e env M) fun d M1 => .ret d M1
def sRetN : MS := fun _ M => .ret .non M
def sIf (t : MT) (a b : MS) : MS := fun env M => thenS env (t env M) fun k M1 => if k = true then a env M1 else b env M1
/-- a target of names -/
abbrev MG := D → Env → Option Env
def gOne (i : Nat) : MG := fun d env => some (env.set i (some d))
def setAll : Env → List Nat → List D → Env
  | env, i :: is, d :: ds => setAll (env.set i (some d)) is ds
  | env, _, _ => env
def gTupD (is : List Nat) : MG := fun d env => match d with
  | .tup ds => if ds.length = is.length then some (setAll env is ds) else none
  | _ => none
def sAsg (g : MG) (e : ME) : MS := fun env M => thenS env (e env M) fun d M1 => match g d env with
  | some env' => .next env' M1
  | none => .stuck
/-- o[i] = v -/
def setD (o i v : D) (M : Mem) : Option Mem := match o, i with
  | .ref n, .int k => match M[n]? with
    | some (.lst xs) => (ixN xs.length k).map fun j => M.set n (.lst (xs.set j v))
    | _ => none
  | _, _ => none
def sSub (o i e : ME) : MS := fun env M => thenS env (e env M) fun v M1 => thenS env (o env M1) fun x M2 => thenS env (i env M2) fun y M3 => match setD x y v M3 with
  | some M4 => .next env M4
  | none => .stuck
def sWhile : Nat → MT → MS → MS
  | 0, _, _ => fun _ _ => .stuck
  | n + 1, t, b => fun env M => thenS env (t env M) fun k M1 => if k = true then nextS (b env M1) (sWhile n t b) else .next env M1
/-- what a loop walks -/
structure Src where
  items : List D
  good : Mem → Prop
abbrev MI := Env → Mem → Out Src
open Classical in
noncomputable def forL (good : Mem → Prop) (g : MG) (b : MS) : List D → MS
  | [] => fun env M => if good M then .next env M else .stuck
  | d :: ds => fun env M => if good M then match g d env with
      | some env1 => nextS (b env1 M) (forL good g b ds)
      | none => .stuck
    else .stuck
noncomputable def sFor (i : MI) (g : MG) (b : MS) : MS := fun env M => thenS env (i env M) fun s M1 => forL s.good g b s.items env M1
section
variable {K : PySem.W.Frag} {W : WX} {ι : List Addr} {H : Hp} {M : Mem} {σ : L2.St} {env : Env} {En : Ends}
theorem thenS_out {α : Type} {o : Out α} {f : α → Mem → SOut} (R : EnvR K ι H env σ) (h : SOutP K W ι H (thenS env o f) En) : OutP K (W1 W σ) ι H o (fun a M ι1 H1 => SOutP K W ι1 H1 (f a M) En) := by
  cases o with
  | ok a M => exact fun ι1 H1 e1 S1 => SOutP.ext e1 h
  | exc x M => exact fun ι1 H1 cls dx e1 S1 ex => h ι1 σ H1 cls dx e1 S1 (R.ext e1) ex
  | stuck => exact h
theorem nextS_out {o : SOut} {f : Env → Mem → SOut} (h : SOutP K W ι H (nextS o f) En) : SOutP K W ι H o { En with nx := LS K W f En } := by
  cases o with
  | next env M => exact fun ι1 σ1 H1 e1 S1 R1 => ⟨ι1, env, M, S1, R1, SOutP.ext e1 h⟩
  | ret d M => exact h
  | exc x env M => exact h
  | stuck => exact h
theorem SOutP.next_val (S : SR K ι H M) (R : EnvR K ι H env σ) (h : SOutP K W ι H (.next env M) En) : En.nx σ H := h ι σ H Ext.refl S R
theorem SOutP.ret_val {d : D} {v : V} (S : SR K ι H M) (r : Rp K ι H d v) (h : SOutP K W ι H (.ret d M) En) : En.rt v H := h ι v H Ext.refl S r
theorem SOutP.imp {o : SOut} {En' : Ends} (h : SOutP K W ι H o En) (hn : ∀ σ H, En.nx σ H → En'.nx σ H) (hr : ∀ v H, En.rt v H → En'.rt v H) : SOutP K W ι H o En' := by
  cases o with
  | next env M => exact fun ι1 σ1 H1 e1 S1 R1 => hn _ _ (h ι1 σ1 H1 e1 S1 R1)
  | ret d M => exact fun ι1 v H1 e1 S1 R1 => hr _ _ (h ι1 v H1 e1 S1 R1)
  | exc x env M => exact h
  | stuck => exact h
end
/-- targets -/
def LG (K : PySem.W.Frag) (f : MG) : TG := fun v σ H Q => ∃ ι env d env', Rp K ι H d v ∧ EnvR K ι H env σ ∧ f d env = some env' ∧ ∀ σ', EnvR K ι H env' σ' → Q σ' H
theorem _root_.L2.PG.imp {X : Cx} {e : Expr} {t t' : TG} (h : PG X e t) (k : ∀ v σ H Q, t' v σ H Q → t v σ H Q) : PG X e t' := ⟨fun pins s σ H v u Q I r q => h.run pins s σ H v u Q I r (k v σ H Q q)⟩
def gsN : List Nat → TGs
  | [] => gNil
  | i :: is => gCons (gName i) (gsN is)
theorem gsN_ok {K : PySem.W.Frag} {ι : List Addr} {H : Hp} {Q : L2.St → Hp → Prop} : ∀ {is : List Nat} {ds : List D} {vs : List V} {env : Env} {σ : L2.St}, RpA K ι H ds vs → EnvR K ι H env σ → ds.length = is.length →
    (∀ σ', EnvR K ι H (setAll env is ds) σ' → Q σ' H) → gsN is vs σ H Q
  | [], [], _, env, σ, .nil, R, _, h => ⟨rfl, h σ R⟩
  | i :: is, d :: ds, _, env, σ, .cons r t, R, hl, h => ⟨_, _, rfl, gsN_ok (is := is) t (R.set r i) (by simpa using hl) h⟩
section
variable {X : Cx} {W : WX} {k : Nat} {st : Stmt} {rest sts body : List Stmt} {m mb : MS} {e c o i : Expr} {me mo mi : ME} {mt : MT} {pos pos' : Pos} {tgt : Expr} {g : MG}
theorem dg_name {i : Nat} {x : Str} (nd : X.N.Nodup) (hi : X.N[i]? = some x := by rfl) (hx : Loc X.env.scope x := by first | exact .inl rfl | exact .inr rfl) (hf : X.fn x = true ∨ X.env.scope.names.lookup x = some .local := by first | exact .inl rfl | exact .inr rfl) :
    PG X (.Name x pos) (LG X.K (gOne i)) := (pg_name nd hi hx hf).imp fun v σ H Q ⟨ι, env, d, env', r, R, h, q⟩ => by
  cases h
  exact q _ (R.set r i)
theorem dg_tup {is : List Nat} {n : Nat} {g : TGs} (h : PG X tgt (gTup X.K n g)) (hn : n = is.length := by rfl) (hg : g = gsN is := by rfl) : PG X tgt (LG X.K (gTupD is)) := h.imp fun v σ H Q ⟨ι, env, d, env', r, R, h, q⟩ => by
  unfold gTupD at h
  split at h
  · obtain ⟨p, vs, rfl, t1, r1⟩ := r.tup_inv
    split at h
    · rename_i hl
      cases h
      subst hn hg
      exact ⟨p, vs, rfl, t1, by rw [← r1.length]; exact hl, gsN_ok r1 R hl q⟩
    · cases h
  · cases h
theorem ds_nil : PSs X [] (LS X.K W sNil) := pss_nil.imp fun En σ H ⟨ι, env, M, S, R, h⟩ => h.next_val S R
theorem ds_cons (h1 : PS X st (LS X.K W m)) (h2 : PSs X rest (LS X.K W mb)) : PSs X (st :: rest) (LS X.K W (sSeq m mb)) :=
  (pss_cons h1 h2).imp fun En σ H ⟨ι, env, M, S, R, h⟩ => ⟨ι, env, M, S, R, nextS_out h⟩
theorem ds_one (h1 : PS X st (LS X.K W m)) : PSs X [st] (LS X.K W m) := pss_one h1
theorem ds_expr (he : PE X e (LE X.K W me)) (hs : swapsWith e none pos.line X.env = pure false := by rfl) : PS X (.Expr e pos) (LS X.K W (sExpr me)) :=
  (ps_expr he hs).imp fun En σ H ⟨ι, env, M, S, R, h⟩ => ⟨ι, env, M, S, R, (thenS_out R h).imp fun d M1 ι1 H1 e1 S1 h1 v rv => h1.next_val S1 (R.ext e1)⟩
theorem ds_ret (he : PE X e (LE X.K W me)) : PS X (.Return (some e) pos) (LS X.K W (sRet me)) :=
  (ps_ret he).imp fun En σ H ⟨ι, env, M, S, R, h⟩ => ⟨ι, env, M, S, R, (thenS_out R h).imp fun d M1 ι1 H1 e1 S1 h1 v rv => h1.ret_val S1 rv⟩
theorem ds_if {a b : List Stmt} {ma mb : MS} (hc : PT X c (LT X.K W mt)) (ha : PSs X a (LS X.K W ma)) (hb : PSs X b (LS X.K W mb)) : PS X (.If c a b pos) (LS X.K W (sIf mt ma mb)) :=
  (ps_if hc ha hb).imp fun En σ H ⟨ι, env, M, S, R, h⟩ => ⟨ι, env, M, S, R, (thenS_out R h).imp fun kk M1 ι1 H1 e1 S1 h1 => by
    show if kk = true then _ else _
    cases kk with
    | false => exact iteF ⟨ι1, env, M1, S1, R.ext e1, h1⟩
    | true => exact iteT ⟨ι1, env, M1, S1, R.ext e1, h1⟩⟩
theorem le_asg {tg : TG} {te : TE} {En : Ends} {σ : L2.St} {H : Hp} (he : ∀ Q, LE X.K W me σ H Q → te σ H Q) (hg : ∀ v σ H Q, LG X.K g v σ H Q → tg v σ H Q) (h : LS X.K W (sAsg g me) En σ H) : tAsg te tg En σ H := by
  obtain ⟨ι, env, M, S, R, h⟩ := h
  refine he _ ⟨ι, env, M, S, R, (thenS_out R h).imp fun d M1 ι1 H1 e1 S1 h1 v rv => ?_⟩
  revert h1
  cases q : g d env with
  | none => exact fun h1 => h1.elim
  | some env' => exact fun h1 => hg _ _ _ _ ⟨ι1, env, d, env', rv, R.ext e1, q, fun σ' R' => SOutP.next_val S1 R' h1⟩
theorem ds_asg (he : PE X e (LE X.K W me)) (hg : PG X tgt (LG X.K g)) (hs : swapsWithSole [tgt] e pos.line X.env = pure false := by rfl) (h2 : swappedStores [tgt] e X.env = pure none := by rfl) (h1 : (assignEach [tgt] X.env).map (·.2) = [assign tgt X.env] := by rfl) :
    PS X (.Assign [tgt] e pos) (LS X.K W (sAsg g me)) :=
  (ps_asg he hg hs h2 h1).imp fun En σ H h => le_asg (fun _ h => h) (fun _ _ _ _ h => h) h
theorem ds_set {i : Nat} {x : Str} (nd : X.N.Nodup) (he : PE X e (LE X.K W me)) (hi : X.N[i]? = some x := by rfl) (hx : Loc X.env.scope x := by first | exact .inl rfl | exact .inr rfl) (hs : swapsWith e (some (.Name x pos')) pos.line X.env = pure false := by rfl)
    (hf : X.fn x = true ∨ X.env.scope.names.lookup x = some .local := by first | exact .inl rfl | exact .inr rfl) : PS X (.Assign [.Name x pos'] e pos) (LS X.K W (sAsg (gOne i) me)) :=
  (ps_set nd hi hx he hs hf).imp fun En σ H h => le_asg (fun _ h => h) (fun v σ H Q ⟨ι, env, d, env', r, R, h, q⟩ => by cases h; exact q _ (R.set r i)) h
/-- o[i] = e -/
theorem set_D : PSet X (fun o i v H Q => ∃ ι M a b c, SR X.K ι H M ∧ Rp X.K ι H a o ∧ Rp X.K ι H b i ∧ Rp X.K ι H c v ∧ ∃ M', setD a b c M = some M' ∧ ∀ H', Ext X.K ι H ι H' → SR X.K ι H' M' → Q H') := by
  intro pins s σ H o i v ov iv u Q I ro ri rv h
  refine set_list pins s σ H o i v ov iv u Q I ro ri rv ?_
  obtain ⟨ι, M, a, b, c, S, ra, rb, rc, M', h, q⟩ := h
  unfold setD at h
  split at h
  · cases rb.int_inv
    obtain ⟨p, rfl, hp⟩ := ra.ref_inv
    split at h
    · rename_i kk _ xs m1
      obtain ⟨vs, h1, r1⟩ := S.lst hp m1
      cases q2 : ixN xs.length kk with
      | none => rw [q2] at h; cases h
      | some j =>
        rw [q2] at h
        cases h
        have nt : ¬ isTupO (H p) := by rw [h1]; exact fun z => z
        exact ⟨p, vs, kk, j, rfl, rfl, h1, by rw [← r1.length]; exact q2, q _ (Ext.upd nt) (S.write hp m1 rfl rfl ⟨_, upd_same, (r1.set rc j).ext (Ext.upd nt)⟩)⟩
    · cases h
  · cases h
theorem ds_sub (ho : PE X o (LE X.K W mo)) (hi : PE X i (LE X.K W mi)) (he : PE X e (LE X.K W me)) (hs : swapsWithSole [.Subscript o i pos'] e pos.line X.env = pure false := by rfl) (h2 : swappedStores [.Subscript o i pos'] e X.env = pure none := by rfl)
    (h1 : (assignEach [.Subscript o i pos'] X.env).map (·.2) = [assign (.Subscript o i pos') X.env] := by rfl)
    (ha : ∀ v, assign (.Subscript o i pos') X.env v = (do
      let ov ← holding [v] (eval o X.env)
      let iv ← holding [v, ov] (eval i X.env)
      standAt pos'
      holding [v, ov, iv] (setItem ov iv v)
      release [v, ov, iv] []) := by intro _; rfl) : PS X (.Assign [.Subscript o i pos'] e pos) (LS X.K W (sSub mo mi me)) :=
  (ps_asg he (pg_sub ho hi set_D ha) hs h2 h1).imp fun En σ H ⟨ι, env, M, S, R, h⟩ => ⟨ι, env, M, S, R, (thenS_out R h).imp fun v M1 ι1 H1 e1 S1 h1 vv rv =>
    ⟨ι1, env, M1, S1, R.ext e1, (thenS_out (R.ext e1) h1).imp fun x M2 ι2 H2 e2 S2 h2 xv rx => ⟨ι2, env, M2, S2, R.ext (e1.trans e2), (thenS_out (R.ext (e1.trans e2)) h2).imp fun y M3 ι3 H3 e3 S3 h3 yv ry => by
      revert h3
      cases q : setD x y v M3 with
      | none => exact fun h3 => h3.elim
      | some M4 => exact fun h3 => ⟨ι3, M3, x, y, v, S3, rx.ext e3, ry, rv.ext (e2.trans e3), M4, q, fun H' e4 S4 => h3 ι3 σ H' e4 S4 (R.ext (((e1.trans e2).trans e3).trans e4))⟩⟩⟩⟩
theorem ds_while (n : Nat) (C : Ctx X W k) (hc : PT X c (LT X.K W mt)) (hb : PSs X body (LS X.K W mb)) : PS X (.While c body [] pos) (LS X.K W (sWhile n mt mb)) :=
  (ps_while C.pass hc hb).imp fun En σ H h => ⟨fun m σ H => LS X.K W (sWhile m mt mb) En σ H, ⟨n, h⟩, fun m σ H ⟨ι, env, M, S, R, h⟩ => by
    cases m with
    | zero => exact h.elim
    | succ m =>
      refine ⟨ι, env, M, S, R, (thenS_out R h).imp fun kk M1 ι1 H1 e1 S1 h1 => ?_⟩
      show if kk = true then _ else _
      cases kk with
      | false => exact iteF (SOutP.next_val S1 (R.ext e1) h1)
      | true =>
        refine iteT ⟨fun σ' H' => LS X.K W (sWhile m mt mb) En σ' H', fun σ' H' z => ⟨m, Nat.lt_succ_self m, z⟩, ι1, env, M1, S1, R.ext e1, ?_⟩
        exact (nextS_out h1).imp (fun _ _ z => z) fun _ _ z => z⟩
/-- what an iterator does -/
def SrcJ (K : PySem.W.Frag) (ι : List Addr) (H : Hp) (s : Src) (J : It) : Prop :=
  ∀ ι1 H1 M1, Ext K ι H ι1 H1 → SR K ι1 H1 M1 → s.good M1 → ∀ i : Nat, (∀ d, s.items[i]? = some d → J.go i H1 ∧ ∀ x H', J.yld i H1 x H' → Ext K ι1 H1 ι1 H' ∧ SR K ι1 H' M1 ∧ Rp K ι1 H' d x) ∧ (s.items.length ≤ i → J.stop i H1)
def LI (K : PySem.W.Frag) (W : WX) (m : MI) : TI := fun σ H R => ∃ ι env M, SR K ι H M ∧ EnvR K ι H env σ ∧ OutP K (W1 W σ) ι H (m env M) (fun s _ ι' H' => ∀ J, SrcJ K ι' H' s J → R J H')
theorem _root_.L2.PI.imp {X : Cx} {tg e : Expr} {t t' : TI} (h : PI X tg e t) (k : ∀ σ H Q, t' σ H Q → t σ H Q) : PI X tg e t' := ⟨fun pins s σ H Q I q => h.run pins s σ H Q I (k σ H Q q)⟩
theorem drop_at {α : Type} {l : List α} {i : Nat} {d : α} {ds : List α} (h : l.drop i = d :: ds) : l[i]? = some d ∧ l.drop (i + 1) = ds := by
  have h1 : (l.drop i)[0]? = some d := by rw [h]; rfl
  rw [List.getElem?_drop] at h1
  refine ⟨by simpa using h1, ?_⟩
  have h2 := congrArg (List.drop 1) h
  rw [List.drop_drop] at h2
  simpa using h2
theorem ds_for {iter : Expr} {msrc : MI} (C : Ctx X W k) (hi : PI X tgt iter (LI X.K W msrc)) (hg : PG X tgt (LG X.K g)) (hb : PSs X body (LS X.K W mb)) (hs : ∀ x, foldedSetIterable iter X.env x = pure x := by intro _; rfl) :
    PS X (.For tgt iter body [] pos) (LS X.K W (sFor msrc g mb)) :=
  (ps_for C.pass C.calm hi hg hb hs).imp fun En σ H ⟨ι, env, M, S, R, h⟩ => ⟨ι, env, M, S, R, (thenS_out R h).imp fun s M1 ι1 H1 e1 S1 h1 J hJ => by
    refine ⟨fun i m σ2 H2 => ∃ ι2 env2 M2, Ext X.K ι1 H1 ι2 H2 ∧ SR X.K ι2 H2 M2 ∧ EnvR X.K ι2 H2 env2 σ2 ∧ SOutP X.K W ι2 H2 (forL s.good g mb (s.items.drop i) env2 M2) En ∧ m = s.items.length - i,
      ⟨_, ι1, env, M1, Ext.refl, S1, R.ext e1, h1, rfl⟩, ?_⟩
    rintro i m σ2 H2 ⟨ι2, env2, M2, e2, S2, R2, h2, rfl⟩
    cases q : s.items.drop i with
    | nil =>
      rw [q] at h2
      unfold forL at h2
      split at h2
      · rename_i gd
        refine .inl ⟨((hJ ι2 H2 M2 e2 S2 gd i).2 ?_), SOutP.next_val S2 R2 h2⟩
        have := congrArg List.length q
        simp at this
        omega
      · exact h2.elim
    | cons d ds =>
      rw [q] at h2
      unfold forL at h2
      obtain ⟨hd, hds⟩ := drop_at q
      split at h2
      · rename_i gd
        obtain ⟨go, yld⟩ := (hJ ι2 H2 M2 e2 S2 gd i).1 d hd
        split at h2
        · rename_i env3 ge
          refine .inr ⟨go, fun σ' H' => ∃ ι2 env2 M2, Ext X.K ι1 H1 ι2 H' ∧ SR X.K ι2 H' M2 ∧ EnvR X.K ι2 H' env2 σ' ∧ SOutP X.K W ι2 H' (forL s.good g mb (s.items.drop (i + 1)) env2 M2) En, ?_, ?_⟩
          · rintro σ' H' ⟨ι3, env3, M3, e3, S3, R3, h3⟩
            refine ⟨s.items.length - (i + 1), ?_, ι3, env3, M3, e3, S3, R3, h3, rfl⟩
            have := (List.getElem?_eq_some_iff.mp hd).1
            omega
          · intro x H' y
            obtain ⟨e3, S3, r3⟩ := yld x H' y
            refine ⟨ι2, env2, d, env3, r3, R2.ext e3, ge, fun σ3 R3 => ⟨ι2, env3, M2, S3, R3, ?_⟩⟩
            have h3 := SOutP.ext e3 h2
            have e4 := e2.trans e3
            revert h3
            cases mb env3 M2 with
            | next env4 M4 => exact fun h3 ι4 σ4 H4 e5 S4 R4 => ⟨ι4, env4, M4, e4.trans e5, S4, R4, by rw [hds]; exact SOutP.ext e5 h3⟩
            | ret d M4 => exact fun h3 => h3
            | exc x env4 M4 => exact fun h3 => h3
            | stuck => exact fun h3 => h3
        · exact h2.elim
      · exact h2.elim⟩
end
end TL
end
section
namespace TL
open PySem PySem.Spec PyProof.Rows L2
def strItems (z : Str) : List D := z.cps.toList.map fun c => .str ⟨#[c]⟩
def srcOf (M : Mem) : D → Option Src
  | .tup xs => some ⟨xs, fun _ => True⟩
  | .str z => some ⟨strItems z, fun _ => True⟩
  | .ref n => (seqAt M n).map fun xs => ⟨xs, fun M' => seqAt M' n = some xs⟩
  | _ => none
def iAny (e : ME) : MI := fun env M => (e env M).bind fun d M1 => match srcOf M1 d with
  | some s => .ok s M1
  | none => .stuck
def rngItems (lo : Int) (n : Nat) : List D := (List.range n).map fun i => .int (lo + (i : Nat))
/-- bounds of a range; nothing reckons it -/
def RngOk (j : Int) : Prop := -(2 ^ 62) ≤ j ∧ j < 2 ^ 62
open Classical in
noncomputable def iRange1 (e : ME) : MI := fun env M => (e env M).bind fun d M1 => kInt d fun j => if RngOk j then .ok ⟨rngItems 0 j.toNat, fun _ => True⟩ M1 else .stuck
open Classical in
noncomputable def iRange2 (a b : ME) : MI := fun env M => (a env M).bind fun d M1 => (b env M1).bind fun d2 M2 => kInt d fun i => kInt d2 fun j =>
  if RngOk i ∧ RngOk j then .ok ⟨rngItems i (j - i).toNat, fun _ => True⟩ M2 else .stuck
section
variable {X : Cx} {W : WX} {tg e : Expr} {me : ME}
theorem pi_any {tl : TE} (hl : PE X e tl) : PI X tg e (fun σ H R => tl σ H fun x H1 => (∃ a, x = .ref a ∧ (∃ xs, SqT X.K H1 a xs) ∧ R (Itt X.K a) H1) ∨ (∃ a, x = .ref a ∧ (∃ xs, SqL X.K H1 a xs) ∧ R (Itl X.K a) H1) ∨ (∃ z, x = .str z ∧ R (Its z) H1)) := by
  refine ⟨fun pins s σ H R I h => ?_⟩
  refine thn (hl.run pins s σ H _ I h) fun v s1 ⟨x, H1, I1, r1, q1⟩ => ?_
  rcases q1 with ⟨a, rfl, ⟨xs, hq⟩, q⟩ | ⟨a, rfl, ⟨xs, hq⟩, q⟩ | ⟨z, rfl, q⟩
  · cases r1
    obtain ⟨its, rv, p, hz⟩ := I1.tuple hq
    refine wpAny_pyIter_tuple (show s1.heap.IsTuple a its.toArray from p) ?_
    refine ⟨s1.heap.objs.size, [s1.heap.objs.size], _, _, H1, rfl, I1.kept (t' := s1.toks) fun b o e => Heap.get?_push_of_some _ e, turn_tuple a _, ⟨_, Heap.get?_push_size _ rfl, rfl, rfl⟩, fun b hb => ?_, q⟩
    have e : b = s1.heap.objs.size := by simpa using hb
    subst e
    exact I1.fpOk (Nat.le_refl _) (I1.hok.fresh (Nat.le_refl _))
  · cases r1
    obtain ⟨its, rv, p, hz⟩ := I1.list hq
    refine wpAny_pyIter_list p.isList ?_
    refine ⟨s1.heap.objs.size, [s1.heap.objs.size], _, _, H1, rfl, I1.kept (t' := s1.toks) fun b o e => Heap.get?_push_of_some _ e, turn_list a _, ⟨_, Heap.get?_push_size _ rfl, rfl, rfl⟩, fun b hb => ?_, q⟩
    have e : b = s1.heap.objs.size := by simpa using hb
    subst e
    exact I1.fpOk (Nat.le_refl _) (I1.hok.fresh (Nat.le_refl _))
  · obtain ⟨t, rfl⟩ := r1
    cases ha : z.cps.all (· < 128)
    · exact wpAny_pyIter_wide ha (pi_one (tk := s1.toks) I1 _ (turn_str _ z t "str_iterator" (.inr rfl)) ⟨_, Heap.get?_push_size _ rfl, rfl, rfl⟩ q)
    · exact wpAny_pyIter_ascii ha (pi_one (tk := s1.toks) I1 _ (turn_str _ z t "str_ascii_iterator" (.inl rfl)) ⟨_, Heap.get?_push_size _ rfl, rfl, rfl⟩ q)
theorem srcJ_of {ι : List Addr} {H : Hp} {M : Mem} {d : D} {s : Src} {v : V} (S : SR X.K ι H M) (r : Rp X.K ι H d v) (h : srcOf M d = some s) {R : It → Hp → Prop} (q : ∀ J, SrcJ X.K ι H s J → R J H) :
    (∃ a, v = .ref a ∧ (∃ xs, SqT X.K H a xs) ∧ R (Itt X.K a) H) ∨ (∃ a, v = .ref a ∧ (∃ xs, SqL X.K H a xs) ∧ R (Itl X.K a) H) ∨ (∃ z, v = .str z ∧ R (Its z) H) := by
  cases d with
  | tup xs =>
    cases h
    obtain ⟨p, vs, rfl, t1, r1⟩ := r.tup_inv
    refine .inl ⟨p, rfl, ⟨vs, t1⟩, q _ fun ι1 H1 M1 e1 S1 _ i => ⟨fun d hd => ?_, fun hl => ⟨vs, e1.tup _ _ t1, by rw [← r1.length]; exact hl⟩⟩⟩
    obtain ⟨u, h1, h2⟩ := (r1.ext e1).get hd
    refine ⟨⟨vs, u, e1.tup _ _ t1, h1⟩, fun x H' y => ?_⟩
    obtain ⟨rfl, y2⟩ := y
    have e := y2 vs (e1.tup _ _ t1)
    rw [h1] at e; cases e
    exact ⟨Ext.refl, S1, h2⟩
  | str z =>
    cases h
    cases r.str_inv
    refine .inr (.inr ⟨z, rfl, q _ fun ι1 H1 M1 e1 S1 _ i => ⟨fun d hd => ?_, fun hl => ?_⟩⟩)
    · have hd' : (z.cps.toList.map fun c => D.str ⟨#[c]⟩)[i]? = some d := hd
      rw [List.getElem?_map] at hd'
      cases q2 : z.cps.toList[i]? with
      | none => rw [q2] at hd'; cases hd'
      | some c =>
        rw [q2] at hd'
        cases hd'
        have hi := (List.getElem?_eq_some_iff.mp q2).1
        have q3 : z.cps[i]? = some c := by rw [← Array.getElem?_toList]; exact q2
        refine ⟨by show i < z.cps.size; simpa using hi, fun x H' y => ?_⟩
        obtain ⟨rfl, c', hc, rfl⟩ := y
        rw [q3] at hc; cases hc
        exact ⟨Ext.refl, S1, .str _⟩
    · have hl' : (z.cps.toList.map fun c => D.str ⟨#[c]⟩).length ≤ i := hl
      show z.cps.size ≤ i
      simpa using hl'
  | ref n =>
    obtain ⟨p, rfl, hp⟩ := r.ref_inv
    have h' : (seqAt M n).map (fun xs => (⟨xs, fun M' => seqAt M' n = some xs⟩ : Src)) = some s := h
    cases q2 : seqAt M n with
    | none => rw [q2] at h'; cases h'
    | some xs =>
      rw [q2] at h'
      cases h'
      obtain ⟨vs, h1, r1⟩ := S.seq hp q2
      refine .inr (.inl ⟨p, rfl, ⟨vs, h1⟩, q _ fun ι1 H1 M1 e1 S1 gd i => ?_⟩)
      obtain ⟨us, g1, g2⟩ := S1.seq (e1.pre _ _ hp) gd
      refine ⟨fun d hd => ?_, fun hl => ⟨us, g1, by rw [← g2.length]; exact hl⟩⟩
      obtain ⟨u, h3, h4⟩ := g2.get hd
      refine ⟨⟨us, u, g1, h3⟩, fun x H' y => ?_⟩
      obtain ⟨rfl, y2⟩ := y
      have e := y2 us g1
      rw [h3] at e; cases e
      exact ⟨Ext.refl, S1, h4⟩
  | _ => cases h
theorem di_any (he : PE X e (LE X.K W me)) : PI X tg e (LI X.K W (iAny me)) :=
  (pi_any he).imp fun σ H R0 ⟨ι, env, M, S, R, h⟩ => ⟨ι, env, M, S, R, (OutP.bind h).imp fun d M1 ι1 H1 e1 S1 h1 v rv => by
    revert h1
    cases q : srcOf M1 d with
    | none => exact fun h1 => h1.elim
    | some s => exact fun h1 => srcJ_of S1 rv q (OutP.val S1 h1)⟩
theorem srcJ_rng {K : PySem.W.Frag} {ι : List Addr} {H : Hp} (lo : Int) (n : Nat) : SrcJ K ι H ⟨rngItems lo n, fun _ => True⟩ (Itr lo n) := fun ι1 H1 M1 e1 S1 _ i => by
  refine ⟨fun d hd => ?_, fun hl => ?_⟩
  · have hd' : ((List.range n).map fun i => D.int (lo + (i : Nat)))[i]? = some d := hd
    rw [List.getElem?_map] at hd'
    cases q : (List.range n)[i]? with
    | none => rw [q] at hd'; cases hd'
    | some j =>
      rw [q] at hd'
      cases hd'
      obtain ⟨h1, h2⟩ := List.getElem?_eq_some_iff.mp q
      have h2' : i = j := by simpa using h2
      subst h2'
      refine ⟨by show i < n; simpa using h1, fun x H' y => ?_⟩
      obtain ⟨rfl, rfl⟩ := y
      exact ⟨Ext.refl, S1, .int _⟩
  · have hl' : ((List.range n).map fun i => D.int (lo + (i : Nat))).length ≤ i := hl
    show n ≤ i
    simpa using hl'
theorem di_range1 {a : Expr} {ma : ME} {p pos : Pos} (hm : X.mg "range" = none) (ha : PE X a (LE X.K W ma)) (hg : Gl X "range" := by rfl) (hs : starEach [a] X.env = [(false, eval a X.env)] := by rfl) (hs' : starEach [a] X.env = (false, eval a X.env) :: starEach [] X.env := by rfl) :
    PI X tg (.Call (.Name "range" p) [a] [] pos) (LI X.K W (iRange1 ma)) :=
  (pi_range1 hg hm (pa_cons ha pa_nil hs') hs).imp fun σ H R0 ⟨ι, env, M, S, R, h⟩ => ⟨ι, env, M, S, R, (OutP.bind h).imp fun d M1 ι1 H1 e1 S1 h1 v rv => by
    obtain ⟨j, rfl, h2⟩ := kInt_inv h1
    cases rv.int_inv
    split at h2
    · rename_i c
      exact ⟨j, rfl, c.1, c.2, OutP.val S1 h2 _ (srcJ_rng 0 _)⟩
    · exact h2.elim⟩
end
def Out.nox {α : Type} (o : Out α) : Out α := match o with
  | .exc _ _ => .stuck
  | o => o
@[simp] theorem Out.nox_ok {α : Type} (a : α) (M : Mem) : (Out.ok a M).nox = .ok a M := rfl
@[simp] theorem Out.nox_stuck {α : Type} : (Out.stuck : Out α).nox = .stuck := rfl
@[simp] theorem Out.bind_assoc {α β γ : Type} (o : Out α) (f : α → Mem → Out β) (g : β → Mem → Out γ) : (o.bind f).bind g = o.bind fun a M => (f a M).bind g := by cases o <;> rfl
theorem OutP.nox {K : PySem.W.Frag} {W W' : Value → Option Addr → Hp → Prop} {ι : List Addr} {H : Hp} {α β : Type} {o : Out α} {f : α → Mem → Out β} {R : β → Mem → List Addr → Hp → Prop} (h : OutP K W ι H (o.nox.bind f) R) :
    OutP K W' ι H o (fun a M ι1 H1 => OutP K W ι1 H1 (f a M) R) := by
  cases o with
  | ok a M => exact fun ι' H' e s => OutP.ext e h
  | exc x M => exact h.elim
  | stuck => exact h
open Classical in
noncomputable def compL (good : Mem → Prop) (i : Nat) (t : MT) (e : ME) (n : Nat) (env : Env) : List D → Mem → Out Unit
  | [], M => if good M then .ok () M else .stuck
  | d :: ds, M => if good M then (t (env.set i (some d)) M).nox.bind fun k M1 => if k = true then (e (env.set i (some d)) M1).nox.bind fun y M2 => match M2[n]? with
        | some (.lst acc) => if acc.length < sizeLine then compL good i t e n env ds (M2.set n (.lst (acc ++ [y]))) else .stuck
        | _ => .stuck
      else compL good i t e n env ds M1
    else .stuck
noncomputable def eComp (i : Nat) (s : MI) (t : MT) (e : ME) : ME := fun env M => (s env M).bind fun s M1 => (compL s.good i t e M1.length env s.items (M1 ++ [.lst []])).bind fun _ M2 => .ok (.ref M1.length) M2
def tYesD : MT := fun _ M => .ok true M
abbrev W0 : WX := fun _ _ _ _ => False
theorem takesN0 {X : Cx} : L2N.Takes X W0 := fun _ _ x => by
  obtain ⟨_, _, _, _, _, _, _, _, _, _, _, _, _, _, _, _, z⟩ := x
  exact z.elim
theorem Ctx.blk {X : Cx} {W : WX} {k : Nat} (C : Ctx X W k) {s : Shared} {H : Hp} {scope : Scope} {cenv : PySem.Env} {fp : List Addr} : Ctx (X.blk s H scope cenv fp) W0 k := ⟨C.calm, C.nd, C.room, takesN0, PassesOwn.never⟩
section
variable {X : Cx} {W : WX} {k : Nat}
theorem dts_nil : PTs X [] (LT X.K W tYesD) := ⟨fun pins s σ H Q I ⟨ι, env, M, S, R, h⟩ => (pts_nil (X := X)).run pins s σ H Q I (OutP.val (W := W1 W σ) (R := TR Q) S h)⟩
theorem dts_one {c : Expr} {mt : MT} (h : PT X c (LT X.K W mt)) : PTs X [c] (LT X.K W mt) := pts_one h
theorem le_comp {i : Nat} {ms : MI} {mt : MT} {me : ME} {σ : L2.St} {H : Hp} {Q : VK} (h : LE X.K W (eComp i ms mt me) σ H Q) :
    tLc (LI X.K W ms) (gName i) (LT X.K W0 mt) (LE X.K W0 me) [i] σ H Q := by
  obtain ⟨ι, env, M, S, R, h⟩ := h
  refine ⟨ι, env, M, S, R, (OutP.bind h).imp fun s M1 ι1 H1 e1 S1 h1 J hJ => fun D hD => ?_⟩
  have S2 := S1.alloc (u := .lst []) hD ⟨[], upd_same, .nil⟩
  have e2 : Ext X.K ι1 H1 (ι1 ++ [D]) (upd H1 D (.lst [])) := Ext.more hD
  have hlen := S1.len
  have hat : (ι1 ++ [D])[M1.length]? = some D := by rw [← hlen]; simp
  have h2 := OutP.ext e2 h1
  generalize hn : M1.length = n at h2 hat
  refine ⟨fun j m H3 => ∃ ι3 M3, Ext X.K (ι1 ++ [D]) (upd H1 D (.lst [])) ι3 H3 ∧ SR X.K ι3 H3 M3 ∧ m = s.items.length - j ∧
    OutP X.K (W1 W σ) ι3 H3 ((compL s.good i mt me n env (s.items.drop j) M3).bind fun _ M4 => .ok (.ref n) M4) (VR X.K Q), ⟨_, _, _, Ext.refl, S2, rfl, by rw [List.drop_zero]; exact h2⟩, ?_⟩
  rintro j m H3 ⟨ι3, M3, e3, S3, rfl, h3⟩
  cases q : s.items.drop j with
  | nil =>
    rw [q] at h3
    unfold compL at h3
    split at h3
    · rename_i gd
      refine .inl ⟨(hJ ι3 H3 M3 (e2.trans e3) S3 gd j).2 ?_, OutP.val (W := W1 W σ) (R := VR X.K Q) (a := .ref n) S3 (show OutP X.K (W1 W σ) ι3 H3 (Out.ok (.ref n) M3) (VR X.K Q) from h3) _ (.ref (e3.pre _ _ hat))⟩
      have := congrArg List.length q
      simp at this
      omega
    · exact h3.elim
  | cons d ds =>
    rw [q] at h3
    unfold compL at h3
    obtain ⟨hd, hds⟩ := drop_at q
    split at h3
    · rename_i gd
      obtain ⟨go, yld⟩ := (hJ ι3 H3 M3 (e2.trans e3) S3 gd j).1 d hd
      refine .inr ⟨go, fun H' => ∃ ι3 M3, Ext X.K (ι1 ++ [D]) (upd H1 D (.lst [])) ι3 H' ∧ SR X.K ι3 H' M3 ∧
        OutP X.K (W1 W σ) ι3 H' ((compL s.good i mt me n env (s.items.drop (j + 1)) M3).bind fun _ M4 => .ok (.ref n) M4) (VR X.K Q), ?_, ?_⟩
      · rintro H' ⟨ι4, M4, e4, S4, h4⟩
        refine ⟨s.items.length - (j + 1), ?_, ι4, M4, e4, S4, rfl, h4⟩
        have := (List.getElem?_eq_some_iff.mp hd).1
        omega
      · intro x H' y
        obtain ⟨e4, S4, r4⟩ := yld x H' y
        have R4 : EnvR X.K ι3 H' (env.set i (some d)) ((wipe σ [i]).set i (some x)) := by
          have r0 := (((R.ext e1).ext (e2.trans e3)).ext e4)
          have r1 := (r0.unset i).set r4 i
          rw [List.set_set] at r1
          exact r1
        have h5 := OutP.ext e4 h3
        refine ⟨by show ((σ.set i none).set i (some x)).set i none = σ.set i none; rw [List.set_set, List.set_set], ι3, env.set i (some d), M3, S4, R4, ?_⟩
        have h6 := h5
        rw [Out.bind_assoc] at h6
        refine (OutP.nox (W' := W1 W0 _) h6).imp fun kk M5 ι5 H5 e5 S5 h7 => ?_
        show if kk = true then _ else _
        cases kk with
        | false =>
          refine iteF ⟨ι5, M5, (e3.trans e4).trans e5, S5, ?_⟩
          rw [hds]
          exact h7
        | true =>
          refine iteT ⟨ι5, _, M5, S5, R4.ext e5, ?_⟩
          have h8 : OutP X.K (W1 W σ) ι5 H5 (((me (env.set i (some d)) M5).nox.bind fun y M2 => match M2[n]? with
            | some (.lst acc) => if acc.length < sizeLine then compL s.good i mt me n env ds (M2.set n (.lst (acc ++ [y]))) else .stuck
            | _ => .stuck).bind fun _ M4 => .ok (.ref n) M4) (VR X.K Q) := h7
          rw [Out.bind_assoc] at h8
          refine (OutP.nox (W' := W1 W0 _) h8).imp fun y M6 ι6 H6 e6 S6 h9 v rv => ?_
          have hD6 : ι6[n]? = some D := e6.pre _ _ (e5.pre _ _ (e3.pre _ _ hat))
          revert h9
          split
          · rename_i acc ma
            split
            · rename_i hsz
              intro h9
              obtain ⟨vs, g1, g2⟩ := S6.lst hD6 ma
              refine ⟨vs, g1, by rw [← g2.length]; exact hsz, ι6, M6.set n (.lst (acc ++ [y])), ?_, ?_, ?_⟩
              · exact (((e3.trans e4).trans e5).trans e6).trans (Ext.upd (by rw [g1]; exact fun z => z))
              · exact S6.write hD6 ma rfl rfl ⟨_, upd_same, (g2.append (.cons rv .nil)).ext (Ext.upd (by rw [g1]; exact fun z => z))⟩
              · rw [hds]
                exact OutP.ext (Ext.upd (by rw [g1]; exact fun z => z)) h9
            · exact fun h9 => h9.elim
          · exact fun h9 => h9.elim
    · exact h3.elim
theorem d_comp {elt iter : Expr} {ifs : List Expr} {scope : Scope} {i : Nat} {x : Str} {px pos : Pos} {ms : MI} {mt : MT} {me : ME} (C : Ctx X W k) (hi : PI X (.Name x px) iter (LI X.K W ms)) (ok : BlkOk X.N X.env.scope scope [(x, i)])
    (hg : ∀ (s : Shared) (H : Hp) (C : Addr) (cl : List (Str × Addr)) (fp : List Addr), PG (X.blk s H scope (compEnvC scope cl C X.env) fp) (.Name x px) (gName i))
    (ht : ∀ (s : Shared) (H : Hp) (C : Addr) (cl : List (Str × Addr)) (fp : List Addr), Ctx (X.blk s H scope (compEnvC scope cl C X.env) fp) W0 k → PTs (X.blk s H scope (compEnvC scope cl C X.env) fp) ifs (LT X.K W0 mt))
    (he : ∀ (s : Shared) (H : Hp) (C : Addr) (cl : List (Str × Addr)) (fp : List Addr), Ctx (X.blk s H scope (compEnvC scope cl C X.env) fp) W0 k → PE (X.blk s H scope (compEnvC scope cl C X.env) fp) elt (LE X.K W0 me))
    (hs : ∀ x, foldedSetIterable iter X.env x = pure x := by intro _; rfl) : PE X (.ListComp elt [⟨.Name x px, iter, ifs, 0⟩] scope pos) (LE X.K W (eComp i ms mt me)) :=
  (pe_lc (own := [(x, i)]) C.calm C.nd hi ok hg (fun s H c cl fp => ht s H c cl fp C.blk) (fun s H c cl fp => he s H c cl fp C.blk) hs).imp fun σ H Q h => le_comp h
theorem ds_setComp {elt iter : Expr} {ifs : List Expr} {scope : Scope} {i j : Nat} {x y : Str} {px py pos spos : Pos} {ms : MI} {mt : MT} {me : ME} (C : Ctx X W k) (hi : PI X (.Name x px) iter (LI X.K W ms)) (ok : BlkOk X.N X.env.scope scope [(x, i)])
    (hg : ∀ (s : Shared) (H : Hp) (C : Addr) (cl : List (Str × Addr)) (fp : List Addr), PG (X.blk s H scope (compEnvC scope cl C X.env) fp) (.Name x px) (gName i))
    (ht : ∀ (s : Shared) (H : Hp) (C : Addr) (cl : List (Str × Addr)) (fp : List Addr), Ctx (X.blk s H scope (compEnvC scope cl C X.env) fp) W0 k → PTs (X.blk s H scope (compEnvC scope cl C X.env) fp) ifs (LT X.K W0 mt))
    (he : ∀ (s : Shared) (H : Hp) (C : Addr) (cl : List (Str × Addr)) (fp : List Addr), Ctx (X.blk s H scope (compEnvC scope cl C X.env) fp) W0 k → PE (X.blk s H scope (compEnvC scope cl C X.env) fp) elt (LE X.K W0 me))
    (hy : X.N[j]? = some y := by rfl) (hyl : X.env.scope.names.lookup y = some .local := by rfl)
    (hsw : swapsWith (.ListComp elt [⟨.Name x px, iter, ifs, 0⟩] scope pos) (some (.Name y py)) spos.line X.env = pure true := by exact sw_true rfl rfl rfl (by decide +kernel))
    (hs : ∀ x, foldedSetIterable iter X.env x = pure x := by intro _; rfl) : PS X (.Assign [.Name y py] (.ListComp elt [⟨.Name x px, iter, ifs, 0⟩] scope pos) spos) (LS X.K W (sAsg (gOne j) (eComp i ms mt me))) :=
  (ps_setLc (own := [(x, i)]) C.calm C.nd hy hyl hsw hi ok hg (fun s H c cl fp => ht s H c cl fp C.blk) (fun s H c cl fp => he s H c cl fp C.blk) hs).imp fun En σ H h => by
    refine le_asg (tg := gName j) (fun Q h => le_comp h) (fun v σ H Q ⟨ι, env, d, env', r, R, h, q⟩ => by cases h; exact q _ (R.set r j)) h
end
end TL
end
section
namespace TL
open PySem PySem.Spec PyProof.Rows L2
def tyD (T : String) (M : Mem) : D → Bool
  | .str _ => decide (T = "str")
  | .ref n => decide (T = "list") && (seqAt M n).isSome
  | _ => false
def eMeth (T : String) (f : D → OpN) (o : ME) (a : MA) : ME := fun env M => (o env M).bind fun x M1 => if tyD T M1 x = true then (a env M1).bind fun xs M2 => liftO (f x xs M2) else .stuck
def mAppend : D → OpN := fun d ds M => match d, ds with
  | .ref n, [y] => match M[n]? with
    | some (.lst xs) => if xs.length < sizeLine then some (.non, M.set n (.lst (xs ++ [y]))) else none
    | _ => none
  | _, _ => none
def mReverse : D → OpN := fun d ds M => match d, ds with
  | .ref n, [] => match M[n]? with
    | some (.lst xs) => some (.non, M.set n (.lst xs.reverse))
    | _ => none
  | _, _ => none
section
variable {K : PySem.W.Frag} {ι : List Addr} {H : Hp} {M : Mem}
theorem RpA.nil_inv {vs : List V} (r : RpA K ι H [] vs) : vs = [] := by cases r; rfl
theorem tyD_ok {T : String} {d : D} {v : V} (S : SR K ι H M) (r : Rp K ι H d v) (h : tyD T M d = true) : tyV K T v H := by
  cases d with
  | str x => cases r.str_inv; exact of_decide_eq_true (p := T = "str") h
  | ref n =>
    obtain ⟨p, rfl, hp⟩ := r.ref_inv
    obtain ⟨h1, h2⟩ := Bool.and_eq_true_iff.mp h
    cases q : seqAt M n with
    | none => rw [q] at h2; cases h2
    | some xs =>
      obtain ⟨vs, h3, _⟩ := S.seq hp q
      exact .inl ⟨of_decide_eq_true h1, vs, h3⟩
  | _ => cases h
end
section
variable {X : Cx} {W : WX} {k : Nat}
theorem m_append : MtR X "list.append" (rDM X.K mAppend) := by
  refine MtR.imp mt_append fun x xs H Q h => ?_
  obtain ⟨ι, M, d, ds, S, r, rs, h⟩ := h
  unfold mAppend at h
  split at h
  · obtain ⟨p, rfl, hp⟩ := r.ref_inv
    obtain ⟨v, rfl, rv⟩ := rs.one_inv
    split at h
    · rename_i ys m1
      obtain ⟨vs, h1, r1⟩ := S.lst hp m1
      split at h
      · exact ⟨_, vs, _, rfl, rfl, h1, by rw [← r1.length]; assumption, h.setLst S hp m1 (r1.append (.cons rv .nil)) .non⟩
      · exact h.elim
    · exact h.elim
  · exact h.elim
theorem m_reverse : MtR X "list.reverse" (rDM X.K mReverse) := by
  refine MtR.imp mt_reverse fun x xs H Q h => ?_
  obtain ⟨ι, M, d, ds, S, r, rs, h⟩ := h
  unfold mReverse at h
  split at h
  · obtain ⟨p, rfl, hp⟩ := r.ref_inv
    cases rs.nil_inv
    split at h
    · rename_i ys m1
      obtain ⟨vs, h1, r1⟩ := S.lst hp m1
      exact ⟨_, vs, rfl, rfl, h1, h.setLst S hp m1 r1.reverse .non⟩
    · exact h.elim
  · exact h.elim
variable {o e : Expr} {es : List Expr} {mo : ME} {mas : MA} {name : Str} {apos cpos : Pos} {T id : String} {f : D → OpN}
theorem d_meth0 (pa : PlainAttrs T) (slot : Slot T name id) (hty : typeOf (.builtin id) = pure (.type "method_descriptor")) (hm : MtR X id (rDM X.K f)) (ho : PE X o (LE X.K W mo))
    (hbase : attributeBase o name X.env (eval o X.env) = eval o X.env := by rfl) (hline : (apos.endLine == cpos.line) = true := by rfl) : PE X (.Call (.Attribute o name apos) [] [] cpos) (LE X.K W (eMeth T f mo aNil)) :=
  (pe_bm0 pa slot hty hm ho hbase hline).imp fun σ H Q ⟨ι, env, M, S, R, h⟩ => ⟨ι, env, M, S, R, (OutP.bind h).imp fun x M1 ι1 H1 e1 S1 h1 v rv => by
    split at h1
    · rename_i ht
      exact ⟨tyD_ok S1 rv ht, ι1, M1, x, [], S1, rv, .nil, OpO.of (W := W1 W σ) h1⟩
    · exact h1.elim⟩
theorem d_meth (pa : PlainAttrs T) (slot : Slot T name id) (hty : typeOf (.builtin id) = pure (.type "method_descriptor")) (hm : MtR X id (rDM X.K f)) (ho : PE X o (LE X.K W mo)) (ha : PA X (e :: es) (LA X.K W mas))
    (hbase : attributeBase o name X.env (eval o X.env) = eval o X.env := by rfl)
    (hfew : ((backTo cpos (starEach (e :: es) X.env)).all (fun x => !x.1) && (backToKw cpos (keywordEach [] X.env)).all (fun x => x.1.isSome)
      && decide ((e :: es).length + ([] : List Keyword).length + (if ([] : List Keyword).isEmpty then 0 else 1) < 30)) = true := by rfl)
    (hline : (apos.endLine == cpos.line) = true := by rfl) (hs : starEach (e :: es) X.env = (false, eval e X.env) :: starEach es X.env := by rfl) (hplain : (backTo cpos (starEach es X.env)).any (·.1) = false := by rfl) :
    PE X (.Call (.Attribute o name apos) (e :: es) [] cpos) (LE X.K W (eMeth T f mo mas)) :=
  (pe_bm pa slot hty hm ho ha hbase hfew hline hs hplain).imp fun σ H Q ⟨ι, env, M, S, R, h⟩ => ⟨ι, env, M, S, R, (OutP.bind h).imp fun x M1 ι1 H1 e1 S1 h1 v rv => by
    split at h1
    · rename_i ht
      exact ⟨tyD_ok S1 rv ht, ι1, env, M1, S1, R.ext e1, (OutP.bind h1).imp fun xs M2 ι2 H2 e2 S2 h2 us ru => ⟨ι2, M2, x, xs, S2, rv.ext e2, ru, OpO.of h2⟩⟩
    · exact h1.elim⟩
end
def blsOf : List D → Option (List Bool)
  | [] => some []
  | .bl b :: ds => (blsOf ds).map (b :: ·)
  | _ => none
def intsOf : List D → Option (List Int)
  | [] => some []
  | .int b :: ds => (intsOf ds).map (b :: ·)
  | _ => none
def maxI : List Int → Int
  | [] => 0
  | [a] => a
  | a :: b :: r => max a (maxI (b :: r))
theorem maxI_mem : ∀ {ns : List Int}, ns ≠ [] → maxI ns ∈ ns ∧ ∀ a ∈ ns, a ≤ maxI ns
  | [], h => absurd rfl h
  | [a], _ => by simp [maxI]
  | a :: b :: r, _ => by
    obtain ⟨h1, h2⟩ := maxI_mem (ns := b :: r) (by simp)
    refine ⟨?_, fun c hc => ?_⟩
    · show max a (maxI (b :: r)) ∈ _
      rcases Int.le_total a (maxI (b :: r)) with q | q
      · rw [Int.max_eq_right q]; exact List.mem_cons_of_mem _ h1
      · rw [Int.max_eq_left q]; exact List.mem_cons_self
    · show c ≤ max a (maxI (b :: r))
      rcases List.mem_cons.mp hc with rfl | hc
      · exact Int.le_max_left _ _
      · exact Int.le_trans (h2 c hc) (Int.le_max_right _ _)
def nAll : OpN := fun ds M => match ds with
  | [.ref n] => match seqAt M n with
    | some xs => (blsOf xs).map fun bs => (.bl (bs.all id), M)
    | none => none
  | _ => none
def nMax : OpN := fun ds M => match ds with
  | [.ref n] => match seqAt M n with
    | some xs => match intsOf xs with
      | some ns => if ns = [] then none else some (.int (maxI ns), M)
      | none => none
    | none => none
  | _ => none
section
variable {K : PySem.W.Frag} {ι : List Addr} {H : Hp} {M : Mem}
theorem bls_v : ∀ {ds : List D} {vs : List V} {bs : List Bool}, RpA K ι H ds vs → blsOf ds = some bs → vs = bs.map V.bl
  | [], _, _, .nil, e => by cases e; rfl
  | d :: ds, _, bs, .cons r t, e => by
    cases d with
    | bl b =>
      have e' : (blsOf ds).map (b :: ·) = some bs := e
      cases q : blsOf ds with
      | none => rw [q] at e'; cases e'
      | some cs =>
        rw [q] at e'
        cases e'
        cases r.bl_inv
        rw [bls_v t q]
        rfl
    | _ => cases e
theorem ints_v : ∀ {ds : List D} {vs : List V} {bs : List Int}, RpA K ι H ds vs → intsOf ds = some bs → vs = bs.map V.int
  | [], _, _, .nil, e => by cases e; rfl
  | d :: ds, _, bs, .cons r t, e => by
    cases d with
    | int b =>
      have e' : (intsOf ds).map (b :: ·) = some bs := e
      cases q : intsOf ds with
      | none => rw [q] at e'; cases e'
      | some cs =>
        rw [q] at e'
        cases e'
        cases r.int_inv
        rw [ints_v t q]
        rfl
    | _ => cases e
end
section
variable {X : Cx}
theorem c_all (hc : X.calm = true) : CallR X (.builtin "all") (rDN X.K nAll) := by
  refine CallR.imp (cr_all hc) fun xs H Q h => ?_
  obtain ⟨ι, M, ds, S, r, h⟩ := h
  unfold nAll at h
  split at h
  · obtain ⟨v, rfl, rv⟩ := r.one_inv
    obtain ⟨p, rfl, hp⟩ := rv.ref_inv
    split at h
    · rename_i ys m
      obtain ⟨vs, h1, r1⟩ := S.seq hp m
      cases q : blsOf ys with
      | none => rw [q] at h; exact h.elim
      | some bs =>
        rw [q] at h
        cases bls_v r1 q
        exact ⟨p, bs, rfl, h1, OpO.val S h (.bl _)⟩
    · exact h.elim
  · exact h.elim
theorem c_max (hc : X.calm = true) : CallR X (.builtin "max") (rDN X.K nMax) := by
  refine CallR.imp (cr_max hc) fun xs H Q h => ?_
  obtain ⟨ι, M, ds, S, r, h⟩ := h
  unfold nMax at h
  split at h
  · obtain ⟨v, rfl, rv⟩ := r.one_inv
    obtain ⟨p, rfl, hp⟩ := rv.ref_inv
    split at h
    · rename_i ys m
      obtain ⟨vs, h1, r1⟩ := S.seq hp m
      split at h
      · rename_i ns q
        cases ints_v r1 q
        split at h
        · exact h.elim
        · rename_i hne
          refine ⟨p, ns, rfl, h1, List.length_pos_iff.mpr hne, fun m hm hle => ?_⟩
          obtain ⟨k1, k2⟩ := maxI_mem hne
          have : m = maxI ns := Int.le_antisymm (k2 m hm) (hle _ k1)
          subst this
          exact OpO.val S h (.int _)
      · exact h.elim
    · exact h.elim
  · exact h.elim
end
def startE (n : Nat) (ds : List D) : Env := ds.map some ++ List.replicate (n - ds.length) none
def endS : SOut → Out D
  | .next _ M => .ok .non M
  | .ret d M => .ok d M
  | .exc x _ M => .exc x M
  | .stuck => .stuck
@[simp] theorem endS_next (env : Env) (M : Mem) : endS (.next env M) = .ok .non M := rfl
@[simp] theorem endS_ret (d : D) (M : Mem) : endS (.ret d M) = .ok d M := rfl
@[simp] theorem endS_exc (x : Ex) (env : Env) (M : Mem) : endS (.exc x env M) = .exc x M := rfl
@[simp] theorem endS_stuck : endS .stuck = .stuck := rfl
/-- a def of np parameters and n names -/
def fnD (np n : Nat) (b : MS) : Fn := fun ds M => if ds.length = np then endS (b (startE n ds) M) else .stuck
def noFn : Fn := fun _ _ => .stuck
theorem envR_start {K : PySem.W.Frag} {ι : List Addr} {H : Hp} : ∀ {ds : List D} {vs : List V}, RpA K ι H ds vs → ∀ r : Nat, EnvR K ι H (ds.map some ++ List.replicate r none) (vs.map some ++ List.replicate r none)
  | _, _, .nil, r => by
    induction r with
    | zero => exact .nil
    | succ r ih => exact .cons trivial ih
  | _, _, .cons h t, r => .cons h (envR_start t r)
section
variable {P : Program} {w : World} {K : PySem.W.Frag} {mg : Str → Option Value} {base : Heap}
/-- a def by its body -/
theorem okF {x qual : Str} {params : Arguments} {body : List Stmt} {scope : Scope} {f : Addr} {fd : FuncData} {N ps : List Str} {k : Nat} {mb : MS} (F : FunD K x qual params body scope [] [] f fd) (S : FnScope N ps scope)
    (hbody : ∀ (cdv : Value) (A : Around) (outer : List PySem.Env) (s : Shared) (H : Hp) (E : XK), let X := cxOf (L2N.CX P w) P w K mg base N qual scope f cdv A outer s H E
      Ctx X (fun cls d _ H => E cls d H) k → PSs X body (LS K (fun cls d _ H => E cls d H) mb)) :
    FnOk P w K mg base (L2N.CX P w) (k + 1) f fd ps (spD K ps.length (fnD ps.length N.length mb)) := by
  refine F.ok S (fun vs H Q E h => h.1) ?_
  rintro cdv A outer s H vs Q E hr ⟨hl, ι, ds, M, SS, rs, h⟩
  have C : Ctx (cxOf (L2N.CX P w) P w K mg base N qual scope f cdv A outer s H E) (fun cls d _ H => E cls d H) k := ⟨rfl, S.nd, hr, L2N.takes_of rfl rfl rfl rfl, passes_of rfl⟩
  refine ⟨_, hbody cdv A outer s H E C, ι, startE N.length ds, M, SS, ?_, ?_⟩
  · unfold startE L2.start
    rw [rs.length]
    exact envR_start rs _
  · unfold fnD at h
    rw [if_pos (by rw [rs.length]; exact hl)] at h
    revert h
    cases mb (startE N.length ds) M with
    | next env M1 => exact fun h ι1 σ1 H1 e1 S1 _ => h ι1 H1 e1 S1 _ .non
    | ret d M1 => exact fun h ι1 v H1 e1 S1 r => h ι1 H1 e1 S1 v r
    | exc y env M1 => exact fun h ι1 σ1 H1 cls dx e1 S1 _ ex => h ι1 H1 cls dx e1 S1 ex
    | stuck => exact fun h => h
theorem okD {x qual : Str} {params : Arguments} {body : List Stmt} {scope : Scope} {f : Addr} {N ps : List Str} {k : Nat} {mb : MS} (F : ∃ fd, FunD K x qual params body scope [] [] f fd) (S : FnScope N ps scope) (hm : mg x = some (.ref f))
    (hbind : ∀ (kV doc pm : Value) (an : Option Addr) (cdv ct : Value) (us : List Value), us.length = ps.length → bindArgs (PySem.W.fnOf x qual params body scope .none kV doc pm an cdv ct) ⟨us, []⟩ = pure (ps.zip us))
    (hbody : ∀ (cdv : Value) (A : Around) (outer : List PySem.Env) (s : Shared) (H : Hp) (E : XK), let X := cxOf (L2N.CX P w) P w K mg base N qual scope f cdv A outer s H E
      Ctx X (fun cls d _ H => E cls d H) k → PSs X body (LS K (fun cls d _ H => E cls d H) mb)) :
    Callee P w K mg base x ps.length (k + 1) (fnD ps.length N.length mb) := by
  obtain ⟨fd, F⟩ := F
  exact ⟨⟨f, fd, ps, okF F S hbody, hm, F.kp, F.bindsN hbind, rfl⟩, fun ds M h => if_neg h⟩
/-- nothing is promised -/
theorem noD {x qual : Str} {params : Arguments} {body : List Stmt} {scope : Scope} {f : Addr} {ps : List Str} {k : Nat} (F : ∃ fd, FunD K x qual params body scope [] [] f fd) (hm : mg x = some (.ref f))
    (hbind : ∀ (kV doc pm : Value) (an : Option Addr) (cdv ct : Value) (us : List Value), us.length = ps.length → bindArgs (PySem.W.fnOf x qual params body scope .none kV doc pm an cdv ct) ⟨us, []⟩ = pure (ps.zip us)) :
    Callee P w K mg base x ps.length k noFn := by
  obtain ⟨fd, F⟩ := F
  exact ⟨⟨f, fd, ps, ⟨fun vs H Q E h => h.1, fun A outer s H args us vs Q E _ _ _ _ h => by obtain ⟨_, ι, ds, M, _, _, z⟩ := h; exact z.elim⟩, hm, F.kp, F.bindsN hbind, rfl⟩, fun _ _ _ => rfl⟩
end
end TL
end
section
set_option maxHeartbeats 2000000
namespace TL
open PySem PySem.Spec PyProof.Rows L2
abbrev AlB : Type := Bool × List He.FnW
def obsB (ok : PySem.W.Frag → Bool) (fn : List He.DefD) (K : PySem.W.Frag) : AlB := (ok K && fn.all (fun d => d.ok K), fn.map fun d => He.fnW K d.at_)
def valB (fn : List He.DefD) : AlB := (true, fn.map He.DefD.val)
def SaysB (ok : PySem.W.Frag → Bool) (fn : List He.DefD) (K : PySem.W.Frag) : Prop := obsB ok fn K = valB fn
def obsBG (n : Nat) (ok : PySem.W.Frag → Bool) (fn : List He.DefD) (g : Addr → Option Obj) : AlB := obsB ok fn (He.frG g (He.asD g n))
def hookB (n : Nat) (ok : PySem.W.Frag → Bool) (fn : List He.DefD) : PySem.W.Hook where
  α := AlB
  obs := fun s => obsBG n ok fn s.heap.get?
  val := fun _ => valB fn
  says := fun _ h => ∃ K : PySem.W.Frag, K.In h ∧ SaysB ok fn K
  of := fun _ _ e => ⟨_, He.frG_in, e⟩
  keeps := fun _ _ _ ⟨K, hK, c⟩ k => ⟨K, PySem.W.Frag.In.keeps hK k, c⟩
theorem obsBG_eq {n : Nat} {ok : PySem.W.Frag → Bool} {fn : List He.DefD} {g : Addr → Option Obj} {s : Shared} (h : ∀ a, g a = s.heap.get? a) : obsBG n ok fn g = (hookB n ok fn).obs s := by
  have e : g = s.heap.get? := funext h
  rw [e] <;> rfl
section
variable {ok : PySem.W.Frag → Bool} {fn : List He.DefD} {K : PySem.W.Frag}
theorem SaysB.fact (c : SaysB ok fn K) : ok K = true := (He.ba (show (ok K && fn.all fun d => d.ok K) = true from congrArg (fun z : AlB => z.1) c)).1
theorem SaysB.def_ (c : SaysB ok fn K) (i : Nat) {d : He.DefD} (h : fn[i]? = some d := by rfl) : ∃ fd, FunD K d.name d.qual d.params d.body d.scope (d.dvs K) (d.kws K) (He.fAd K d.at_) fd := by
  have c2 := (He.ba (show (ok K && fn.all fun d => d.ok K) = true from congrArg (fun z : AlB => z.1) c)).2
  have e : fn.map (fun d => He.fnW K d.at_) = fn.map He.DefD.val := congrArg (fun z : AlB => z.2) c
  have e2 : (fn.map fun d => He.fnW K d.at_)[i]? = (fn.map He.DefD.val)[i]? := by rw [e]
  rw [List.getElem?_map, List.getElem?_map, h] at e2
  exact He.DefD.funD (Option.some.inj e2) (List.all_eq_true.mp c2 d (List.mem_of_getElem? h))
/-- all of some -/
theorem all_at {α : Type} {p : α → Bool} {l : List α} (h : l.all p = true) (i : Nat) {a : α} (e : l[i]? = some a := by rfl) : p a = true := List.all_eq_true.mp h a (List.mem_of_getElem? e)
/-- the module's name x is a tuple of these -/
theorem glob_tup {h : Heap} {mg : Str → Option Value} (X : K.In h) (G : h.Ns mainGlobals mg) {x : Str} {vs : List He.Dv} {ds : List D} (c1 : (He.Fa.glo x).ok K = true) (c2 : He.tupB K x vs = true) (r : ∀ ι H, RpA K ι H ds (vs.map (He.Dv.v K))) : Glob K mg x (.tup ds) :=
  ⟨.ref (He.ga K x), _, He.glo_ok X G c1, rfl, fun ι H => .tup (He.tupB_ok c2 H) (r ι H)⟩
end
theorem walk_ofW {l : PySem.W.OpenLaw} {n k : Nat} {q : Program} {loose : List Str} {XP : (Str → Option Value) → Heap → Prop} {YP : World → Heap → Prop} {d : DefRec} {CX : World → CXT} {x : Str}
    (hn : l.most = some n) (hn2 : n ≤ sizeLine) (hdf : d.params.defaults = []) (hr : Room k callerA)
    (F : ∀ (w : World) (mg : Str → Option Value) (fa : Addr) (h : Heap), YP w h → h.Ns mainGlobals mg → mg d.name = some (.ref fa) →
      ∃ (K : PySem.W.Frag) (fd : FuncData) (sp : Sp), K.In h ∧ (∀ (s : Shared) (u : Value), BindsTo s fd ⟨[u], []⟩ [(x, u)]) ∧
        (∀ (H : Hp) (a : Addr) (ns : List Int), ns.length ≤ n → Only H → SqL K H a (ns.map V.int) → sp [.ref a] H (fun v _ => v = .bl true) fun _ _ _ => False) ∧
        ∀ base : Heap, K.In base → base.Ns mainGlobals mg → FnOk l.prog w K mg base (CX w) k fa fd [x] sp)
    (hCX : ∀ (w : World) (H : Hp) (s : Shared) (e : Value) (s' : Shared), CX w [] H s (fun _ _ _ => False) e s' → False) :
    PySem.W.WalkO q loose XP YP l.row.toRowW d [] (fun f vs => PySem.call f vs) := by
  refine Att.attach_call hn hdf fun w s₀ s₁ mg mb fa o pm cd doc a vs ns G Y ho hd hcd hmg hobj hints hlen hg => ?_
  obtain ⟨K, fd, sp, KX, hb, hsp, hF⟩ := F w mg fa _ Y G.T.g hmg
  exact law_call KX G.T.g G.T.b G.T.builtins G.T.nolimit hg hobj hints (Nat.le_trans hlen hn2) hr hF hb (fun H hO hS => hsp H a ns hlen hO hS) fun H e s' => hCX w H s₁ e s'
theorem cx_false {P : Program} {w : World} {H : Hp} {s : Shared} {e : Value} {s' : Shared} (h : L2N.CX P w [] H s (fun _ _ _ => False) e s') : False := by
  obtain ⟨_, _, _, _, _, _, _, _, _, _, _, _, z⟩ := h
  exact z
theorem ints_rp {K : PySem.W.Frag} {ι : List Addr} {H : Hp} : ∀ ns : List Int, RpA K ι H (ns.map D.int) (ns.map V.int)
  | [] => .nil
  | i :: ns => .cons (.int i) (ints_rp ns)
theorem law_sp {K : PySem.W.Frag} {m : Fn} {H : Hp} {a : Addr} {ns : List Int} (hO : Only H) (hS : SqL K H a (ns.map V.int)) (h : ∃ M', m [.ref 0] [.rol (ns.map D.int)] = .ok (.bl true) M') :
    spD K 1 m [.ref a] H (fun v _ => v = .bl true) fun _ _ _ => False := by
  obtain ⟨M', h⟩ := h
  refine ⟨rfl, [a], [.ref 0], [.rol (ns.map D.int)], ⟨rfl, fun n b o h1 h2 => ?_, fun n m b o u h1 h2 h3 h4 m1 m2 => ?_⟩, .cons (.ref rfl) .nil, ?_⟩
  · match n, h1, h2 with
    | 0, h1, h2 =>
      cases h1; cases h2
      refine ⟨_, ?_, ints_rp ns⟩
      rcases hS with (h | ⟨o, h⟩) | h
      · rcases hO a with q | ⟨o, xs, q⟩ <;> rw [q] at h <;> cases h
      · exact .inl ⟨o, h⟩
      · exact .inr h
    | n + 1, h1, h2 => cases h1
  · match n, h3 with
    | 0, h3 => cases h3; cases m1
    | n + 1, h3 => cases h3
  · rw [h]
    exact fun ι' H' e s v r => r.bl_inv
end TL
end
section
namespace TL
open PySem PySem.Spec PyProof.Rows L2
theorem Ctx.hu {X : Cx} {W : WX} {k : Nat} (C : Ctx X W k) : X.A.units + 64 < cLine := C.room.units
def nInt : OpN := fun ds M => match ds with
  | [.int i] => some (.int i, M)
  | [.bl b] => some (.int (if b then 1 else 0), M)
  | _ => none
end TL
end
section
namespace TL
open PySem PySem.Spec PyProof.Rows L2
section
variable {env : Env} {M : Mem}
@[simp] theorem eVar_ap {i : Nat} : eVar i env M = match env[i]? with | some (some d) => .ok d M | _ => .stuck := rfl
@[simp] theorem eC_ap {d : D} : eC d env M = .ok d M := rfl
@[simp] theorem eBin_ap {f : Op2} {a b : ME} : eBin f a b env M = (a env M).bind fun x M1 => (b env M1).bind fun y M2 => liftO (f x y M2) := rfl
@[simp] theorem eUn_ap {f : Op1} {a : ME} : eUn f a env M = (a env M).bind fun x M1 => liftO (f x M1) := rfl
@[simp] theorem eChain_ap {f g : Op2} {a b c : ME} : eChain f g a b c env M = (a env M).bind fun x M1 => (b env M1).bind fun y M2 => (liftO (f x y M2)).bind fun z M3 => kBl z fun k =>
  if k = true then (c env M3).bind fun w M4 => liftO (g y w M4) else .ok (.bl false) M3 := rfl
@[simp] theorem eAnd_ap {a b : ME} : eAnd a b env M = (a env M).bind fun x M1 => kBl x fun k => if k = true then b env M1 else .ok (.bl false) M1 := rfl
@[simp] theorem eOr_ap {a b : ME} : eOr a b env M = (a env M).bind fun x M1 => kBl x fun k => if k = true then .ok (.bl true) M1 else b env M1 := rfl
@[simp] theorem eNot_ap {a : ME} : eNot a env M = (a env M).bind fun x M1 => kBl x fun k => .ok (.bl (!k)) M1 := rfl
@[simp] theorem eIf_ap {t : MT} {a b : ME} : eIf t a b env M = (t env M).bind fun k M1 => if k = true then a env M1 else b env M1 := rfl
@[simp] theorem tB_ap {e : ME} : tB e env M = (e env M).bind fun d M1 => kBl d fun k => .ok k M1 := rfl
@[simp] theorem tTru_ap {e : ME} : tTru e env M = (e env M).bind fun d M1 => match truD M1 d with | some k => .ok k M1 | none => .stuck := rfl
@[simp] theorem tAnd_ap {a b : MT} : tAnd a b env M = (a env M).bind fun k M1 => if k = true then b env M1 else .ok false M1 := rfl
@[simp] theorem tOr_ap {a b : MT} : tOr a b env M = (a env M).bind fun k M1 => if k = true then .ok true M1 else b env M1 := rfl
@[simp] theorem tNot_ap {a : MT} : tNot a env M = (a env M).bind fun k M1 => .ok (!k) M1 := rfl
@[simp] theorem aNil_ap : aNil env M = .ok [] M := rfl
@[simp] theorem aCons_ap {a : ME} {r : MA} : aCons a r env M = (a env M).bind fun x M1 => (r env M1).bind fun xs M2 => .ok (x :: xs) M2 := rfl
@[simp] theorem eTup_ap {a : MA} : eTup a env M = (a env M).bind fun xs M1 => if xs.length ≤ 1000 then .ok (.tup xs) M1 else .stuck := rfl
@[simp] theorem eLst_ap {a : MA} : eLst a env M = (a env M).bind fun xs M1 => if xs.length ≤ 1000 then .ok (.ref M1.length) (M1 ++ [.lst xs]) else .stuck := rfl
@[simp] theorem eCall_ap {m : Fn} {a : MA} : eCall m a env M = (a env M).bind m := rfl
@[simp] theorem eCallO_ap {f : OpN} {a : MA} : eCallO f a env M = (a env M).bind fun xs M1 => liftO (f xs M1) := rfl
@[simp] theorem oNone_ap : oNone env M = .ok none M := rfl
@[simp] theorem oSome_ap {a : ME} : oSome a env M = (a env M).bind fun x M1 => kInt x fun i => .ok (some i) M1 := rfl
@[simp] theorem eSl_ap {a : ME} {lo hi : MO'} : eSl a lo hi env M = (a env M).bind fun x M1 => (lo env M1).bind fun l M2 => (hi env M2).bind fun h M3 => liftO (mSl x l h M3) := rfl
@[simp] theorem eIsi_ap {T : String} {a : ME} : eIsi T a env M = (a env M).bind fun x M1 => liftO (mIsi T x M1) := rfl
@[simp] theorem eMeth_ap {T : String} {f : D → OpN} {o : ME} {a : MA} : eMeth T f o a env M = (o env M).bind fun x M1 => if tyD T M1 x = true then (a env M1).bind fun xs M2 => liftO (f x xs M2) else .stuck := rfl
@[simp] theorem sNil_ap : sNil env M = .next env M := rfl
@[simp] theorem sSeq_ap {a b : MS} : sSeq a b env M = nextS (a env M) b := rfl
@[simp] theorem sExpr_ap {e : ME} : sExpr e env M = thenS env (e env M) fun _ M1 => .next env M1 := rfl
@[simp] theorem sRet_ap {e : ME} : sRet e env M = thenS env (e env M) fun d M1 => .ret d M1 := rfl
@[simp] theorem sRetN_ap : sRetN env M = .ret .non M := rfl
@[simp] theorem sIf_ap {t : MT} {a b : MS} : sIf t a b env M = thenS env (t env M) fun k M1 => if k = true then a env M1 else b env M1 := rfl
@[simp] theorem sAsg_ap {g : MG} {e : ME} : sAsg g e env M = thenS env (e env M) fun d M1 => match g d env with | some env' => .next env' M1 | none => .stuck := rfl
@[simp] theorem sSub_ap {o i e : ME} : sSub o i e env M = thenS env (e env M) fun v M1 => thenS env (o env M1) fun x M2 => thenS env (i env M2) fun y M3 => match setD x y v M3 with | some M4 => .next env M4 | none => .stuck := rfl
@[simp] theorem sFor_ap {i : MI} {g : MG} {b : MS} : sFor i g b env M = thenS env (i env M) fun s M1 => forL s.good g b s.items env M1 := rfl
@[simp] theorem gOne_ap {i : Nat} {d : D} : gOne i d env = some (env.set i (some d)) := rfl
@[simp] theorem tYesD_ap : tYesD env M = .ok true M := rfl
open Classical in
@[simp] theorem iRange1_ap {e : ME} : iRange1 e env M = (e env M).bind fun d M1 => kInt d fun j => if RngOk j then .ok ⟨rngItems 0 j.toNat, fun _ => True⟩ M1 else .stuck := rfl
open Classical in
@[simp] theorem iRange2_ap {a b : ME} : iRange2 a b env M = (a env M).bind fun d M1 => (b env M1).bind fun d2 M2 => kInt d fun i => kInt d2 fun j => if RngOk i ∧ RngOk j then .ok ⟨rngItems i (j - i).toNat, fun _ => True⟩ M2 else .stuck := rfl
@[simp] theorem rngOk_of {j : Int} (h0 : 0 ≤ j) (h1 : j ≤ 1000000) : RngOk j := ⟨Int.le_trans (by decide) h0, Int.lt_of_le_of_lt h1 (by decide)⟩
@[simp] theorem rngOk_nat {n : Nat} (h1 : n ≤ 1000000) : RngOk (n : Int) := rngOk_of (by omega) (by omega)
@[simp] theorem iAny_ap {e : ME} : iAny e env M = (e env M).bind fun d M1 => match srcOf M1 d with | some s => .ok s M1 | none => .stuck := rfl
@[simp] theorem eComp_ap {i : Nat} {s : MI} {t : MT} {e : ME} : eComp i s t e env M = (s env M).bind fun s M1 => (compL s.good i t e M1.length env s.items (M1 ++ [.lst []])).bind fun _ M2 => .ok (.ref M1.length) M2 := rfl
@[simp] theorem gTupD_ap {is : List Nat} {ds : List D} : gTupD is (.tup ds) env = if ds.length = is.length then some (setAll env is ds) else none := rfl
@[simp] theorem setAll_cons {i : Nat} {is : List Nat} {d : D} {ds : List D} : setAll env (i :: is) (d :: ds) = setAll (env.set i (some d)) is ds := rfl
@[simp] theorem setAll_nil {ds : List D} : setAll env [] ds = env := by cases ds <;> rfl
variable {i j : Int} {b c : Bool} {x y : Str} {xs ys : List D} {n m : Nat} {d e : D}
@[simp] theorem mAdd_int : mAdd (.int i) (.int j) M = some (.int (i + j), M) := rfl
@[simp] theorem mAdd_tup : mAdd (.tup xs) (.tup ys) M = if xs.length + ys.length ≤ sizeLine then some (.tup (xs ++ ys), M) else none := rfl
@[simp] theorem mAdd_str : mAdd (.str x) (.str y) M = if x.length + y.length ≤ sizeLine then some (.str (x ++ y), M) else none := rfl
@[simp] theorem mAdd_ref : mAdd (.ref n) (.ref m) M = match M[n]?, M[m]? with
    | some (.lst xs), some (.lst ys) => if xs.length + ys.length ≤ sizeLine then some (.ref M.length, M ++ [.lst (xs ++ ys)]) else none
    | _, _ => none := rfl
@[simp] theorem mSub_int : mSub (.int i) (.int j) M = some (.int (i - j), M) := rfl
@[simp] theorem mMod_int : mMod (.int i) (.int j) M = if 0 < j then some (.int (i % j), M) else none := rfl
@[simp] theorem mFdiv_int : mFdiv (.int i) (.int j) M = if 0 < j ∧ j < 1073741824 then some (.int (i / j), M) else none := rfl
@[simp] theorem mPow_int : mPow (.int i) (.int j) M = if 0 ≤ j ∧ j ≤ 1000000 ∧ i.natAbs < 2 ^ 64 then some (.int (i ^ j.toNat), M) else none := rfl
@[simp] theorem mMul_int : mMul (.int i) (.int j) M = @ite _ ((-(2 ^ 64) < i ∧ i < 2 ^ 64) ∨ (-(2 ^ 64) < j ∧ j < 2 ^ 64)) (Classical.propDecidable _) (some (.int (i * j), M)) none := rfl
@[simp] theorem mNeg_int : mNeg (.int i) M = some (.int (-i), M) := rfl
@[simp] theorem mLt_int : mCmp (fun i j => decide (i < j)) (.int i) (.int j) M = some (.bl (decide (i < j)), M) := rfl
@[simp] theorem mLe_int : mCmp (fun i j => decide (i ≤ j)) (.int i) (.int j) M = some (.bl (decide (i ≤ j)), M) := rfl
@[simp] theorem mGt_int : mCmp (fun i j => decide (j < i)) (.int i) (.int j) M = some (.bl (decide (j < i)), M) := rfl
@[simp] theorem mGe_int : mCmp (fun i j => decide (j ≤ i)) (.int i) (.int j) M = some (.bl (decide (j ≤ i)), M) := rfl
theorem mEq_eq : mEq d e M = (eqD M d e).map fun k => (.bl k, M) := rfl
theorem mNe_eq : mNe d e M = (eqD M d e).map fun k => (.bl (!k), M) := rfl
@[simp] theorem eqD_int : eqD M (.int i) (.int j) = some (decide (i = j)) := by
  have : (i == j) = decide (i = j) := rfl
  rw [← this]; rfl
@[simp] theorem mEq_int : mEq (.int i) (.int j) M = some (.bl (decide (i = j)), M) := by rw [mEq_eq, eqD_int]; rfl
@[simp] theorem mNe_int : mNe (.int i) (.int j) M = some (.bl (!decide (i = j)), M) := by rw [mNe_eq, eqD_int]; rfl
@[simp] theorem mIs_non : mIs d .non M = some (.bl (isNon d), M) := rfl
@[simp] theorem mIsNot_non : mIsNot d .non M = some (.bl (!isNon d), M) := rfl
@[simp] theorem mIs_bl : mIs (.bl b) (.bl c) M = some (.bl (b == c), M) := rfl
@[simp] theorem mIsNot_bl : mIsNot (.bl b) (.bl c) M = some (.bl (!(b == c)), M) := rfl
@[simp] theorem isNon_non : isNon .non = true := rfl
@[simp] theorem isNon_int : isNon (.int i) = false := rfl
@[simp] theorem isNon_bl : isNon (.bl b) = false := rfl
@[simp] theorem isNon_str : isNon (.str x) = false := rfl
@[simp] theorem isNon_tup : isNon (.tup xs) = false := rfl
@[simp] theorem isNon_ref : isNon (.ref n) = false := rfl
@[simp] theorem mIdx_tup : mIdx (.tup xs) (.int i) M = (atI xs i).map fun d => (d, M) := rfl
@[simp] theorem mIdx_ref : mIdx (.ref n) (.int i) M = match seqAt M n with | some xs => (atI xs i).map fun d => (d, M) | none => none := rfl
@[simp] theorem mSl_tup {lo hi : Option Int} : mSl (.tup xs) lo hi M = some (.tup (cutL xs lo hi), M) := rfl
@[simp] theorem mSl_ref {lo hi : Option Int} : mSl (.ref n) lo hi M = match seqAt M n with | some xs => some (.ref M.length, M ++ [.lst (cutL xs lo hi)]) | none => none := rfl
@[simp] theorem nLen_tup : nLen [.tup xs] M = some (.int (xs.length : Nat), M) := rfl
@[simp] theorem nLen_ref : nLen [.ref n] M = (seqAt M n).map fun xs => (.int (xs.length : Nat), M) := rfl
@[simp] theorem nLen_str : nLen [.str x] M = if x.length ≤ sizeLine then some (.int (x.length : Nat), M) else none := rfl
@[simp] theorem nMax2_int : nMax2 [.int i, .int j] M = some (.int (if j > i then j else i), M) := rfl
@[simp] theorem nMin2_int : nMin2 [.int i, .int j] M = some (.int (if j < i then j else i), M) := rfl
@[simp] theorem nInt_int : nInt [.int i] M = some (.int i, M) := rfl
@[simp] theorem nInt_bl : nInt [.bl b] M = some (.int (if b then 1 else 0), M) := rfl
@[simp] theorem mIsi_int {T : String} : mIsi T (.int i) M = (kitB "int" T).map fun b => (.bl b, M) := rfl
@[simp] theorem mIsi_bl {T : String} : mIsi T (.bl b) M = (kitB "bool" T).map fun b => (.bl b, M) := rfl
@[simp] theorem mIsi_str {T : String} : mIsi T (.str x) M = (kitB "str" T).map fun b => (.bl b, M) := rfl
@[simp] theorem mIsi_non {T : String} : mIsi T .non M = (kitB "NoneType" T).map fun b => (.bl b, M) := rfl
@[simp] theorem mIsi_tup {T : String} : mIsi T (.tup xs) M = (kitB "tuple" T).map fun b => (.bl b, M) := rfl
@[simp] theorem kit_ii : kitB "int" "int" = some true := by decide +kernel
@[simp] theorem kit_ib : kitB "int" "bool" = some false := by decide +kernel
@[simp] theorem kit_it : kitB "int" "tuple" = some false := by decide +kernel
@[simp] theorem kit_is : kitB "int" "str" = some false := by decide +kernel
@[simp] theorem kit_il : kitB "int" "list" = some false := by decide +kernel
@[simp] theorem kit_bi : kitB "bool" "int" = some true := by decide +kernel
@[simp] theorem kit_bb : kitB "bool" "bool" = some true := by decide +kernel
@[simp] theorem kit_bt : kitB "bool" "tuple" = some false := by decide +kernel
@[simp] theorem kit_bs : kitB "bool" "str" = some false := by decide +kernel
@[simp] theorem kit_bl : kitB "bool" "list" = some false := by decide +kernel
@[simp] theorem kit_si : kitB "str" "int" = some false := by decide +kernel
@[simp] theorem kit_sb : kitB "str" "bool" = some false := by decide +kernel
@[simp] theorem kit_st : kitB "str" "tuple" = some false := by decide +kernel
@[simp] theorem kit_ss : kitB "str" "str" = some true := by decide +kernel
@[simp] theorem kit_sl : kitB "str" "list" = some false := by decide +kernel
@[simp] theorem kit_ni : kitB "NoneType" "int" = some false := by decide +kernel
@[simp] theorem kit_nb : kitB "NoneType" "bool" = some false := by decide +kernel
@[simp] theorem kit_nt : kitB "NoneType" "tuple" = some false := by decide +kernel
@[simp] theorem kit_ns : kitB "NoneType" "str" = some false := by decide +kernel
@[simp] theorem kit_nl : kitB "NoneType" "list" = some false := by decide +kernel
@[simp] theorem kit_ti : kitB "tuple" "int" = some false := by decide +kernel
@[simp] theorem kit_tb : kitB "tuple" "bool" = some false := by decide +kernel
@[simp] theorem kit_tt : kitB "tuple" "tuple" = some true := by decide +kernel
@[simp] theorem kit_ts : kitB "tuple" "str" = some false := by decide +kernel
@[simp] theorem kit_tl : kitB "tuple" "list" = some false := by decide +kernel
@[simp] theorem kit_li : kitB "list" "int" = some false := by decide +kernel
@[simp] theorem kit_lb : kitB "list" "bool" = some false := by decide +kernel
@[simp] theorem kit_lt : kitB "list" "tuple" = some false := by decide +kernel
@[simp] theorem kit_ls : kitB "list" "str" = some false := by decide +kernel
@[simp] theorem kit_ll : kitB "list" "list" = some true := by decide +kernel
end
/-- it ends with a value, and this is so of it -/
def Ret {α : Type} (o : Out α) (P : α → Mem → Prop) : Prop := ∃ a M, o = .ok a M ∧ P a M
theorem Ret.ok {α : Type} {a : α} {M : Mem} {P : α → Mem → Prop} (h : P a M) : Ret (.ok a M) P := ⟨_, _, rfl, h⟩
theorem Ret.imp {α : Type} {o : Out α} {P Q : α → Mem → Prop} (h : Ret o P) (k : ∀ a M, P a M → Q a M) : Ret o Q := by
  obtain ⟨a, M, e, p⟩ := h
  exact ⟨a, M, e, k a M p⟩
theorem Ret.bind {α β : Type} {o : Out α} {f : α → Mem → Out β} {P : α → Mem → Prop} {Q : β → Mem → Prop} (h : Ret o P) (k : ∀ a M, P a M → Ret (f a M) Q) : Ret (o.bind f) Q := by
  obtain ⟨a, M, rfl, p⟩ := h
  exact k a M p
theorem atI_ok {α : Type} {xs : List α} {i : Int} (h0 : 0 ≤ i) (h1 : i < xs.length) : ∃ a, xs[i.toNat]? = some a ∧ atI xs i = some a := by
  have hl : i.toNat < xs.length := by omega
  refine ⟨xs[i.toNat], List.getElem?_eq_getElem hl, ?_⟩
  unfold atI ixN
  rw [if_pos h0, if_pos h1]
  exact List.getElem?_eq_getElem hl
theorem seqAt_lst {M : Mem} {n : Nat} {xs : List D} (h : M[n]? = some (.lst xs)) : seqAt M n = some xs := by unfold seqAt; rw [h]
@[simp] theorem atI_0 {α : Type} {a : α} {xs : List α} : atI (a :: xs) 0 = some a := by simp [atI, ixN]
theorem atI_lit {α : Type} {xs : List α} (k : Nat) {a : α} (h : xs[k]? = some a) : atI xs (k : Int) = some a := atI_nat h
@[simp] theorem atI_1 {α : Type} {a b : α} {xs : List α} : atI (a :: b :: xs) 1 = some b := atI_lit (xs := a :: b :: xs) 1 rfl
@[simp] theorem atI_2 {α : Type} {a b c : α} {xs : List α} : atI (a :: b :: c :: xs) 2 = some c := atI_lit (xs := a :: b :: c :: xs) 2 rfl
@[simp] theorem atI_3 {α : Type} {a b c d : α} {xs : List α} : atI (a :: b :: c :: d :: xs) 3 = some d := atI_lit (xs := a :: b :: c :: d :: xs) 3 rfl
@[simp] theorem atI_4 {α : Type} {a b c d e : α} {xs : List α} : atI (a :: b :: c :: d :: e :: xs) 4 = some e := atI_lit (xs := a :: b :: c :: d :: e :: xs) 4 rfl
@[simp] theorem atI_5 {α : Type} {a b c d e f : α} {xs : List α} : atI (a :: b :: c :: d :: e :: f :: xs) 5 = some f := atI_lit (xs := a :: b :: c :: d :: e :: f :: xs) 5 rfl
@[simp] theorem atI_6 {α : Type} {a b c d e f g : α} {xs : List α} : atI (a :: b :: c :: d :: e :: f :: g :: xs) 6 = some g := atI_lit (xs := a :: b :: c :: d :: e :: f :: g :: xs) 6 rfl
end TL
end
section
namespace TL
open PySem PySem.Spec PyProof.Rows L2
mutual
/-- no list in it, its texts are texts, at most n deep -/
def pureD : D → Nat → Bool
  | .non, _ => true
  | .bl _, _ => true
  | .int _, _ => true
  | .str x, _ => PyData.strOk x
  | .tup _, 0 => false
  | .tup xs, n + 1 => pureL xs n
  | .ref _, _ => false
  | .err _, _ => false
def pureL : List D → Nat → Bool
  | [], _ => true
  | x :: xs, n => pureD x n && pureL xs n
end
mutual
def pyD : D → PyData
  | .non => .none
  | .bl b => .bool b
  | .int i => .int i
  | .str x => .str x
  | .tup xs => .tuple (pyL xs)
  | .ref _ => .none
  | .err _ => .none
def pyL : List D → List PyData
  | [] => []
  | x :: xs => pyD x :: pyL xs
end
mutual
theorem toP_pure {M : Mem} : ∀ (d : D) (n : Nat), pureD d n = true → toP (n + 1) M d = some (pyD d)
  | .non, _, _ => rfl
  | .bl _, _, _ => rfl
  | .int _, _, _ => rfl
  | .str _, _, _ => rfl
  | .tup xs, 0, h => by simp [pureD] at h
  | .tup xs, n + 1, h => by
    have h' : pureL xs n = true := by simpa [pureD] using h
    show (optAll (toP (n + 1) M) xs).map PyData.tuple = _
    rw [toP_pureL xs n h']
    simp [pyD]
  | .ref _, _, h => by simp [pureD] at h
  | .err _, _, h => by simp [pureD] at h
theorem toP_pureL {M : Mem} : ∀ (ds : List D) (n : Nat), pureL ds n = true → optAll (toP (n + 1) M) ds = some (pyL ds)
  | [], _, _ => rfl
  | x :: xs, n, h => by
    have h' : pureD x n = true ∧ pureL xs n = true := by simpa [pureL] using h
    unfold optAll
    rw [toP_pure x n h'.1, toP_pureL xs n h'.2]
    simp [pyL]
end
mutual
theorem lay_pure : ∀ (d : D) (n : Nat), pureD d n = true → (pyD d).canLay0 = true ∧ (pyD d).depth ≤ n
  | .non, _, _ => by simp [pyD, PyData.canLay0, PyData.depth]
  | .bl _, _, _ => by simp [pyD, PyData.canLay0, PyData.depth]
  | .int _, _, _ => by simp [pyD, PyData.canLay0, PyData.depth]
  | .str x, _, h => by
    have h' : PyData.strOk x = true := by simpa [pureD] using h
    simp [pyD, PyData.canLay0, PyData.depth, h']
  | .tup xs, 0, h => by simp [pureD] at h
  | .tup xs, n + 1, h => by
    have h' : pureL xs n = true := by simpa [pureD] using h
    obtain ⟨h1, h2⟩ := lay_pureL xs n h'
    simp [pyD, PyData.canLay0, PyData.depth, h1, h2]
  | .ref _, _, h => by simp [pureD] at h
  | .err _, _, h => by simp [pureD] at h
theorem lay_pureL : ∀ (ds : List D) (n : Nat), pureL ds n = true → PyData.canLayAll0 (pyL ds) = true ∧ PyData.depthAll (pyL ds) ≤ n
  | [], _, _ => by simp [pyL, PyData.canLayAll0, PyData.depthAll]
  | x :: xs, n, h => by
    have h' : pureD x n = true ∧ pureL xs n = true := by simpa [pureL] using h
    obtain ⟨h1, h2⟩ := lay_pure x n h'.1
    obtain ⟨h3, h4⟩ := lay_pureL xs n h'.2
    simp [pyL, PyData.canLayAll0, PyData.depthAll, h1, h3]
    omega
end
theorem toP_mono {M : Mem} {f g : Nat} (h : f ≤ g) : ∀ {d : D} {p : PyData}, toP f M d = some p → toP g M d = some p := by
  induction f generalizing g with
  | zero => intro d p e; cases e
  | succ f ih =>
    intro d p e
    obtain ⟨g, rfl⟩ : ∃ k, g = k + 1 := ⟨g - 1, by omega⟩
    have ihL : ∀ {ds : List D} {ps : List PyData}, optAll (toP f M) ds = some ps → optAll (toP g M) ds = some ps := by
      intro ds
      induction ds with
      | nil => intro ps e; exact e
      | cons x xs ih2 =>
        intro ps e
        unfold optAll at e ⊢
        split at e
        · rename_i y ys h1 h2
          cases e
          rw [ih (by omega) h1, ih2 h2]
        · cases e
    cases d with
    | tup xs =>
      have e' : (optAll (toP f M) xs).map PyData.tuple = some p := e
      cases q : optAll (toP f M) xs with
      | none => rw [q] at e'; cases e'
      | some ps =>
        rw [q] at e'
        show (optAll (toP g M) xs).map PyData.tuple = some p
        rw [ihL q]; exact e'
    | ref n =>
      have e' : (match seqAt M n with | some xs => (optAll (toP f M) xs).map PyData.list | none => none) = some p := e
      show (match seqAt M n with | some xs => (optAll (toP g M) xs).map PyData.list | none => none) = some p
      cases q0 : seqAt M n with
      | none => rw [q0] at e'; cases e'
      | some xs =>
        simp only [q0] at e' ⊢
        cases q : optAll (toP f M) xs with
        | none => rw [q] at e'; cases e'
        | some ps => rw [q] at e'; rw [ihL q]; exact e'
    | _ => exact e
theorem shaped_pure {d : D} {n : Nat} (h : pureD d n = true) (hn : n ≤ 63) : SeqAt.shaped (pyD d) = true := by
  obtain ⟨h1, h2⟩ := lay_pure d n h
  unfold SeqAt.shaped
  rw [h1, Bool.true_and]
  exact decide_eq_true (by omega)
/-- == of data without memory -/
theorem eqD_pure {M : Mem} {a b : D} {n m : Nat} (ha : pureD a n = true) (hb : pureD b m = true) (hn : n ≤ 63) (hm : m ≤ 63) : eqD M a b = some (PyData.eqv (pyD a) (pyD b)) := by
  unfold eqD
  rw [toP_mono (by omega) (toP_pure (M := M) a n ha), toP_mono (by omega) (toP_pure (M := M) b m hb)]
  simp only [shaped_pure ha hn, shaped_pure hb hm, and_self, if_true]
theorem pure_mono : ∀ {d : D} {n m : Nat}, pureD d n = true → n ≤ m → pureD d m = true := by
  have h : ∀ d : D, ∀ n m, n ≤ m → pureD d n = true → pureD d m = true := by
    intro d
    refine D.rec (motive_1 := fun d => ∀ n m, n ≤ m → pureD d n = true → pureD d m = true) (motive_2 := fun ds => ∀ n m, n ≤ m → pureL ds n = true → pureL ds m = true) ?_ ?_ ?_ ?_ ?_ ?_ ?_ ?_ ?_ d
    · intros; simp [pureD]
    · intros; simp [pureD]
    · intros; simp [pureD]
    · intro x n m _ h; simpa [pureD] using h
    · intro xs ih n m hm h
      cases n with
      | zero => simp [pureD] at h
      | succ n =>
        cases m with
        | zero => omega
        | succ m =>
          have h' : pureL xs n = true := by simpa [pureD] using h
          have := ih n m (by omega) h'
          simpa [pureD] using this
    · intro n k m _ h; simp [pureD] at h
    · intro x k m _ h; simp [pureD] at h
    · intros; simp [pureL]
    · intro x xs ih1 ih2 n m hm h
      have h' : pureD x n = true ∧ pureL xs n = true := by simpa [pureL] using h
      simp [pureL, ih1 n m hm h'.1, ih2 n m hm h'.2]
  intro d n m h1 h2
  exact h d n m h2 h1
end TL
end
section
namespace TL
open PySem PySem.Spec PyProof.Rows L2
section
variable {α β : Type} {env : Env} {M : Mem} {o : Out α}
@[simp] theorem endS_thenS (f : α → Mem → SOut) : endS (thenS env o f) = o.bind fun a M => endS (f a M) := by cases o <;> rfl
@[simp] theorem nextS_thenS (f : α → Mem → SOut) (g : Env → Mem → SOut) : nextS (thenS env o f) g = thenS env o fun a M => nextS (f a M) g := by cases o <;> rfl
@[simp] theorem thenS_bind (f : α → Mem → Out β) (g : β → Mem → SOut) : thenS env (o.bind f) g = thenS env o fun a M => thenS env (f a M) g := by cases o <;> rfl
@[simp] theorem nextS_nextS (s : SOut) (f g : Env → Mem → SOut) : nextS (nextS s f) g = nextS s fun e M => nextS (f e M) g := by cases s <;> rfl
end
/-- all that stood stands -/
def Keep (M M' : Mem) : Prop := M.length ≤ M'.length ∧ ∀ n, n < M.length → M'[n]? = M[n]?
theorem Keep.refl (M : Mem) : Keep M M := ⟨Nat.le_refl _, fun _ _ => rfl⟩
theorem Keep.trans {M M1 M2 : Mem} (a : Keep M M1) (b : Keep M1 M2) : Keep M M2 := ⟨Nat.le_trans a.1 b.1, fun n h => (b.2 n (Nat.lt_of_lt_of_le h a.1)).trans (a.2 n h)⟩
theorem Keep.more (M G : Mem) : Keep M (M ++ G) := ⟨by simp, fun n h => List.getElem?_append_left h⟩
theorem Keep.at {M M' : Mem} (k : Keep M M') {n : Nat} {o : MO} (h : M[n]? = some o) : M'[n]? = some o := (k.2 n (List.getElem?_eq_some_iff.mp h).1).trans h
/-- the last one of a memory changes, all ahead stands -/
theorem Keep.setNew {M M' : Mem} {n : Nat} {o : MO} (k : Keep M M') (h : M.length ≤ n) : Keep M (M'.set n o) :=
  ⟨by rw [List.length_set]; exact k.1, fun m hm => by rw [List.getElem?_set_ne (by omega)]; exact k.2 m hm⟩
theorem at_len (M : Mem) (o : MO) : (M ++ [o])[M.length]? = some o := by simp
theorem lt_of_at {M : Mem} {n : Nat} {o : MO} (h : M[n]? = some o) : n < M.length := (List.getElem?_eq_some_iff.mp h).1
/-- what is walked over a tuple -/
@[simp] theorem srcOf_tup {M : Mem} {xs : List D} : srcOf M (.tup xs) = some ⟨xs, fun _ => True⟩ := rfl
@[simp] theorem srcOf_str {M : Mem} {x : Str} : srcOf M (.str x) = some ⟨strItems x, fun _ => True⟩ := rfl
theorem srcOf_ref {M : Mem} {n : Nat} {xs : List D} (h : seqAt M n = some xs) : srcOf M (.ref n) = some ⟨xs, fun M' => seqAt M' n = some xs⟩ := by
  show (seqAt M n).map _ = _
  rw [h]; rfl
theorem Keep.seq {M M' : Mem} (k : Keep M M') {n : Nat} {xs : List D} (h : seqAt M n = some xs) : seqAt M' n = some xs := by
  unfold seqAt at h ⊢
  cases q : M[n]? with
  | none => rw [q] at h; cases h
  | some o => rw [k.at q]; rw [q] at h; exact h
theorem forL_nil {good : Mem → Prop} {g : MG} {b : MS} {env : Env} {M : Mem} (h : good M) : forL good g b [] env M = .next env M := by unfold forL; rw [if_pos h]
theorem forL_cons {good : Mem → Prop} {g : MG} {b : MS} {d : D} {ds : List D} {env env1 : Env} {M : Mem} (h : good M) (hg : g d env = some env1) : forL good g b (d :: ds) env M = nextS (b env1 M) (forL good g b ds) := by
  conv => lhs; unfold forL
  rw [if_pos h, hg]
theorem compL_nil {good : Mem → Prop} {i n : Nat} {t : MT} {e : ME} {env : Env} {M : Mem} (h : good M) : compL good i t e n env [] M = .ok () M := by unfold compL; rw [if_pos h]
theorem compL_cons {good : Mem → Prop} {i n : Nat} {t : MT} {e : ME} {env : Env} {d : D} {ds : List D} {M : Mem} (h : good M) : compL good i t e n env (d :: ds) M = (t (env.set i (some d)) M).nox.bind fun k M1 => if k = true then (e (env.set i (some d)) M1).nox.bind fun y M2 => match M2[n]? with
        | some (.lst acc) => if acc.length < sizeLine then compL good i t e n env ds (M2.set n (.lst (acc ++ [y]))) else .stuck
        | _ => .stuck
      else compL good i t e n env ds M1 := by
  conv => lhs; unfold compL
  (rw [if_pos h]) <;> rfl
/-- a comprehension whose test and element leave the memory as it is: the items that are kept, each turned -/
theorem compL_pure {good : Mem → Prop} {i : Nat} {t : MT} {e : ME} {env : Env} {M : Mem} (p : D → Bool) (f : D → D) (hg : ∀ ys : List D, good (M ++ [.lst ys])) : ∀ (ds : List D) (acc : List D), acc.length + ds.length ≤ 1000000 →
    (∀ d ∈ ds, ∀ ys : List D, t (env.set i (some d)) (M ++ [.lst ys]) = .ok (p d) (M ++ [.lst ys]) ∧ (p d = true → e (env.set i (some d)) (M ++ [.lst ys]) = .ok (f d) (M ++ [.lst ys]))) →
    compL good i t e M.length env ds (M ++ [.lst acc]) = .ok () (M ++ [.lst (acc ++ (ds.filter p).map f)])
  | [], acc, _, _ => by rw [compL_nil (hg acc)]; simp
  | d :: ds, acc, hl, h => by
    obtain ⟨h1, h2⟩ := h d List.mem_cons_self acc
    rw [compL_cons (hg acc), h1]
    cases q : p d with
    | false =>
      simp only [Out.nox_ok, Out.bind_ok, Bool.false_eq_true, if_false]
      rw [compL_pure p f hg ds acc (by simp at hl; omega) fun d' hd => h d' (List.mem_cons_of_mem _ hd)]
      rw [List.filter_cons_of_neg (by rw [q]; simp)]
    | true =>
      simp only [Out.nox_ok, Out.bind_ok, if_true]
      rw [h2 q]
      simp only [Out.nox_ok, Out.bind_ok, at_len]
      rw [if_pos (by rw [sizeLine_eq]; simp at hl; omega)]
      have e1 : (M ++ [MO.lst acc]).set M.length (.lst (acc ++ [f d])) = M ++ [.lst (acc ++ [f d])] := by simp
      rw [e1, compL_pure p f hg ds (acc ++ [f d]) (by simp at hl ⊢; omega) fun d' hd => h d' (List.mem_cons_of_mem _ hd)]
      rw [List.filter_cons_of_pos q]
      simp
theorem eComp_pure {i : Nat} {s : MI} {t : MT} {e : ME} {env : Env} {M M1 : Mem} {src : Src} (p : D → Bool) (f : D → D) (hs : s env M = .ok src M1) (hg : ∀ ys : List D, src.good (M1 ++ [.lst ys])) (hl : src.items.length ≤ 1000000)
    (h : ∀ d ∈ src.items, ∀ ys : List D, t (env.set i (some d)) (M1 ++ [.lst ys]) = .ok (p d) (M1 ++ [.lst ys]) ∧ (p d = true → e (env.set i (some d)) (M1 ++ [.lst ys]) = .ok (f d) (M1 ++ [.lst ys]))) :
    eComp i s t e env M = .ok (.ref M1.length) (M1 ++ [.lst ((src.items.filter p).map f)]) := by
  show (s env M).bind _ = _
  rw [hs, Out.bind_ok, compL_pure p f hg src.items [] (by simpa using hl) h]
  simp
end TL
end
section
namespace TL
open PySem PySem.Spec PyProof.Rows L2
theorem toP_ref {M : Mem} {n k : Nat} {xs : List D} (h : seqAt M n = some xs) (hp : pureL xs k = true) : toP (k + 2) M (.ref n) = some (.list (pyL xs)) := by
  show (match seqAt M n with | some xs => (optAll (toP (k + 1) M) xs).map PyData.list | none => none) = _
  rw [h]
  simp only [toP_pureL xs k hp]
  rfl
theorem shaped_list {xs : List D} {k : Nat} (hp : pureL xs k = true) (hk : k ≤ 62) : SeqAt.shaped (.list (pyL xs)) = true := by
  obtain ⟨h1, h2⟩ := lay_pureL xs k hp
  unfold SeqAt.shaped
  have e : (PyData.list (pyL xs)).canLay0 = true := by simpa [PyData.canLay0] using h1
  rw [e, Bool.true_and]
  refine decide_eq_true ?_
  show PyData.depthAll (pyL xs) + 1 ≤ 64
  omega
theorem eqD_ref {M : Mem} {n m k j : Nat} {xs ys : List D} (h1 : seqAt M n = some xs) (h2 : seqAt M m = some ys) (p1 : pureL xs k = true) (p2 : pureL ys j = true) (hk : k ≤ 62) (hj : j ≤ 62) : eqD M (.ref n) (.ref m) = some (PyData.eqvAll (pyL xs) (pyL ys)) := by
  unfold eqD
  rw [toP_mono (by omega) (toP_ref h1 p1), toP_mono (by omega) (toP_ref h2 p2)]
  simp only [shaped_list p1 hk, shaped_list p2 hj, and_self, if_true, PyData.eqv]
theorem eqvAll_nil {xs : List D} : PyData.eqvAll (pyL xs) (pyL []) = xs.isEmpty := by cases xs <;> simp [pyL, PyData.eqvAll]
/-- xs == [], xs != [] -/
theorem mNe_nil {M : Mem} {n m k : Nat} {xs : List D} (h1 : seqAt M n = some xs) (h2 : seqAt M m = some []) (p1 : pureL xs k = true) (hk : k ≤ 62) : mNe (.ref n) (.ref m) M = some (.bl (!xs.isEmpty), M) := by
  rw [mNe_eq, eqD_ref h1 h2 p1 (show pureL [] 0 = true by simp [pureL]) hk (by omega), eqvAll_nil]; rfl
theorem mEq_nil {M : Mem} {n m k : Nat} {xs : List D} (h1 : seqAt M n = some xs) (h2 : seqAt M m = some []) (p1 : pureL xs k = true) (hk : k ≤ 62) : mEq (.ref n) (.ref m) M = some (.bl xs.isEmpty, M) := by
  rw [mEq_eq, eqD_ref h1 h2 p1 (show pureL [] 0 = true by simp [pureL]) hk (by omega), eqvAll_nil]; rfl
theorem mAppend_ok {M : Mem} {n : Nat} {xs : List D} {y : D} (h1 : M[n]? = some (.lst xs)) (hl : xs.length ≤ 1000000) : mAppend (.ref n) [y] M = some (.non, M.set n (.lst (xs ++ [y]))) := by
  show (match M[n]? with | some (.lst xs) => if xs.length < sizeLine then some (D.non, M.set n (.lst (xs ++ [y]))) else none | _ => none) = _
  rw [h1]
  exact if_pos (by rw [sizeLine_eq]; omega)
@[simp] theorem truD_bl {M : Mem} {b : Bool} : truD M (.bl b) = some b := rfl
@[simp] theorem truD_int {M : Mem} {i : Int} : truD M (.int i) = some (i != 0) := rfl
@[simp] theorem truD_non {M : Mem} : truD M .non = some false := rfl
@[simp] theorem mEq_non_int {M : Mem} {i : Int} : mEq .non (.int i) M = some (.bl false, M) := by
  rw [mEq_eq, eqD_pure (n := 0) (m := 0) (by simp [pureD]) (by simp [pureD]) (by decide) (by decide)]; simp [pyD, PyData.eqv]
@[simp] theorem mEq_int_non {M : Mem} {i : Int} : mEq (.int i) .non M = some (.bl false, M) := by
  rw [mEq_eq, eqD_pure (n := 0) (m := 0) (by simp [pureD]) (by simp [pureD]) (by decide) (by decide)]; simp [pyD, PyData.eqv]
@[simp] theorem mEq_bl {M : Mem} {b c : Bool} : mEq (.bl b) (.bl c) M = some (.bl (b == c), M) := by
  rw [mEq_eq, eqD_pure (n := 0) (m := 0) (by simp [pureD]) (by simp [pureD]) (by decide) (by decide)]; simp [pyD, PyData.eqv]
/-- texts are held against one another -/
theorem eqD_str {M : Mem} {x y : Str} : eqD M (.str x) (.str y) = some (decide (x = y)) := by
  unfold eqD
  show (if SeqAt.shaped (.str x) = true ∧ SeqAt.shaped (.str y) = true then some (PyData.eqv (.str x) (.str y)) else strEq (.str x) (.str y)) = _
  split
  · simp only [PyData.eqv]
    rfl
  · rfl
theorem mEq_text {M : Mem} {x y : Str} : mEq (.str x) (.str y) M = some (.bl (decide (x = y)), M) := by rw [mEq_eq, eqD_str]; rfl
end TL
end
section
namespace TL
open PySem PySem.Spec PyProof.Rows L2
theorem compL_keep {good : Mem → Prop} {i n : Nat} {t : MT} {e : ME} {env : Env} (p : D → Bool) (f : D → D) (M0 : Mem) (hg : ∀ M', Keep M0 M' → good M') (hn : M0.length ≤ n) : ∀ (ds acc : List D) (M : Mem), Keep M0 M → M[n]? = some (.lst acc) → acc.length + ds.length ≤ 1000000 →
    (∀ d ∈ ds, ∀ M', Keep M0 M' → ∃ M1, t (env.set i (some d)) M' = .ok (p d) M1 ∧ Keep M' M1 ∧ (p d = true → ∃ M2, e (env.set i (some d)) M1 = .ok (f d) M2 ∧ Keep M1 M2)) →
    ∃ M2, compL good i t e n env ds M = .ok () M2 ∧ Keep M0 M2 ∧ M2[n]? = some (.lst (acc ++ (ds.filter p).map f))
  | [], acc, M, k, ha, _, _ => ⟨M, compL_nil (hg M k), k, by simpa using ha⟩
  | d :: ds, acc, M, k, ha, hl, h => by
    obtain ⟨M1, e1, k1, h2⟩ := h d List.mem_cons_self M k
    rw [compL_cons (hg M k), e1]
    have k01 := k.trans k1
    cases q : p d with
    | false =>
      simp only [Out.nox_ok, Out.bind_ok, Bool.false_eq_true, if_false]
      obtain ⟨M2, e2, k2, a2⟩ := compL_keep p f M0 hg hn ds acc M1 k01 (k1.at ha) (by simp at hl; omega) fun d' hd => h d' (List.mem_cons_of_mem _ hd)
      exact ⟨M2, e2, k2, by rw [List.filter_cons_of_neg (by rw [q]; simp)]; exact a2⟩
    | true =>
      obtain ⟨M2, e2, k2⟩ := h2 q
      simp only [Out.nox_ok, Out.bind_ok, if_true, e2]
      have a2 := k2.at (k1.at ha)
      simp only [a2]
      rw [if_pos (by rw [sizeLine_eq]; simp at hl; omega)]
      obtain ⟨M3, e3, k3, a3⟩ := compL_keep p f M0 hg hn ds (acc ++ [f d]) (M2.set n (.lst (acc ++ [f d]))) ((k01.trans k2).setNew hn) (List.getElem?_set_self (lt_of_at a2)) (by simp at hl ⊢; omega) fun d' hd => h d' (List.mem_cons_of_mem _ hd)
      refine ⟨M3, e3, k3, ?_⟩
      rw [List.filter_cons_of_pos q]
      simpa using a3
theorem mem_rng {lo : Int} {n : Nat} {d : D} (h : d ∈ rngItems lo n) : ∃ k : Nat, k < n ∧ d = .int (lo + k) := by
  obtain ⟨k, hk, rfl⟩ := List.mem_map.mp h
  exact ⟨k, List.mem_range.mp hk, rfl⟩
theorem rng_length {lo : Int} {n : Nat} : (rngItems lo n).length = n := by simp [rngItems]
end TL
end
section
namespace TL
open PySem PySem.Spec PyProof.Rows L2
end TL
namespace TL
open PySem PySem.Spec PyProof.Rows L2
open Classical in
noncomputable def eTupRg1 (e : ME) : ME := fun env M => (e env M).bind fun d M1 => kInt d fun j => if RgOk 0 j then .ok (.tup (rngItems 0 j.toNat)) M1 else .stuck
open Classical in
noncomputable def eLstRg1 (e : ME) : ME := fun env M => (e env M).bind fun d M1 => kInt d fun j => if RgOk 0 j then .ok (.ref M1.length) (M1 ++ [.lst (rngItems 0 j.toNat)]) else .stuck
open Classical in
noncomputable def eTupRg2 (a b : ME) : ME := fun env M => (a env M).bind fun d M1 => (b env M1).bind fun d2 M2 => kInt d fun i => kInt d2 fun j => if RgOk i j then .ok (.tup (rngItems i (j - i).toNat)) M2 else .stuck
open Classical in
noncomputable def eLstRg2 (a b : ME) : ME := fun env M => (a env M).bind fun d M1 => (b env M1).bind fun d2 M2 => kInt d fun i => kInt d2 fun j => if RgOk i j then .ok (.ref M2.length) (M2 ++ [.lst (rngItems i (j - i).toNat)]) else .stuck
end TL
end
section
set_option maxHeartbeats 4000000
namespace TL
open PySem PySem.Spec PyProof.Rows L2
def sRaise (c : Str) : MS := fun env M => .exc ⟨c, none⟩ env M
/-- an own class without own __init__ -/
structure ExF (K : PySem.W.Frag) (mg : Str → Option Value) (c : Str) : Prop where
  g : mg c = some (.ref (He.ga K c))
  ex : PySem.W.excIn K (He.ga K c) He.veBase "ValueError.__new__" = true
  k : PySem.W.keepIn K (.ref (He.ga K c)) = true
  s : PySem.W.subIn K (.ref (He.ga K c)) (.type "BaseException") = some true
  t : PySem.W.typeIn K (.ref (He.ga K c)) = some (.type "type")
section
variable {X : Cx} {W : WX} {k : Nat} {c m : Str} {j : Nat} {p p2 pos pos2 : Pos}
theorem ds_raise (C : Ctx X W k) (F : ExF X.K X.mg c) (hg : Gl X c := by rfl) (hdb : (c == ("__debug__" : Str)) = false := by decide) :
    PS X (.Raise (some (.Call (.Name c p) [.Constant (.str m) j p2] [] pos)) none pos2) (LS X.K W (sRaise c)) :=
  (L2N.ps_raise C.calm C.tk (L2N.pmk_own PySem.F.excBase_ValueError F.ex F.g F.k (raises_own F.s F.t) hg hdb)).imp fun En σ H ⟨ι, env, M, S, R, h⟩ => h ι σ H _ _ Ext.refl S R ⟨rfl, .inl ⟨rfl, rfl⟩⟩
end
/-- where a suite stands: the exception at a is being handled, and is tracked as itself -/
abbrev Cx.suiteT (X : Cx) (a : Addr) (pn : List (Addr × Obj)) : Cx := { X with A := X.A.mark (some (.ref a)), calm := false, pn := pn, xe := fun _ _ => False }
theorem errO_ok {P : Program} {w : World} {H : Hp} {h : Heap} {a : Addr} {oe : Obj} (e : h.get? a = some oe) : ObjOk P w H h a (errO oe) := ⟨e, trivial, ⟨_, e⟩, fun _ _ _ _ => trivial⟩
section
variable {X : Cx} {pins : List (Addr × Obj)} {σ : L2.St} {H : Hp} {s : Shared}
/-- an untracked object, younger than the def's call, is tracked from now on as itself -/
theorem Inv.adopt (I : Inv X pins σ H s) {a : Addr} {oe : Obj} {vs : Array Value} (young : ∀ o, X.s_0.heap.get? a ≠ some o) (apart : ∀ p ∈ X.pn ++ pins, p.1 ≠ a) (ha : s.heap.get? a = some oe) (hd : oe.data = .fields vs) (na : H a = none) (frame : a ≠ X.env.locals) :
    Inv X pins σ (upd H a (errO oe)) s := by
  have other : ∀ {b : Addr} {o : HO}, H b = some o → upd H a (errO oe) b = some o := fun {b o} e => by rw [upd_ne (ne_of_none e na)]; exact e
  have off : ∀ {b : Addr}, b ≠ a → H b = none → upd H a (errO oe) b = none := fun hb e => by rw [upd_ne hb]; exact e
  exact
    { ok := I.ok, os := I.os, bare := I.bare, loc := I.loc, cell := I.cell, len := I.len
      base :=
        { keep := I.base.keep, slot := I.base.slot, there := I.base.there
          free := fun b o e n hx => off (fun z => young o (z ▸ e)) (I.base.free b o e n hx)
          tups := fun b xs e => other (I.base.tups b xs e)
          frzs := fun b o u e => other (I.base.frzs b o u e)
          tbls := fun b ps e => (I.base.tbls b ps e).imp fun _ z => other z }
      free := off (Ne.symm frame) I.free
      freeC := fun x c e => off (fun z => by
        obtain ⟨v, o, e1, e2⟩ := I.cell x c e
        rw [z, ha] at e1
        cases e1
        rw [hd] at e2
        cases e2) (I.freeC x c e)
      pin := fun p hp => ⟨(I.pin p hp).1, off (apart p hp) (I.pin p hp).2.1, (I.pin p hp).2.2⟩
      hok := fun b o e => by
        by_cases hb : b = a
        · subst hb
          rw [upd_same] at e
          cases e
          exact errO_ok ha
        · rw [upd_ne hb] at e
          exact (I.hok b o e).stay (fun _ _ _ q => q) (fun c hc => other hc) fun c xs hc => other hc }
/-- into the suite -/
theorem Inv.goSuite (I : Inv X pins σ H s) (a : Addr) : Inv (Cx.suiteT X a (X.pn ++ pins)) [] σ H s :=
  { ok := I.ok.suite a _, os := I.os, bare := I.bare, base := I.base, loc := I.loc, cell := I.cell, free := I.free, freeC := I.freeC, hok := I.hok, len := I.len
    pin := fun p hp => I.pin p (List.append_nil (X.pn ++ pins) ▸ hp) }
/-- out of the suite -/
theorem Inv.goOut {a : Addr} {pn' : List (Addr × Obj)} (ok : X.Ok) (I : Inv (Cx.suiteT X a (X.pn ++ pins)) pn' σ H s) : Inv X pins σ H s :=
  { ok := ok, os := I.os, bare := I.bare, base := I.base, loc := I.loc, cell := I.cell, free := I.free, freeC := I.freeC, hok := I.hok, len := I.len
    pin := fun p hp => I.pin p (List.mem_append.mpr (.inl hp)) }
end
/-- an exception has come down at a in the frame of X: what is so of the state, the record of its way in whatever form -/
structure Down (X : Cx) (pins : List (Addr × Obj)) (σ : L2.St) (H : Hp) (a : Addr) (cls : Value) (d : Option Addr) (B : Heap) (s : Shared) (h : Heap) : Prop where
  fl : HandSPX.FlyingZ B (X.env :: X.outer) a (L2N.Zn cls d) h
  inv : ∀ g, HandSPX.FlyingZ B (X.env :: X.outer) a (L2N.Zn cls d) g → h.UpToSlots g → Inv X pins σ H { s with heap := g }
  up : ∀ g, HandSPX.HeldZ B (X.env :: X.outer) a (L2N.Zn cls d) X.env.locals g → h.UpToSlots g → ∀ W : WX, W cls d σ H → L2N.XE X W (.ref a) { s with heap := g }
  free : H a = none
  young : ∀ o, X.s_0.heap.get? a ≠ some o
  apart : ∀ p ∈ X.pn ++ pins, p.1 ≠ a
  frame : a ≠ X.env.locals
section
variable {X : Cx} {pins : List (Addr × Obj)} {σ : L2.St} {H : Hp} {a : Addr} {cls : Value} {d : Option Addr} {B : Heap} {s : Shared} {h g : Heap}
theorem Down.move (D : Down X pins σ H a cls d B s h) (fl : HandSPX.FlyingZ B (X.env :: X.outer) a (L2N.Zn cls d) g) (u : h.UpToSlots g) : Down X pins σ H a cls d B s g :=
  { D with fl := fl, inv := fun g' f' u' => D.inv g' f' (u.trans u'), up := fun g' f' u' => D.up g' f' (u.trans u') }
theorem Down.here (D : Down X pins σ H a cls d B s h) : Inv X pins σ H { s with heap := h } := D.inv h D.fl (Heap.UpToSlots.refl h)
/-- the suite begins: the exception is tracked -/
theorem Down.suite (D : Down X pins σ H a cls d B s h) : ∃ oe : Obj, L2N.Zn cls d oe ∧ (∃ vs, oe.data = .fields vs) ∧ Inv (Cx.suiteT X a (X.pn ++ pins)) [] σ (upd H a (errO oe)) { s with heap := h } := by
  obtain ⟨oe, vs, at_, z, dt⟩ := D.fl.there
  exact ⟨oe, z, ⟨vs, dt⟩, Inv.goSuite (Inv.adopt D.here D.young D.apart at_ dt D.free D.frame) a⟩
/-- the clause's class is read -/
theorem Down.reads {x : Str} {c : Value} {np : Pos} (D : Down X pins σ H a cls d B s h) (hc : Names X x c) {Q : Value → Shared → Prop} {E : Value → Shared → Prop} (q : Q c { s with heap := h }) :
    wpAny (model X.prog X.w) (X.A.mark (some (.ref a))) (eval (.Name x np) X.env) Q E { s with heap := h } := by
  have I : Inv (Cx.suiteT X a (X.pn ++ pins)) [] σ H { s with heap := h } := Inv.goSuite D.here a
  obtain ⟨g, nd, m | ⟨m, v, nn⟩⟩ := hc
  · exact ld_glob I g m q nd
  · exact ld_blt I g m v q nn nd
/-- the clause's class is held against it -/
theorem Down.fits {c : Value} {b : Bool} (D : Down X pins σ H a cls d B s h) (e : PySem.W.exmOne X.K cls c = some b) : PySem.W.Looks (model X.prog X.w) h (excMatches (.ref a) c) b := by
  obtain ⟨oe, vs, at_, z, dt⟩ := D.fl.there
  refine PySem.W.exm_one D.here.kIn ?_ e
  intro A Q E s1 k q
  exact wpAny_typeOf_ref (k _ _ at_) (z.1 ▸ q)
/-- no clause takes it: it goes on -/
theorem Down.on {W : WX} {Q : Flow → Shared → Prop} (D : Down X pins σ H a cls d B s h) (hf : X.env.frame = some X.env.locals) (tk : L2N.Takes X W) (w : W cls d σ H) :
    wpAny (model X.prog X.w) X.A (handleBy (.ref a) X.env []) Q X.xe { s with heap := h } := by
  obtain ⟨_, _, _, oe, vs, T, _, _, at_, _, dt, v1, _⟩ := D.fl
  have last : wpAny (model X.prog X.w) X.A (setFlight (.ref a) X.env.frame) (fun _ t => wpAny (model X.prog X.w) X.A (throw (.ref a) : Sem Flow) Q X.xe t) X.xe { s with heap := h } := by
    rw [hf]
    exact HandSPX.setFlight_upZ D.fl fun g hg ug => wpAny_throw (tk _ _ (D.up g hg ug W w))
  apply wpAny_handleBy_nil
  show wpAny _ _ (PySem.passOn _ _ _) _ _ _
  unfold PySem.passOn
  apply wpAny_bind
  refine wpAny_field at_ dt v1 ?_
  rw [if_neg (by simp)]
  first
    | exact wpAny_bind last
    | exact wpAny_bind (wpAny_pure (wpAny_bind last))
end
/-- what was raised in the body of a try, where it is caught -/
theorem caught {X : Cx} {pins : List (Addr × Obj)} {W : WX} {u : Value} {s : Shared} {xe : Value → Shared → Prop} {Q : Unit → Shared → Prop} {E : Value → Shared → Prop} (ok : X.Ok) (hex : X.ex = []) (hs : X.stack = X.env :: X.outer) (hf : X.env.frame = some X.env.locals)
    (x : L2N.XE (X.tr (X.pn ++ pins) xe) W u s) (go : ∀ (a : Addr) (cls : Value) (d : Option Addr) (B : Heap) (σ : L2.St) (H : Hp) (h : Heap), u = .ref a → W cls d σ H → Down X pins σ H a cls d B s h → Q () { s with heap := h }) :
    wpAny (model X.prog X.w) X.A (noteFrame u X.env) (fun _ t => wpAny (model X.prog X.w) X.A (setFlight u none) Q E t) E s := by
  obtain ⟨a, B, s1, pn1, σ1, H1, cls, d, rfl, I1, ground, up1, sky, free, os1, bare1, w1⟩ := x
  have I : Inv X pins σ1 H1 s1 := I1.ofTry ok
  have fr : X.A.frames = some (X.env :: X.outer) := hs ▸ ok.frames
  have sk : Sky B (X.env :: X.outer) a (L2N.Zn cls d) X.env.locals s.heap := hs ▸ sky
  refine L2N.Sky.land L2N.Zn.steady fr hf sk fun h fl up2 => go a cls d B σ1 H1 h rfl w1 ?_
  have inv : ∀ g, HandSPX.FlyingZ B (X.env :: X.outer) a (L2N.Zn cls d) g → h.UpToSlots g → Inv X pins σ1 H1 { s with heap := g } := fun g fg ug => I.landed ground fg.1 ((up1.trans up2).trans ug) os1 bare1
  obtain ⟨oe, vs, at_, _, dt⟩ := fl.there
  have noFrame : a ∉ frs (X.env :: X.outer) := by
    intro m
    obtain ⟨_, o, e, nf⟩ := fl.2.2.1.mem m
    rw [at_] at e
    cases e
    exact nf _ dt
  have nL : a ≠ X.env.locals := fun z => noFrame (List.mem_filterMap.mpr ⟨X.env, List.mem_cons_self, z ▸ hf⟩)
  have old : ∀ b o, s1.heap.get? b = some o → b ∉ frs (X.env :: X.outer) → b ≠ a := by
    intro b o e nb z
    have e2 := ground b o e (hs ▸ nb)
    rw [z, fl.2.1] at e2
    cases e2
  refine { fl := fl, inv := inv, free := free, frame := nL, up := fun g fg ug V v => ?_, young := fun o e => ?_, apart := fun p hp => ?_ }
  · exact ⟨a, B, s1, pins, σ1, H1, cls, d, rfl, I, ground, (up1.trans up2).trans ug, .inr (.inr (hs ▸ fg)), free, os1, bare1, v⟩
  · obtain ⟨o1, e1⟩ := I.base.there a o e (hex ▸ List.not_mem_nil)
    exact old a o1 e1 noFrame rfl
  · obtain ⟨e1, _, n1, n2, _⟩ := I.pin p hp
    refine old p.1 p.2 e1 fun m => ?_
    exact (List.mem_cons.mp (I.stkSub p.1 (hs ▸ m))).elim n1 n2
/-- a clause: its class, its slot, its suite -/
structure Hd where
  c : Value
  slot : Option Nat
  ts : TS
def setO (σ : L2.St) (i : Option Nat) (v : Option V) : L2.St := match i with
  | some i => σ.set i v
  | none => σ
/-- behind a suite its name goes -/
def goneD (D : Ends) (i : Option Nat) : Ends := { nx := fun σ H => D.nx (setO σ i none) H, rt := D.rt, bk := fun σ H => D.bk (setO σ i none) H, ct := fun σ H => D.ct (setO σ i none) H }
def wHds (K : PySem.W.Frag) (Wout : WX) (D : Ends) : List Hd → WX
  | [] => Wout
  | hd :: r => fun cls d σ H => ∃ b, PySem.W.exmOne K cls hd.c = some b ∧
    (b = true → ∀ (a : Addr) (oe : Obj), H a = none → Zc cls d oe → (∃ vs, oe.data = .fields vs) → hd.ts (goneD D hd.slot) (setO σ hd.slot (some (.ref a))) (upd H a (errO oe))) ∧
    (b = false → wHds K Wout D r cls d σ H)
inductive HdsT (X : Cx) : List ExceptHandler → List Hd → Prop
  | nil : HdsT X [] []
  | one {x : Str} {c : Value} {ts : TS} {b0 : Stmt} {su : List Stmt} {np pos' : Pos} {hds : List ExceptHandler} {l : List Hd} (hc : Names X x c)
      (hsu : ∀ (a : Addr) (pn : List (Addr × Obj)), PSs (Cx.suiteT X a pn) (b0 :: su) ts) (r : HdsT X hds l) :
      HdsT X (.ExceptHandler (some (.Name x np)) none (b0 :: su) pos' :: hds) (⟨c, none, ts⟩ :: l)
  | as {x n : Str} {i : Nat} {c : Value} {ts : TS} {b0 : Stmt} {su : List Stmt} {np pos' : Pos} {hds : List ExceptHandler} {l : List Hd} (hc : Names X x c) (hi : X.N[i]? = some n) (hln : X.env.kindOf n = some .local)
      (hsu : ∀ (a : Addr) (pn : List (Addr × Obj)), PSs (Cx.suiteT X a pn) (b0 :: su) ts) (r : HdsT X hds l) :
      HdsT X (.ExceptHandler (some (.Name x np)) (some n) (b0 :: su) pos' :: hds) (⟨c, some i, ts⟩ :: l)
section
variable {X : Cx} {pins : List (Addr × Obj)} {D : Ends}
/-- how a suite's end is the try's end, where nothing is to be undone -/
theorem end_plain {a : Addr} {f : Flow} {s : Shared} (ok : X.Ok) (e : SP (Cx.suiteT X a (X.pn ++ pins)) [] (goneD D none) f s) : SP X pins D f s := by
  cases f with
  | ret u => exact e.imp fun _ e => e.imp fun _ e => e.imp fun _ e => ⟨Inv.goOut ok e.1, e.2⟩
  | next => exact e.imp fun _ e => e.imp fun _ e => ⟨Inv.goOut ok e.1, e.2⟩
  | brk => exact e.imp fun _ e => e.imp fun _ e => ⟨Inv.goOut ok e.1, e.2⟩
  | cont => exact e.imp fun _ e => e.imp fun _ e => ⟨Inv.goOut ok e.1, e.2⟩
/-- .. where the name goes -/
theorem end_named {a : Addr} {i : Nat} {n : Str} {pos : Pos} {f : Flow} {s : Shared} {E : Value → Shared → Prop} (ok : X.Ok) (hN : X.N.Nodup) (hi : X.N[i]? = some n) (hln : X.env.kindOf n = some .local)
    (e : SP (Cx.suiteT X a (X.pn ++ pins)) [] (goneD D (some i)) f s) : wpAny (model X.prog X.w) X.A (do bindName X.env n .none; unbindBehindTheSuite X.env n pos) (fun _ t => SP X pins D f t) E s := by
  cases f with
  | ret u =>
    obtain ⟨v, σ, H, I, r, q⟩ := e
    exact gone_ok (Inv.goOut ok I) hN hi hln fun t J => ⟨v, _, H, J, r, q⟩
  | next =>
    obtain ⟨σ, H, I, q⟩ := e
    exact gone_ok (Inv.goOut ok I) hN hi hln fun t J => ⟨_, H, J, q⟩
  | brk =>
    obtain ⟨σ, H, I, q⟩ := e
    exact gone_ok (Inv.goOut ok I) hN hi hln fun t J => ⟨_, H, J, q⟩
  | cont =>
    obtain ⟨σ, H, I, q⟩ := e
    exact gone_ok (Inv.goOut ok I) hN hi hln fun t J => ⟨_, H, J, q⟩
/-- the clauses, one after the other -/
theorem clauses {Wout : WX} {σ : L2.St} {H : Hp} {a : Addr} {cls : Value} {d : Option Addr} {B : Heap} {s : Shared} {h : Heap} (ok : X.Ok) (hf : X.env.frame = some X.env.locals) (hN : X.N.Nodup) (tk : L2N.Takes X Wout) (Dn : Down X pins σ H a cls d B s h) :
    ∀ {hds : List ExceptHandler} {l : List Hd}, HdsT X hds l → wHds X.K Wout D l cls d σ H → wpAny (model X.prog X.w) X.A (handleBy (.ref a) X.env hds) (SP X pins D) X.xe { s with heap := h }
  | _, _, .nil, w => Dn.on hf tk w
  | _, _, .one hc hsu r, ⟨b, e, yes, no⟩ => by
    apply wpAny_handleBy_cons (h := codeAny_handlers_test (Dn.reads hc ((Dn.fits e).here ?_)))
    · exact fun q => by cases q
    cases b with
    | false => exact clauses ok hf hN tk Dn r (no rfl)
    | true =>
      apply codeAny_handlers_suite
      refine HandSPX.lands_againZ Dn.fl fun g fg ug => ?_
      obtain ⟨oe, z, dt, I⟩ := (Dn.move fg ug).suite
      exact wpAny_mono ((hsu a _).run _ _ _ _ _ I (yes rfl a oe Dn.free z.zc dt)) (fun f t e => end_plain ok e) fun _ _ z => z.elim
  | _, _, .as hc hi hln hsu r, ⟨b, e, yes, no⟩ => by
    apply wpAny_handleBy_cons (h := codeAny_handlers_test (Dn.reads hc ((Dn.fits e).here ?_)))
    · exact fun q => by cases q
    cases b with
    | false => exact clauses ok hf hN tk Dn r (no rfl)
    | true =>
      apply codeAny_handlers_suite_as
      refine HandSPX.lands_againZ Dn.fl fun g fg ug => ?_
      obtain ⟨oe, z, dt, I⟩ := (Dn.move fg ug).suite
      refine store_ok (X := Cx.suiteT X a (X.pn ++ pins)) (v := .ref a) I hN hi (.inl hln) rfl (fun t J => ?_) (.inr hln)
      exact wpAny_mono ((hsu a _).run _ _ _ _ _ J (yes rfl a oe Dn.free z.zc dt)) (fun f t e => end_named ok hN hi hln e) fun _ _ z => z.elim
end
section
variable {X : Cx} {body : List Stmt} {h0 : ExceptHandler} {hds : List ExceptHandler} {l : List Hd} {pos : Pos} {tb : WX → TS} {Wout : WX}
theorem ps_tryT (hex : X.ex = []) (hs : X.stack = X.env :: X.outer) (hf : X.env.frame = some X.env.locals) (hN : X.N.Nodup) (tk : L2N.Takes X Wout)
    (hb : ∀ (W : WX) (pn : List (Addr × Obj)) (xe : Value → Shared → Prop), L2N.Takes (X.tr pn xe) W → PassesOwn (model X.prog X.w) X.A X.env xe → PSs (X.tr pn xe) body (tb W))
    (hh : HdsT X (h0 :: hds) l) : PS X (.Try body (h0 :: hds) [] [] pos) (fun D σ H => tb (wHds X.K Wout D l) D σ H) := by
  constructor
  intro pins s σ H D I h
  apply wpAny_Try_except
  have B := hb (wHds X.K Wout D l) (X.pn ++ pins) (fun e s1 => wpAny (model X.prog X.w) X.A (noteFrame e X.env) (fun _ s2 => wpAny (model X.prog X.w) X.A (setFlight e none)
    (fun _ s3 => wpAny (model X.prog X.w) X.A (handleBy e X.env (h0 :: hds)) (SP X pins D) X.xe s3) X.xe s2) X.xe s1)
    (fun u t x => caught I.ok hex hs hf x fun a cls d B σ1 H1 g eu w Dn => by subst eu; exact clauses I.ok hf hN tk Dn hh w) PassesOwn.looking
  refine wpAny_mono (B.run [] s σ H D (I.toTry _) h) (fun f t e => ?_) fun _ _ z => z
  cases f with
  | ret u => exact e.imp fun _ e => e.imp fun _ e => e.imp fun _ e => ⟨e.1.ofTry I.ok, e.2⟩
  | next => exact wpAny_execs_nil (e.imp fun _ e => e.imp fun _ e => ⟨e.1.ofTry I.ok, e.2⟩)
  | brk => exact e.imp fun _ e => e.imp fun _ e => ⟨e.1.ofTry I.ok, e.2⟩
  | cont => exact e.imp fun _ e => e.imp fun _ e => ⟨e.1.ofTry I.ok, e.2⟩
end
/-- own exception classes: all stand right under ScoreError -/
def subX (c C : Str) : Bool := c == C || (C == "ScoreError" || C == "ValueError")
def setE (env : TL.Env) (i : Option Nat) (d : Option D) : TL.Env := match i with
  | some i => env.set i d
  | none => env
def undoS (i : Option Nat) : SOut → SOut
  | .next env M => .next (setE env i none) M
  | .ret d M => .ret d M
  | _ => .stuck
structure HdM where
  C : Str
  slot : Option Nat
  m : MS
def hdsRun (x : Ex) : List HdM → MS
  | [] => fun env M => .exc x env M
  | h :: r => fun env M => if subX x.cls h.C = true then undoS h.slot (h.m (setE env h.slot (some (.err x))) M) else hdsRun x r env M
def sTry (cl : List Str) (b : MS) (hs : List HdM) : MS := fun env M => match b env M with
  | .exc x env1 M1 => if x.cls ∈ cl then hdsRun x hs env1 M1 else .stuck
  | o => o
/-- what is known of the classes -/
def ExSub (K : PySem.W.Frag) (cl hl : List Str) : Prop := ∀ c ∈ cl, ∀ C ∈ hl, PySem.W.exmOne K (.ref (He.ga K c)) (.ref (He.ga K C)) = some (subX c C)
/-- the context of a suite, or of a def called from one -/
structure CtxH (X : Cx) (W : WX) (k : Nat) : Prop where
  nd : X.N.Nodup
  room : L2H.RoomH k X.A
  tk : L2N.Takes X W
theorem CtxH.hu {X : Cx} {W : WX} {k : Nat} (C : CtxH X W k) : X.A.units + 64 < cLine := by have := C.room.un; omega
inductive HdsM (X : Cx) (cl : List Str) : List ExceptHandler → List HdM → Prop
  | nil : HdsM X cl [] []
  | one {x : Str} {m : MS} {b₀ : Stmt} {suite : List Stmt} {np pos' : Pos} {hds : List ExceptHandler} {l : List HdM} (hg : Gl X x) (hdb : (x == ("__debug__" : Str)) = false) (hm : X.mg x = some (.ref (He.ga X.K x))) (hsub : ∀ c ∈ cl, PySem.W.exmOne X.K (.ref (He.ga X.K c)) (.ref (He.ga X.K x)) = some (subX c x))
      (hsu : ∀ (a : Addr) (pn : List (Addr × Obj)), PSs (Cx.suiteT X a pn) (b₀ :: suite) (LS X.K W0 m)) (r : HdsM X cl hds l) :
      HdsM X cl (.ExceptHandler (some (.Name x np)) none (b₀ :: suite) pos' :: hds) (⟨x, none, m⟩ :: l)
  | as {x n : Str} {i : Nat} {m : MS} {b₀ : Stmt} {suite : List Stmt} {np pos' : Pos} {hds : List ExceptHandler} {l : List HdM} (hg : Gl X x) (hdb : (x == ("__debug__" : Str)) = false) (hm : X.mg x = some (.ref (He.ga X.K x))) (hsub : ∀ c ∈ cl, PySem.W.exmOne X.K (.ref (He.ga X.K c)) (.ref (He.ga X.K x)) = some (subX c x))
      (hi : X.N[i]? = some n) (hln : X.env.kindOf n = some .local)
      (hsu : ∀ (a : Addr) (pn : List (Addr × Obj)), PSs (Cx.suiteT X a pn) (b₀ :: suite) (LS X.K W0 m)) (r : HdsM X cl hds l) :
      HdsM X cl (.ExceptHandler (some (.Name x np)) (some n) (b₀ :: suite) pos' :: hds) (⟨x, some i, m⟩ :: l)
def HdM.hd (K : PySem.W.Frag) (h : HdM) : Hd := ⟨.ref (He.ga K h.C), h.slot, LS K W0 h.m⟩
theorem HdsM.hds {X : Cx} {cl : List Str} : ∀ {hs : List ExceptHandler} {l : List HdM}, HdsM X cl hs l → HdsT X hs (l.map (HdM.hd X.K))
  | _, _, .nil => .nil
  | _, _, .one hg hdb hm _ hsu r => .one ⟨hg, hdb, .inl hm⟩ hsu r.hds
  | _, _, .as hg hdb hm _ hi hln hsu r => .as ⟨hg, hdb, .inl hm⟩ hi hln hsu r.hds
theorem HdsM.sub {X : Cx} {cl : List Str} : ∀ {hs : List ExceptHandler} {l : List HdM}, HdsM X cl hs l → ∀ h ∈ l, ∀ c ∈ cl, PySem.W.exmOne X.K (.ref (He.ga X.K c)) (.ref (He.ga X.K h.C)) = some (subX c h.C)
  | _, _, .nil, h, hh => nomatch hh
  | _, _, .one hg hdb hm hs hsu r, h, hh => by
    rcases List.mem_cons.mp hh with rfl | hh
    · exact hs
    · exact r.sub h hh
  | _, _, .as hg hdb hm hs hi hln hsu r, h, hh => by
    rcases List.mem_cons.mp hh with rfl | hh
    · exact hs
    · exact r.sub h hh
section
variable {K : PySem.W.Frag} {W : WX} {En : Ends}
theorem EnvR.setO {ι : List Addr} {H : Hp} {d : D} {v : V} (r : Rp K ι H d v) {env : TL.Env} {σ : L2.St} (R : EnvR K ι H env σ) (i : Option Nat) : EnvR K ι H (setE env i (some d)) (TL.setO σ i (some v)) := by
  cases i with
  | none => exact R
  | some i => exact R.set r i
theorem EnvR.unsetO {ι : List Addr} {H : Hp} {env : TL.Env} {σ : L2.St} (R : EnvR K ι H env σ) (i : Option Nat) : EnvR K ι H (setE env i none) (TL.setO σ i none) := by
  cases i with
  | none => exact R
  | some i => exact R.unset i
theorem wHds_of {x : Ex} {cl : List Str} (hx : x.cls ∈ cl) {cls : Value} {dx : Option Addr} {ι : List Addr} {σ : L2.St} {H : Hp} {env : TL.Env} {M : Mem} (S : SR K ι H M) (R : EnvR K ι H env σ) (ex : ExR K ι x cls dx H) :
    ∀ {l : List HdM}, (∀ h ∈ l, ∀ c ∈ cl, PySem.W.exmOne K (.ref (He.ga K c)) (.ref (He.ga K h.C)) = some (subX c h.C)) → SOutP K W ι H (hdsRun x l env M) En → wHds K W En (l.map (HdM.hd K)) cls dx σ H
  | [], _, h => h ι σ H cls dx Ext.refl S R ex
  | hd :: l, hs, h => by
    obtain ⟨ec, ed⟩ := ex
    have h0 : SOutP K W ι H (if subX x.cls hd.C = true then undoS hd.slot (hd.m (setE env hd.slot (some (.err x))) M) else hdsRun x l env M) En := h
    refine ⟨subX x.cls hd.C, by rw [ec]; exact hs hd List.mem_cons_self _ hx, fun hb a oe na hz hv => ?_, fun hb => ?_⟩
    · rw [if_pos hb] at h0
      obtain ⟨vs, hv⟩ := hv
      have e1 : Ext K ι H ι (upd H a (errO oe)) := Ext.new na
      have h1 := SOutP.ext e1 h0
      have er : ErrAt K (upd H a (errO oe)) a x := by
        refine ⟨oe, vs, upd_same, hz.1.trans ec, hv, rfl, ?_⟩
        rw [hz.2]
        rcases ed with ed | ⟨i, d, e1, e2, e3⟩
        · exact .inl ed
        · exact .inr ⟨i, d, e1, e2, by rw [upd_ne (ne_of_none e3 na)]; exact e3⟩
      refine ⟨ι, _, M, S.new na, (R.ext e1).setO (.err er) hd.slot, ?_⟩
      revert h1
      cases hd.m (setE env hd.slot (some (.err x))) M with
      | next env2 M2 => exact fun h1 ι2 σ2 H2 e2 S2 R2 => h1 ι2 _ H2 e2 S2 (R2.unsetO hd.slot)
      | ret d M2 => exact fun h1 => h1
      | exc y env2 M2 => exact fun h1 => h1.elim
      | stuck => exact fun h1 => h1
    · rw [if_neg (by rw [hb]; exact Bool.false_ne_true)] at h0
      exact wHds_of hx S R ⟨ec, ed⟩ (fun h hh => hs h (List.mem_cons_of_mem _ hh)) h0
end
section
variable {X : Cx} {W : WX} {k : Nat} {body : List Stmt} {h₀ : ExceptHandler} {hds : List ExceptHandler} {l : List HdM} {cl : List Str} {mb : MS} {pos : Pos}
theorem Ctx.tr {X : Cx} {W : WX} {k : Nat} (C : Ctx X W k) {W' : WX} {pn : List (Addr × Obj)} {xe : Value → Shared → Prop} (tk : L2N.Takes (X.tr pn xe) W') (ps : PassesOwn (model X.prog X.w) X.A X.env xe) : Ctx (X.tr pn xe) W' k :=
  ⟨C.calm, C.nd, C.room, tk, ps⟩
theorem ds_try (C : Ctx X W k) (hb : ∀ (W' : WX) (pn : List (Addr × Obj)) (xe : Value → Shared → Prop), Ctx (X.tr pn xe) W' k → PSs (X.tr pn xe) body (LS X.K W' mb)) (hh : HdsM X cl (h₀ :: hds) l)
    (hex : X.ex = [] := by rfl) (hs : X.stack = X.env :: X.outer := by rfl) (hf : X.env.frame = some X.env.locals := by rfl) : PS X (.Try body (h₀ :: hds) [] [] pos) (LS X.K W (sTry cl mb l)) :=
  (ps_tryT hex hs hf C.nd C.tk (tb := fun W' => LS X.K W' mb) (fun W' pn xe tk ps => hb W' pn xe (C.tr tk ps)) hh.hds).imp fun En σ H ⟨ι, env, M, S, R, h⟩ => ⟨ι, env, M, S, R, by
    unfold sTry at h
    revert h
    cases mb env M with
    | next env1 M1 => exact fun h => h
    | ret d M1 => exact fun h => h
    | stuck => exact fun h => h
    | exc x env1 M1 =>
      intro h ι1 σ1 H1 cls dx e1 S1 R1 ex
      have h0 : SOutP X.K W ι H (if x.cls ∈ cl then hdsRun x l env1 M1 else .stuck) En := h
      by_cases hx : x.cls ∈ cl
      · rw [if_pos hx] at h0
        exact wHds_of hx S1 R1 ex hh.sub (SOutP.ext e1 h0)
      · rw [if_neg hx] at h0
        exact h0.elim⟩
end
end TL
end
section
set_option maxHeartbeats 4000000
namespace TL
open PySem PySem.Spec PyProof.Rows L2
/-- what a class says, so that isinstance and fields of its instances go the usual way -/
def isCB (K : PySem.W.Frag) (c : Str) : Bool :=
  He.eqO (PySem.W.findIn K (.ref (He.ga K c)) "__class__") (some (some (.builtin "object.__class__"))) && (xfB K (He.ga K c) &&
    (decide (PySem.W.mroIn K (He.ga K c) (.type "object") = some true) && (He.eqO (PySem.W.specialIn K (.builtin "object.__class__") "__get__") (some (some (.builtin "getset_descriptor.__get__"))) && decide (PySem.W.takesIn K (.builtin "object.__class__") = some true))))
structure IsC (K : PySem.W.Frag) (C : Addr) : Prop where
  x : XfC K C
  cl : PySem.W.findIn K (.ref C) "__class__" = some (some (.builtin "object.__class__"))
  mro : PySem.W.mroIn K C (.type "object") = some true
  get : PySem.W.specialIn K (.builtin "object.__class__") "__get__" = some (some (.builtin "getset_descriptor.__get__"))
  take : PySem.W.takesIn K (.builtin "object.__class__") = some true
theorem isCB_ok {K : PySem.W.Frag} {c : Str} (h : isCB K c = true) : IsC K (He.ga K c) := by
  obtain ⟨h1, h⟩ := He.ba h
  obtain ⟨h2, h⟩ := He.ba h
  obtain ⟨h3, h⟩ := He.ba h
  obtain ⟨h4, h5⟩ := He.ba h
  exact ⟨xfB_ok h2, He.eqO_ok h1, of_decide_eq_true h3, He.eqO_ok h4, of_decide_eq_true h5⟩
theorem IsC.kit {K : PySem.W.Frag} {C x : Addr} {ox : Obj} {od : Option Obj} (T : IsC K C) : PySem.W.KitX K (.ref x) (.ref C) (fun h => PySem.W.InstAt h x ox C od) :=
  PySem.W.kitx_exc (by obtain ⟨cd, hc, _⟩ := PySem.W.any_some T.x.hdC; rw [hc]; rfl) T.x.ga T.x.gg T.x.exC T.cl T.get T.take T.mro
/-- the classes cl, held against the classes hl and ValueError -/
def isTB (K : PySem.W.Frag) (cl hl : List Str) : Bool := cl.all fun c => isCB K c && (decide (PySem.W.kitOne K (.ref (He.ga K c)) (.type "ValueError") = some true) && hl.all fun C => decide (PySem.W.kitOne K (.ref (He.ga K c)) (.ref (He.ga K C)) = some (subX c C)))
structure IsT (K : PySem.W.Frag) (cl hl : List Str) : Prop where
  c : ∀ c ∈ cl, IsC K (He.ga K c)
  v : ∀ c ∈ cl, PySem.W.kitOne K (.ref (He.ga K c)) (.type "ValueError") = some true
  h : ∀ c ∈ cl, ∀ C ∈ hl, PySem.W.kitOne K (.ref (He.ga K c)) (.ref (He.ga K C)) = some (subX c C)
theorem isTB_ok {K : PySem.W.Frag} {cl hl : List Str} (h : isTB K cl hl = true) : IsT K cl hl := by
  have h' := fun c hc => He.ba (List.all_eq_true.mp h c hc)
  exact ⟨fun c hc => isCB_ok (h' c hc).1, fun c hc => of_decide_eq_true (He.ba (h' c hc).2).1, fun c hc C hC => of_decide_eq_true (List.all_eq_true.mp (He.ba (h' c hc).2).2 C hC)⟩
/-- .. held by except clauses -/
def exSubB (K : PySem.W.Frag) (cl hl : List Str) : Bool := cl.all fun c => hl.all fun C => decide (PySem.W.exmOne K (.ref (He.ga K c)) (.ref (He.ga K C)) = some (subX c C))
theorem exSubB_ok {K : PySem.W.Frag} {cl hl : List Str} (h : exSubB K cl hl = true) : ExSub K cl hl := fun c hc C hC => of_decide_eq_true (List.all_eq_true.mp (List.all_eq_true.mp h c hc) C hC)
theorem ExSub.of {K : PySem.W.Frag} {cl hl : List Str} (h : ExSub K cl hl) {C : Str} (hC : C ∈ hl) : ∀ c ∈ cl, PySem.W.exmOne K (.ref (He.ga K c)) (.ref (He.ga K C)) = some (subX c C) := fun c hc => h c hc C hC
section
variable {X : Cx} {W : WX} {pins : List (Addr × Obj)} {σ : L2.St} {H : Hp} {s : Shared}
theorem err_inst (I : L2.Inv X pins σ H s) {a : Addr} {x : Ex} (h : ErrAt X.K H a x) : ∃ oe od, PySem.W.InstAt s.heap a oe (He.ga X.K x.cls) od := by
  obtain ⟨oe, vs, h1, h2, h3, h4, h5⟩ := h
  have h6 : s.heap.get? a = some oe := (I.hok a _ h1).1
  have no : PySem.W.notCls oe = true := by unfold PySem.W.notCls; rw [h3]
  rcases h5 with ⟨_, h5⟩ | ⟨i, d, _, h5, h7⟩
  · exact ⟨oe, none, ⟨h6, h2, no, by rw [h5]; trivial⟩⟩
  · obtain ⟨mA, hns, _⟩ := (show ObjOk X.prog X.w H s.heap d (.xd _) from I.hok d _ h7)
    obtain ⟨od, ho, _⟩ := lookIn_ns hns
    exact ⟨oe, some od, ⟨h6, h2, no, by rw [h5]; exact ho⟩⟩
/-- the classes asked for: own ones by name, ValueError -/
def clsV (K : PySem.W.Frag) (C : Str) : V := if C = "ValueError" then .ty "ValueError" else .ref (He.ga K C)
def clsU (K : PySem.W.Frag) (C : Str) : Value := if C = "ValueError" then .type "ValueError" else .ref (He.ga K C)
theorem cls_rel {K : PySem.W.Frag} {C : Str} {u : Value} (r : RelV (clsV K C) u) : u = clsU K C := by
  unfold clsV at r
  unfold clsU
  by_cases h : C = "ValueError"
  · rw [if_pos h] at r ⊢; exact r
  · rw [if_neg h] at r ⊢; exact r
theorem IsT.one {K : PySem.W.Frag} {cl hl : List Str} (T : IsT K cl hl) {c C : Str} (hc : c ∈ cl) (hC : C = "ValueError" ∨ C ∈ hl) : PySem.W.kitOne K (.ref (He.ga K c)) (clsU K C) = some (subX c C) := by
  unfold clsU
  by_cases h : C = "ValueError"
  · rw [if_pos h, T.v c hc, h]; simp [subX]
  · rw [if_neg h]; exact T.h c hc C (hC.resolve_left h)
def rErr (K : PySem.W.Frag) (cl : List Str) (C : Str) : List V → Hp → VK → Prop := fun xs H Q => ∃ (a : Addr) (x : Ex), xs = [.ref a, clsV K C] ∧ ErrAt K H a x ∧ x.cls ∈ cl ∧ Q (.bl (subX x.cls C)) H
theorem c_isErr {cl hl : List Str} (T : IsT X.K cl hl) {C : Str} (hC : C = "ValueError" ∨ C ∈ hl) : CallR X (.builtin "isinstance") (rErr X.K cl C) := by
  intro pins s σ H xs us Q I r h
  obtain ⟨a, x, rfl, he, hc, q⟩ := h
  obtain ⟨u1, u2, rfl, r1, r2⟩ := vals2 r
  obtain rfl : u1 = Value.ref a := r1
  obtain rfl := cls_rel r2
  obtain ⟨oe, od, J⟩ := err_inst I he
  exact PySem.W.kia_one (T.c _ hc).kit I.kIn J (T.one hc hC) (fun z => nomatch z) fun tk => ⟨.bl _, H, I.tok tk, rfl, q⟩
def rErrs (K : PySem.W.Frag) (cl Cs : List Str) : List V → Hp → VK → Prop := fun xs H Q => ∃ (a tp : Addr) (x : Ex), xs = [.ref a, .ref tp] ∧ H tp = some (.tup (Cs.map (clsV K))) ∧ ErrAt K H a x ∧ x.cls ∈ cl ∧ Q (.bl (Cs.any (subX x.cls))) H
theorem IsT.any {K : PySem.W.Frag} {cl hl : List Str} (T : IsT K cl hl) {c : Str} (hc : c ∈ cl) : ∀ {Cs : List Str}, (∀ C ∈ Cs, C = "ValueError" ∨ C ∈ hl) → PySem.W.kitAny K (.ref (He.ga K c)) (Cs.map (clsU K)) = some (Cs.any (subX c))
  | [], _ => rfl
  | C :: Cs, h => by
    refine kitAny_cons (T.one hc (h C List.mem_cons_self)) (fun e => ?_) fun e => ?_
    · rw [T.any hc fun C' h' => h C' (List.mem_cons_of_mem _ h')]; simp [e]
    · simp [e]
theorem clss_rel {K : PySem.W.Frag} : ∀ {Cs : List Str} {us : List Value}, Vals (Cs.map (clsV K)) us → us = Cs.map (clsU K)
  | [], _, .nil => rfl
  | C :: Cs, _, .cons r t => by rw [cls_rel r, clss_rel t]; rfl
theorem c_isErrs {cl hl : List Str} (T : IsT X.K cl hl) {Cs : List Str} (hC : ∀ C ∈ Cs, C = "ValueError" ∨ C ∈ hl) : CallR X (.builtin "isinstance") (rErrs X.K cl Cs) := by
  intro pins s σ H xs us Q I r h
  obtain ⟨a, tp, x, rfl, ht, he, hc, q⟩ := h
  obtain ⟨u1, u2, rfl, r1, r2⟩ := vals2 r
  obtain rfl : u1 = Value.ref a := r1
  obtain rfl : u2 = Value.ref tp := r2
  obtain ⟨oe, od, J⟩ := err_inst I he
  obtain ⟨_, its, rv, ⟨o1, o2, o3, o4⟩, h1, h2, n, h3⟩ := (show ObjOk X.prog X.w H s.heap tp (.tup _) from I.hok tp _ ht)
  simp only at h2 h3
  subst h2 h3
  obtain rfl := clss_rel rv
  exact PySem.W.kia_tup (T.c _ hc).kit I.kIn J h1 (T.any hc hC) (fun z => nomatch z) fun tk => ⟨.bl _, H, I.tok tk, rfl, q⟩
end
def mIsE (cl : List Str) (C : Str) : Op1 := fun d M => match d with
  | .err x => if x.cls ∈ cl then some (.bl (subX x.cls C), M) else none
  | _ => none
def mIsEs (cl Cs : List Str) : Op1 := fun d M => match d with
  | .err x => if x.cls ∈ cl then some (.bl (Cs.any (subX x.cls)), M) else none
  | _ => none
def eIsE (cl : List Str) (C : Str) (a : ME) : ME := eUn (mIsE cl C) a
def eIsEs (cl Cs : List Str) (a : ME) : ME := eUn (mIsEs cl Cs) a
section
variable {X : Cx} {W : WX} {e : Expr} {me : ME} {p p2 p3 pos : Pos}
theorem Rp.err_inv {K : PySem.W.Frag} {ι : List Addr} {H : Hp} {x : Ex} {v : V} (r : Rp K ι H (.err x) v) : ∃ a, v = .ref a ∧ ErrAt K H a x := by cases r with | err h => exact ⟨_, rfl, h⟩
/-- a class by its name -/
theorem pe_cls {C : Str} (hg : Gl X C) (hm : (C = "ValueError" ∧ X.mg C = none) ∨ (C ≠ "ValueError" ∧ X.mg C = some (.ref (He.ga X.K C)))) (hd : (C == ("__debug__" : Str)) = false := by decide) : PE X (.Name C p2) (tC (clsV X.K C)) := by
  rcases hm with ⟨rfl, hm⟩ | ⟨hn, hm⟩
  · exact pe_bltn hg hm PyProof.Rows.Boot.«ValueError» (v := clsV X.K "ValueError") (by rw [show clsV X.K "ValueError" = .ty "ValueError" from if_pos rfl]; rfl) (by decide) hd
  · refine pe_glob hg hm ?_ hd
    rw [show clsV X.K C = .ref (He.ga X.K C) from if_neg hn]
    rfl
theorem d_isE {cl hl : List Str} {C : Str} (T : IsT X.K cl hl) (hC : C = "ValueError" ∨ C ∈ hl) (hi : X.mg "isinstance" = none) (hm : (C = "ValueError" ∧ X.mg C = none) ∨ (C ≠ "ValueError" ∧ X.mg C = some (.ref (He.ga X.K C)))) (he : PE X e (LE X.K W me))
    (hgi : Gl X "isinstance" := by rfl) (hg : Gl X C := by rfl) (hd : (C == ("__debug__" : Str)) = false := by decide)
    (h1 : starEach [e, .Name C p2] X.env = (false, eval e X.env) :: starEach [.Name C p2] X.env := by rfl) (h2 : starEach [.Name C p2] X.env = (false, eval (.Name C p2) X.env) :: starEach [] X.env := by rfl)
    (h3 : (backTo pos (starEach [.Name C p2] X.env)).any (·.1) = false := by rfl) : PE X (.Call (.Name "isinstance" p) [e, .Name C p2] [] pos) (LE X.K W (eIsE cl C me)) :=
  (pe_callB (c_isErr T hC) hgi hi boot_isinstance (pa_cons he (pa_cons (pe_cls hg hm hd) pa_nil h2) h1) (by decide) (by decide) h1 h3).imp fun σ H Q ⟨ι, env, M, S, R, h⟩ => ⟨ι, env, M, S, R, (OutP.bind h).imp fun d M1 ι1 H1 e1 S1 h1 v rv => by
    cases d with
    | err x =>
      obtain ⟨a, rfl, hx⟩ := rv.err_inv
      have h2 : OutP X.K (W1 W σ) ι1 H1 (liftO (if x.cls ∈ cl then some (D.bl (subX x.cls C), M1) else none)) (VR X.K Q) := h1
      by_cases hc : x.cls ∈ cl
      · rw [if_pos hc] at h2
        exact ⟨a, x, rfl, hx, hc, OutP.val S1 h2 _ (.bl _)⟩
      · rw [if_neg hc] at h2
        exact h2.elim
    | _ => exact h1.elim⟩
/-- names of classes, one after another -/
inductive ClsNames (X : Cx) : List Str → List Expr → Prop
  | nil : ClsNames X [] []
  | cons {C : Str} {Cs : List Str} {es : List Expr} {p2 : Pos} (hg : Gl X C) (hd : (C == ("__debug__" : Str)) = false) (hm : (C = "ValueError" ∧ X.mg C = none) ∨ (C ≠ "ValueError" ∧ X.mg C = some (.ref (He.ga X.K C))))
      (hs : starEach (.Name C p2 :: es) X.env = (false, eval (.Name C p2) X.env) :: starEach es X.env) (r : ClsNames X Cs es) : ClsNames X (C :: Cs) (.Name C p2 :: es)
theorem ClsNames.pa {Cs : List Str} {es : List Expr} (N : ClsNames X Cs es) : PA X es (fun _ H Q => Q (Cs.map (clsV X.K)) H) := by
  induction N with
  | nil => exact pa_nil
  | cons hg hd hm hs r ih => exact pa_cons (pe_cls hg hm hd) ih hs
theorem d_isEs {cl hl Cs : List Str} {ns : List Expr} {j : Nat} (T : IsT X.K cl hl) (hC : ∀ C ∈ Cs, C = "ValueError" ∨ C ∈ hl) (hi : X.mg "isinstance" = none) (N : ClsNames X Cs ns) (he : PE X e (LE X.K W me))
    (hl' : Cs.length ≤ 100 := by decide) (hgi : Gl X "isinstance" := by rfl)
    (h1 : starEach [e, .Tuple ns j p2] X.env = (false, eval e X.env) :: starEach [.Tuple ns j p2] X.env := by rfl) (h2 : starEach [.Tuple ns j p2] X.env = (false, eval (.Tuple ns j p2) X.env) :: starEach [] X.env := by rfl)
    (h3 : (backTo pos (starEach [.Tuple ns j p2] X.env)).any (·.1) = false := by rfl) : PE X (.Call (.Name "isinstance" p) [e, .Tuple ns j p2] [] pos) (LE X.K W (eIsEs cl Cs me)) :=
  (pe_callB (c_isErrs T hC) hgi hi boot_isinstance (pa_cons he (pa_cons (pe_tup N.pa) pa_nil h2) h1) (by decide) (by decide) h1 h3).imp fun σ H Q ⟨ι, env, M, S, R, h⟩ => ⟨ι, env, M, S, R, (OutP.bind h).imp fun d M1 ι1 H1 e1 S1 h1 v rv => by
    cases d with
    | err x =>
      obtain ⟨a, rfl, hx⟩ := rv.err_inv
      have h2 : OutP X.K (W1 W σ) ι1 H1 (liftO (if x.cls ∈ cl then some (D.bl (Cs.any (subX x.cls)), M1) else none)) (VR X.K Q) := h1
      by_cases hc : x.cls ∈ cl
      · rw [if_pos hc] at h2
        refine ⟨by rw [List.length_map, sizeLine_eq]; omega, fun tp ht => ?_⟩
        have e2 : Ext X.K ι1 H1 ι1 (upd H1 tp (.tup (Cs.map (clsV X.K)))) := Ext.new ht
        exact ⟨a, tp, x, rfl, upd_same, e2.err _ _ hx, hc, OutP.val (S1.new ht) (OutP.ext e2 h2) _ (.bl _)⟩
      · rw [if_neg hc] at h2
        exact h2.elim
    | _ => exact h1.elim⟩
end
end TL
end
section
set_option maxHeartbeats 4000000
namespace TL
open PySem PySem.Spec PyProof.Rows L2
def mCount : D → OpN := fun d ds M => match d, ds with
  | .ref n, [y] => match seqAt M n with
    | some xs => if flatD y = true ∧ xs.all flatD = true then some (.int ((xs.countP fun x => eqF x y : Nat) : Int), M) else none
    | none => none
  | _, _ => none
def mIndex : D → OpN := fun d ds M => match d, ds with
  | .ref n, [y] => match seqAt M n with
    | some xs => if flatD y = true ∧ xs.all flatD = true then (xs.findIdx? fun x => eqF x y).map fun j => (.int ((j : Nat) : Int), M) else none
    | none => none
  | _, _ => none
/-- a class's facts off the head -/
theorem exF_of {K : PySem.W.Frag} {h : Heap} {mg : Str → Option Value} (X : K.In h) (G : h.Ns mainGlobals mg) {c : Str} (c1 : (He.Fa.glo c).ok K = true) (c2 : (He.Fa.exc c).ok K = true) : ExF K mg c := by
  obtain ⟨h1, h2, h3, h4⟩ := He.exc_ok c2
  exact ⟨He.glo_ok X G c1, h1, h2, h3, h4⟩
end TL
end
section
namespace TL
open PySem PySem.Spec PyProof.Rows L2
section
variable {env : Env} {M : Mem} {a b e : ME}
open Classical in
@[simp] theorem eTupRg1_ap : eTupRg1 e env M = (e env M).bind fun d M1 => kInt d fun j => if RgOk 0 j then .ok (.tup (rngItems 0 j.toNat)) M1 else .stuck := rfl
open Classical in
@[simp] theorem eLstRg1_ap : eLstRg1 e env M = (e env M).bind fun d M1 => kInt d fun j => if RgOk 0 j then .ok (.ref M1.length) (M1 ++ [.lst (rngItems 0 j.toNat)]) else .stuck := rfl
open Classical in
@[simp] theorem eTupRg2_ap : eTupRg2 a b env M = (a env M).bind fun d M1 => (b env M1).bind fun d2 M2 => kInt d fun i => kInt d2 fun j => if RgOk i j then .ok (.tup (rngItems i (j - i).toNat)) M2 else .stuck := rfl
open Classical in
@[simp] theorem eLstRg2_ap : eLstRg2 a b env M = (a env M).bind fun d M1 => (b env M1).bind fun d2 M2 => kInt d fun i => kInt d2 fun j => if RgOk i j then .ok (.ref M2.length) (M2 ++ [.lst (rngItems i (j - i).toNat)]) else .stuck := rfl
end
theorem rgOk_nat {i j : Nat} (h : j ≤ 1000000) (hi : i ≤ 1000000) : RgOk (i : Int) (j : Int) := RgOk.of_le (by omega) (by omega) (by omega) (by omega)
theorem intsOf_map : ∀ ns : List Int, intsOf (ns.map D.int) = some ns
  | [] => rfl
  | n :: ns => by
    show (intsOf (ns.map D.int)).map (n :: ·) = _
    rw [intsOf_map ns]; rfl
theorem blsOf_map : ∀ bs : List Bool, blsOf (bs.map D.bl) = some bs
  | [] => rfl
  | b :: bs => by
    show (blsOf (bs.map D.bl)).map (b :: ·) = _
    rw [blsOf_map bs]; rfl
theorem nMax_ints {M : Mem} {n : Nat} {ns : List Int} (h : seqAt M n = some (ns.map D.int)) (hne : ns ≠ []) : nMax [.ref n] M = some (.int (maxI ns), M) := by
  show (match seqAt M n with
    | some xs => match intsOf xs with
      | some ns => if ns = [] then none else some (D.int (maxI ns), M)
      | none => none
    | none => none) = _
  rw [h]
  simp only [intsOf_map]
  rw [if_neg hne]
theorem nAll_bls {M : Mem} {n : Nat} {bs : List Bool} (h : seqAt M n = some (bs.map D.bl)) : nAll [.ref n] M = some (.bl (bs.all id), M) := by
  show (match seqAt M n with
    | some xs => (blsOf xs).map fun (bs : List Bool) => (D.bl (bs.all id), M)
    | none => none) = _
  rw [h]
  simp only [blsOf_map]
  rfl
theorem nTuple_ref {M : Mem} {n : Nat} {xs : List D} (h : seqAt M n = some xs) : nTuple [.ref n] M = some (.tup xs, M) := by
  show (seqAt M n).map (fun xs => (D.tup xs, M)) = _
  rw [h]; rfl
end TL
end
section
namespace TL
open PySem PySem.Spec PyProof.Rows L2
/-- this value, and all that stood stands -/
abbrev Gives (M : Mem) (d : D) : D → Mem → Prop := fun d' M' => d' = d ∧ Keep M M'
theorem Ret.eq {α : Type} {o : Out α} {P : α → Mem → Prop} {o' : Out α} (e : o = o') (h : Ret o' P) : Ret o P := e ▸ h
theorem gives_of {o : Out D} {M : Mem} {d : D} (h : Ret o (Gives M d)) : ∃ M', o = .ok d M' ∧ Keep M M' := by
  obtain ⟨d', M', e, rfl, k⟩ := h
  exact ⟨M', e, k⟩
/-- how a block ends: with names and a memory, or with a value -/
def SRet (o : SOut) (N : TL.Env → Mem → Prop) (R : D → Mem → Prop) : Prop := match o with
  | .next e M => N e M
  | .ret d M => R d M
  | .exc _ _ _ => False
  | .stuck => False
section
variable {N N' : TL.Env → Mem → Prop} {R R' : D → Mem → Prop} {o : SOut} {env : TL.Env} {M : Mem}
theorem SRet.next (h : N env M) : SRet (.next env M) N R := h
theorem SRet.ret {d : D} (h : R d M) : SRet (.ret d M) N R := h
theorem SRet.imp (h : SRet o N R) (hn : ∀ e M, N e M → N' e M) (hr : ∀ d M, R d M → R' d M) : SRet o N' R' := by
  cases o with
  | next e M => exact hn _ _ h
  | ret d M => exact hr _ _ h
  | exc x e M => exact h
  | stuck => exact h
theorem SRet.nextS {f : TL.Env → Mem → SOut} (h : SRet o (fun e M => SRet (f e M) N R) R) : SRet (nextS o f) N R := by
  cases o with
  | next e M => exact h
  | ret d M => exact h
  | exc x e M => exact h
  | stuck => exact h
theorem Ret.endS {Q : D → Mem → Prop} (h : SRet o (fun _ M => Q .non M) Q) : Ret (endS o) Q := by
  cases o with
  | next e M => exact .ok h
  | ret d M => exact .ok h
  | exc x e M => exact h.elim
  | stuck => exact h.elim
/-- a for by its invariant -/
theorem SRet.for_ {good : Mem → Prop} {g : MG} {b : MS} {ds : List D} (Inv : List D → TL.Env → Mem → Prop) (h0 : Inv ds env M) (hgood : ∀ ds env M, Inv ds env M → good M)
    (step : ∀ d ds env M, Inv (d :: ds) env M → ∃ env1, g d env = some env1 ∧ SRet (b env1 M) (Inv ds) R) (done : ∀ env M, Inv [] env M → N env M) : SRet (forL good g b ds env M) N R := by
  induction ds generalizing env M with
  | nil => rw [forL_nil (hgood _ _ _ h0)]; exact done _ _ h0
  | cons d ds ih =>
    obtain ⟨env1, hg, hs⟩ := step d ds env M h0
    rw [forL_cons (hgood _ _ _ h0) hg]
    exact SRet.nextS (hs.imp (fun e M h => ih h) fun d M h => h)
/-- a for with what follows it -/
theorem SRet.forN {good : Mem → Prop} {g : MG} {b : MS} {ds : List D} {k : TL.Env → Mem → SOut} (Inv : List D → TL.Env → Mem → Prop) (h0 : Inv ds env M) (hgood : ∀ ds env M, Inv ds env M → good M)
    (step : ∀ d ds env M, Inv (d :: ds) env M → ∃ env1, g d env = some env1 ∧ SRet (b env1 M) (Inv ds) R) (done : ∀ env M, Inv [] env M → SRet (k env M) N R) : SRet (TL.nextS (forL good g b ds env M) k) N R :=
  SRet.nextS (SRet.for_ Inv h0 hgood step done)
/-- a while by its invariant, that holds a measure -/
theorem SRet.while_ {t : MT} {b : MS} {n : Nat} (Inv : Nat → TL.Env → Mem → Prop) {m : Nat} (h0 : Inv m env M) (hm : m < n)
    (step : ∀ m env M, Inv m env M → Ret (t env M) (fun k M1 => if k = true then SRet (b env M1) (fun e M => ∃ m', m' < m ∧ Inv m' e M) R else N env M1)) : SRet (sWhile n t b env M) N R := by
  induction n generalizing env M m with
  | zero => omega
  | succ n ih =>
    obtain ⟨k, M1, e, h⟩ := step m env M h0
    show SRet (TL.thenS env (t env M) fun k M1 => if k = true then TL.nextS (b env M1) (sWhile n t b) else .next env M1) N R
    rw [e]
    cases k with
    | false => exact h
    | true =>
      rw [if_pos rfl] at h
      exact SRet.nextS (h.imp (fun e M ⟨m', h1, h2⟩ => ih h2 (by omega)) fun d M h => h)
end
section
variable {good : Mem → Prop} {i n : Nat} {t : MT} {e : ME} {env : TL.Env} {ds : List D} {M0 : Mem}
/-- a comprehension: what stood stands, the items turned -/
theorem Ret.comp {P : Unit → Mem → Prop} (f : D → D) (hg : ∀ M', Keep M0 M' → good M') (hl : ds.length ≤ 1000000)
    (h : ∀ d ∈ ds, ∀ M', Keep M0 M' → Ret (e (env.set i (some d)) M') (Gives M' (f d)))
    (k : ∀ M2, Keep M0 M2 → M2[M0.length]? = some (.lst (ds.map f)) → P () M2) : Ret (compL good i tYesD e M0.length env ds (M0 ++ [.lst []])) P := by
  obtain ⟨M2, e2, k2, a2⟩ := compL_keep (n := M0.length) (t := tYesD) (e := e) (i := i) (env := env) (fun _ => true) f M0 hg (Nat.le_refl _) ds [] (M0 ++ [.lst []]) (Keep.more _ _) (at_len _ _) (by simpa using hl) fun d hd M' k' =>
    ⟨M', rfl, Keep.refl _, fun _ => gives_of (h d hd M' k')⟩
  refine ⟨(), M2, e2, k M2 k2 ?_⟩
  rw [List.filter_eq_self.mpr (fun _ _ => rfl)] at a2
  simpa using a2
theorem Ret.compF {P : Unit → Mem → Prop} (p : D → Bool) (f : D → D) (hg : ∀ M', Keep M0 M' → good M') (hl : ds.length ≤ 1000000)
    (h : ∀ d ∈ ds, ∀ M', Keep M0 M' → Ret (t (env.set i (some d)) M') (fun b M1 => b = p d ∧ Keep M' M1 ∧ (b = true → Ret (e (env.set i (some d)) M1) (Gives M1 (f d)))))
    (k : ∀ M2, Keep M0 M2 → M2[M0.length]? = some (.lst ((ds.filter p).map f)) → P () M2) : Ret (compL good i t e M0.length env ds (M0 ++ [.lst []])) P := by
  obtain ⟨M2, e2, k2, a2⟩ := compL_keep (n := M0.length) (t := t) (e := e) (i := i) (env := env) p f M0 hg (Nat.le_refl _) ds [] (M0 ++ [.lst []]) (Keep.more _ _) (at_len _ _) (by simpa using hl) fun d hd M' k' => by
    obtain ⟨b, M1, e1, rfl, k1, h1⟩ := h d hd M' k'
    exact ⟨M1, e1, k1, fun hp => gives_of (h1 hp)⟩
  exact ⟨(), M2, e2, k M2 k2 (by simpa using a2)⟩
end
end TL
end
section
namespace TL
open PySem PySem.Spec PyProof.Rows L2
section
variable {env : TL.Env} {M : Mem} {a : ME} {x : Ex} {i : Nat} {d : D} {b m : MS} {cl : List Str} {hs : List HdM} {C : Str} {sl : Option Nat}
@[simp] theorem sRaise_ap {c : Str} : sRaise c env M = .exc ⟨c, none⟩ env M := rfl
@[simp] theorem sTry_ap : sTry cl b hs env M = match b env M with
  | .exc x env1 M1 => if x.cls ∈ cl then hdsRun x hs env1 M1 else .stuck
  | o => o := rfl
@[simp] theorem hdsRun_nil : hdsRun x [] env M = .exc x env M := rfl
@[simp] theorem hdsRun_cons : hdsRun x (⟨C, sl, m⟩ :: hs) env M = if subX x.cls C = true then undoS sl (m (setE env sl (some (.err x))) M) else hdsRun x hs env M := rfl
@[simp] theorem undoS_next : undoS sl (.next env M) = .next (setE env sl none) M := rfl
@[simp] theorem undoS_ret : undoS sl (.ret d M) = .ret d M := rfl
@[simp] theorem undoS_stuck : undoS sl .stuck = .stuck := rfl
@[simp] theorem setE_none {o : Option D} : setE env none o = env := rfl
@[simp] theorem setE_some {o : Option D} : setE env (some i) o = env.set i o := rfl
@[simp] theorem eIsE_ap : eIsE cl C a env M = (a env M).bind fun d M1 => liftO (mIsE cl C d M1) := rfl
@[simp] theorem eIsEs_ap {Cs : List Str} : eIsEs cl Cs a env M = (a env M).bind fun d M1 => liftO (mIsEs cl Cs d M1) := rfl
@[simp] theorem mIsE_err : mIsE cl C (.err x) M = if x.cls ∈ cl then some (.bl (subX x.cls C), M) else none := rfl
@[simp] theorem mIsEs_err {Cs : List Str} : mIsEs cl Cs (.err x) M = if x.cls ∈ cl then some (.bl (Cs.any (subX x.cls)), M) else none := rfl
@[simp] theorem isNon_err : isNon (.err x) = false := rfl
@[simp] theorem Out.bind_match {α β : Type} (x : Ex) (M : Mem) (f : α → Mem → Out β) : (Out.exc x M : Out α).bind f = .exc x M := rfl
end
section
variable {M : Mem} {xs : List D} {n : Nat} {k : Int}
@[simp] theorem nList_tup : nList [.tup xs] M = some (.ref M.length, M ++ [.lst xs]) := rfl
@[simp] theorem nList_ref : nList [.ref n] M = (seqAt M n).map fun xs => (.ref M.length, M ++ [.lst xs]) := rfl
@[simp] theorem nTuple_tup : nTuple [.tup xs] M = some (.tup xs, M) := rfl
end
theorem lt_of_seq {M : Mem} {n : Nat} {xs : List D} (h : seqAt M n = some xs) : n < M.length := by
  unfold seqAt at h
  cases q : M[n]? with
  | none => rw [q] at h; cases h
  | some o => exact lt_of_at q
end TL
end
section
namespace TLQ
open PySem PySem.Spec PyProof.Rows L2 TL
/-- a thing that is left alone -/
inductive Held {α : Sort _} : α → Type
  | mk (a : α) : Held a
def bindQ {α β : Type} (o : Out α) (f : α → Mem → Out β) (_ : Held f) : Out β := o.bind f
def thenQ {α : Type} (env : TL.Env) (o : Out α) (f : α → Mem → SOut) (_ : Held f) : SOut := thenS env o f
def nextQ (o : SOut) (f : TL.Env → Mem → SOut) (_ : Held f) : SOut := nextS o f
def kBlQ {β : Type} (d : D) (f : Bool → Out β) (_ : Held f) : Out β := kBl d f
def kIntQ {β : Type} (d : D) (f : Int → Out β) (_ : Held f) : Out β := kInt d f
section
variable {α β : Type} {env : TL.Env} {M : Mem}
@[scoped simp ↓] theorem bind_held {o : Out α} {f : α → Mem → Out β} : o.bind f = bindQ o f (.mk f) := rfl
@[scoped simp ↓] theorem then_held {o : Out α} {f : α → Mem → SOut} : thenS env o f = thenQ env o f (.mk f) := rfl
@[scoped simp ↓] theorem next_held {o : SOut} {f : TL.Env → Mem → SOut} : nextS o f = nextQ o f (.mk f) := rfl
@[scoped simp ↓] theorem kBl_held {d : D} {f : Bool → Out β} : kBl d f = kBlQ d f (.mk f) := rfl
@[scoped simp ↓] theorem kInt_held {d : D} {f : Int → Out β} : kInt d f = kIntQ d f (.mk f) := rfl
@[scoped simp] theorem bindQ_ok {a : α} {f : α → Mem → Out β} {u : Held f} : bindQ (.ok a M) f u = f a M := rfl
@[scoped simp] theorem bindQ_exc {x : Ex} {f : α → Mem → Out β} {u : Held f} : bindQ (.exc x M : Out α) f u = .exc x M := rfl
@[scoped simp] theorem bindQ_stuck {f : α → Mem → Out β} {u : Held f} : bindQ (.stuck : Out α) f u = .stuck := rfl
@[scoped simp] theorem bindQ_bindQ {γ : Type} {o : Out α} {f : α → Mem → Out β} {g : β → Mem → Out γ} {u : Held f} {v : Held g} : bindQ (bindQ o f u) g v = bindQ o (fun a M => (f a M).bind g) (.mk _) := Out.bind_assoc o f g
@[scoped simp] theorem thenQ_ok {a : α} {f : α → Mem → SOut} {u : Held f} : thenQ env (.ok a M) f u = f a M := rfl
@[scoped simp] theorem thenQ_exc {x : Ex} {f : α → Mem → SOut} {u : Held f} : thenQ env (.exc x M : Out α) f u = .exc x env M := rfl
@[scoped simp] theorem thenQ_stuck {f : α → Mem → SOut} {u : Held f} : thenQ env (.stuck : Out α) f u = .stuck := rfl
@[scoped simp] theorem thenQ_bindQ {o : Out α} {f : α → Mem → Out β} {g : β → Mem → SOut} {u : Held f} {v : Held g} : thenQ env (bindQ o f u) g v = thenQ env o (fun a M => thenS env (f a M) g) (.mk _) := thenS_bind f g
@[scoped simp] theorem nextQ_next {f : TL.Env → Mem → SOut} {u : Held f} : nextQ (.next env M) f u = f env M := rfl
@[scoped simp] theorem nextQ_ret {d : D} {f : TL.Env → Mem → SOut} {u : Held f} : nextQ (.ret d M) f u = .ret d M := rfl
@[scoped simp] theorem nextQ_exc {x : Ex} {f : TL.Env → Mem → SOut} {u : Held f} : nextQ (.exc x env M) f u = .exc x env M := rfl
@[scoped simp] theorem nextQ_stuck {f : TL.Env → Mem → SOut} {u : Held f} : nextQ .stuck f u = .stuck := rfl
@[scoped simp] theorem nextQ_thenQ {o : Out α} {f : α → Mem → SOut} {g : TL.Env → Mem → SOut} {u : Held f} {v : Held g} : nextQ (thenQ env o f u) g v = thenQ env o (fun a M => nextS (f a M) g) (.mk _) := nextS_thenS f g
@[scoped simp] theorem nextQ_nextQ {o : SOut} {f g : TL.Env → Mem → SOut} {u : Held f} {v : Held g} : nextQ (nextQ o f u) g v = nextQ o (fun e M => nextS (f e M) g) (.mk _) := nextS_nextS o f g
@[scoped simp] theorem endS_thenQ {o : Out α} {f : α → Mem → SOut} {u : Held f} : endS (thenQ env o f u) = bindQ o (fun a M => endS (f a M)) (.mk _) := endS_thenS f
@[scoped simp] theorem kBlQ_bl {b : Bool} {f : Bool → Out β} {u : Held f} : kBlQ (.bl b) f u = f b := rfl
@[scoped simp] theorem kIntQ_int {i : Int} {f : Int → Out β} {u : Held f} : kIntQ (.int i) f u = f i := rfl
@[scoped simp] theorem undoS_thenQ {sl : Option Nat} {o : Out α} {f : α → Mem → SOut} {u : Held f} (h : ∀ x M, o ≠ .exc x M) : undoS sl (thenQ env o f u) = thenQ env o (fun a M => undoS sl (f a M)) (.mk _) := by
  cases o with
  | ok a M => rfl
  | exc x M => exact absurd rfl (h x M)
  | stuck => rfl
variable {N : TL.Env → Mem → Prop} {R : D → Mem → Prop}
theorem Ret.bindQ {o : Out α} {f : α → Mem → Out β} {u : Held f} {P : α → Mem → Prop} {Q : β → Mem → Prop} (h : Ret o P) (k : ∀ a M, P a M → Ret (f a M) Q) : Ret (TLQ.bindQ o f u) Q := Ret.bind h k
theorem SRet.forQ {good : Mem → Prop} {g : MG} {b : MS} {ds : List D} {k : TL.Env → Mem → SOut} {u : Held k} (Inv : List D → TL.Env → Mem → Prop) (h0 : Inv ds env M) (hgood : ∀ ds env M, Inv ds env M → good M)
    (step : ∀ d ds env M, Inv (d :: ds) env M → ∃ env1, g d env = some env1 ∧ SRet (b env1 M) (Inv ds) R) (done : ∀ env M, Inv [] env M → SRet (k env M) N R) : SRet (TLQ.nextQ (forL good g b ds env M) k u) N R := SRet.forN Inv h0 hgood step done
end
@[scoped simp] theorem str_inj {a b : String} : Str.ofString a = Str.ofString b ↔ a = b := by
  refine ⟨fun h => ?_, fun h => by rw [h]⟩
  rw [Str.ofString_eq_toList, Str.ofString_eq_toList] at h
  have h1 := congrArg (fun s : Str => s.cps.toList) h
  simp only at h1
  have h2 : a.toList = b.toList := (List.map_inj_right fun c d e => Char.ext (UInt32.toNat_inj.mp e)).mp h1
  exact String.toList_inj.mp h2
@[scoped simp] theorem str_beq {a b : String} : (Str.ofString a == Str.ofString b) = decide (a = b) := by
  by_cases h : a = b
  · subst h; simp
  · have : Str.ofString a ≠ Str.ofString b := fun e => h (str_inj.mp e)
    simp [h]
section
variable {M : Mem} {n : Nat} {y : D}
@[scoped simp] theorem mCount_ap : mCount (.ref n) [y] M = match seqAt M n with
    | some xs => if flatD y = true ∧ xs.all flatD = true then some (.int ((xs.countP fun x => eqF x y : Nat) : Int), M) else none
    | none => none := rfl
@[scoped simp] theorem mIndex_ap : mIndex (.ref n) [y] M = match seqAt M n with
    | some xs => if flatD y = true ∧ xs.all flatD = true then (xs.findIdx? fun x => eqF x y).map fun j => (.int ((j : Nat) : Int), M) else none
    | none => none := rfl
@[scoped simp] theorem tyD_ref : tyD "list" M (.ref n) = (seqAt M n).isSome := by show (decide ("list" = "list") && (seqAt M n).isSome) = _; simp
@[scoped simp] theorem mNe_bl {b c : Bool} : mNe (.bl b) (.bl c) M = some (.bl (!(b == c)), M) := by
  rw [mNe_eq, eqD_pure (n := 0) (m := 0) (by simp [pureD]) (by simp [pureD]) (by decide) (by decide)]; simp [pyD, PyData.eqv]
@[scoped simp] theorem flat_bl {b : Bool} : flatD (.bl b) = true := rfl
@[scoped simp] theorem flat_int {b : Int} : flatD (.int b) = true := rfl
@[scoped simp] theorem flat_str {b : Str} : flatD (.str b) = true := rfl
@[scoped simp] theorem flat_non : flatD .non = true := rfl
@[scoped simp] theorem eqF_bl {b c : Bool} : eqF (.bl b) (.bl c) = (b == c) := rfl
@[scoped simp] theorem eqF_int {b c : Int} : eqF (.int b) (.int c) = (b == c) := rfl
@[scoped simp] theorem eqF_str {b c : Str} : eqF (.str b) (.str c) = (b == c) := rfl
end
@[scoped simp] theorem line_is : sizeLine = 16777216 := sizeLine_eq
theorem strOk_of (s : String) : PyData.strOk (Str.ofString s) = true := by
  rw [Str.ofString_eq_toList]
  unfold PyData.strOk
  rw [← Array.all_toList]
  simp only [List.all_map, List.all_eq_true]
  intro c _
  have h := c.valid
  have e : c.toNat = c.val.toNat := rfl
  refine decide_eq_true ?_
  show c.toNat < 0x110000
  rw [e]
  rcases h with h | h <;> simp at h ⊢ <;> omega
@[scoped simp] theorem mEq_str {x y : String} {M : Mem} : mEq (.str (Str.ofString x)) (.str (Str.ofString y)) M = some (.bl (decide (x = y)), M) := by
  rw [mEq_eq, eqD_pure (n := 0) (m := 0) (by simp [pureD, strOk_of]) (by simp [pureD, strOk_of]) (by decide) (by decide)]; simp [pyD, PyData.eqv]
@[scoped simp] theorem mNe_str {x y : String} {M : Mem} : mNe (.str (Str.ofString x)) (.str (Str.ofString y)) M = some (.bl (!decide (x = y)), M) := by
  rw [mNe_eq, eqD_pure (n := 0) (m := 0) (by simp [pureD, strOk_of]) (by simp [pureD, strOk_of]) (by decide) (by decide)]; simp [pyD, PyData.eqv]
end TLQ
end
section
set_option maxHeartbeats 4000000
namespace TL
open PySem PySem.Spec PyProof.Rows L2
def strsOf : List D → Option (List Str)
  | [] => some []
  | .str b :: ds => (strsOf ds).map (b :: ·)
  | _ => none
def joinO (a : Str) (xs : List D) : Option Str := match strsOf xs with
  | some ys => if (ys.map (·.length)).sum + ys.length * a.length ≤ sizeLine then some (Txt.join a ys) else none
  | none => none
def mJoin : D → OpN := fun d ds M => match d, ds with
  | .str a, [.ref n] => match seqAt M n with
    | some xs => (joinO a xs).map fun z => (.str z, M)
    | none => none
  | .str a, [.tup xs] => (joinO a xs).map fun z => (.str z, M)
  | _, _ => none
def mFind : D → OpN := fun d ds M => match d, ds with
  | .str a, [.str b] => some (.int (Txt.find a b), M)
  | _, _ => none
def mSplit : D → OpN := fun d ds M => match d, ds with
  | .str a, [.str b] => if (b.length == 0) = false ∧ a.length + 2 ≤ sizeLine then some (.ref M.length, M ++ [.lst ((Txt.split a b).map D.str)]) else none
  | _, _ => none
def mPartition : D → OpN := fun d ds M => match d, ds with
  | .str a, [.str b] => if (b.length == 0) = false ∧ a.length ≤ sizeLine then some (.tup [.str (Txt.partition a b).1, .str (Txt.partition a b).2.1, .str (Txt.partition a b).2.2], M) else none
  | _, _ => none
def mUpper : D → OpN := fun d ds M => match d, ds with
  | .str a, [] => if a.length ≤ 5592405 then some (.str (Txt.upper a), M) else none
  | _, _ => none
def nStr : OpN := fun ds M => match ds with
  | [.int i] => if i.natAbs.log2 < 1920 then some (.str (toString i), M) else none
  | [.str x] => some (.str x, M)
  | _ => none
def inX (M : Mem) (a b : D) : Option Bool := match inD M a b with
  | some k => some k
  | none => match toP 64 M a, toP 64 M b with
    | some p, some (.list ps) => if SeqAt.shaped p = true ∧ SeqAt.shaped (.list ps) = true then some (ps.any fun z => PyData.eqv z p) else none
    | _, _ => none
theorem Ctx.hu65 {X : Cx} {W : WX} {k : Nat} (C : Ctx X W k) : X.A.units + 65 < cLine := by have := C.room.un; omega
section
variable {M : Mem} {a b : Str} {n : Nat} {xs : List D} {i : Int}
@[simp] theorem mFind_str : mFind (.str a) [.str b] M = some (.int (Txt.find a b), M) := rfl
@[simp] theorem mSplit_str : mSplit (.str a) [.str b] M = if (b.length == 0) = false ∧ a.length + 2 ≤ sizeLine then some (.ref M.length, M ++ [.lst ((Txt.split a b).map D.str)]) else none := rfl
@[simp] theorem mPartition_str : mPartition (.str a) [.str b] M = if (b.length == 0) = false ∧ a.length ≤ sizeLine then some (.tup [.str (Txt.partition a b).1, .str (Txt.partition a b).2.1, .str (Txt.partition a b).2.2], M) else none := rfl
@[simp] theorem mUpper_str : mUpper (.str a) [] M = if a.length ≤ 5592405 then some (.str (Txt.upper a), M) else none := rfl
@[simp] theorem nStr_int : nStr [.int i] M = if i.natAbs.log2 < 1920 then some (.str (toString i), M) else none := rfl
@[simp] theorem nStr_str : nStr [.str a] M = some (.str a, M) := rfl
@[simp] theorem tyD_str : tyD "str" M (.str a) = true := rfl
end
end TL
end
section
set_option maxHeartbeats 4000000
namespace TL
open PySem PySem.Spec PyProof.Rows L2
/-- room, and nothing being shown -/
structure RoomG (k : Nat) (A : Around) : Prop where
  room : Room k A
  gd : A.guards = some []
theorem RoomG.mono {j k : Nat} {A : Around} (r : RoomG k A) (h : j ≤ k) : RoomG j A := ⟨r.room.mono h, r.gd⟩
structure CtxG (X : Cx) (W : WX) (k : Nat) : Prop where
  ctx : Ctx X W k
  gd : X.A.guards = some []
end TL
end
section
set_option maxHeartbeats 4000000
namespace TL
open PySem PySem.Spec PyProof.Rows L2
theorem CtxG.blk {X : Cx} {W : WX} {k : Nat} (C : CtxG X W k) {s : Shared} {H : Hp} {scope : Scope} {cenv : PySem.Env} {fp : List Addr} : CtxG (X.blk s H scope cenv fp) W0 k := ⟨C.ctx.blk, C.gd⟩
end TL
namespace TL
open PySem PySem.Spec PyProof.Rows L2
end TL
end
section
set_option maxHeartbeats 4000000
namespace TL
open PySem PySem.Spec PyProof.Rows L2
/-- the data of a thing and of what it holds -/
def datL (f : D → Option PyData) : List D → Option (List PyData)
  | [] => some []
  | x :: xs => match f x, datL f xs with
    | some d, some ds => some (d :: ds)
    | _, _ => none
def dat : Nat → Mem → D → Option PyData
  | 0, _, _ => none
  | n + 1, M, d => match d with
    | .non => some .none
    | .bl b => some (.bool b)
    | .int i => some (.int i)
    | .str x => some (.str x)
    | .tup xs => (datL (dat n M) xs).map PyData.tuple
    | .ref a => match seqAt M a with
      | some xs => (datL (dat n M) xs).map PyData.list
      | none => none
    | _ => none
end TL
end
section
set_option maxHeartbeats 4000000
namespace TL
open PySem PySem.Spec PyProof.Rows L2
theorem datL_imp {f g : D → Option PyData} (h : ∀ (d : D) (x : PyData), f d = some x → g d = some x) : ∀ (xs : List D) (ds : List PyData), datL f xs = some ds → datL g xs = some ds
  | [], _, e => e
  | d :: xs, ds, e => by
    unfold datL at e ⊢
    cases e1 : f d with
    | none => rw [e1] at e; cases e
    | some y =>
      cases e2 : datL f xs with
      | none => rw [e1, e2] at e; cases e
      | some ys =>
        rw [e1, e2] at e
        rw [h d y e1, datL_imp h xs ys e2]
        exact e
theorem dat_keep {M M' : Mem} (k : Keep M M') : ∀ (n : Nat) (d : D) (x : PyData), dat n M d = some x → dat n M' d = some x
  | 0, _, _, e => nomatch e
  | n + 1, d, x, e => by
    cases d with
    | tup xs =>
      obtain ⟨ds, e1, rfl⟩ := Option.map_eq_some_iff.mp (show (datL (dat n M) xs).map PyData.tuple = some x from e)
      show (datL (dat n M') xs).map PyData.tuple = _
      rw [datL_imp (dat_keep k n) xs ds e1]
      rfl
    | ref m =>
      have e' : (match seqAt M m with | some xs => (datL (dat n M) xs).map PyData.list | none => none) = some x := e
      show (match seqAt M' m with | some xs => (datL (dat n M') xs).map PyData.list | none => none) = some x
      cases q : seqAt M m with
      | none => rw [q] at e'; cases e'
      | some xs =>
        rw [q] at e'
        obtain ⟨ds, e1, rfl⟩ := Option.map_eq_some_iff.mp e'
        rw [k.seq q]
        simp only
        rw [datL_imp (dat_keep k n) xs ds e1]
        rfl
    | _ => exact e
/-- a thing that repr can show -/
def Shows (M : Mem) (d : D) (t : Str) : Prop := ∃ x, dat 40 M d = some x ∧ x.showable = true ∧ x.shown.length ≤ sizeLine ∧ t = x.shown
theorem Shows.keep {M M' : Mem} {d : D} {t : Str} (k : Keep M M') (h : Shows M d t) : Shows M' d t := by
  obtain ⟨x, e, r⟩ := h
  exact ⟨x, dat_keep k 40 d x e, r⟩
theorem Shows.of {M : Mem} {d : D} {x : PyData} (e : dat 40 M d = some x) (s : x.showable = true) (l : x.leavesShort 200 = true) (h : x.weight ≤ 10000) : Shows M d x.shown := by
  refine ⟨x, e, s, ?_, rfl⟩
  have h1 := PyData.shown_le 200 (by decide) x l
  rw [sizeLine_eq]
  omega
theorem int_short {i : Int} (h : i.natAbs < 10 ^ 60) : (PyData.int i).leavesShort 200 = true := by
  have h1 := int_text_length_le10 (a := i) (k := 60) (by decide) h
  show decide ((PyData.int i).shown.length ≤ 200) = true
  refine decide_eq_true ?_
  have h2 : (Str.ofString (toString i)).length ≤ 200 := by
    clear h
    rw [PySem.ofString_length]
    omega
  exact h2
end TL
end
section
set_option maxHeartbeats 4000000
namespace TL
open PySem PySem.Spec PyProof.Rows L2
/-- it can be shown: at most n deep, of weight w -/
def Sh (M : Mem) (n w : Nat) (d : D) : Prop := ∃ x, dat n M d = some x ∧ (x.showable = true ∧ x.canLay0 = true) ∧ x.leavesShort 200 = true ∧ x.weight ≤ w
def ShL (M : Mem) (n w : Nat) (ds : List D) : Prop := ∃ xs, datL (dat n M) ds = some xs ∧ (PyData.showableAll xs = true ∧ PyData.canLayAll0 xs = true) ∧ PyData.leavesShortAll 200 xs = true ∧ PyData.weightAll xs ≤ w
section
variable {M M' : Mem} {n w v : Nat} {d : D} {ds es : List D}
theorem Sh.non : Sh M (n + 1) 0 .non := ⟨.none, rfl, ⟨rfl, rfl⟩, rfl, Nat.le_refl _⟩
theorem Sh.bl {b : Bool} : Sh M (n + 1) 0 (.bl b) := ⟨.bool b, rfl, ⟨rfl, rfl⟩, rfl, Nat.le_refl _⟩
theorem Sh.int {i : Int} (h : i.natAbs < 10 ^ 60) : Sh M (n + 1) 201 (.int i) := by
  have l : i.natAbs.log2 < 200 := by
    by_cases z : i.natAbs = 0
    · rw [z]; decide
    · exact (Nat.log2_lt z).mpr (Nat.lt_trans h (by decide))
  refine ⟨.int i, rfl, ⟨decide_eq_true (by omega), rfl⟩, int_short h, ?_⟩
  show (if i == 0 then 0 else i.natAbs.log2 + 1) ≤ 201
  split <;> omega
theorem Sh.str {x : Str} (h : PyData.strOk x = true) : Sh M (n + 1) x.cps.size (.str x) := by
  refine ⟨.str x, rfl, ⟨rfl, h⟩, ?_, Nat.le_refl _⟩
  show (x.cps.toList.all fun c => decide (c < 16 ^ 8)) = true
  unfold PyData.strOk at h
  rw [← Array.all_toList] at h
  simp only [List.all_eq_true, decide_eq_true_eq] at h ⊢
  exact fun c hc => Nat.lt_trans (h c hc) (by decide)
theorem Sh.le (h : Sh M n w d) (l : w ≤ v) : Sh M n v d := by
  obtain ⟨x, a, b, c, e⟩ := h
  exact ⟨x, a, b, c, Nat.le_trans e l⟩
theorem ShL.le (h : ShL M n w ds) (l : w ≤ v) : ShL M n v ds := by
  obtain ⟨x, a, b, c, e⟩ := h
  exact ⟨x, a, b, c, Nat.le_trans e l⟩
theorem ShL.nil : ShL M n 0 [] := ⟨[], rfl, ⟨rfl, rfl⟩, rfl, Nat.le_refl _⟩
theorem ShL.cons (h : Sh M n w d) (t : ShL M n v ds) : ShL M n (w + 1 + v) (d :: ds) := by
  obtain ⟨x, a, ⟨b, g⟩, c, e⟩ := h
  obtain ⟨xs, a', ⟨b', g'⟩, c', e'⟩ := t
  refine ⟨x :: xs, ?_, ?_, ?_, ?_⟩
  · unfold datL; rw [a, a']
  · exact ⟨by show (x.showable && PyData.showableAll xs) = true; rw [b, b']; rfl, by show (x.canLay0 && PyData.canLayAll0 xs) = true; rw [g, g']; rfl⟩
  · show (x.leavesShort 200 && PyData.leavesShortAll 200 xs) = true; rw [c, c']; rfl
  · show x.weight + 1 + PyData.weightAll xs ≤ _; omega
theorem ShL.append (h : ShL M n w ds) (t : ShL M n v es) : ShL M n (w + v) (ds ++ es) := by
  induction ds generalizing w with
  | nil => exact t.le (by omega)
  | cons d ds ih =>
    obtain ⟨xs, a, ⟨b, g⟩, c, e⟩ := h
    unfold datL at a
    cases q1 : dat n M d with
    | none => rw [q1] at a; cases a
    | some y =>
      cases q2 : datL (dat n M) ds with
      | none => rw [q1, q2] at a; cases a
      | some ys =>
        rw [q1, q2] at a
        cases a
        obtain ⟨b1, b2⟩ := Bool.and_eq_true_iff.mp (show (y.showable && PyData.showableAll ys) = true from b)
        obtain ⟨g1, g2⟩ := Bool.and_eq_true_iff.mp (show (y.canLay0 && PyData.canLayAll0 ys) = true from g)
        obtain ⟨c1, c2⟩ := Bool.and_eq_true_iff.mp (show (y.leavesShort 200 && PyData.leavesShortAll 200 ys) = true from c)
        have e' : y.weight + 1 + PyData.weightAll ys ≤ w := e
        exact (ShL.cons (w := y.weight) ⟨y, q1, ⟨b1, g1⟩, c1, Nat.le_refl _⟩ (ih (w := PyData.weightAll ys) ⟨ys, q2, ⟨b2, g2⟩, c2, Nat.le_refl _⟩)).le (by omega)
theorem Sh.tup (h : ShL M n w ds) : Sh M (n + 1) w (.tup ds) := by
  obtain ⟨xs, a, b, c, e⟩ := h
  refine ⟨.tuple xs, ?_, b, c, e⟩
  show (datL (dat n M) ds).map PyData.tuple = _
  rw [a]; rfl
theorem Sh.ref {m : Nat} (hm : seqAt M m = some ds) (h : ShL M n w ds) : Sh M (n + 1) w (.ref m) := by
  obtain ⟨xs, a, b, c, e⟩ := h
  refine ⟨.list xs, ?_, b, c, e⟩
  show (match seqAt M m with | some xs => (datL (dat n M) xs).map PyData.list | none => none) = _
  rw [hm]
  simp only [a]
  rfl
theorem ShL.all (h : ∀ d ∈ ds, Sh M n w d) : ShL M n ((w + 1) * ds.length) ds := by
  induction ds with
  | nil => exact .nil
  | cons d ds ih =>
    refine (ShL.cons (h d List.mem_cons_self) (ih fun x hx => h x (List.mem_cons_of_mem _ hx))).le ?_
    rw [List.length_cons, Nat.mul_add]
    omega
theorem Sh.keep (k : Keep M M') (h : Sh M n w d) : Sh M' n w d := by
  obtain ⟨x, a, r⟩ := h
  exact ⟨x, dat_keep k n d x a, r⟩
theorem ShL.keep (k : Keep M M') (h : ShL M n w ds) : ShL M' n w ds := by
  obtain ⟨x, a, r⟩ := h
  exact ⟨x, datL_imp (dat_keep k n) ds x a, r⟩
end
theorem datL_optAll {f g : D → Option PyData} (h : ∀ d x, f d = some x → g d = some x) : ∀ (xs : List D) (ps : List PyData), datL f xs = some ps → optAll g xs = some ps
  | [], _, e => e
  | x :: xs, ps, e => by
    unfold datL at e
    unfold optAll
    cases e1 : f x with
    | none => rw [e1] at e; cases e
    | some y =>
      cases e2 : datL f xs with
      | none => rw [e1, e2] at e; cases e
      | some ys =>
        rw [e1, e2] at e
        rw [h x y e1, datL_optAll h xs ys e2]
        exact e
theorem dat_toP {M : Mem} : ∀ (n : Nat) (d : D) (x : PyData), dat n M d = some x → toP n M d = some x
  | 0, _, _, e => nomatch e
  | n + 1, d, x, e => by
    cases d with
    | tup xs =>
      obtain ⟨ps, e1, rfl⟩ := Option.map_eq_some_iff.mp (show (datL (dat n M) xs).map PyData.tuple = some x from e)
      show (optAll (toP n M) xs).map PyData.tuple = _
      rw [datL_optAll (dat_toP n) xs ps e1]
      rfl
    | ref m =>
      have e' : (match seqAt M m with | some xs => (datL (dat n M) xs).map PyData.list | none => none) = some x := e
      show (match seqAt M m with | some xs => (optAll (toP n M) xs).map PyData.list | none => none) = some x
      cases q : seqAt M m with
      | none => rw [q] at e'; cases e'
      | some xs =>
        rw [q] at e'
        obtain ⟨ps, e1, rfl⟩ := Option.map_eq_some_iff.mp e'
        simp only
        rw [datL_optAll (dat_toP n) xs ps e1]
        rfl
    | _ => exact e
theorem datL_depth {f : D → Option PyData} {n : Nat} (h : ∀ d x, f d = some x → x.depth ≤ n) : ∀ (xs : List D) (ps : List PyData), datL f xs = some ps → PyData.depthAll ps ≤ n
  | [], _, e => by cases e; exact Nat.zero_le _
  | x :: xs, ps, e => by
    unfold datL at e
    cases e1 : f x with
    | none => rw [e1] at e; cases e
    | some y =>
      cases e2 : datL f xs with
      | none => rw [e1, e2] at e; cases e
      | some ys =>
        rw [e1, e2] at e
        cases e
        exact Nat.max_le.mpr ⟨h x y e1, datL_depth h xs ys e2⟩
theorem dat_depth {M : Mem} : ∀ (n : Nat) (d : D) (x : PyData), dat n M d = some x → x.depth ≤ n
  | 0, _, _, e => nomatch e
  | n + 1, d, x, e => by
    cases d with
    | tup xs =>
      obtain ⟨ps, e1, rfl⟩ := Option.map_eq_some_iff.mp (show (datL (dat n M) xs).map PyData.tuple = some x from e)
      exact Nat.succ_le_succ (datL_depth (dat_depth n) xs ps e1)
    | ref m =>
      have e' : (match seqAt M m with | some xs => (datL (dat n M) xs).map PyData.list | none => none) = some x := e
      cases q : seqAt M m with
      | none => rw [q] at e'; cases e'
      | some xs =>
        rw [q] at e'
        obtain ⟨ps, e1, rfl⟩ := Option.map_eq_some_iff.mp e'
        exact Nat.succ_le_succ (datL_depth (dat_depth n) xs ps e1)
    | non => cases e; exact Nat.zero_le _
    | bl b => cases e; exact Nat.zero_le _
    | int i => cases e; exact Nat.zero_le _
    | str y => cases e; exact Nat.zero_le _
    | err y => cases e
/-- what can be shown can be held against other things -/
theorem Sh.shaped {M : Mem} {w : Nat} {d : D} (h : Sh M 40 w d) : (toP 64 M d).isSome = true ∧ ∀ p, toP 64 M d = some p → SeqAt.shaped p = true := by
  obtain ⟨x, a, ⟨_, g⟩, _⟩ := h
  have e := toP_mono (f := 40) (g := 64) (by decide) (dat_toP 40 d x a)
  refine ⟨by rw [e]; rfl, fun p hp => ?_⟩
  rw [e] at hp
  cases hp
  unfold SeqAt.shaped
  rw [g, Bool.true_and]
  exact decide_eq_true (Nat.le_trans (dat_depth 40 d x a) (by decide))
end TL
end
section
set_option maxHeartbeats 4000000
namespace TL
open PySem PySem.Spec PyProof.Rows L2
/-- how many of these are not seen before -/
def fresh {κ : Type} [DecidableEq κ] (S : κ → Bool) : List κ → Nat
  | [] => 0
  | x :: xs => (if S x then 0 else 1) + fresh (fun y => S y || decide (y = x)) xs
def mLenSet : Op1 := fun d M => match d with
  | .ref n => match seqAt M n with
    | some xs => match strsOf xs with
      | some ys => if ys.length ≤ 1000 then some (.int (fresh (fun _ => false) ys : Nat), M) else none
      | none => none
    | none => none
  | _ => none
def eLenSet (a : ME) : ME := eUn mLenSet a
@[simp] theorem eLenSet_ap {a : ME} {env : TL.Env} {M : Mem} : eLenSet a env M = (a env M).bind fun d M1 => liftO (mLenSet d M1) := rfl
end TL
end
section
set_option maxHeartbeats 4000000
namespace TL
open PySem PySem.Spec PyProof.Rows L2
def mNotInX : Op2 := fun a b M => (inX M a b).map fun k => (.bl (!k), M)
theorem o_notInX {X : Cx} (hu : X.A.units + 65 < cLine) : OpR X (compareOp .NotIn) (rD2 X.K mNotInX) := by
  refine OpR.imp (o_notIn.or (op_notInD hu)) fun x y H Q h => ?_
  obtain ⟨ι, M, a, b, S, ra, rb, h⟩ := h
  unfold mNotInX inX at h
  cases e : inD M a b with
  | some k =>
    rw [e] at h
    refine .inl ⟨ι, M, a, b, S, ra, rb, ?_⟩
    unfold mNotIn
    rw [e]
    exact h
  | none =>
    rw [e] at h
    dsimp only at h
    cases e1 : toP 64 M a with
    | none => rw [e1] at h; exact h.elim
    | some p =>
      rw [e1] at h
      cases e2 : toP 64 M b with
      | none => rw [e2] at h; exact h.elim
      | some q =>
        rw [e2] at h
        cases q with
        | list ps =>
          dsimp only at h
          by_cases c : SeqAt.shaped p = true ∧ SeqAt.shaped (.list ps) = true
          · rw [if_pos c] at h
            exact .inr ⟨p, ps, dp_of S _ _ _ _ ra e1, dp_of S _ _ _ _ rb e2, c.1, c.2, OpO.val S h (.bl _)⟩
          · rw [if_neg c] at h
            exact h.elim
        | _ => exact h.elim
/-- the text, and nothing else -/
def isText (x : Str) : D → Bool
  | .str y => decide (y = x)
  | _ => false
end TL
end
section
set_option maxHeartbeats 4000000
namespace TL
open PySem PySem.Spec PyProof.Rows L2
def putD (f : Str) (d : D) : List (Str × D) → List (Str × D)
  | [] => [(f, d)]
  | (g, x) :: r => if g = f then (g, d) :: r else (g, x) :: putD f d r
section
variable {K : PySem.W.Frag} {ι : List Addr} {H : Hp}
theorem RpF.put {f : Str} {d : D} {v : V} (r : Rp K ι H d v) : ∀ {fs : List (Str × D)} {vs : List (Str × V)}, RpF K ι H fs vs → RpF K ι H (putD f d fs) (putF f v vs)
  | _, _, .nil => .cons r .nil
  | _, _, .cons (x := x) h t => by
    unfold putD putF
    by_cases e : x = f
    · rw [if_pos e, if_pos e]; exact .cons r t
    · rw [if_neg e, if_neg e]; exact .cons h (RpF.put r t)
theorem RpF.look {f : Str} : ∀ {fs : List (Str × D)} {vs : List (Str × V)}, RpF K ι H fs vs → ∀ d, fs.lookup f = some d → ∃ v, vs.lookup f = some v ∧ Rp K ι H d v
  | _, _, .nil, d, e => nomatch e
  | _, _, .cons (x := x) (v := v) h t, d, e => by
    by_cases q : f = x
    · subst q
      simp only [List.lookup, beq_self_eq_true] at e
      cases e
      exact ⟨v, by simp [List.lookup], h⟩
    · have q' : (f == x) = false := by simpa using q
      simp only [List.lookup, q'] at e
      obtain ⟨u, e1, e2⟩ := RpF.look t d e
      exact ⟨u, by simp only [List.lookup, q']; exact e1, e2⟩
theorem RpF.length : ∀ {fs : List (Str × D)} {vs : List (Str × V)}, RpF K ι H fs vs → fs.length = vs.length
  | _, _, .nil => rfl
  | _, _, .cons _ t => congrArg (· + 1) t.length
end
/-- the object there, of that class -/
def insAt (M : Mem) (c : Str) (n : Nat) : Option (List (Str × D)) := match M[n]? with
  | some (.ins c' fs) => if c' = c then some fs else none
  | _ => none
/-- x.f -/
def mFld (c f : Str) : Op1 := fun d M => match d with
  | .ref n => match insAt M c n with
    | some fs => (fs.lookup f).map fun v => (v, M)
    | none => none
  | _ => none
def eFld (c f : Str) (e : ME) : ME := eUn (mFld c f) e
/-- x.f = v -/
def putO (c f : Str) (x v : D) (M : Mem) : Option Mem := match x with
  | .ref n => match insAt M c n with
    | some fs => if fs.length < 1000 then some (M.set n (.ins c (putD f v fs))) else none
    | none => none
  | _ => none
def sFldD (c f : Str) (o e : ME) : MS := fun env M => thenS env (e env M) fun v M1 => thenS env (o env M1) fun x M2 => match putO c f x v M2 with
  | some M3 => .next env M3
  | none => .stuck
/-- a method of that class; dd: what stands for arguments left out -/
structure CalleeM (P : Program) (w : World) (K : PySem.W.Frag) (mg : Str → Option Value) (base : Heap) (c m : Str) (n k : Nat) (dd : List D) (fn : Fn) : Prop where
  ex : ∃ (fd : FuncData) (ps : List Str) (dvs : List V) (ds : List Value), FnOk P w K mg base (L2N.CX P w) k (He.ma K (He.ga K c) m) fd ps (spD K n fn) ∧ Binds K fd ps ds ∧ Vals dvs ds ∧ (∀ ι H, RpA K ι H dd dvs)
  len : ∀ ds M, ds.length ≠ n → fn ds M = .stuck
  cls : Cls K (He.ga K c)
  meth : Meth K (He.ga K c) m (He.ma K (He.ga K c) m)
theorem CalleeM.mono {P : Program} {w : World} {K : PySem.W.Frag} {mg : Str → Option Value} {base : Heap} {c m : Str} {n j k : Nat} {dd : List D} {fn : Fn} (C : CalleeM P w K mg base c m n j dd fn) (h : j ≤ k) : CalleeM P w K mg base c m n k dd fn := by
  obtain ⟨fd, ps, dvs, ds, F, a, b, d⟩ := C.ex
  exact ⟨⟨fd, ps, dvs, ds, F.mono h, a, b, d⟩, C.len, C.cls, C.meth⟩
/-- x.m(..) -/
def eMeM (c m : Str) (dd : List D) (fn : Fn) (o : ME) (mas : MA) : ME := fun env M => (o env M).bind fun x M1 => match x with
  | .ref n => match insAt M1 c n with
    | some fs => if (fs.lookup m).isNone = true then (mas env M1).bind fun ds M2 => fn (.ref n :: (ds ++ dd)) M2 else .stuck
    | none => .stuck
  | _ => .stuck
/-- C(..): a new object, then its __init__ -/
def eMake (c : Str) (dd : List D) (fn : Fn) (mas : MA) : ME := fun env M => (mas env M).bind fun ds M1 => (fn (.ref M1.length :: (ds ++ dd)) (M1 ++ [.ins c []])).bind fun d M2 => match d with
  | .non => .ok (.ref M1.length) M2
  | _ => .stuck
section
variable {P : Program} {w : World} {K : PySem.W.Frag} {mg : Str → Option Value} {base : Heap}
theorem okFd {x qual : Str} {params : Arguments} {body : List Stmt} {scope : Scope} {dvs : List V} {f : Addr} {fd : FuncData} {N ps : List Str} {k : Nat} {mb : MS} (F : FunD K x qual params body scope dvs [] f fd) (S : FnScope N ps scope)
    (hbody : ∀ (cdv : Value) (A : Around) (outer : List PySem.Env) (s : Shared) (H : Hp) (E : XK), let X := cxOf (L2N.CX P w) P w K mg base N qual scope f cdv A outer s H E
      Ctx X (fun cls d _ H => E cls d H) k → PSs X body (LS K (fun cls d _ H => E cls d H) mb)) :
    FnOk P w K mg base (L2N.CX P w) (k + 1) f fd ps (spD K ps.length (fnD ps.length N.length mb)) := by
  refine F.ok S (fun vs H Q E h => h.1) ?_
  rintro cdv A outer s H vs Q E room ⟨many, ι, ds, M, SS, rs, h⟩
  have C : Ctx (cxOf (L2N.CX P w) P w K mg base N qual scope f cdv A outer s H E) (fun cls d _ H => E cls d H) k := ⟨rfl, S.nd, room, L2N.takes_of rfl rfl rfl rfl, passes_of rfl⟩
  have h' : OutP K E ι H (endS (mb (startE N.length ds) M)) (VR K Q) := by
    unfold fnD at h
    rwa [if_pos (by rw [rs.length]; exact many)] at h
  have R0 : EnvR K ι H (startE N.length ds) (L2.start N vs) := by
    unfold startE L2.start
    rw [rs.length]
    exact envR_start rs _
  refine ⟨_, hbody cdv A outer s H E C, ι, startE N.length ds, M, SS, R0, ?_⟩
  clear h
  revert h'
  cases mb (startE N.length ds) M with
  | next env M1 => exact fun h ι1 σ1 H1 e1 S1 _ => h ι1 H1 e1 S1 _ .non
  | ret d M1 => exact fun h ι1 v H1 e1 S1 r => h ι1 H1 e1 S1 v r
  | exc y env M1 => exact fun h ι1 σ1 H1 cls dx e1 S1 _ ex => h ι1 H1 cls dx e1 S1 ex
  | stuck => exact fun h => h
end
def meR (c m : Str) (dd : List D) (fn : Fn) (mas : MA) (env : Env) (x : D) (M1 : Mem) : Out D := match x with
  | .ref n => match insAt M1 c n with
    | some fs => if (fs.lookup m).isNone = true then (mas env M1).bind fun ds M2 => fn (.ref n :: (ds ++ dd)) M2 else .stuck
    | none => .stuck
  | _ => .stuck
def putS (env : Env) (o : Option Mem) : SOut := match o with
  | some M => .next env M
  | none => .stuck
def noneO (d x : D) (M : Mem) : Out D := match d with
  | .non => .ok x M
  | _ => .stuck
section
variable {M : Mem} {n : Nat} {c f m : Str} {fs : List (Str × D)} {dd : List D} {fn : Fn} {mas : MA} {env : Env} {o e : ME}
@[simp] theorem eMeM_ap : eMeM c m dd fn o mas env M = (o env M).bind fun x M1 => meR c m dd fn mas env x M1 := rfl
@[simp] theorem eFld_ap : eFld c f e env M = (e env M).bind fun d M1 => liftO (mFld c f d M1) := rfl
@[simp] theorem sFldD_ap : sFldD c f o e env M = thenS env (e env M) fun v M1 => thenS env (o env M1) fun x M2 => putS env (putO c f x v M2) := rfl
@[simp] theorem putS_some : putS env (some M) = .next env M := rfl
@[simp] theorem eMake_ap : eMake c dd fn mas env M = (mas env M).bind fun ds M1 => (fn (.ref M1.length :: (ds ++ dd)) (M1 ++ [.ins c []])).bind fun d M2 => noneO d (.ref M1.length) M2 := rfl
@[simp] theorem noneO_non {x : D} : noneO .non x M = .ok x M := rfl
end
end TL
end
section
set_option maxHeartbeats 4000000
namespace TL
open PySem PySem.Spec PyProof.Rows L2
def enumItems : Nat → List D → List D
  | _, [] => []
  | i, x :: xs => .tup [.int (i : Nat), x] :: enumItems (i + 1) xs
def enumOf (M : Mem) (d : D) : Option Src := match d with
  | .ref n => (seqAt M n).map fun xs => ⟨enumItems 0 xs, fun M' => seqAt M' n = some xs⟩
  | _ => none
noncomputable def iEnumD (e : ME) : MI := fun env M => (e env M).bind fun d M1 => match enumOf M1 d with
  | some s => .ok s M1
  | none => .stuck
section
variable {M : Mem} {env : Env} {e : ME}
@[simp] theorem iEnumD_ap : iEnumD e env M = (e env M).bind fun d M1 => match enumOf M1 d with
  | some s => .ok s M1
  | none => .stuck := rfl
end
end TL
end
section
set_option maxHeartbeats 4000000
namespace TL
open PySem PySem.Spec PyProof.Rows L2
/-- a key: a tuple, at most eight deep -/
def keyOf : D → Option NestedKey
  | .tup xs => match nk (.tup xs) with
    | some k => if k.depth ≤ 8 then some k else none
    | none => none
  | _ => none
/-- what stands behind that key -/
def dctFind : List (D × D) → NestedKey → Option D
  | [], _ => none
  | (d, e) :: r, k => if nk d = some k then some e else dctFind r k
/-- that key's thing, anew -/
def dctRepl (k : NestedKey) (e : D) : List (D × D) → List (D × D)
  | [] => []
  | (d, x) :: r => if nk d = some k then (d, e) :: dctRepl k e r else (d, x) :: dctRepl k e r
def dctPut (kvs : List (D × D)) (d : D) (k : NestedKey) (e : D) : List (D × D) := if (dctFind kvs k).isSome then dctRepl k e kvs else kvs ++ [(d, e)]
theorem keyOf_some {d : D} {k : NestedKey} (h : keyOf d = some k) : (∃ xs, d = .tup xs) ∧ nk d = some k ∧ k.depth ≤ 8 := by
  unfold keyOf at h
  split at h
  · rename_i xs
    split at h
    · rename_i q
      split at h
      · cases h
        exact ⟨⟨_, rfl⟩, q, by assumption⟩
      · cases h
    · cases h
  · cases h
section
variable {K : PySem.W.Frag} {ι : List Addr} {H : Hp}
/-- no text in it: its hash hangs on no world -/
theorem nk_hash (w w' : World) : (∀ d k, nk d = some k → k.hash w = k.hash w') := fun d => by
  refine TL.nk.induct (motive_1 := fun d => ∀ k, nk d = some k → k.hash w = k.hash w') (motive_2 := fun ds => ∀ ks, nkL ds = some ks → NestedKey.hashes w ks = NestedKey.hashes w' ks) ?_ ?_ ?_ ?_ ?_ ?_ ?_ d
  · intro k h; simp only [nk, Option.some.injEq] at h; subst h; rfl
  · intro i k h; simp only [nk, Option.some.injEq] at h; subst h; rfl
  · intro xs ih k h
    simp only [nk, Option.map_eq_some_iff] at h
    obtain ⟨ks, e, rfl⟩ := h
    simp only [NestedKey.hash, ih ks e]
  · intro d h1 h2 h3 k h
    cases d with
    | non => exact absurd rfl h1
    | int i => exact absurd rfl (h2 i)
    | tup xs => exact absurd rfl (h3 xs)
    | _ => simp [nk] at h
  · intro ks h; simp only [nkL, Option.some.injEq] at h; subst h; rfl
  · intro d ds k ks e1 e2 i1 i2 ks' h
    simp only [nkL, e1, e2, Option.some.injEq] at h
    subst h
    simp only [NestedKey.hashes, i1 _ e2, i2 _ e1]
  · intro d ds hn i1 i2 ks h
    exfalso
    unfold nkL at h
    split at h
    · rename_i k ks' q1 q2
      exact hn k ks' q1 q2
    · cases h
end
section
variable {X : Cx} {pins : List (Addr × Obj)} {σ : L2.St} {ι : List Addr} {H : Hp} {s : Shared}
mutual
theorem key_is (I : Inv X pins σ H s) : ∀ {d : D} {k : NestedKey} {v : V} {u : Value}, nk d = some k → Rp X.K ι H d v → RelV v u → NestedIs s.heap k u
  | .non, k, v, u, e, r, q => by
    simp only [nk, Option.some.injEq] at e; subst e
    cases r.non_inv
    cases (show u = Value.none from q)
    exact .none
  | .int i, k, v, u, e, r, q => by
    simp only [nk, Option.some.injEq] at e; subst e
    cases r.int_inv
    obtain ⟨t, rfl⟩ := q
    exact .int _ _
  | .tup xs, k, v, u, e, r, q => by
    simp only [nk, Option.map_eq_some_iff] at e
    obtain ⟨ks, e, rfl⟩ := e
    cases r with
    | tup h1 h2 =>
      cases (show u = Value.ref _ from q)
      obtain ⟨its, h3, ⟨o, h4, h5, n, h6⟩, _⟩ := I.tuple h1
      exact .tup h4 h5 h6 (by rw [List.toList_toArray]; exact keys_are I e h2 h3)
  | .bl b, k, v, u, e, r, q => by simp [nk] at e
  | .str b, k, v, u, e, r, q => by simp [nk] at e
  | .ref b, k, v, u, e, r, q => by simp [nk] at e
  | .err b, k, v, u, e, r, q => by simp [nk] at e
theorem keys_are (I : Inv X pins σ H s) : ∀ {ds : List D} {ks : List NestedKey} {vs : List V} {us : List Value}, nkL ds = some ks → RpA X.K ι H ds vs → Vals vs us → NestedAll s.heap ks us
  | [], ks, vs, us, e, r, q => by
    simp only [nkL, Option.some.injEq] at e; subst e
    cases r
    cases q
    exact .nil
  | d :: ds, ks, vs, us, e, r, q => by
    unfold nkL at e
    split at e
    · rename_i k ks' e1 e2
      cases e
      cases r with
      | cons r1 r2 =>
        cases q with
        | cons q1 q2 => exact .cons (key_is I e1 r1 q1) (keys_are I e2 r2 q2)
    · cases e
end
abbrev PV : List (NestedKey × Addr × V) → List (NestedKey × Addr × Value) → Prop := Paired (fun p q => p.1 = q.1 ∧ p.2.1 = q.2.1 ∧ RelV p.2.2 q.2.2)
theorem dct_keys (I : Inv X pins σ H s) : ∀ {kvs : List (D × D)} {xs : List (NestedKey × Addr × V)} {vs : List (NestedKey × Addr × Value)}, RpD X.K ι H kvs xs → PV xs vs → (∀ x ∈ vs, (nestedKind X.prog X.w).is s.heap x.1 x.2.1) ∧ xs.map (·.1) = vs.map (·.1) := by
  intro kvs xs vs r
  induction r generalizing vs with
  | nil => intro p; cases p; exact ⟨fun x hx => (nomatch hx), rfl⟩
  | cons a1 a2 a3 a4 t ih =>
    intro p
    cases p with
    | cons p1 p2 =>
      obtain ⟨i1, i2⟩ := ih p2
      obtain ⟨q1, q2, q3⟩ := p1
      refine ⟨fun x hx => ?_, by rw [List.map_cons, List.map_cons, i2, q1]⟩
      rcases List.mem_cons.mp hx with rfl | hx
      · refine ⟨?_, by rw [← q1]; exact a2⟩
        rw [← q1, ← q2]
        exact key_is I a1 a3 rfl
      · exact i1 x hx
/-- the dict's own words -/
theorem dct_of (I : Inv X pins σ H s) {a : Addr} {kvs : List (D × D)} (h : MOk X.K ι H a (.dct kvs)) : ∃ xs vs, H a = some (.ext (DctIs a xs)) ∧ RpD X.K ι H kvs xs ∧ PV xs vs ∧ (a == sysModules) = false ∧ s.heap.DictOfH (nestedKind X.prog X.w) a vs := by
  obtain ⟨xs, h1, h2, h3⟩ := h
  obtain ⟨⟨hs, o, es, ep, vs, e1, e2, e3, e4, e5⟩, _⟩ := I.hok a _ h1
  obtain ⟨g1, g2⟩ := dct_keys I h2 e4
  exact ⟨xs, vs, h1, h2, e4, hs, o, es, ep, e1, e2, e3, e5 X.w, g1, by rw [← g2]; exact h3⟩
theorem dct_find {kvs : List (D × D)} {xs : List (NestedKey × Addr × V)} {vs : List (NestedKey × Addr × Value)} (r : RpD X.K ι H kvs xs) (p : PV xs vs) (k : NestedKey) :
    (dctFind kvs k = none → atKey vs k = none) ∧ ∀ e, dctFind kvs k = some e → ∃ v b u, Rp X.K ι H e v ∧ RelV v u ∧ atKey vs k = some (b, u) := by
  induction r generalizing vs with
  | nil => cases p; exact ⟨fun _ => rfl, fun e h => by simp [dctFind] at h⟩
  | @cons d e k' b v ds xs a1 a2 a3 a4 t ih =>
    cases p with
    | @cons p q ps qs p1 p2 =>
      obtain ⟨q1, q2, q3⟩ := p1
      obtain ⟨i1, i2⟩ := ih p2
      unfold dctFind atKey
      by_cases c : k' = k
      · have c1 : nk d = some k := by rw [a1, c]
        have c2 : q.1 = k := by rw [← q1]; exact c
        rw [if_pos c1]
        refine ⟨fun h => (nomatch h), fun e' h => ?_⟩
        cases h
        exact ⟨v, q.2.1, q.2.2, a4, q3, by simp [List.find?_cons, c2]⟩
      · have c1 : ¬ nk d = some k := by rw [a1]; simpa using c
        have c2 : ¬ q.1 = k := by rw [← q1]; exact c
        rw [if_neg c1]
        have f : (List.find? (fun x => decide (x.1 = k)) (q :: qs)) = List.find? (fun x => decide (x.1 = k)) qs := by simp [List.find?_cons, c2]
        rw [f]
        exact ⟨i1, i2⟩
end
/-- a dict that is there -/
def dctAt (M : Mem) (n : Nat) : Option (List (D × D)) := match M[n]? with
  | some (.dct kvs) => some kvs
  | some (.dcz kvs) => some kvs
  | _ => none
theorem dct_rd {X : Cx} {pins : List (Addr × Obj)} {σ : L2.St} {ι : List Addr} {H : Hp} {s : Shared} {M : Mem} (I : Inv X pins σ H s) (S : SR X.K ι H M) {n : Nat} {a : Addr} {kvs : List (D × D)} (ha : ι[n]? = some a) (h : dctAt M n = some kvs) :
    ∃ xs vs, RpD X.K ι H kvs xs ∧ PV xs vs ∧ (a == sysModules) = false ∧ s.heap.DictOfH (nestedKind X.prog X.w) a vs := by
  unfold dctAt at h
  split at h
  · rename_i k1 hm
    cases h
    obtain ⟨xs, vs, _, h2⟩ := dct_of I (S.ok n a _ ha hm)
    exact ⟨xs, vs, h2⟩
  · rename_i k1 hm
    cases h
    obtain ⟨xs, o, h1, h2, h3⟩ := S.ok n a _ ha hm
    have I1 : ObjOk X.prog X.w H s.heap a (.ext (DctIs a xs)) := (I.hok a _ h1).2
    have k2 : MOk X.K ι (upd H a (.ext (DctIs a xs))) a (.dct kvs) → True := fun _ => trivial
    obtain ⟨⟨hs, o', es, ep, vs, e1, e2, e3, e4, e5⟩, _⟩ := I1
    obtain ⟨g1, g2⟩ := dct_keys I h2 e4
    exact ⟨xs, vs, h2, e4, hs, o', es, ep, e1, e2, e3, e5 X.w, g1, by rw [← g2]; exact h3⟩
  · cases h
def mGet : Op2 := fun x y M => match x with
  | .ref n => match dctAt M n with
    | some kvs => match keyOf y with
      | some k => (dctFind kvs k).map fun d => (d, M)
      | none => none
    | none => match M[n]? with
      | some (.dcs fs) => match y with
        | .str x => (fs.lookup x).map fun d => (d, M)
        | _ => none
      | _ => none
  | _ => none
theorem valV_lookup {vs : List (Str × V)} {x : Str} : valV (vs.map fun p => ((.inr p.1 : Key), p.2)) (.inr x) = vs.lookup x := by
  induction vs with
  | nil => rfl
  | cons p r ih =>
    obtain ⟨y, v⟩ := p
    rw [List.map_cons]
    by_cases c : x = y
    · subst c
      rw [valV_pos rfl]
      simp [List.lookup]
    · rw [valV_neg (by intro e; cases e; exact c rfl), ih]
      have q' : (x == y) = false := by simpa using c
      simp only [List.lookup, q']
theorem ix_get {X : Cx} (hu : X.A.units + 9 < cLine) : IxR X (rD2 X.K mGet) := by
  intro value slice pins s σ H x y v u Q I rx ry ⟨ι, M, a, b, S, ra, rb, h⟩ hs
  unfold mGet at h
  split at h
  · rename_i n
    obtain ⟨p, rfl, hp⟩ := ra.ref_inv
    cases (show v = Value.ref p from rx)
    split at h
    · rename_i kvs hm
      split at h
      · rename_i k hk
        obtain ⟨⟨ys, rfl⟩, k1, k2⟩ := keyOf_some hk
        cases q : dctFind kvs k with
        | none => rw [q] at h; exact h.elim
        | some e =>
          rw [q] at h
          obtain ⟨xs, vs, h2, h3, h4, h5⟩ := dct_rd I S hp hm
          obtain ⟨z, bb, w2, r1, r2, r3⟩ := (dct_find h2 h3 k).2 e q
          obtain ⟨c, us, rfl, h6, h7⟩ := rb.tup_inv
          cases (show u = Value.ref c from ry)
          refine subscriptTail_builtinR (x := w2) h5.typeIs PySem.F.slot_dict_getitem.lookup ?_ hs
          exact wpAny_getItem_heap (knd := nestedKind X.prog X.w) (show X.A.in1.units + 8 < cLine from by show X.A.units + 1 + 8 < cLine; omega) ⟨key_is I k1 rb rfl, k2⟩ h5 r3 ⟨rfl, z, H, I.tok _, r2, h.val S r1⟩
      · exact h.elim
    · split at h
      case h_2 => exact h.elim
      rename_i fs hm
      split at h
      · rename_i z
        cases rb.str_inv
        cases q : fs.lookup z with
        | none => rw [q] at h; exact h.elim
        | some e =>
          rw [q] at h
          obtain ⟨vs, h1, h2⟩ := S.ok n p _ hp hm
          obtain ⟨v, e4, r4⟩ := h2.look e q
          obtain ⟨z1, hd, vs1, rel, dd⟩ := dk_rd I.hok (.inl h1)
          obtain ⟨w', hw, rw'⟩ := RelO.some_of (v := v) (o := valueAt vs1 (.inr z)) (by rw [← e4, ← valV_lookup]; exact rel.val _)
          refine subscriptTail_builtinR (x := w') dd.typeIs PySem.F.slot_dict_getitem.lookup ?_ hs
          exact wpAny_getItem_of (kV_is (k := .inr z) ry) dd.mapOf hw ⟨rfl, v, H, I.tok _, rw', h.val S r4⟩
      · exact h.elim
  · exact h.elim
section
variable {X : Cx} {W : WX} {a b : Expr} {ma mb : ME} {pos : Pos}
theorem d_get (hu : X.A.units + 9 < cLine) (ha : PE X a (LE X.K W ma)) (hb : PE X b (LE X.K W mb)) (hs : PlainIx b := by exact fun _ _ => rfl) : PE X (.Subscript a b pos) (LE X.K W (eBin mGet ma mb)) :=
  (pe_ix (ix_get hu) ha hb hs).imp fun σ H Q h => le_bin (fun _ _ _ _ z => z) h
theorem Ctx.hu9 {k : Nat} (C : Ctx X W k) : X.A.units + 9 < cLine := by have := C.hu65; omega
end
def mNotInD : Op2 := fun y x M => match x with
  | .ref n => match dctAt M n with
    | some kvs => match keyOf y with
      | some k => some (.bl (!(dctFind kvs k).isSome), M)
      | none => none
    | _ => none
  | _ => none
section
variable {X : Cx} {pins : List (Addr × Obj)} {σ : L2.St} {ι : List Addr} {H : Hp} {s : Shared}
theorem dct_isSome {kvs : List (D × D)} {xs : List (NestedKey × Addr × V)} {vs : List (NestedKey × Addr × Value)} (r : RpD X.K ι H kvs xs) (p : PV xs vs) (k : NestedKey) : (atKey vs k).isSome = (dctFind kvs k).isSome := by
  obtain ⟨h1, h2⟩ := dct_find (X := X) r p k
  cases q : dctFind kvs k with
  | none => rw [h1 q]; rfl
  | some e =>
    obtain ⟨v, b, u, _, _, e2⟩ := h2 e q
    rw [e2]; rfl
theorem o_notInD (hu : X.A.units + 9 < cLine) : OpR X (compareOp .NotIn) (rD2 X.K mNotInD) := by
  intro pins s σ H x y v u Q I rx ry ⟨ι, M, a, b, S, ra, rb, h⟩
  unfold mNotInD at h
  split at h
  · rename_i n
    obtain ⟨p, rfl, hp⟩ := rb.ref_inv
    cases (show u = Value.ref p from ry)
    split at h
    · rename_i kvs hm
      split at h
      · rename_i k hk
        obtain ⟨⟨ys, rfl⟩, k1, k2⟩ := keyOf_some hk
        obtain ⟨xs, vs, h2, h3, h4, h5⟩ := dct_rd I S hp hm
        obtain ⟨c, us, rfl, h6, h7⟩ := ra.tup_inv
        cases (show v = Value.ref c from rx)
        refine notIn_keyed (knd := nestedKind X.prog X.w) (kvs := pairsH vs) (show X.A.in1.units + 8 < cLine from by show X.A.units + 1 + 8 < cLine; omega) ⟨key_is I k1 ra rfl, k2⟩ h4 ⟨vs, h5, rfl⟩ ⟨_, H, I.tok _, (by rw [valueAt_pairsH, Option.isSome_map, dct_isSome (X := X) h2 h3]; rfl), h.val S (.bl _)⟩
      · exact h.elim
    · exact h.elim
  · exact h.elim
theorem dctIs_stay {a : Addr} {xs : List (NestedKey × Addr × V)} {h1 h2 : Heap} (h : DctIs a xs h1) (k : ∀ o, h1.get? a = some o → h2.get? a = some o) : DctIs a xs h2 := by
  obtain ⟨hs, o, es, ep, vs, e1, r⟩ := h
  exact ⟨hs, o, es, ep, vs, k o e1, r⟩
theorem dctIs_of {h : Heap} {a : Addr} {kvs : List (D × D)} {xs : List (NestedKey × Addr × V)} {vs : List (NestedKey × Addr × Value)} {P : Program} {w0 : World} (hs : (a == sysModules) = false) (r : RpD X.K ι H kvs xs) (p : PV xs vs) (hd : h.DictOfH (nestedKind P w0) a vs) : DctIs a xs h := by
  obtain ⟨o, es, ep, e1, e2, e3, e4, _, _⟩ := hd
  refine ⟨hs, o, es, ep, vs, e1, e2, e3, p, fun w => ?_⟩
  rw [e4]
  have go : ∀ {kvs : List (D × D)} {xs : List (NestedKey × Addr × V)} {vs : List (NestedKey × Addr × Value)}, RpD X.K ι H kvs xs → PV xs vs → vs.map (entryOfKey (nestedKind P w0)) = vs.map fun x => (⟨NestedKey.hash w x.1, .ref x.2.1, x.2.2⟩ : DictEntry) := by
    intro kvs xs vs r
    induction r generalizing vs with
    | nil => intro p; cases p; rfl
    | @cons d e k b v ds us a1 a2 a3 a4 t ih =>
      intro p
      cases p with
      | @cons _ q _ qs p1 p2 =>
        rw [List.map_cons, List.map_cons, ih p2]
        congr 1
        have e1 : k = q.1 := p1.1
        have := nk_hash w0 w _ _ a1
        rw [e1] at this
        show (⟨NestedKey.hash w0 q.1, _, _⟩ : DictEntry) = _
        rw [this]
  exact go r p
theorem dctIs_obj {h : Heap} {a : Addr} {xs : List (NestedKey × Addr × V)} {P : Program} {w : World} (d : DctIs a xs h) : ObjOk P w H h a (.ext (DctIs a xs)) :=
  ⟨d, let ⟨_, o, _, _, _, e, _⟩ := d; ⟨o, e⟩, fun _ _ d k => dctIs_stay d k⟩
theorem rpd_snoc {d e : D} {k : NestedKey} {b : Addr} {v : V} (h1 : nk d = some k) (h2 : k.depth ≤ 8) (h3 : Rp X.K ι H d (.ref b)) (h4 : Rp X.K ι H e v) : ∀ {kvs : List (D × D)} {xs : List (NestedKey × Addr × V)}, RpD X.K ι H kvs xs → RpD X.K ι H (kvs ++ [(d, e)]) (xs ++ [(k, b, v)])
  | _, _, .nil => .cons h1 h2 h3 h4 .nil
  | _, _, .cons a1 a2 a3 a4 t => .cons a1 a2 a3 a4 (rpd_snoc h1 h2 h3 h4 t)
theorem rpd_repl {e : D} {k : NestedKey} {v : V} {u : Value} (h4 : Rp X.K ι H e v) (rv : RelV v u) : ∀ {kvs : List (D × D)} {xs : List (NestedKey × Addr × V)} {vs : List (NestedKey × Addr × Value)}, RpD X.K ι H kvs xs → PV xs vs →
    ∃ xs', RpD X.K ι H (dctRepl k e kvs) xs' ∧ PV xs' (vs.map (putAt k u))
  | _, _, _, .nil, p => by cases p; exact ⟨[], .nil, .nil⟩
  | _, _, _, .cons (d := d) (k := k') a1 a2 a3 a4 t, p => by
    cases p with
    | @cons p q ps qs p1 p2 =>
      obtain ⟨xs', i1, i2⟩ := rpd_repl (k := k) h4 rv t p2
      obtain ⟨q1, q2, q3⟩ := p1
      unfold dctRepl
      rw [List.map_cons]
      by_cases c : k' = k
      · have c1 : nk d = some k := by rw [a1, c]
        have c2 : q.1 = k := by rw [← q1]; exact c
        rw [if_pos c1]
        exact ⟨_, .cons a1 a2 a3 h4 i1, .cons ⟨by unfold putAt; rw [if_pos c2]; exact q1, by unfold putAt; rw [if_pos c2]; exact q2, by unfold putAt; rw [if_pos c2]; exact rv⟩ i2⟩
      · have c1 : ¬ nk d = some k := by rw [a1]; simpa using c
        have c2 : ¬ q.1 = k := by rw [← q1]; exact c
        rw [if_neg c1]
        exact ⟨_, .cons a1 a2 a3 a4 i1, .cons ⟨by unfold putAt; rw [if_neg c2]; exact q1, by unfold putAt; rw [if_neg c2]; exact q2, by unfold putAt; rw [if_neg c2]; exact q3⟩ i2⟩
theorem pv_snoc {k : NestedKey} {b : Addr} {v : V} {u : Value} (rv : RelV v u) : ∀ {xs : List (NestedKey × Addr × V)} {vs : List (NestedKey × Addr × Value)}, PV xs vs → PV (xs ++ [(k, b, v)]) (vs ++ [(k, b, u)])
  | _, _, .nil => .cons ⟨rfl, rfl, rv⟩ .nil
  | _, _, .cons p t => .cons p (pv_snoc rv t)
theorem rpd_put {d e : D} {k : NestedKey} {b : Addr} {v : V} {u : Value} {kvs : List (D × D)} {xs : List (NestedKey × Addr × V)} {vs : List (NestedKey × Addr × Value)} (r : RpD X.K ι H kvs xs) (p : PV xs vs) (h1 : nk d = some k) (h2 : k.depth ≤ 8) (h3 : Rp X.K ι H d (.ref b)) (h4 : Rp X.K ι H e v) (rv : RelV v u) :
    ∃ xs', RpD X.K ι H (dctPut kvs d k e) xs' ∧ PV xs' (storedH vs k b u) := by
  unfold dctPut storedH
  rw [dct_isSome (X := X) r p]
  by_cases c : (dctFind kvs k).isSome = true
  · rw [if_pos c, if_pos c]
    exact rpd_repl h4 rv r p
  · rw [if_neg c, if_neg c]
    exact ⟨_, rpd_snoc h1 h2 h3 h4 r, pv_snoc rv p⟩
theorem pv_keys {xs : List (NestedKey × Addr × V)} {vs : List (NestedKey × Addr × Value)} (p : PV xs vs) : xs.map (·.1) = vs.map (·.1) := by
  induction p with
  | nil => rfl
  | cons q t ih => rw [List.map_cons, List.map_cons, ih, q.1]
theorem rpd_len {kvs : List (D × D)} {xs : List (NestedKey × Addr × V)} (r : RpD X.K ι H kvs xs) : kvs.length = xs.length := by
  induction r with
  | nil => rfl
  | cons _ _ _ _ _ ih => rw [List.length_cons, List.length_cons, ih]
theorem pv_len {xs : List (NestedKey × Addr × V)} {vs : List (NestedKey × Addr × Value)} (p : PV xs vs) : xs.length = vs.length := by
  induction p with
  | nil => rfl
  | cons _ _ ih => rw [List.length_cons, List.length_cons, ih]
end
/-- x[y] = v -/
def putDct (x y v : D) (M : Mem) : Option Mem := match x with
  | .ref n => match M[n]? with
    | some (.dct kvs) => match keyOf y with
      | some k => if kvs.length < 1000000 then some (M.set n (.dct (dctPut kvs y k v))) else none
      | none => none
    | _ => none
  | _ => none
def sPutD (o i e : ME) : MS := fun env M => thenS env (e env M) fun v M1 => thenS env (o env M1) fun x M2 => thenS env (i env M2) fun y M3 => match putDct x y v M3 with
  | some M4 => .next env M4
  | none => .stuck
section
variable {X : Cx} {W : WX} {o i e : Expr} {mo mi me : ME} {pos pos' : Pos}
theorem set_Dct (hu : X.A.units + 9 < cLine) : PSet X (fun o i v H Q => ∃ ι M a b c, SR X.K ι H M ∧ Rp X.K ι H a o ∧ Rp X.K ι H b i ∧ Rp X.K ι H c v ∧ ∃ M', putDct a b c M = some M' ∧ ∀ H', Ext X.K ι H ι H' → SR X.K ι H' M' → Q H') := by
  intro pins s σ H o i v ov iv u Q I ro ri rv ⟨ι, M, a, b, c, S, ra, rb, rc, M', h, q⟩
  unfold putDct at h
  split at h
  · rename_i n
    obtain ⟨p, rfl, hp⟩ := ra.ref_inv
    cases (show ov = Value.ref p from ro)
    split at h
    · rename_i kvs hm
      split at h
      · rename_i k hk
        split at h
        · rename_i hl
          cases h
          obtain ⟨⟨ys, rfl⟩, k1, k2⟩ := keyOf_some hk
          have k0 := S.ok n p _ hp hm
          have nt := k0.notTup (u := .dct kvs) rfl
          obtain ⟨xs, vs, h1, h2, h3, h4, h5⟩ := dct_of I k0
          obtain ⟨cc, us, rfl, h6, h7⟩ := rb.tup_inv
          cases (show iv = Value.ref cc from ri)
          obtain ⟨xs', r', p'⟩ := rpd_put (X := X) h2 h3 k1 k2 rb rc rv
          have hz : vs.length ≤ sizeLine := by
            rw [sizeLine_eq, ← pv_len h3, ← rpd_len (X := X) h2]
            omega
          refine wpAny_setItem_heap (knd := nestedKind X.prog X.w) (hsz := hz) (show X.A.in1.units + 8 < cLine from by show X.A.units + 1 + 8 < cLine; omega) ⟨key_is I k1 rb rfl, k2⟩ h5 fun h' hd hs => ?_
          have ex := Ext.upd (K := X.K) (ι := ι) (o := .ext (DctIs p xs')) nt
          have di : DctIs p xs' h' := dctIs_of (X := X) h4 r' p' hd
          have he : ∃ q, h'.get? p = some q := let ⟨q, _, _, hq, _⟩ := hd; ⟨q, hq⟩
          refine ⟨_, d_write (ob := .ext (DctIs p xs')) I (by rw [h1]; exact True.intro) hs he (dctIs_obj di), q _ ex (S.write hp hm rfl rfl ⟨xs', upd_same, r'.ext ex, ?_⟩)⟩
          rw [pv_keys p']
          obtain ⟨_, _, _, _, _, _, _, _, nd⟩ := hd
          exact nd
        · cases h
      · cases h
    · cases h
  · cases h
theorem ds_subD (hu : X.A.units + 9 < cLine) (ho : PE X o (LE X.K W mo)) (hi : PE X i (LE X.K W mi)) (he : PE X e (LE X.K W me)) (hs : swapsWithSole [.Subscript o i pos'] e pos.line X.env = pure false := by rfl) (h2 : swappedStores [.Subscript o i pos'] e X.env = pure none := by rfl)
    (h1 : (assignEach [.Subscript o i pos'] X.env).map (·.2) = [assign (.Subscript o i pos') X.env] := by rfl)
    (ha : ∀ v, assign (.Subscript o i pos') X.env v = (do
      let ov ← holding [v] (eval o X.env)
      let iv ← holding [v, ov] (eval i X.env)
      standAt pos'
      holding [v, ov, iv] (setItem ov iv v)
      release [v, ov, iv] []) := by intro _; rfl) : PS X (.Assign [.Subscript o i pos'] e pos) (LS X.K W (sPutD mo mi me)) :=
  (ps_asg he (pg_sub ho hi (set_Dct hu) ha) hs h2 h1).imp fun En σ H ⟨ι, env, M, S, R, h⟩ => ⟨ι, env, M, S, R, (thenS_out R h).imp fun v M1 ι1 H1 e1 S1 h1 vv rv =>
    ⟨ι1, env, M1, S1, R.ext e1, (thenS_out (R.ext e1) h1).imp fun x M2 ι2 H2 e2 S2 h2 xv rx => ⟨ι2, env, M2, S2, R.ext (e1.trans e2), (thenS_out (R.ext (e1.trans e2)) h2).imp fun y M3 ι3 H3 e3 S3 h3 yv ry => by
      revert h3
      cases q : putDct x y v M3 with
      | none => exact fun h3 => h3.elim
      | some M4 => exact fun h3 => ⟨ι3, M3, x, y, v, S3, rx.ext e3, ry, rv.ext (e2.trans e3), M4, q, fun H' e4 S4 => h3 ι3 σ H' e4 S4 (R.ext (((e1.trans e2).trans e3).trans e4))⟩⟩⟩⟩
end
/-- {} -/
def eDNew : ME := fun _ M => .ok (.ref M.length) (M ++ [.dct []])
/-- {k: v} -/
def eDOne (mk mv : ME) : ME := fun env M => (mk env (M ++ [.dct []])).bind fun d M1 => (mv env M1).bind fun e M2 => match M2[M.length]? with
  | some (.dct []) => match keyOf d with
    | some _ => .ok (.ref M.length) (M2.set M.length (.dct [(d, e)]))
    | none => .stuck
  | _ => .stuck
def dpGo : List (Str × ME) → TL.Env → Mem → Out (List (Str × D))
  | [], _, M => .ok [] M
  | (x, m) :: r, env, M => (m env M).bind fun d M1 => (dpGo r env M1).bind fun fs M2 => .ok ((x, d) :: fs) M2
/-- {"a": .., "b": ..} -/
def eDStr (ps : List (Str × ME)) : ME := fun env M => (dpGo ps env (M ++ [.dcs []])).bind fun fs M2 => match M2[M.length]? with
  | some (.dcs []) => .ok (.ref M.length) (M2.set M.length (.dcs fs))
  | _ => .stuck
section
variable {X : Cx} {W : WX} {pos : Pos}
theorem dctIs_new {h : Heap} (hb : sysModules < h.objs.size) : DctIs h.objs.size [] (h.push { cls := .type "dict", data := .dict #[] }) :=
  ⟨beq_eq_false_iff_ne.mpr (Ne.symm (Nat.ne_of_lt hb)), _, #[], 0, [], Heap.get?_push_size _ rfl, ⟨rfl, rfl, rfl⟩, rfl, .nil, fun _ => rfl⟩
def tDOneN (P : Program) (w : World) (K : PySem.W.Frag) (tk tv : TE) : TE := fun σ H Q => ∀ p, H p = none → tk σ (upd H p (.ext (DctIs p []))) fun x H1 => tv σ H1 fun y H2 => H2 p = some (.ext (DctIs p [])) ∧
  ∃ ι d e k b, x = .ref b ∧ nk d = some k ∧ k.depth ≤ 8 ∧ Rp K ι H2 d (.ref b) ∧ Rp K ι H2 e y ∧ Q (.ref p) (upd H2 p (.ext (DctIs p [(k, b, y)])))
theorem wpAny_Dict_pairsX {prog : Program} {w : World} {A : Around} {E : Value → Shared → Prop} {s : Shared} {env : PySem.Env} {keys : List (Option Expr)} {values : List Expr} {pos : Pos} {pairs : List (Sem Value × Sem Value)} {Q : Value → Shared → Prop} (hu : (nestedKind prog w).room A)
    (hshape : (evalEachOpt keys env).zip ((evalEach values env).map fun v => do let x ← v; standAt pos; pure x) = pairs.map fun p => (some p.1, p.2)) (h0 : pairs ≠ []) (hlen : pairs.length ≤ 15)
    (h : wpAny (model prog w) A (evalPairs pairs) (fun vs s₁ => ∃ ps, CarriesH (nestedKind prog w) s₁.heap vs ps ∧ s₁.heap.DictOfH (nestedKind prog w) s.heap.objs.size [] ∧
      ∀ h' tk, h'.DictOfH (nestedKind prog w) s.heap.objs.size (storedAllH [] ps) → Heap.SameBut s.heap.objs.size s₁.heap h' → Q (.ref s.heap.objs.size) { s₁ with heap := h', toks := tk }) E
      { s with heap := s.heap.push { cls := .type "dict", data := .dict #[] } }) :
    wpAny (model prog w) A (eval (.Dict keys values pos) env) Q E s := by
  rw [arm_eval_Dict, hshape, dictDisplay_pairs pairs h0 (by omega)]
  exact wpAny_bind (wpAny_standAt (wpAny_bind (wpAny_subDictH (knd := nestedKind prog w) (Q := fun d s' => wpAny (model prog w) A (pure (Value.ref d)) Q E s') hu hlen
    (wpAny_mono h (fun vs s₁ h₁ => by obtain ⟨ps, hc, hm, hq⟩ := h₁; exact ⟨ps, hc, hm, fun h' tk a b => wpAny_pure (hq h' tk a b)⟩) fun _ _ e => e))))
theorem pe_done {k v : Expr} {tk tv : TE} (hu : X.A.units + 9 < cLine) (hk : PE X k tk) (hv : PE X v tv) : PE X (.Dict [some k] [v] pos) (tDOneN X.prog X.w X.K tk tv) := by
  refine ⟨fun pins s σ H Q I q => ?_⟩
  have hn := I.hok.fresh (Nat.le_refl s.heap.objs.size)
  have I1 := I.laid (a := s.heap.objs.size) (o := .ext (DctIs s.heap.objs.size [])) (h' := s.heap.push { cls := .type "dict", data := .dict #[] }) (t' := s.toks) (fun _ _ q => Heap.get?_push_of_some _ q) (Nat.le_refl _) (dctIs_obj (dctIs_new I.big))
  refine wpAny_Dict_pairsX (pairs := pairTrees [some k] [v] X.env pos) (show X.A.units + 8 < cLine by omega) (zip_pairTrees _ _ _ _ rfl rfl) (fun e => by cases e) (by show 1 ≤ 15; decide) ?_
  refine pairTrees_cons_walk (thn (hk.run pins _ σ _ _ I1 (q _ hn)) fun u s1 ⟨x, H1, I2, rx, q1⟩ => thn (hv.run pins s1 σ H1 _ I2 q1) fun w2 s2 ⟨y, H2, I3, ry, e, ι, d, e0, k', b, ex, k1, k2, k3, k4, q2⟩ => pairTrees_nil_walk ?_)
  subst ex
  cases (show u = Value.ref b from rx)
  obtain ⟨⟨hs, o, es, ep, vs, e1, e2, e3, e4, e5⟩, _⟩ := I3.hok _ _ e
  cases e4
  refine ⟨[(k', b, w2)], ⟨rfl, rfl, ⟨key_is I3 k1 k3 rfl, k2⟩, True.intro⟩, ⟨o, es, ep, e1, e2, e3, e5 X.w, (fun _ hx => nomatch hx), List.nodup_nil⟩, fun h' tk dd hs' => ?_⟩
  have dd' : h'.DictOfH (nestedKind X.prog X.w) s.heap.objs.size [(k', b, w2)] := dd
  have di : DctIs s.heap.objs.size [(k', b, y)] h' := dctIs_of (X := X) hs (.cons k1 k2 k3 k4 .nil) (.cons ⟨rfl, rfl, ry⟩ .nil) dd'
  have he : ∃ q, h'.get? s.heap.objs.size = some q := let ⟨q, _, _, hq, _⟩ := dd'; ⟨q, hq⟩
  exact ⟨.ref s.heap.objs.size, _, d_write (ob := .ext (DctIs s.heap.objs.size [(k', b, y)])) I3 (by rw [e]; exact True.intro) hs' he (dctIs_obj di), rfl, q2⟩
theorem d_done {k v : Expr} {mk mv : ME} (hu : X.A.units + 9 < cLine) (hk : PE X k (LE X.K W mk)) (hv : PE X v (LE X.K W mv)) : PE X (.Dict [some k] [v] pos) (LE X.K W (eDOne mk mv)) :=
  (pe_done hu hk hv).imp fun σ H Q ⟨ι, env, M, S, R, h⟩ p hp => by
    have x0 := Ext.more (K := X.K) (ι := ι) (o := .ext (DctIs p [])) hp
    have S0 : SR X.K (ι ++ [p]) (upd H p (.ext (DctIs p []))) (M ++ [.dct []]) := S.alloc hp ⟨[], upd_same, .nil, List.nodup_nil⟩
    have at0 : (ι ++ [p])[M.length]? = some p := by rw [← S.len]; simp
    refine ⟨ι ++ [p], env, M ++ [.dct []], S0, R.ext x0, (OutP.bind (OutP.ext x0 h)).imp fun d M1 ι1 H1 e1 S1 h1 x rx => ⟨ι1, env, M1, S1, (R.ext x0).ext e1, (OutP.bind h1).imp fun e M2 ι2 H2 e2 S2 h2 y ry => ?_⟩⟩
    have at2 : ι2[M.length]? = some p := e2.pre _ _ (e1.pre _ _ at0)
    revert h2
    split
    · rename_i hm
      split
      · rename_i kk hk
        intro h2
        obtain ⟨xs, q1, q2, q3⟩ := S2.ok _ p _ at2 hm
        cases q2
        have k0 := S2.ok _ p _ at2 hm
        have nt := k0.notTup (u := .dct []) rfl
        obtain ⟨⟨ys, rfl⟩, k1, k2⟩ := keyOf_some hk
        have rx2 := rx.ext e2
        obtain ⟨b, vs, rfl, _, _⟩ := rx2.tup_inv
        have ex := Ext.upd (K := X.K) (ι := ι2) (o := .ext (DctIs p [(kk, b, y)])) nt
        exact ⟨q1, ι2, _, _, kk, b, rfl, k1, k2, rx2, ry, h2 ι2 _ ex (S2.write at2 hm rfl rfl ⟨[(kk, b, y)], upd_same, .cons k1 k2 (rx2.ext ex) (ry.ext ex) .nil, by simp⟩) _ (.ref at2)⟩
      · exact fun h2 => h2.elim
    · exact fun h2 => h2.elim
theorem RpF.names {K : PySem.W.Frag} {ι : List Addr} {H : Hp} : ∀ {fs : List (Str × D)} {vs : List (Str × V)}, RpF K ι H fs vs → fs.map (·.1) = vs.map (·.1)
  | _, _, .nil => rfl
  | _, _, .cons _ t => by rw [List.map_cons, List.map_cons, t.names]
end
section
variable {M : Mem} {n : Nat} {kvs : List (D × D)} {fs : List (Str × D)} {d e : D} {k : NestedKey} {env : TL.Env}
theorem dctAt_of (h : M[n]? = some (.dct kvs)) : dctAt M n = some kvs := by simp only [dctAt, h]
theorem mGet_rd (h : dctAt M n = some kvs) (hk : keyOf d = some k) (hf : dctFind kvs k = some e) : mGet (.ref n) d M = some (e, M) := by
  simp only [mGet, h, hk, hf]; rfl
theorem mNotInD_rd (h : dctAt M n = some kvs) (hk : keyOf d = some k) : mNotInD d (.ref n) M = some (.bl (!(dctFind kvs k).isSome), M) := by
  simp only [mNotInD, h, hk]
theorem mGet_at (h : M[n]? = some (.dct kvs)) (hk : keyOf d = some k) (hf : dctFind kvs k = some e) : mGet (.ref n) d M = some (e, M) := mGet_rd (dctAt_of h) hk hf
theorem mNotInD_at (h : M[n]? = some (.dct kvs)) (hk : keyOf d = some k) : mNotInD d (.ref n) M = some (.bl (!(dctFind kvs k).isSome), M) := mNotInD_rd (dctAt_of h) hk
theorem putDct_at (h : M[n]? = some (.dct kvs)) (hk : keyOf d = some k) (hl : kvs.length < 1000000) : putDct (.ref n) d e M = some (M.set n (.dct (dctPut kvs d k e))) := by
  simp only [putDct, h, hk, hl, if_true]
def putDS (env : TL.Env) (o : Option Mem) : SOut := match o with
  | some M => .next env M
  | none => .stuck
def dctOne (M2 : Mem) (n : Nat) (d e : D) : Out D := match M2[n]? with
  | some (.dct []) => match keyOf d with
    | some _ => .ok (.ref n) (M2.set n (.dct [(d, e)]))
    | none => .stuck
  | _ => .stuck
def dcsAll (M2 : Mem) (n : Nat) (fs : List (Str × D)) : Out D := match M2[n]? with
  | some (.dcs []) => .ok (.ref n) (M2.set n (.dcs fs))
  | _ => .stuck
@[simp] theorem putDS_some : putDS env (some M) = .next env M := rfl
@[simp] theorem sPutD_ap {o i e : ME} : sPutD o i e env M = thenS env (e env M) fun v M1 => thenS env (o env M1) fun x M2 => thenS env (i env M2) fun y M3 => putDS env (putDct x y v M3) := rfl
@[simp] theorem eDNew_ap : eDNew env M = .ok (.ref M.length) (M ++ [.dct []]) := rfl
@[simp] theorem eDOne_ap {mk mv : ME} : eDOne mk mv env M = (mk env (M ++ [.dct []])).bind fun d M1 => (mv env M1).bind fun e M2 => dctOne M2 M.length d e := rfl
@[simp] theorem eDStr_ap {ps : List (Str × ME)} : eDStr ps env M = (dpGo ps env (M ++ [.dcs []])).bind fun fs M2 => dcsAll M2 M.length fs := rfl
@[simp] theorem dpGo_nil : dpGo [] env M = .ok [] M := rfl
@[simp] theorem dpGo_cons {x : Str} {m : ME} {r : List (Str × ME)} : dpGo ((x, m) :: r) env M = (m env M).bind fun d M1 => (dpGo r env M1).bind fun fs M2 => .ok ((x, d) :: fs) M2 := rfl
theorem dctOne_at (h : M[n]? = some (.dct [])) (hk : keyOf d = some k) : dctOne M n d e = .ok (.ref n) (M.set n (.dct [(d, e)])) := by
  simp only [dctOne, h, hk]
end
def withD (dd : List D) (fn : Fn) : Fn := fun ds M => fn (ds ++ dd) M
@[simp] theorem withD_ap {dd ds : List D} {fn : Fn} {M : Mem} : withD dd fn ds M = fn (ds ++ dd) M := rfl
structure CalleeF (P : Program) (w : World) (K : PySem.W.Frag) (mg : Str → Option Value) (base : Heap) (x : Str) (n k : Nat) (dd : List D) (m : Fn) : Prop where
  ex : ∃ (f : Addr) (fd : FuncData) (ps : List Str) (dvs : List V) (ds : List Value), FnOk P w K mg base (L2N.CX P w) k f fd ps (spD K n m) ∧ mg x = some (.ref f) ∧ PySem.W.keepIn K (.ref f) = true ∧ Binds K fd ps ds ∧ Vals dvs ds ∧ (∀ ι H, RpA K ι H dd dvs)
  len : ∀ ds M, ds.length ≠ n → m ds M = .stuck
section
variable {P : Program} {w : World} {K : PySem.W.Frag} {mg : Str → Option Value} {base : Heap}
theorem okDd {x qual : Str} {params : Arguments} {body : List Stmt} {scope : Scope} {f : Addr} {N ps : List Str} {k : Nat} {mb : MS} {dv : V} {d : D} (hd : ∀ ι H, Rp K ι H d dv) (F : ∃ fd, FunD K x qual params body scope [dv] [] f fd) (S : FnScope N ps scope) (hm : mg x = some (.ref f))
    (n : Nat) (hn : n + 1 = ps.length)
    (hbind : ∀ (T : Addr) (kV doc pm : Value) (an : Option Addr) (cdv ct : Value) (us its : List Value), us.length = n → its.length = 1 →
      ∃ k, bindArgs (PySem.W.fnOf x qual params body scope (.ref T) kV doc pm an cdv ct) ⟨us, []⟩ = seqItems? (.ref T) >>= k ∧ k (some its.toArray) = pure (ps.zip (us ++ its)))
    (hbindN : ∀ (T : Addr) (kV doc pm : Value) (an : Option Addr) (cdv ct : Value) (us its : List Value), us.length = n + 1 → its.length = 1 →
      ∃ k, bindArgs (PySem.W.fnOf x qual params body scope (.ref T) kV doc pm an cdv ct) ⟨us, []⟩ = seqItems? (.ref T) >>= k ∧ k (some its.toArray) = pure (ps.zip us))
    (hbody : ∀ (cdv : Value) (A : Around) (outer : List PySem.Env) (s : Shared) (H : Hp) (E : XK), let X := cxOf (L2N.CX P w) P w K mg base N qual scope f cdv A outer s H E
      Ctx X (fun cls d _ H => E cls d H) k → PSs X body (LS K (fun cls d _ H => E cls d H) mb)) :
    CalleeF P w K mg base x ps.length (k + 1) [d] (fnD ps.length N.length mb) ∧ Callee P w K mg base x ps.length (k + 1) (fnD ps.length N.length mb) := by
  obtain ⟨fd, F⟩ := F
  constructor
  · obtain ⟨ds, hv, hb⟩ := F.binds1 (ps := ps) n 0 (by simp) (by simp; omega) (by
      intro T kV doc pm an cdv ct us its h1 h2
      obtain ⟨k, e1, e2⟩ := hbind T kV doc pm an cdv ct us its h1 (by simpa using h2)
      exact ⟨k, e1, by rw [e2]; rfl⟩)
    exact ⟨⟨f, fd, ps, [dv], ds, okFd F S hbody, hm, F.kp, hb, hv, fun ι H => .cons (hd ι H) .nil⟩, fun ds M h => if_neg h⟩
  · obtain ⟨ds, hv, hb⟩ := F.binds1 (ps := ps) (n + 1) 1 (by simp) (by simp; omega) (by
      intro T kV doc pm an cdv ct us its h1 h2
      obtain ⟨k, e1, e2⟩ := hbindN T kV doc pm an cdv ct us its h1 (by simpa using h2)
      refine ⟨k, e1, ?_⟩
      have : its.drop 1 = [] := List.drop_eq_nil_of_le (by simpa using Nat.le_of_eq h2)
      rw [e2, this, List.append_nil])
    cases hv
    exact ⟨⟨f, fd, ps, okFd F S hbody, hm, F.kp, hb, rfl⟩, fun ds M h => if_neg h⟩
end
end TL
end
section
set_option maxHeartbeats 4000000
namespace TL
open PySem PySem.Spec PyProof.Rows L2
section
variable {K : PySem.W.Frag} {ι ι' : List Addr} {H H' : Hp} {M M' : Mem}
/-- what stands at a place is told anew; nothing else is of that place -/
theorem SR.swap (S : SR K ι H M) {n : Nat} {a : Addr} {o u : MO} {x : HO} (ha : ι[n]? = some a) (ho : M[n]? = some o) (mo : mutable o = true) (ex : Ext K ι H ι (L2.upd H a x)) (hr : ∀ o vs, H a ≠ some (.frz o (.lst vs)))
    (hm : MOk K ι (L2.upd H a x) a u) : SR K ι (L2.upd H a x) (M.set n u) := by
  obtain ⟨hl, _⟩ := List.getElem?_eq_some_iff.mp ho
  have split : ∀ {m : Nat} {v : MO}, (M.set n u)[m]? = some v → (m = n ∧ v = u) ∨ (m ≠ n ∧ M[m]? = some v) := by
    intro m v h
    by_cases e : m = n
    · subst e
      rw [List.getElem?_set_self hl] at h
      exact .inl ⟨rfl, (Option.some.inj h).symm⟩
    · rw [List.getElem?_set_ne (fun z => e z.symm)] at h
      exact .inr ⟨e, h⟩
  have oth : ∀ {b : Addr} {v : MO}, MOk K ι H b v → b ≠ a → MOk K ι (L2.upd H a x) b v := by
    intro b v h hb
    cases v with
    | lst xs => obtain ⟨vs, h1, h2⟩ := h; exact ⟨vs, by rw [upd_ne hb]; exact h1, h2.ext ex⟩
    | rol xs =>
      obtain ⟨vs, h1, h2⟩ := h
      refine ⟨vs, ?_, h2.ext ex⟩
      rcases h1 with ⟨o, h1⟩ | h1
      · exact .inl ⟨o, by rw [upd_ne hb]; exact h1⟩
      · exact .inr h1
    | ins c fs => obtain ⟨dx, vs, h1, h2⟩ := h; exact ⟨dx, vs, by rw [upd_ne hb]; exact h1, h2.ext ex⟩
    | dct kvs => obtain ⟨xs, h1, h2, h3⟩ := h; exact ⟨xs, by rw [upd_ne hb]; exact h1, h2.ext ex, h3⟩
    | dcs fs => obtain ⟨vs, h1, h2⟩ := h; exact ⟨vs, by rw [upd_ne hb]; exact h1, h2.ext ex⟩
    | dcz kvs => obtain ⟨xs, o, h1, h2, h3⟩ := h; exact ⟨xs, o, by rw [upd_ne hb]; exact h1, h2.ext ex, h3⟩
  refine ⟨by rw [List.length_set]; exact S.len, fun m b v h1 h2 => ?_, fun m m' b v w h1 h2 h3 h4 m1 m2 => ?_⟩
  · rcases split h2 with ⟨rfl, rfl⟩ | ⟨e, g⟩
    · rw [ha] at h1; cases h1; exact hm
    · have k := S.ok m b v h1 g
      by_cases hb : b = a
      · subst hb
        cases v with
        | rol xs =>
          obtain ⟨vs, h1, h2⟩ := k
          rcases h1 with ⟨o, h1⟩ | h1
          · exact absurd h1 (hr o vs)
          · exact ⟨vs, .inr h1, h2.ext ex⟩
        | _ => exact absurd (S.nd m n b _ o h1 ha g ho rfl mo) e
      · exact oth k hb
  · rcases split h3 with ⟨rfl, rfl⟩ | ⟨e, g⟩ <;> rcases split h4 with ⟨rfl, rfl⟩ | ⟨e', g'⟩
    · rfl
    · exact (S.nd m' m b w o h2 h1 g' ho m2 mo).symm
    · exact S.nd m m' b v o h1 h2 g ho m1 mo
    · exact S.nd m m' b v w h1 h2 g g' m1 m2
end
/-- the keys of a locked dict -/
def iDz (e : ME) : MI := fun env M => (e env M).bind fun d M1 => match d with
  | .ref n => match M1[n]? with
    | some (.dcz kvs) => .ok ⟨kvs.map (·.1), fun M' => M'[n]? = some (.dcz kvs)⟩ M1
    | _ => .stuck
  | _ => .stuck
section
variable {M : Mem} {n i : Nat} {kvs : List (D × D)} {env : TL.Env} {e : ME}
@[simp] theorem iDz_ap : iDz e env M = (e env M).bind fun d M1 => match d with
  | .ref n => match M1[n]? with
    | some (.dcz kvs) => .ok ⟨kvs.map (·.1), fun M' => M'[n]? = some (.dcz kvs)⟩ M1
    | _ => .stuck
  | _ => .stuck := rfl
end
end TL
end
section
set_option maxHeartbeats 4000000
namespace TL
open PySem PySem.Spec PyProof.Rows L2
/-- a value's type, dicts too -/
def tyNameD (M : Mem) (d : D) : Option String := match d with
  | .ref n => match dctAt M n with
    | some _ => some "dict"
    | none => tyName M d
  | _ => tyName M d
def mIsiD (T : String) : Op1 := fun d M => match tyNameD M d with
  | some t => (kitB t T).map fun b => (.bl b, M)
  | none => none
def eIsiD (T : String) (a : ME) : ME := eUn (mIsiD T) a
section
variable {X : Cx} {W : WX} {e : Expr} {me : ME}
/-- x.clear(), of a list or of a dict -/
def clearD (x : D) (M : Mem) : Option (D × Mem) := match x with
  | .ref n => match M[n]? with
    | some (.lst _) => some (.non, M.set n (.lst []))
    | some (.dct kvs) => if kvs.length ≤ 1000000 then some (.non, M.set n (.dct [])) else none
    | _ => none
  | _ => none
def eClear (o : ME) : ME := eUn clearD o
end
section
variable {M : Mem} {n : Nat} {env : TL.Env} {e : ME}
@[simp] theorem eIsiD_ap {U : String} : eIsiD U e env M = (e env M).bind fun d M1 => liftO (mIsiD U d M1) := rfl
@[simp] theorem eClear_ap : eClear e env M = (e env M).bind fun d M1 => liftO (clearD d M1) := rfl
end
end TL
end
section
namespace TL
open PySem PySem.Spec PyProof.Rows L2
def XRet (o : SOut) (N : TL.Env → Mem → Prop) (R : D → Mem → Prop) (X : Ex → Mem → Prop) : Prop := match o with
  | .next e M => N e M
  | .ret d M => R d M
  | .exc x _ M => X x M
  | .stuck => False
section
variable {N N' : TL.Env → Mem → Prop} {R : D → Mem → Prop} {X : Ex → Mem → Prop} {o : SOut} {env : TL.Env} {M : Mem}
theorem XRet.next (h : N env M) : XRet (.next env M) N R X := h
theorem XRet.ret {d : D} (h : R d M) : XRet (.ret d M) N R X := h
theorem XRet.exc {x : Ex} (h : X x M) : XRet (.exc x env M) N R X := h
theorem XRet.imp (h : XRet o N R X) (hn : ∀ e M, N e M → N' e M) : XRet o N' R X := by
  cases o with
  | next e M => exact hn _ _ h
  | ret d M => exact h
  | exc x e M => exact h
  | stuck => exact h
theorem XRet.nextS {f : TL.Env → Mem → SOut} (h : XRet o (fun e M => XRet (f e M) N R X) R X) : XRet (TL.nextS o f) N R X := by
  cases o with
  | next e M => exact h
  | ret d M => exact h
  | exc x e M => exact h
  | stuck => exact h
theorem XRet.for_ {good : Mem → Prop} {g : MG} {b : MS} {ds : List D} (Inv : List D → TL.Env → Mem → Prop) (h0 : Inv ds env M) (hgood : ∀ ds env M, Inv ds env M → good M)
    (step : ∀ d ds env M, Inv (d :: ds) env M → ∃ env1, g d env = some env1 ∧ XRet (b env1 M) (Inv ds) R X) (done : ∀ env M, Inv [] env M → N env M) : XRet (forL good g b ds env M) N R X := by
  induction ds generalizing env M with
  | nil => rw [forL_nil (hgood _ _ _ h0)]; exact done _ _ h0
  | cons d ds ih =>
    obtain ⟨env1, hg, hs⟩ := step d ds env M h0
    rw [forL_cons (hgood _ _ _ h0) hg]
    exact XRet.nextS (hs.imp (fun e M h => ih h))
theorem XRet.while_ {t : MT} {b : MS} {n : Nat} (Inv : Nat → TL.Env → Mem → Prop) {m : Nat} (h0 : Inv m env M) (hm : m < n)
    (step : ∀ m env M, Inv m env M → Ret (t env M) (fun k M1 => if k = true then XRet (b env M1) (fun e M => ∃ m', m' < m ∧ Inv m' e M) R X else N env M1)) : XRet (sWhile n t b env M) N R X := by
  induction n generalizing env M m with
  | zero => omega
  | succ n ih =>
    obtain ⟨k, M1, e, h⟩ := step m env M h0
    show XRet (TL.thenS env (t env M) fun k M1 => if k = true then TL.nextS (b env M1) (sWhile n t b) else .next env M1) N R X
    rw [e]
    cases k with
    | false => exact h
    | true =>
      rw [if_pos rfl] at h
      exact XRet.nextS (h.imp (fun e M ⟨m', h1, h2⟩ => ih h2 (by omega)))
end
end TL
end
section
set_option maxHeartbeats 4000000
namespace TL
open PySem PySem.Spec PyProof.Rows L2
def inT (M : Mem) (a b : D) : Option Bool := match toP 64 M a, toP 64 M b with
  | some p, some (.tuple ps) => if SeqAt.shaped p = true ∧ SeqAt.shaped (.tuple ps) = true then some (ps.any fun z => PyData.eqv z p) else none
  | _, _ => none
def mInT : Op2 := fun a b M => (inT M a b).map fun k => (.bl k, M)
section
variable {X : Cx}
theorem o_inT (hu : X.A.units + 65 < cLine) : OpR X (compareOp .In) (rD2 X.K mInT) := by
  intro pins s σ H x y v u Q I rx ry ⟨ι, M, a, b, S, ra, rb, h⟩
  unfold mInT inT at h
  cases e1 : toP 64 M a with
  | none => rw [e1] at h; exact h.elim
  | some p =>
    rw [e1] at h
    cases e2 : toP 64 M b with
    | none => rw [e2] at h; exact h.elim
    | some q =>
      rw [e2] at h
      cases q with
      | tuple ps =>
        dsimp only at h
        by_cases c : SeqAt.shaped p = true ∧ SeqAt.shaped (.tuple ps) = true
        · rw [if_pos c] at h
          obtain ⟨as, r1⟩ := Dp.reads I p x v (dp_of S _ _ _ _ ra e1) rx
          obtain ⟨bs, r2⟩ := Dp.reads I (.tuple ps) y u (dp_of S _ _ _ _ rb e2) ry
          exact SeqAt.in_tuple_reads r2 r1 (SeqAt.canLay_of_shaped c.2) (SeqAt.canLay_of_shaped c.1) (room_in_shaped c.1 hu) ⟨.bl _, H, I, rfl, OpO.val S h (.bl _)⟩
        · rw [if_neg c] at h
          exact h.elim
      | _ => exact h.elim
end
end TL
end
section
namespace TLP
open PySem TL
section
variable {t : MT} {a b t2 rest : MS} {env env' : TL.Env} {M M' : Mem} {e : ME} {gg : MG} {v : D} {i : Nat}
theorem ifT (h : t env M = .ok true M') : (sSeq (sIf t a b) rest) env M = (sSeq a rest) env M' := by
  show nextS (thenS env (t env M) fun k M1 => if k = true then a env M1 else b env M1) rest = _
  rw [h] <;> rfl
theorem ifF (h : t env M = .ok false M') : (sSeq (sIf t a b) rest) env M = (sSeq b rest) env M' := by
  show nextS (thenS env (t env M) fun k M1 => if k = true then a env M1 else b env M1) rest = _
  rw [h] <;> rfl
theorem ifN (h : t env M = .ok false M') : (sSeq (sIf t a sNil) rest) env M = rest env M' := by rw [ifF h] <;> rfl
theorem ifT1 (h : t env M = .ok true M') : (sIf t a b) env M = a env M' := by
  show thenS env (t env M) (fun k M1 => if k = true then a env M1 else b env M1) = _
  rw [h] <;> rfl
theorem ifF1 (h : t env M = .ok false M') : (sIf t a b) env M = b env M' := by
  show thenS env (t env M) (fun k M1 => if k = true then a env M1 else b env M1) = _
  rw [h] <;> rfl
theorem asgG (h : e env M = .ok v M') (hg : gg v env = some env') : (sSeq (sAsg gg e) rest) env M = rest env' M' := by
  show nextS (thenS env (e env M) fun d M1 => match gg d env with | some env' => .next env' M1 | none => .stuck) rest = _
  rw [h]
  show nextS (match gg v env with | some env' => .next env' M' | none => .stuck) rest = _
  rw [hg] <;> rfl
theorem asg (h : e env M = .ok v M') : (sSeq (sAsg (gOne i) e) rest) env M = rest (env.set i (some v)) M' := asgG h rfl
theorem anyX {x : Ex} (h : a env M = .exc x env' M') : (sSeq a rest) env M = .exc x env' M' := by
  show nextS (a env M) rest = _
  rw [h] <;> rfl
theorem ret (h : e env M = .ok v M') : (sRet e) env M = .ret v M' := by
  show thenS env (e env M) (fun d M1 => .ret d M1) = _
  rw [h] <;> rfl
theorem ret1 (h : e env M = .ok v M') : (sSeq (sRet e) rest) env M = .ret v M' := by
  show nextS (sRet e env M) rest = _
  rw [ret h] <;> rfl
end
end TLP
end
section
set_option maxHeartbeats 4000000
namespace TN
open PySem PySem.Spec PyProof.Rows L2 TL
def rnd : Nat → Nat
  | 0 => 0
  | n + 1 => 5 * rnd n + 1
theorem rnd_add (a : Nat) : ∀ b, rnd (a + b) = rnd a + (4 * rnd a + 1) * rnd b
  | 0 => by simp [rnd]
  | b + 1 => by
    have ih := rnd_add a b
    have e : rnd (a + (b + 1)) = 5 * rnd (a + b) + 1 := rfl
    have f : (4 * rnd a + 1) * rnd (b + 1) = 5 * ((4 * rnd a + 1) * rnd b) + (4 * rnd a + 1) := by
      show (4 * rnd a + 1) * (5 * rnd b + 1) = _
      rw [Nat.mul_add, Nat.mul_one, Nat.mul_left_comm]
    rw [e, ih, f]
    generalize (4 * rnd a + 1) * rnd b = p
    omega
theorem rnd_pow : ∀ k, ∃ c, rnd (2 ^ k) = 2 ^ k * (2 * c + 1)
  | 0 => ⟨0, rfl⟩
  | k + 1 => by
    obtain ⟨c, ih⟩ := rnd_pow k
    have e : 2 ^ (k + 1) = 2 ^ k + 2 ^ k := by rw [Nat.pow_succ]; omega
    have f := rnd_add (2 ^ k) (2 ^ k)
    rw [← e] at f
    generalize rnd (2 ^ k) = s at *
    have g : s + (4 * s + 1) * s = 2 * s * (2 * s + 1) := by
      rw [Nat.add_mul, Nat.one_mul, Nat.mul_add, Nat.mul_one, Nat.mul_assoc 4, Nat.mul_assoc 2 s, Nat.mul_left_comm s 2, ← Nat.mul_assoc 2 2]
      omega
    have o : (2 * c + 1) * (2 * s + 1) = 2 * (2 * c * s + c + s) + 1 := by
      rw [Nat.add_mul, Nat.mul_add, Nat.one_mul, Nat.mul_one, Nat.mul_assoc 2 c, Nat.mul_left_comm c 2 s]
      have : 2 * c * s = 2 * (c * s) := Nat.mul_assoc ..
      rw [this]
      omega
    refine ⟨2 * c * s + c + s, ?_⟩
    rw [f, g, ← o, Nat.pow_succ, ih, Nat.mul_comm (2 ^ k) 2]
    simp only [Nat.mul_assoc]
theorem rnd_shift (k b : Nat) : rnd (2 ^ k + b) % 2 ^ k = rnd b % 2 ^ k := by
  obtain ⟨c, e⟩ := rnd_pow k
  rw [rnd_add, e, Nat.add_mul, Nat.one_mul]
  have f : 2 ^ k * (2 * c + 1) + (4 * (2 ^ k * (2 * c + 1)) * rnd b + rnd b) = rnd b + 2 ^ k * ((2 * c + 1) + 4 * (2 * c + 1) * rnd b) := by
    generalize 2 ^ k = q
    grind
  rw [f, Nat.add_mul_mod_self_left]
theorem rnd_all : ∀ k j, j < 2 ^ k → ∃ b, b < 2 ^ k ∧ rnd b % 2 ^ k = j
  | 0, j, h => ⟨0, by decide, by have : j = 0 := by simpa using h
                                 subst this; rfl⟩
  | k + 1, j, h => by
    have e2 : 2 ^ (k + 1) = 2 * 2 ^ k := by rw [Nat.pow_succ, Nat.mul_comm]
    obtain ⟨b, hb, e⟩ := rnd_all k (j % 2 ^ k) (Nat.mod_lt _ (Nat.pow_pos (by decide)))
    obtain ⟨c, hc⟩ := rnd_pow k
    have s := rnd_add (2 ^ k) b
    rw [hc] at s
    have pos : 0 < 2 ^ k := Nat.pow_pos (by decide)
    -- both, modulo the greater power
    have s2 : ∃ d, rnd (2 ^ k + b) = rnd b + 2 ^ k * (2 * d + 1) := by
      refine ⟨2 * (2 * c + 1) * rnd b + c, ?_⟩
      rw [s]
      generalize 2 ^ k = q
      grind
    obtain ⟨d, s3⟩ := s2
    rw [e2]
    generalize 2 ^ k = q at *
    generalize hy : rnd (q + b) = y at *
    have s4 : y = rnd b + (2 * q) * d + q := by
      rw [s3, Nat.mul_add, Nat.mul_one, ← Nat.mul_assoc, Nat.mul_comm q 2]
      omega
    have y2 : y % (2 * q) = (rnd b + q) % (2 * q) := by
      rw [s4, show rnd b + 2 * q * d + q = (rnd b + q) + 2 * q * d by omega, Nat.add_mul_mod_self_left]
    have r1 : rnd b % (2 * q) % q = j % q := by rw [Nat.mod_mul_left_mod, e]
    have r2 : rnd b % (2 * q) < 2 * q := Nat.mod_lt _ (by omega)
    have r3 : (rnd b + q) % (2 * q) = (rnd b % (2 * q) + q) % (2 * q) := by rw [Nat.mod_add_mod]
    generalize hz : rnd b % (2 * q) = z at *
    have small : ∀ a, a < 2 * q → a % q = if a < q then a else a - q := fun a ha => by
      split
      · rename_i c; exact Nat.mod_eq_of_lt c
      · rename_i c
        rw [Nat.mod_eq_sub_mod (by omega), Nat.mod_eq_of_lt (by omega)]
    rw [small z r2, small j (by omega)] at r1
    by_cases c : z = j
    · exact ⟨b, by omega, by rw [hz, c]⟩
    · refine ⟨q + b, by omega, ?_⟩
      rw [hy, y2, r3]
      by_cases c1 : z < q
      · rw [if_pos c1] at r1
        rw [Nat.mod_eq_of_lt (by omega)]
        split at r1 <;> omega
      · rw [if_neg c1] at r1
        rw [Nat.mod_eq_sub_mod (by omega), Nat.mod_eq_of_lt (by omega)]
        split at r1 <;> omega
theorem lcg_rnd (m : Nat) : ∀ n, lcgN m n = rnd n % (m + 1)
  | 0 => by simp [lcgN, rnd]
  | n + 1 => by
    show (lcgN m n * 5 + 1) % (m + 1) = (5 * rnd n + 1) % (m + 1)
    rw [lcg_rnd m n, Nat.mul_comm, Nat.add_mod, Nat.mul_mod, Nat.mod_mod, ← Nat.mul_mod, ← Nat.add_mod]
/-- from each slot the round comes to each -/
theorem lcg_full {m k : Nat} (hm : m + 1 = 2 ^ k) {i j : Nat} (hi : i ≤ m) (hj : j ≤ m) : ∃ n, n ≤ m ∧ lcgI m i n = j := by
  obtain ⟨a, ha, ea⟩ := rnd_all k i (by omega)
  obtain ⟨b, hb, eb⟩ := rnd_all k j (by omega)
  have la : lcgN m a = i := by rw [lcg_rnd, hm, ea]
  have lb : lcgN m b = j := by rw [lcg_rnd, hm, eb]
  rw [← la]
  by_cases c : a ≤ b
  · exact ⟨b - a, by omega, by rw [lcgN_add, show a + (b - a) = b by omega, lb]⟩
  · refine ⟨2 ^ k + b - a, by omega, ?_⟩
    rw [lcgN_add, show a + (2 ^ k + b - a) = 2 ^ k + b by omega, lcg_rnd, hm, rnd_shift, eb]
def BigM (m : Nat) : Prop := m = 7 ∨ m = 31 ∨ m = 127 ∨ m = 511 ∨ m = 2047
theorem BigM.pow {m : Nat} (h : BigM m) : ∃ k, m + 1 = 2 ^ k := by
  rcases h with rfl | rfl | rfl | rfl | rfl
  · exact ⟨3, by decide⟩
  · exact ⟨5, by decide⟩
  · exact ⟨7, by decide⟩
  · exact ⟨9, by decide⟩
  · exact ⟨11, by decide⟩
theorem BigM.odd {m : Nat} (h : BigM m) : m % 2 = 1 := by
  rcases h with rfl | rfl | rfl | rfl | rfl <;> decide
theorem BigM.le {m : Nat} (h : BigM m) : m ≤ 2047 := by
  rcases h with rfl | rfl | rfl | rfl | rfl <;> decide
/-- a run begins at each slot, early enough -/
theorem begins {m : Nat} (hm : BigM m) (h : Int) {j : Nat} (hj : j ≤ m) : ∃ n, n ≤ m + 12 ∧ runI m (SetTable.bits h) n = j := by
  obtain ⟨k, hk⟩ := hm.pow
  obtain ⟨n, hn, e⟩ := lcg_full hk (runI_le m (SetTable.bits h) 12) hj
  exact ⟨12 + n, by omega, (runI_tail (bits_lt h) n).trans e⟩
theorem comes {m : Nat} (hm : BigM m) (h : Int) {j : Nat} (hj : j ≤ m) : ∃ k, k < 10 * SetTable.turns m ∧ way m h k = j := by
  obtain ⟨n, hn, e⟩ := begins hm h hj
  obtain ⟨k, hk, f⟩ := run_nth m (SetTable.bits h) n
  refine ⟨k, by have : SetTable.turns m = m + 15 := rfl
                omega, ?_⟩
  show (nth m _ k).j = j
  rw [f, ← e]
  rfl
theorem way_in (m : Nat) (h : Int) (k : Nat) : way m h k ≤ m := by
  have b0 : SetTable.bits h % (m + 1) < m + 1 := Nat.mod_lt _ (by omega)
  obtain ⟨e1, e2, _⟩ := runEnd_bd (m := m) (i := SetTable.bits h % (m + 1)) (by omega)
  have st : (runAt m (SetTable.bits h % (m + 1)) (SetTable.bits h)).j + (runAt m (SetTable.bits h % (m + 1)) (SetTable.bits h)).more ≤ m := by
    show SetTable.bits h % (m + 1) + (SetTable.runEnd m (SetTable.bits h % (m + 1)) - SetTable.bits h % (m + 1)) ≤ m
    omega
  have := nth_in k _ st
  show (nth m _ k).j ≤ m
  omega
structure Tbl (t : SetTable) (n : Nat) : Prop where
  ris : Ris t.place.toList
  dm : t.dummies = #[]
  sz : t.place.size = n
  big : BigM t.mask
section
variable {t : SetTable} {n : Nat}
/-- the first empty slot on a way -/
theorem Tbl.hole (T : Tbl t n) (hn : n ≤ t.mask) (h : Int) : ∃ K, K < 10 * SetTable.turns t.mask ∧ way t.mask h K ∉ t.place.toList ∧ ∀ k, k < K → way t.mask h k ∈ t.place.toList := by
  obtain ⟨j, hj, out⟩ := st_missing t.place.toList (t.mask + 1) (by rw [Array.length_toList, T.sz]; omega)
  obtain ⟨k, hk, e⟩ := comes T.big h (j := j) (by omega)
  obtain ⟨K, a, b, c⟩ := st_least (p := fun q => way t.mask h q ∉ t.place.toList) k (by show way t.mask h k ∉ _; rw [e]; exact out)
  exact ⟨K, by omega, b, fun q hq => Classical.byContradiction fun z => c q hq z⟩
theorem Tbl.put (T : Tbl t n) {j : Nat} (hj : j ∉ t.place.toList) : Tbl (t.put j).1 (n + 1) ∧ (t.put j).2 = SetTable.below t.place j ∧ SetTable.below t.place j ≤ n ∧ (t.put j).1.mask = t.mask ∧ (t.put j).1.led = t.led ∧ (t.put j).1.fill = n + 1 := by
  obtain ⟨c1, _, _⟩ := below_cut T.ris j
  have hb : SetTable.below t.place j ≤ n := by rw [← T.sz]; exact c1
  have ne : t.place[SetTable.below t.place j]? ≠ some j := fun e => hj (List.mem_of_getElem? (i := SetTable.below t.place j) (by rw [Array.getElem?_toList]; exact e))
  have sz : (t.put j).1.place.size = n + 1 := by
    rw [← Array.length_toList, put_place, len_ins _ (by rw [Array.length_toList, T.sz]; exact hb), Array.length_toList, T.sz]
  refine ⟨⟨ris_insert T.ris ne, put_dm T.dm j, sz, T.big⟩, rfl, hb, rfl, rfl, ?_⟩
  have dm : (t.put j).1.dummies = #[] := put_dm T.dm j
  show (t.put j).1.place.size + (t.put j).1.dummies.size = n + 1
  rw [sz, dm]
  rfl
end
/-- one entry more in what a list picks -/
theorem pick_more {α β : Type} {f g : α → Option β} {a : α} {x : β} (h1 : f a = none) (h2 : g a = some x) (h3 : ∀ b, b ≠ a → g b = f b) : ∀ {l : List α}, l.Nodup → a ∈ l → (l.filterMap g).Perm (x :: l.filterMap f)
  | [], _, h => nomatch h
  | b :: l, nd, h => by
    obtain ⟨n1, n2⟩ := List.nodup_cons.mp nd
    by_cases c : b = a
    · subst c
      rw [List.filterMap_cons_some h2, List.filterMap_cons_none h1]
      have e : l.filterMap g = l.filterMap f := by
        have cg : ∀ l : List α, (∀ y ∈ l, g y = f y) → l.filterMap g = l.filterMap f := fun l => by
          induction l with
          | nil => intro _; rfl
          | cons y l ih =>
            intro hq
            rw [List.filterMap_cons, List.filterMap_cons, hq y List.mem_cons_self, ih fun z hz => hq z (List.mem_cons_of_mem _ hz)]
        exact cg l fun y hy => h3 y fun z => n1 (z ▸ hy)
      rw [e]
    · have m : a ∈ l := by
        rcases List.mem_cons.mp h with z | z
        · exact absurd z.symm c
        · exact z
      have ih := pick_more h1 h2 h3 n2 m
      cases q : f b with
      | none => rw [List.filterMap_cons_none q, List.filterMap_cons_none (by rw [h3 b c]; exact q)]; exact ih
      | some y =>
        rw [List.filterMap_cons_some q, List.filterMap_cons_some (by rw [h3 b c]; exact q)]
        exact (ih.cons y).trans (List.Perm.swap ..)
structure Sits (m n : Nat) (ow : Array (Option Nat)) : Prop where
  sz : ow.size = m + 1
  perm : ((liveOf m ow).map (·.2)).Perm (List.range n)
theorem Sits.zero (m : Nat) : Sits m 0 (Array.replicate (m + 1) none) := ⟨by simp, by
  have e : liveOf m (Array.replicate (m + 1) none) = [] := by
    unfold liveOf
    rw [List.filterMap_eq_nil_iff]
    intro j hj
    have hj' : j < m + 1 := List.mem_range.mp hj
    simp [Array.getD, hj']
  rw [e]
  exact List.Perm.refl _⟩
theorem live_first (m : Nat) (ow : Array (Option Nat)) : Ris ((liveOf m ow).map (·.1)) := (ris_live (fun j => ow.getD j none) (List.range (m + 1)) (by unfold Ris; exact List.pairwise_lt_range)).1
theorem Sits.len {m n : Nat} {ow : Array (Option Nat)} (S : Sits m n ow) : (liveOf m ow).length = n := by
  have := S.perm.length_eq
  simpa using this
/-- one more finds its slot -/
theorem Sits.next {m n : Nat} (hm : BigM m) {ow : Array (Option Nat)} (S : Sits m n ow) (hn : n ≤ m) (h : Int) :
    ∃ j, SetTable.layClean.free m ow (SetTable.turns m) (SetTable.bits h % (m + 1)) (SetTable.bits h) = some j ∧ Sits m (n + 1) (ow.setIfInBounds j (some n)) := by
  obtain ⟨j0, l0, out⟩ := st_missing ((liveOf m ow).map (·.1)) (m + 1) (by rw [List.length_map, S.len]; omega)
  have f0 : oAt ow j0 = none := by
    cases z : oAt ow j0 with
    | none => rfl
    | some k => exact absurd (List.mem_map.mpr ⟨(j0, k), (mem_live S.sz).2 ⟨by omega, z⟩, rfl⟩) out
  obtain ⟨q, hq, e⟩ := begins hm h (j := j0) (by omega)
  have at0 : way m h (off m (SetTable.bits h % (m + 1)) (SetTable.bits h) q) = j0 := by
    show (nth m _ _).j = j0
    rw [nth_off, itL_run, ← e]
    rfl
  obtain ⟨K, a, b, c⟩ := st_least (p := fun k => oAt ow (way m h k) = none) _ (show oAt ow (way m h (off m (SetTable.bits h % (m + 1)) (SetTable.bits h) q)) = none by rw [at0]; exact f0)
  have fr : SetTable.layClean.free m ow (SetTable.turns m) (SetTable.bits h % (m + 1)) (SetTable.bits h) = some (way m h K) := by
    refine free_spec m ow _ q _ _ K ?_ a (fun k hk => ?_) ?_
    · have : SetTable.turns m = m + 15 := rfl
      omega
    · have nn := c k hk
      show (oAt ow (way m h k)).isNone = false
      cases z : oAt ow (way m h k) with
      | none => exact absurd z nn
      | some _ => rfl
    · show (oAt ow (way m h K)).isNone = true
      rw [b]
      rfl
  have wl := way_in m h K
  have ins : way m h K < ow.size := by rw [S.sz]; omega
  refine ⟨_, fr, by rw [Array.size_setIfInBounds]; exact S.sz, ?_⟩
  generalize way m h K = j at *
  have lv : (liveOf m (ow.setIfInBounds j (some n))).Perm ((j, n) :: liveOf m ow) := by
    unfold liveOf
    refine pick_more (a := j) ?_ ?_ (fun i hi => ?_) List.nodup_range (List.mem_range.mpr (by omega))
    · rw [oAt_none ins, b]
      rfl
    · rw [oAt_none (by rw [Array.size_setIfInBounds]; exact ins), oAt_set_self _ ins]
      rfl
    · have e2 : (ow.setIfInBounds j (some n)).getD i none = ow.getD i none := by
        rw [Array.getD_eq_getD_getElem?, Array.getD_eq_getD_getElem?, Array.getElem?_setIfInBounds, if_neg (Ne.symm hi)]
      rw [e2]
  refine (lv.map (·.2)).trans ?_
  rw [List.map_cons, List.range_succ]
  exact (S.perm.cons n).trans (List.perm_append_singleton n _).symm
theorem sits_all {m : Nat} (hm : BigM m) : ∀ (hs : List Int) (n : Nat) (ow : Array (Option Nat)), Sits m n ow → n + hs.length ≤ m + 1 → ∃ ow', hs.foldl (stepF m) (some (ow, n)) = some (ow', n + hs.length) ∧ Sits m (n + hs.length) ow'
  | [], n, ow, S, _ => ⟨ow, rfl, S⟩
  | h :: hs, n, ow, S, hl => by
    rw [List.length_cons] at hl
    obtain ⟨j, e, S2⟩ := S.next hm (by omega) h
    obtain ⟨ow', e2, S3⟩ := sits_all hm hs (n + 1) _ S2 (by omega)
    rw [show n + 1 + hs.length = n + (h :: hs).length by rw [List.length_cons]; omega] at e2 S3
    exact ⟨ow', by rw [List.foldl_cons, stepF_some e, e2], S3⟩
/-- laid anew: a table of as many, and in which order they stand -/
theorem laid_anew (t : SetTable) {hs : Array Int} {wanted m : Nat} (hw : SetTable.sizeAbove wanted - 1 = m) (hm : BigM m) (hn : hs.size ≤ m) :
    ∃ t' od, t.relaid hs wanted = some (t', od) ∧ od.toList.Perm (List.range hs.size) ∧ Tbl t' hs.size ∧ t'.mask = m ∧ t'.led = t.led := by
  obtain ⟨ow, e, S⟩ := sits_all hm hs.toList 0 _ (Sits.zero m) (by rw [Array.length_toList]; omega)
  rw [Nat.zero_add, Array.length_toList] at e S
  have lc : SetTable.layClean m hs = some ow := by
    rw [layClean_eq, e]
    rfl
  refine ⟨tabOf t m ow, ((liveOf m ow).map (·.2)).toArray, by rw [relaid_eq, hw, lc]; rfl, S.perm, ⟨live_first m ow, rfl, ?_, hm⟩, rfl, rfl⟩
  show ((liveOf m ow).map (·.1)).toArray.size = hs.size
  rw [List.size_toArray, List.length_map, S.len]
theorem above5 : SetTable.sizeAbove (SetTable.grown 5) - 1 = 31 := by decide +kernel
theorem above19 : SetTable.sizeAbove (SetTable.grown 19) - 1 = 127 := by decide +kernel
theorem above77 : SetTable.sizeAbove (SetTable.grown 77) - 1 = 511 := by decide +kernel
theorem above307 : SetTable.sizeAbove (SetTable.grown 307) - 1 = 2047 := by decide +kernel
end TN
end
section
set_option maxHeartbeats 4000000
namespace TN
open PySem PySem.Spec PyProof.Rows L2 TL
section
variable (P : Program) (w : World)
def NoCls (n : Nat) (s : Shared) (v : Value) : Prop := ∀ (A : Around) (E : Value → Shared → Prop) (Q : Bool → Shared → Prop), Q false s → wpAny (model P w) A (ofAClassStatement n v) Q E s
def HashV (n : Nat) (s : Shared) (v : Value) : Prop := ∀ (A : Around) (E : Value → Shared → Prop) (Q : Bool → Shared → Prop), (∀ b, Q b s) → wpAny (model P w) A (hashByValue n v) Q E s
end
section
variable {P : Program} {w : World}
theorem NoCls.flat {n : Nat} {s : Shared} {v : Value} (h : ofAClassStatement n v = pure false) : NoCls P w n s v := fun A E Q q => by rw [h]; exact wpAny_pure q
theorem HashV.flat {n : Nat} {s : Shared} {v : Value} {b : Bool} (h : hashByValue n v = pure b) : HashV P w n s v := fun A E Q q => by rw [h]; exact wpAny_pure (q b)
theorem NoCls.deep {n : Nat} {s : Shared} {a : Addr} {o : Obj} {vs : Array Value} {m : Nat} (at_ : s.heap.get? a = some o) (cl : o.cls = .type "tuple") (dt : o.data = .seq vs m) (all : ∀ v ∈ vs.toList, NoCls P w n s v) : NoCls P w (n + 1) s (.ref a) := fun A E Q q => by
  have ty : s.TypeIs (.ref a) "tuple" := ⟨o, at_, cl⟩
  unfold ofAClassStatement
  refine wpAny_bind (wpAny_typeOf ty ?_)
  dsimp only
  have yes : (("tuple" : String) == "tuple") = true := rfl
  simp only [yes, if_true, Bool.not_true, Bool.false_eq_true, if_false]
  first
    | refine wpAny_bind (wpAny_seqItems at_ dt ?_)
    | (refine wpAny_bind (wpAny_pure ?_); simp only [Bool.not_true, Bool.false_eq_true, if_false]; refine wpAny_bind (wpAny_seqItems at_ dt ?_))
  dsimp only
  refine wpAny_bind ?_
  show wpAny _ _ (forIn vs _ _) _ _ s
  rw [← Array.forIn_toList]
  refine wpAny_forIn_list _ (fun left got u => got.1 = none ∧ u = s ∧ ∀ v ∈ left, NoCls P w n s v) _ (fun v left got u hi => ?_) (fun got u hi => ?_) _ _ ⟨rfl, rfl, all⟩
  · obtain ⟨h1, rfl, h2⟩ := hi
    refine wpAny_bind (h2 v List.mem_cons_self _ _ _ ?_)
    rw [if_neg Bool.false_ne_true]
    exact wpAny_pure ⟨rfl, rfl, fun y hy => h2 y (List.mem_cons_of_mem _ hy)⟩
  · obtain ⟨g1, g2⟩ := got
    obtain ⟨h1, rfl, _⟩ := hi
    cases (show g1 = none from h1)
    exact wpAny_pure q
theorem HashV.deep {n : Nat} {s : Shared} {a : Addr} {o : Obj} {vs : Array Value} {m : Nat} (at_ : s.heap.get? a = some o) (cl : o.cls = .type "tuple") (dt : o.data = .seq vs m) (all : ∀ v ∈ vs.toList, HashV P w n s v) : HashV P w (n + 1) s (.ref a) := fun A E Q q => by
  have ty : s.TypeIs (.ref a) "tuple" := ⟨o, at_, cl⟩
  unfold hashByValue
  refine wpAny_bind (wpAny_specialOf ty F.slot_tuple_hash.lookup ?_)
  show wpAny _ _ (seqItems? (.ref a) >>= _) _ _ s
  refine wpAny_bind (wpAny_seqItems at_ dt ?_)
  refine wpAny_bind ?_
  show wpAny _ _ (forIn vs _ _) _ _ s
  rw [← Array.forIn_toList]
  refine wpAny_forIn_list _ (fun left got u => got.1 = none ∧ u = s ∧ ∀ v ∈ left, HashV P w n s v) _ (fun v left got u hi => ?_) (fun got u hi => ?_) _ _ ⟨rfl, rfl, all⟩
  · obtain ⟨h1, rfl, h2⟩ := hi
    refine wpAny_bind (h2 v List.mem_cons_self _ _ _ fun b => ?_)
    cases b with
    | true =>
      simp only [Bool.not_true, Bool.false_eq_true, if_false]
      exact wpAny_pure ⟨rfl, rfl, fun y hy => h2 y (List.mem_cons_of_mem _ hy)⟩
    | false =>
      simp only [Bool.not_false, if_true]
      exact wpAny_pure (wpAny_pure (q false))
  · obtain ⟨g1, g2⟩ := got
    obtain ⟨h1, rfl, _⟩ := hi
    cases (show g1 = none from h1)
    exact wpAny_pure (q true)
mutual
theorem noCls_key : ∀ (k : NestedKey) (v : Value) (n : Nat) (s : Shared), NestedIs s.heap k v → k.depth ≤ n → NoCls P w n s v
  | .none, _, n, s, x, _ => by cases x; exact .flat (by cases n <;> rfl)
  | .num i, _, n, s, x, _ => by
    cases x
    · exact .flat (by cases n <;> rfl)
    · exact .flat (by cases n <;> rfl)
  | .text y, _, n, s, x, _ => by cases x; exact .flat (by cases n <;> rfl)
  | .tup ks, _, n, s, x, hn => by
    cases x with
    | tup h1 h2 h3 h4 =>
      simp only [NestedKey.depth] at hn
      obtain ⟨n', rfl⟩ : ∃ n', n = n' + 1 := ⟨n - 1, by omega⟩
      exact .deep h1 h2 h3 (noCls_keys ks _ n' s h4 (by omega))
theorem noCls_keys : ∀ (ks : List NestedKey) (vs : List Value) (n : Nat) (s : Shared), NestedAll s.heap ks vs → NestedKey.depthAll ks ≤ n → ∀ v ∈ vs, NoCls P w n s v
  | [], _, n, s, x, _, v, hv => by cases x; cases hv
  | k :: ks, _, n, s, x, hn, v, hv => by
    cases x with
    | cons x1 x2 =>
      simp only [NestedKey.depthAll] at hn
      rcases List.mem_cons.mp hv with rfl | hv
      · exact noCls_key k _ n s x1 (by omega)
      · exact noCls_keys ks _ n s x2 (by omega) v hv
end
mutual
theorem hashV_key : ∀ (k : NestedKey) (v : Value) (n : Nat) (s : Shared), NestedIs s.heap k v → HashV P w n s v
  | .none, _, n, s, x => by cases x; exact .flat (b := true) (by cases n <;> rfl)
  | .num i, _, n, s, x => by
    cases x
    · exact .flat (b := true) (by cases n <;> rfl)
    · exact .flat (b := true) (by cases n <;> rfl)
  | .text y, _, n, s, x => by cases x; exact .flat (b := false) (by cases n <;> rfl)
  | .tup ks, _, n, s, x => by
    cases x with
    | tup h1 h2 h3 h4 =>
      cases n with
      | zero => exact .flat (b := false) rfl
      | succ n => exact .deep h1 h2 h3 (hashV_keys ks _ n s h4)
theorem hashV_keys : ∀ (ks : List NestedKey) (vs : List Value) (n : Nat) (s : Shared), NestedAll s.heap ks vs → ∀ v ∈ vs, HashV P w n s v
  | [], _, n, s, x, v, hv => by cases x; cases hv
  | k :: ks, _, n, s, x, v, hv => by
    cases x with
    | cons x1 x2 =>
      rcases List.mem_cons.mp hv with rfl | hv
      · exact hashV_key k _ n s x1
      · exact hashV_keys ks _ n s x2 v hv
end
/-- the tuple at a is this key -/
abbrev KeyAt (h : Heap) (k : NestedKey) (a : Addr) : Prop := NestedIs h k (.ref a) ∧ k.depth ≤ 8
theorem unseen {s : Shared} {k : NestedKey} {b : Addr} (hb : KeyAt s.heap k b) {ys : List Value} (hy : ∀ y ∈ ys, ∃ k' c, y = Value.ref c ∧ KeyAt s.heap k' c) {A : Around} {E : Value → Shared → Prop} {Q : Bool → Shared → Prop} (q : Q false s) :
    wpAny (model P w) A (searchCouldBeSeen (.ref b) ys) Q E s := by
  unfold searchCouldBeSeen
  refine wpAny_bind ?_
  refine wpAny_forIn_list _ (fun left got u => got.1 = none ∧ u = s ∧ ∀ y ∈ left, ∃ k' c, y = Value.ref c ∧ KeyAt s.heap k' c) _ (fun v left got u hi => ?_) (fun got u hi => ?_) _ _ ⟨rfl, rfl, hy⟩
  · obtain ⟨h1, rfl, h2⟩ := hi
    obtain ⟨k', c, rfl, hc⟩ := h2 v List.mem_cons_self
    have on : ∀ y ∈ left, ∃ k' c, y = Value.ref c ∧ KeyAt u.heap k' c := fun y z => h2 y (List.mem_cons_of_mem _ z)
    dsimp only
    by_cases same : (b == c || (carriedByValue (.ref b) && carriedByValue (.ref c))) = true
    · rw [if_pos same]
      exact wpAny_pure ⟨rfl, rfl, on⟩
    · rw [if_neg same]
      refine wpAny_bind ((nestedKind P w).quiet hb ?_)
      simp only [Bool.not_true, Bool.false_eq_true, if_false]
      refine wpAny_bind ((nestedKind P w).quiet hc ?_)
      simp only [Bool.not_true, Bool.false_eq_true, if_false]
      refine wpAny_bind (noCls_key _ _ 8 u hb.1 hb.2 _ _ _ ?_)
      simp only [Bool.false_eq_true, if_false]
      refine wpAny_bind (noCls_key _ _ 8 u hc.1 hc.2 _ _ _ ?_)
      simp only [Bool.false_eq_true, if_false]
      exact wpAny_pure ⟨rfl, rfl, on⟩
  · obtain ⟨g1, g2⟩ := got
    obtain ⟨h1, rfl, _⟩ := hi
    cases (show g1 = none from h1)
    exact wpAny_pure q
def rowsN (w : World) (L : List (Addr × NestedKey)) : List (Int × Value) := L.map fun p => (p.2.hash w, Value.ref p.1)
structure SetN (w : World) (h : Heap) (a : Addr) (L : List (Addr × NestedKey)) (es : Array (Int × Value)) (ep : Nat) (t : SetTable) : Prop where
  ob : ∃ o, h.get? a = some o ∧ o.ExactSet ∧ o.data = .set es ep t
  rows : es.toList = rowsN w L
  tab : Tbl t L.length
  nd : (L.map (·.2)).Nodup
  keys : ∀ p ∈ L, KeyAt h p.2 p.1
  room : L.length * 5 < t.mask * 3
section
variable {h : Heap} {a : Addr} {L : List (Addr × NestedKey)} {es : Array (Int × Value)} {ep : Nat} {t : SetTable}
theorem SetN.count (S : SetN w h a L es ep t) : es.size = L.length := by
  have := congrArg List.length S.rows
  simpa [rowsN] using this
theorem Tbl.fits {t : SetTable} {n : Nat} (T : Tbl t n) (hn : n ≤ t.mask) : t.fits n = true := by
  unfold SetTable.fits SetTable.fill
  rw [T.dm, T.sz]
  simp
  exact hn
theorem SetN.fits (S : SetN w h a L es ep t) : t.fits es.size = true := by
  rw [S.count]
  exact S.tab.fits (by have := S.room; omega)
theorem SetN.row (S : SetN w h a L es ep t) {i : Nat} {p : Addr × NestedKey} (e : L[i]? = some p) : es[i]? = some (p.2.hash w, Value.ref p.1) := by
  rw [← Array.getElem?_toList, S.rows, rowsN, List.getElem?_map, e]
  rfl
theorem Tbl.stays {t : SetTable} {n : Nat} (T : Tbl t n) : ¬ t.gaveWay = true := by
  unfold SetTable.gaveWay
  rw [T.big.odd]
  decide
end
/-- where a way is after some steps -/
abbrev wayP (m : Nat) (h : Int) (c : Nat) : SetTable.Probe := nth m (runAt m (SetTable.bits h % (m + 1)) (SetTable.bits h)) c
theorem wayP_clean (m : Nat) (h : Int) : ∀ c, (wayP m h c).dummy = none
  | 0 => rfl
  | c + 1 => by
    have ih := wayP_clean m h c
    show (nth m _ (c + 1)).dummy = none
    rw [nth_succ]
    unfold adv
    split <;> exact ih
/-- a thing that the set has not: its search ends at the first empty slot of its way -/
theorem seek {s : Shared} {A : Around} {E : Value → Shared → Prop} {a : Addr} {L : List (Addr × NestedKey)} {es : Array (Int × Value)} {ep : Nat} {t : SetTable} (S : SetN w s.heap a L es ep t) {x : Addr} {k : NestedKey} (hx : KeyAt s.heap k x) (hu : A.units + 8 < cLine) (new : k ∉ L.map (·.2))
    {K : Nat} (K1 : K < 10 * SetTable.turns t.mask) (K2 : way t.mask (k.hash w) K ∉ t.place.toList) (K3 : ∀ c, c < K → way t.mask (k.hash w) c ∈ t.place.toList) {Q : SetFound → Shared → Prop} (q : Q (.free (way t.mask (k.hash w) K) false) s) :
    ∀ (f c : Nat) (p : Option SetTable.Probe), p.getD (t.probeStart (k.hash w)) = wayP t.mask (k.hash w) c → c ≤ K → K - c < f → wpAny (model P w) A (setSearchFrom a (.ref x) (k.hash w) true f p) Q E s
  | 0, c, p, _, _, hf => absurd hf (Nat.not_lt_zero _)
  | f + 1, c, p, hp, hc, hf => by
    obtain ⟨o, o1, o2, o3⟩ := S.ob
    rw [setSearchFrom_succ]
    refine wpAny_bind (wpAny_setState_of o1 o3 S.fits ?_)
    dsimp only
    rw [if_neg S.tab.stays]
    first
      | skip
      | refine wpAny_bind (wpAny_pure ?_)
    have sh : ∀ d, nth t.mask (wayP t.mask (k.hash w) c) d = wayP t.mask (k.hash w) (c + d) := fun d => (nth_add t.mask c _ d).symm
    have sj : ∀ d, (nth t.mask (wayP t.mask (k.hash w) c) d).j = way t.mask (k.hash w) (c + d) := fun d => by rw [sh d]
    rcases go_spec t S.tab.ris S.tab.dm (fun i => (es[i]?.map (·.1)).getD 0) (k.hash w) (10 * SetTable.turns t.mask) (K - c) (wayP t.mask (k.hash w) c) (wayP_clean _ _ c) (by omega) (fun d hd => by rw [sj]; exact K3 _ (by omega)) (by rw [sj, show c + (K - c) = K by omega]; exact K2) with ⟨d, i, d1, d2, _, _, d3⟩ | ⟨_, d3⟩
    · have pr : t.probe (fun i => (es[i]?.map (·.1)).getD 0) (k.hash w) (p.getD (t.probeStart (k.hash w))) = some (.candidate (way t.mask (k.hash w) (c + d)) i (wayP t.mask (k.hash w) (c + (d + 1)))) := by
        rw [hp, ← sj, ← sh]
        exact d3
      rw [pr]
      dsimp only
      rw [sj] at d2
      have il : i < L.length := by
        have z := (List.getElem?_eq_some_iff.mp d2).1
        rw [Array.length_toList, S.tab.sz] at z
        exact z
      obtain ⟨y, hy⟩ : ∃ y, L[i]? = some y := ⟨_, List.getElem?_eq_getElem il⟩
      have my := List.mem_of_getElem? hy
      have ky := S.keys y my
      have ne : ¬ y.2 = k := fun e => new (List.mem_map.mpr ⟨y, my, e⟩)
      have go : wpAny (model P w) A (searchRest a (.ref x) (k.hash w) true f es t (way t.mask (k.hash w) (c + d)) i (wayP t.mask (k.hash w) (c + (d + 1)))) Q E s := by
        unfold searchRest
        rw [S.row hy]
        dsimp only
        refine wpAny_bind (wpAny_holding ((nestedKind P w).eqBool (show A.units + 8 < cLine from hu) ky hx ?_))
        rw [decide_eq_false ne]
        refine wpAny_bind (wpAny_setState_of o1 o3 S.fits ?_)
        dsimp only
        rw [if_neg (by decide)]
        try refine wpAny_bind (wpAny_pure ?_)
        rw [sameMem]
        dsimp only
        have sl : t.slot (way t.mask (k.hash w) (c + d)) = .live i := slot_live S.tab.ris d2
        simp only [if_true, sl, S.row hy]
        refine wpAny_bind (wpAny_isSame_ref_self (wpAny_bind (wpAny_pure ?_)))
        simp only [if_true, Bool.false_eq_true, if_false]
        exact seek S hx hu new K1 K2 K3 q f (c + (d + 1)) _ rfl (by omega) (by omega)
      by_cases ld : t.led = true
      · rw [if_neg (by simp [ld])]
        first
          | exact go
          | exact wpAny_bind (wpAny_pure go)
      · rw [if_pos (by simp [ld])]
        refine wpAny_bind (unseen hx (fun y hy => ?_) ?_)
        · obtain ⟨e, e1, rfl⟩ := List.mem_map.mp hy
          have e2 : e ∈ es.toList := by
            have z : e ∈ es ∧ e.1 = k.hash w := by simpa using e1
            simpa using z.1
          rw [S.rows, rowsN] at e2
          obtain ⟨z, z1, rfl⟩ := List.mem_map.mp e2
          exact ⟨z.2, z.1, rfl, S.keys z z1⟩
        · rw [if_neg (by decide)]
          first
            | exact go
            | exact wpAny_bind (wpAny_pure go)
    · have pr : t.probe (fun i => (es[i]?.map (·.1)).getD 0) (k.hash w) (p.getD (t.probeStart (k.hash w))) = some (.empty (way t.mask (k.hash w) K) none) := by
        have e := sj (K - c)
        rw [show c + (K - c) = K by omega] at e
        rw [hp, ← e]
        exact d3
      rw [pr]
      exact wpAny_pure q
end
end TN
end
section
set_option maxHeartbeats 4000000
namespace TN
open PySem PySem.Spec PyProof.Rows L2 TL
theorem key_apart {h h' : Heap} {k : NestedKey} {a b : Addr} {o : Obj} {es : Array (Int × Value)} {ep : Nat} {t : SetTable} (hb : KeyAt h k b) (ho : h.get? a = some o) (hd : o.data = .set es ep t) (hs : Heap.SameBut a h h') : KeyAt h' k b :=
  ⟨NestedIs.at (fun c ob vs n hc dc => by
    refine (hs.2 c fun e => ?_).trans hc
    subst e
    rw [ho] at hc
    cases hc
    rw [hd] at dc
    cases dc) k _ hb.1, hb.2⟩
theorem key_on {h h' : Heap} {k : NestedKey} {b : Addr} (x : KeyAt h k b) (hk : ∀ c o, h.get? c = some o → h'.get? c = some o) : KeyAt h' k b :=
  ⟨NestedIs.at (fun c ob vs n hc _ => hk c ob hc) k _ x.1, x.2⟩
theorem rows_len (w : World) (L : List (Addr × NestedKey)) : (rowsN w L).length = L.length := by simp [rowsN]
/-- the rows, as they stand in the new table -/
theorem rows_order {w : World} (L : List (Addr × NestedKey)) (es : Array (Int × Value)) (od : Array Nat) (hr : es.toList = rowsN w L) (hp : od.toList.Perm (List.range L.length)) :
    ∃ L2, (od.filterMap (es[·]?)).toList = rowsN w L2 ∧ L2.Perm L := by
  have pick : ∀ l : List Nat, l.filterMap (fun i => es[i]?) = rowsN w (l.filterMap fun i => L[i]?) := fun l => by
    induction l with
    | nil => rfl
    | cons i l ih =>
      have e : es[i]? = (L[i]?).map fun p => (p.2.hash w, Value.ref p.1) := by rw [← Array.getElem?_toList, hr, rowsN, List.getElem?_map]
      rw [List.filterMap_cons, List.filterMap_cons, ih, e]
      cases L[i]? <;> rfl
  refine ⟨od.toList.filterMap fun i => L[i]?, by rw [Array.toList_filterMap]; exact pick od.toList, (hp.filterMap _).trans ?_⟩
  have all : ∀ n, n ≤ L.length → (List.range n).filterMap (fun i => L[i]?) = L.take n := fun n => by
    induction n with
    | zero => intro _; rfl
    | succ n ih =>
      intro hn
      have g := List.getElem?_eq_getElem (l := L) (i := n) hn
      rw [List.range_succ, List.filterMap_append, ih (by omega), List.take_succ, g]
      simp [g]
  rw [all _ (Nat.le_refl _), List.take_length]
section
variable {P : Program} {w : World} {A : Around} {E : Value → Shared → Prop} {s : Shared}
variable {a : Addr} {L : List (Addr × NestedKey)} {es : Array (Int × Value)} {ep : Nat} {t : SetTable}
/-- the table laid anew -/
theorem relay {o : Obj} (o1 : s.heap.get? a = some o) (o2 : o.ExactSet) (o3 : o.data = .set es ep t) (hr : es.toList = rowsN w L) (T : Tbl t L.length) (hl : L.length ≤ t.mask) (nd : (L.map (·.2)).Nodup) (hk : ∀ p ∈ L, KeyAt s.heap p.2 p.1)
    {wanted m : Nat} (hw : SetTable.sizeAbove wanted - 1 = m) (hm : BigM m) (hn : L.length * 5 < m * 3) {Q : Unit → Shared → Prop}
    (q : ∀ h' L' es' ep' t', Heap.SameBut a s.heap h' → SetN w h' a L' es' ep' t' → L'.Perm L → Q () { s with heap := h' }) : wpAny (model P w) A (setRelay a wanted) Q E s := by
  have sz : es.size = L.length := by
    have z := congrArg List.length hr
    rw [rows_len] at z
    simpa using z
  obtain ⟨t', od, e1, e2, e3, e4, e5⟩ := laid_anew t (hs := es.map (·.1)) hw hm (by rw [Array.size_map, sz]; omega)
  rw [Array.size_map, sz] at e2 e3
  obtain ⟨L2, r1, r2⟩ := rows_order L es od hr e2
  have s2 : (od.filterMap (es[·]?)).size = es.size := by
    have z := congrArg List.length r1
    rw [rows_len, r2.length_eq] at z
    rw [sz, ← z, Array.length_toList]
  rw [setRelay_eq]
  refine wpAny_bind (wpAny_setState_of o1 o3 (by rw [sz]; exact T.fits hl) ?_)
  dsimp only
  have sa : SetTable.sizeAbove wanted ≤ 2048 := by have := hm.le; omega
  rw [if_neg (by rw [sizeLine_eq]; omega)]
  try refine wpAny_bind (wpAny_pure ?_)
  rw [e1]
  dsimp only
  refine wpAny_bind ?_
  rw [if_neg (by rw [s2]; simp)]
  try refine wpAny_bind (wpAny_pure ?_)
  refine wpAny_pure ?_
  dsimp only
  have ml := hm.le
  refine wpAny_storeSet_of o1 o3 ?_ (by rw [s2, sz, sizeLine_eq]; omega)
  have but : Heap.SameBut a s.heap (s.heap.update a (Obj.putSet (od.filterMap (es[·]?)) t')) := Heap.SameBut.update ..
  refine q _ L2 _ (ep + 1) t' but ⟨⟨_, store_at o1 o3, ⟨o2.1, o2.2.1, o2.2.2⟩, rfl⟩, r1, by rw [r2.length_eq]; exact e3, (r2.map (·.2)).nodup_iff.mpr nd, fun p hp => key_apart (hk p (r2.mem_iff.mp hp)) o1 o3 but, ?_⟩ r2
  rw [r2.length_eq, e4]
  exact hn
/-- when a table is too full, the next one -/
theorem next_mask {m n : Nat} (hm : BigM m) (h1 : n * 5 < m * 3) (h2 : (n + 1) * 5 ≥ m * 3) (h3 : n + 1 ≤ 1200) : ∃ m', SetTable.sizeAbove (SetTable.grown (n + 1)) - 1 = m' ∧ BigM m' ∧ (n + 1) * 5 < m' * 3 := by
  rcases hm with rfl | rfl | rfl | rfl | rfl
  · obtain rfl : n = 4 := by omega
    exact ⟨31, above5, .inr (.inl rfl), by decide⟩
  · obtain rfl : n = 18 := by omega
    exact ⟨127, above19, .inr (.inr (.inl rfl)), by decide⟩
  · obtain rfl : n = 76 := by omega
    exact ⟨511, above77, .inr (.inr (.inr (.inl rfl))), by decide⟩
  · obtain rfl : n = 306 := by omega
    exact ⟨2047, above307, .inr (.inr (.inr (.inr rfl))), by decide⟩
  · omega
/-- one that is new is added -/
theorem add_new (S : SetN w s.heap a L es ep t) {x : Addr} {k : NestedKey} (hx : KeyAt s.heap k x) (hu : A.units + 8 < cLine) (new : k ∉ L.map (·.2)) (few : L.length + 1 ≤ 1200) {Q : Bool → Shared → Prop}
    (q : ∀ b h' L' es' ep' t', Heap.SameBut a s.heap h' → SetN w h' a L' es' ep' t' → L'.Perm ((x, k) :: L) → Q b { s with heap := h' }) : wpAny (model P w) A (setAddHashed a (.ref x) (k.hash w)) Q E s := by
  obtain ⟨o, o1, o2, o3⟩ := S.ob
  have sz := S.count
  have room := S.room
  obtain ⟨K, K1, K2, K3⟩ := S.tab.hole (by omega) (k.hash w)
  obtain ⟨T1, p1, p2, p3, p4, p5⟩ := S.tab.put K2
  unfold setAddHashed
  refine wpAny_holding ?_
  rw [show (100000 : Nat) = 99999 + 1 from rfl, setAddHashedIn_succ]
  refine wpAny_bind (wpAny_setState_of o1 o3 S.fits ?_)
  dsimp only
  rw [if_neg (by simp [byScan, Value.scannable])]
  try refine wpAny_bind (wpAny_pure ?_)
  have lim : 10 * SetTable.turns t.mask ≤ 20620 := by
    have z : SetTable.turns t.mask = t.mask + 15 := rfl
    have := S.tab.big.le
    omega
  refine wpAny_bind ?_
  unfold setSearch
  refine seek S hx hu new K1 K2 K3 ?_ 100000 0 none rfl (Nat.zero_le _) (by omega)
  dsimp only
  refine wpAny_bind (wpAny_setState_of o1 o3 S.fits ?_)
  dsimp only
  generalize way t.mask (k.hash w) K = j at *
  generalize hpt : t.put j = pt at *
  obtain ⟨t1, i⟩ := pt
  dsimp only at T1 p1 p2 p3 p4 p5 ⊢
  subst p1
  have rw1 : (SetTable.insertAt es (SetTable.below t.place j) (k.hash w, Value.ref x)).toList = rowsN w (L.take (SetTable.below t.place j) ++ (x, k) :: L.drop (SetTable.below t.place j)) := by
    rw [SetTable.toList_insertAt, S.rows]
    simp [rowsN, List.map_take, List.map_drop]
  generalize SetTable.below t.place j = i at *
  have pm : (L.take i ++ (x, k) :: L.drop i).Perm ((x, k) :: L) := by
    have z : (L.take i ++ (x, k) :: L.drop i).Perm ((x, k) :: (L.take i ++ L.drop i)) := List.perm_middle
    rw [List.take_append_drop] at z
    exact z
  have ln : (L.take i ++ (x, k) :: L.drop i).length = L.length + 1 := pm.length_eq
  have nd1 : ((L.take i ++ (x, k) :: L.drop i).map (·.2)).Nodup := (pm.map (·.2)).nodup_iff.mpr (List.nodup_cons.mpr ⟨new, S.nd⟩)
  have es1 : (SetTable.insertAt es i (k.hash w, Value.ref x)).size = L.length + 1 := by
    have z := congrArg List.length rw1
    rw [rows_len, ln] at z
    simpa using z
  rw [sz]
  generalize SetTable.insertAt es i (k.hash w, Value.ref x) = fs at *
  generalize L.take i ++ (x, k) :: L.drop i = L1 at *
  -- behind what is asked of its hash, whatever the answer
  have on : ∀ t2 : SetTable, Tbl t2 (L.length + 1) → t2.mask = t.mask → t2.fill = L.length + 1 → wpAny (model P w) A (do
      storeSet a fs t2
      if !false && t2.tooFull then setRelay a (SetTable.grown (L.length + 1))
      return true) Q E s := fun t2 T2 m2 f2 => by
    refine wpAny_bind (wpAny_storeSet_of o1 o3 ?_ (by rw [es1, sizeLine_eq]; omega))
    have but : Heap.SameBut a s.heap (s.heap.update a (Obj.putSet fs t2)) := Heap.SameBut.update ..
    have o4 := store_at (es' := fs) (t' := t2) o1 o3
    generalize s.heap.update a (Obj.putSet fs t2) = h1 at but o4 ⊢
    have keys1 : ∀ p ∈ L1, KeyAt h1 p.2 p.1 := fun p hp => by
      rcases List.mem_cons.mp (pm.mem_iff.mp hp) with rfl | hp
      · exact key_apart hx o1 o3 but
      · exact key_apart (S.keys p hp) o1 o3 but
    have full : t2.tooFull = decide ((L.length + 1) * 5 ≥ t.mask * 3) := by
      unfold SetTable.tooFull
      rw [f2, m2]
    by_cases c : (L.length + 1) * 5 ≥ t.mask * 3
    · obtain ⟨m', n1, n2, n3⟩ := next_mask S.tab.big room c few
      have fin : wpAny (model P w) A (setRelay a (SetTable.grown (L.length + 1))) (fun _ u => wpAny (model P w) A (pure true) Q E u) E { s with heap := h1 } :=
        relay (s := { s with heap := h1 }) o4 ⟨o2.1, o2.2.1, o2.2.2⟩ rfl rw1 (by rw [ln]; exact T2) (by rw [ln, m2]; omega) nd1 keys1 n1 n2 (by rw [ln]; exact n3) fun h2 L2 es2 ep2 t3 b2 S2 pm2 => wpAny_pure (q true h2 L2 es2 ep2 t3 (but.trans b2) S2 (pm2.trans pm))
      rw [full, decide_eq_true c]
      first
        | exact wpAny_bind fin
        | (refine wpAny_bind ?_; exact wpAny_mono fin (fun _ _ z => z) fun _ _ z => z)
    · rw [full, decide_eq_false c]
      have fin : wpAny (model P w) A (pure true) Q E { s with heap := h1 } := wpAny_pure (q true h1 L1 fs (ep + 1) t2 but ⟨⟨_, o4, ⟨o2.1, o2.2.1, o2.2.2⟩, rfl⟩, rw1, by rw [ln]; exact T2, nd1, keys1, by rw [ln, m2]; omega⟩ pm)
      first
        | exact fin
        | exact wpAny_bind (wpAny_pure fin)
  by_cases pl : t1.plain = true
  · simp only [pl, if_true]
    refine wpAny_bind (hashV_key _ _ 8 s hx.1 _ _ _ fun b => ?_)
    cases b with
    | true => exact on t1 T1 p3 p5
    | false => exact on { t1 with plain := false } ⟨T1.ris, T1.dm, T1.sz, T1.big⟩ p3 p5
  · simp only [pl, Bool.false_eq_true, if_false]
    refine wpAny_bind (wpAny_pure ?_)
    exact on t1 T1 p3 p5
end
end TN
end
section
set_option maxHeartbeats 4000000
namespace TN
open PySem PySem.Spec PyProof.Rows L2 TL
section
variable {prog : Program} {w : World} {B : Around} {R : Result → Shared → Prop} {it : Addr} {fp wr : List Addr} {G : Array GenState → Array GenState → Prop} {len : Nat} {P : Nat → Value → Prop} {St : Nat → Shared → Prop}
/-- a set is filled off what is walked -/
theorem fill_new (W : WalksS prog w B.in1 it fp wr G len P St) (D : Addr) (off : D ∉ fp) (ks : List (Addr × NestedKey)) (hk : ks.length = len) (nd : (ks.map (·.2)).Nodup) (few : ks.length ≤ 1200) (hu : B.in1.units + 8 < cLine)
    (val : ∀ (i : Nat) (v : Value), P i v → ∃ p, ks[i]? = some p ∧ v = .ref p.1) (h0 : Heap) (keys : ∀ p ∈ ks, KeyAt h0 p.2 p.1) (old : ∀ b o, h0.get? b = some o → b ∉ D :: wr) :
    ∀ (n i : Nat) (t : Shared) (L : List (Addr × NestedKey)) (es : Array (Int × Value)) (ep : Nat) (tb : SetTable), i + n = len → i ≤ len → St i t → (∀ b o, h0.get? b = some o → t.heap.get? b = some o) → SetN w t.heap D L es ep tb → L.Perm (ks.take i) →
      (∀ t', Moved (D :: wr) G t t' → (∃ L es ep tb, SetN w t'.heap D L es ep tb ∧ L.length = ks.length) → R (.ok (.ret .none)) t') →
      codeAny (model prog w) B (.builtin "set.update.loop" ⟨[.ref D, .ref it], []⟩) R t := by
  have away : D ∉ wr := fun z => off (W.sub _ z)
  have more : ∀ b ∈ wr, b ∈ D :: wr := fun b z => List.mem_cons_of_mem _ z
  have kept : ∀ {t t' : Shared}, Moved wr G t t' → (∀ b o, h0.get? b = some o → t.heap.get? b = some o) → ∀ b o, h0.get? b = some o → t'.heap.get? b = some o := fun mv k b o e => mv.heap b o (fun z => old b o e (more b z)) (k b o e)
  have held : ∀ {t : Shared} {L : List (Addr × NestedKey)} {i : Nat}, L.Perm (ks.take i) → (∀ b o, h0.get? b = some o → t.heap.get? b = some o) → ∀ p ∈ L, KeyAt t.heap p.2 p.1 := fun pm k p hp => key_on (keys p (List.mem_of_mem_take (pm.mem_iff.mp hp))) k
  intro n
  induction n with
  | zero =>
    intro i t L es ep tb hi hl st k0 S pm fin
    obtain rfl : i = len := by omega
    refine codeAny_builtin F.entry_set_update_loop ?_
    rw [Around.under_plainId F.plain_set_update_loop _]
    show wpAny _ B.in1 (pyNext (.ref it) >>= _) _ _ t
    refine wpAny_bind (W.done t _ _ st fun t' mv => ?_)
    show wpAny _ B.in1 (ret Value.none) _ _ t'
    refine wpAny_pure (fin t' (mv.mono more) ⟨L, es, ep, tb, ?_, by rw [pm.length_eq, ← hk, List.take_length]⟩)
    obtain ⟨⟨o, o1, o2⟩, q1, q2, q3, q4, q5⟩ := S
    exact ⟨⟨o, mv.heap D _ away o1, o2⟩, q1, q2, q3, held pm (kept mv k0), q5⟩
  | succ n ih =>
    intro i t L es ep tb hi hl st k0 S pm fin
    have lt : i < len := by omega
    refine codeAny_builtin F.entry_set_update_loop ?_
    rw [Around.under_plainId F.plain_set_update_loop _]
    show wpAny _ B.in1 (pyNext (.ref it) >>= _) _ _ t
    refine wpAny_bind (W.item i t _ _ lt st fun v t' pv st' mv => ?_)
    obtain ⟨p, at_, rfl⟩ := val i v pv
    have k1 := kept mv k0
    have S1 : SetN w t'.heap D L es ep tb := by
      obtain ⟨⟨o, o1, o2⟩, q1, q2, q3, q4, q5⟩ := S
      exact ⟨⟨o, mv.heap D _ away o1, o2⟩, q1, q2, q3, held pm k1, q5⟩
    have kp : KeyAt t'.heap p.2 p.1 := key_on (keys p (List.mem_of_getElem? at_)) k1
    have tk : ks.take (i + 1) = ks.take i ++ [p] := by rw [List.take_succ, at_]; rfl
    have new : p.2 ∉ L.map (·.2) := fun z => by
      have z2 : p.2 ∈ (ks.take i).map (·.2) := (pm.map (·.2)).mem_iff.mp z
      have nd2 : ((ks.take (i + 1)).map (·.2)).Nodup := nd.sublist ((List.take_sublist _ _).map _)
      rw [tk, List.map_append, List.nodup_append] at nd2
      exact nd2.2.2 _ z2 _ (by simp) rfl
    have ll : L.length = i := by rw [pm.length_eq, List.length_take]; omega
    show wpAny _ B.in1 (holding [Value.ref p.1] (setAdd D (.ref p.1)) >>= _) _ _ t'
    refine wpAny_bind (wpAny_holding ?_)
    unfold setAdd
    refine wpAny_holding ?_
    refine wpAny_bind ((nestedKind prog w).pyHash (show B.in1.units + 8 < cLine from hu) kp ?_)
    refine add_new (s := { t' with toks := t'.toks + p.2.draws }) S1 kp hu new (by omega) fun b h' L' es' ep' tb' but S2 pm2 => ?_
    have k2 : ∀ c o, h0.get? c = some o → h'.get? c = some o := fun c o e => (but.2 c fun z => old c o e (by rw [z]; exact List.mem_cons_self)).trans (k1 c o e)
    have pm3 : L'.Perm (ks.take (i + 1)) := by
      rw [tk]
      exact pm2.trans ((pm.cons p).trans (List.perm_append_singleton _ _).symm)
    refine wpAny_pure ⟨plainId_quiet F.plain_set_update_loop _, ih (i + 1) _ L' es' ep' tb' (by omega) lt (W.frame _ t' _ _ st' (Nat.le_add_right _ _) fun c hc o e => ?_) k2 S2 pm3 fun t2 mv2 so => ?_⟩
    · rw [but.2 c fun z : c = D => off (z ▸ hc)]
      exact e
    · refine fin t2 (Moved.trans W.gtrans ((mv.mono more).then_heap (Nat.le_add_right _ _) fun c o hc e => ?_) mv2) so
      rw [but.2 c fun z : c = D => hc (z ▸ List.mem_cons_self)]
      exact e
end
section
variable {prog : Program} {w : World} {B : Around} {E : Value → Shared → Prop} {t : Shared}
/-- set(xs), xs a list of nested tuples all unlike -/
theorem set_of_new {l : Addr} {its : Array Value} {ks : List (Addr × NestedKey)} {Q : Value → Shared → Prop} (quiet : B.handled = none) (hl : t.heap.IsList l its) (hk : ks.length = its.size)
    (val : ∀ (i : Nat) (v : Value), its[i]? = some v → ∃ p, ks[i]? = some p ∧ v = .ref p.1) (few : ks.length ≤ 1200) (nd : (ks.map (·.2)).Nodup) (keys : ∀ p ∈ ks, KeyAt t.heap p.2 p.1) (hu : B.units + 20 < cLine)
    (fin : ∀ (h' : Heap) (tk : Nat), (∃ L es ep tb, SetN w h' t.heap.objs.size L es ep tb ∧ L.length = ks.length) → (∀ b o, b < t.heap.objs.size → t.heap.get? b = some o → h'.get? b = some o) → Q (.ref t.heap.objs.size) { t with heap := h', toks := tk }) :
    wpAny (model prog w) B (call (.type "set") [.ref l]) Q E t := by
  let D := t.heap.objs.size
  obtain ⟨c0, tl0, mro0⟩ := PySem.F.called_set.mro
  have made0 := PySem.F.called_set.made
  have sub0 := PySem.F.called_set.sub
  refine wpAny_call (codeAny_of_tree ?_)
  show wpAny _ _ (callAny (.type "set") _) _ _ _
  refine wpAny_pure ⟨Code.quiet_builtin _ (by decide +kernel), codeAny_builtin PySem.F.entry_type_call ?_⟩
  rw [Around.under_plain (weight_type_call_type "set" [.ref l] []) rfl]
  have nt0 := PySem.F.called_set.notType
  have cc0 := PySem.F.called_set.canCreate
  have tc0 := PySem.F.typeCall_set_1 (.ref l)
  repeat (any_goals (first | assumption | wp_step))
  let fo (led : Bool) : Obj := { cls := .type "set", dict := none, data := .set #[] 0 (.fresh 0 0 led) }
  refine codeAny_mono (code_set_new_1 (.ref l) (E := E) (Q₁ := fun obj u => ∃ led : Bool, obj = .ref D ∧ u = { t with heap := t.heap.push (fo led) }) fun led => ⟨led, rfl, rfl⟩) fun r u hr => ?_
  cases r with
  | error e => exact hr
  | ok fl =>
    cases fl with
    | ret obj =>
      obtain ⟨led, rfl, rfl⟩ := hr
      have atD : (t.heap.push (fo led)).get? D = some (fo led) := Heap.get?_push_size _ rfl
      have tyD : Shared.TypeIs { t with heap := t.heap.push (fo led) } (.ref D) "set" := ⟨_, atD, rfl⟩
      have li0 := PySem.F.called_set.init.lookup
      have bi0 := PySem.F.called_set.init.bind (.ref D)
      repeat (any_goals (first | assumption | wp_step))
      refine codeAny_mono (codeAny_call_builtin (R := wants (fun r u => r = .none ∧ ∃ h' tk, u = { t with heap := h', toks := tk } ∧ (∃ L es ep tb, SetN w h' D L es ep tb ∧ L.length = ks.length) ∧
          (∀ b o, b < D → t.heap.get? b = some o → h'.get? b = some o)) E) PySem.F.called_set.init.plain PySem.F.entry_set_init (check_set_init_1 tyD ?_)) fun r2 u2 hr2 => ?_
      · obtain ⟨⟨lc, ld, la, ls⟩, atl, lcl, m, ldl⟩ := hl
        simp only at lcl ldl
        subst lcl ldl
        have atl' : (t.heap.push (fo led)).get? l = some { cls := .type "list", dict := ld, data := .seq its m, slots := ls } := Heap.get?_push_of_some _ atl
        have s1 := PySem.F.sub_list_set
        have s2 := PySem.F.sub_list_frozenset
        have s3 : (Value.type "list" == Value.type "dict") = false := by decide
        have isl : (t.heap.push (fo led)).IsList l its := ⟨_, atl', rfl, m, rfl⟩
        unfold Builtin.«set.__init__» noKeywords Builtin.Frozenset.updateFrom
        generalize hPI : pyIter = PI
        wp_walk
        subst hPI
        refine wpAny_pyIter_list isl ?_
        refine wpAny_bind (wpAny_runValue ?_)
        have ltl : l < D := Heap.lt_size atl
        have quiet3 : B.in1.in1.in1.handled = none := by simp [quiet]
        have nel : l ≠ (t.heap.push (fo led)).objs.size := by
          rw [Heap.size_push]
          exact Nat.ne_of_lt (Nat.lt_succ_of_lt ltl)
        have offD : D ∉ [(t.heap.push (fo led)).objs.size, l] := by
          rw [Heap.size_push]
          intro z
          rcases List.mem_cons.mp z with z | z
          · exact Nat.ne_of_lt (Nat.lt_succ_self _) z
          · exact Nat.ne_of_gt ltl (List.mem_singleton.mp z)
        have old : ∀ b o, t.heap.get? b = some o → b ∉ D :: [(t.heap.push (fo led)).objs.size] := fun b o e z => by
          have lt := Heap.lt_size e
          rcases List.mem_cons.mp z with z | z
          · rw [z] at lt
            exact Nat.lt_irrefl _ lt
          · have z := List.mem_singleton.mp z
            rw [Heap.size_push] at z
            rw [z] at lt
            exact Nat.lt_irrefl _ (Nat.lt_trans (Nat.lt_succ_self _) lt)
        refine fill_new ((Walks.list quiet3 _ l nel its).toS) D offD ks hk nd few (show B.units + 1 + 1 + 1 + 8 < cLine by omega) val t.heap keys old ks.length 0 _ [] #[] 0 (.fresh 0 0 led) (by omega) (Nat.zero_le _) ⟨⟨_, Heap.get?_push_size _ rfl, rfl, rfl⟩, (isl.push _)⟩ (fun b o e => Heap.get?_push_of_some _ (Heap.get?_push_of_some _ e)) ?so (List.Perm.refl _) ?fin
        case so =>
          have atD2 : ((t.heap.push (fo led)).push { cls := .type "list_iterator", data := .fields #[.ref l, .int 0 0] }).get? D = some (fo led) := Heap.get?_push_of_some _ atD
          exact ⟨⟨_, atD2, ⟨rfl, rfl, rfl⟩, rfl⟩, rfl, ⟨List.Pairwise.nil, rfl, rfl, .inl rfl⟩, List.nodup_nil, fun p hp => (nomatch hp), by show 0 * 5 < 7 * 3; decide⟩
        case fin =>
          intro u mv so
          obtain ⟨h', g', d', tk', os'⟩ := u
          cases (mv.gens : g' = t.gens)
          cases (mv.drawn : d' = t.drawn)
          cases (mv.os : os' = t.os)
          show wpAny _ _ _ _ _ _
          refine wpAny_pure ?_
          show wpAny _ _ (ret Value.none) _ _ _
          refine wpAny_pure ⟨rfl, h', tk', rfl, so, fun b o hb e => ?_⟩
          refine mv.heap b o (fun z => ?_) (Heap.get?_push_of_some _ (Heap.get?_push_of_some _ e))
          rcases List.mem_cons.mp z with z | z
          · exact Nat.ne_of_lt hb z
          · have z := List.mem_singleton.mp z
            rw [Heap.size_push] at z
            exact Nat.ne_of_lt (Nat.lt_succ_of_lt hb) z
      · cases r2 with
        | error e => exact hr2
        | ok fl2 =>
          cases fl2 with
          | ret r =>
            obtain ⟨rfl, h', tk, rfl, so, kp⟩ := hr2
            repeat (any_goals (first | assumption | wp_step))
            exact fin _ _ so kp
          | _ => exact hr2.elim
    | _ => exact hr.elim
end
/-- the keys of a list of things -/
def keysOf : List D → Option (List NestedKey)
  | [] => some []
  | d :: ds => match keyOf d, keysOf ds with
    | some k, some ks => some (k :: ks)
    | _, _ => none
noncomputable def mLenSetN : Op1 := fun d M => match d with
  | .ref n => match seqAt M n with
    | some xs => match keysOf xs with
      | some ks => @ite _ (ks.length ≤ 1200 ∧ ks.Nodup) (Classical.propDecidable _) (some (.int (xs.length : Nat), M)) none
      | none => none
    | none => none
  | _ => none
noncomputable def eLenSetN (a : ME) : ME := eUn mLenSetN a
@[simp] theorem eLenSetN_ap {a : ME} {env : TL.Env} {M : Mem} : eLenSetN a env M = (a env M).bind fun d M1 => liftO (mLenSetN d M1) := rfl
theorem mLenSetN_ok {M : Mem} {n : Nat} {xs : List D} {ks : List NestedKey} (h : seqAt M n = some xs) (hk : keysOf xs = some ks) (hl : ks.length ≤ 1200) (nd : ks.Nodup) : mLenSetN (.ref n) M = some (.int (xs.length : Nat), M) := by
  unfold mLenSetN
  simp only [h, hk]
  exact if_pos ⟨hl, nd⟩
section
variable {X : Cx} {pins : List (Addr × Obj)} {σ : L2.St} {ι : List Addr} {H : Hp} {s : Shared}
theorem keys_at (I : Inv X pins σ H s) : ∀ {xs : List D} {ks : List NestedKey} {vs : List V} {us : List Value}, keysOf xs = some ks → RpA X.K ι H xs vs → Vals vs us → ∃ ps : List (Addr × NestedKey), us = ps.map (fun p => Value.ref p.1) ∧ ps.map (·.2) = ks ∧ ps.length = xs.length ∧ ∀ p ∈ ps, KeyAt s.heap p.2 p.1
  | [], ks, vs, us, e, r, q => by
    simp only [keysOf, Option.some.injEq] at e
    subst e
    cases r
    cases q
    exact ⟨[], rfl, rfl, rfl, fun p hp => nomatch hp⟩
  | d :: ds, ks, vs, us, e, r, q => by
    unfold keysOf at e
    split at e
    · rename_i k ks' e1 e2
      cases e
      cases r with
      | cons r1 r2 =>
        cases q with
        | cons q1 q2 =>
          obtain ⟨ps, p1, p2, p3, p4⟩ := keys_at I e2 r2 q2
          obtain ⟨⟨xs, rfl⟩, k1, k2⟩ := keyOf_some e1
          obtain ⟨c, cs, rfl, _, _⟩ := r1.tup_inv
          have ki := key_is I k1 r1 q1
          cases (show _ = Value.ref c from q1)
          refine ⟨(c, k) :: ps, by rw [p1]; rfl, by rw [← p2]; rfl, by simp [p3], fun p hp => ?_⟩
          rcases List.mem_cons.mp hp with rfl | hp
          · exact ⟨ki, k2⟩
          · exact p4 p hp
    · cases e
end
section
variable {X : Cx} {W : WX} {a : Expr} {ma : ME} {p p2 q pos : Pos}
theorem d_lenSetN (hc : X.calm = true) (hu : X.A.units + 65 < cLine) (hm : X.mg "len" = none) (hm2 : X.mg "set" = none) (ha : PE X a (LE X.K W ma)) (hg : Gl X "len" := by rfl) (hg2 : Gl X "set" := by rfl)
    (na : starEach [a] X.env = (false, eval a X.env) :: starEach [] X.env := by rfl) : PE X (.Call (.Name "len" p) [.Call (.Name "set" p2) [a] [] q] [] pos) (LE X.K W (eLenSetN ma)) := by
  refine ⟨fun pins s σ H Q I h => ?_⟩
  obtain ⟨ι, env, M, S, R, h⟩ := h
  refine Call_ (ld_blt I hg hm boot_len ?_)
  refine PyProof.Rows.callWith_builtin1 (PyProof.Rows.args_cons ?_ rfl) rfl rfl
  refine Call_ (ld_blt I hg2 hm2 boot_set ?_)
  refine PyProof.Rows.callWith_type1 (PyProof.Rows.args_cons (thn (ha.run pins s σ H _ I ⟨ι, env, M, S, R, (OutP.bind h).imp (R' := VR X.K fun x H1 => ∃ (l : Addr) (ι1 : List Addr) (xs : List D) (ks : List NestedKey) (vs : List V), x = .ref l ∧ SqL X.K H1 l vs ∧ RpA X.K ι1 H1 xs vs ∧ keysOf xs = some ks ∧ ks.length ≤ 1200 ∧ ks.Nodup ∧ Q (.int (xs.length : Nat)) H1) fun d M1 ι1 H1 e1 S1 h1 v rv => ?_⟩) fun v s1 z => PyProof.Rows.args_nil ?_) na) na rfl
  · have h2 := OpO.of h1
    unfold mLenSetN at h2
    split at h2
    · rename_i n
      obtain ⟨l, rfl, hl⟩ := rv.ref_inv
      split at h2
      · rename_i xs m
        obtain ⟨vs, g1, g2⟩ := S1.seq hl m
        split at h2
        · rename_i ks m2
          by_cases c : ks.length ≤ 1200 ∧ ks.Nodup
          · rw [if_pos c] at h2
            exact ⟨l, ι1, xs, ks, vs, rfl, g1, g2, m2, c.1, c.2, OpO.val S1 h2 (.int _)⟩
          · rw [if_neg c] at h2
            exact h2.elim
        · exact h2.elim
      · exact h2.elim
    · exact h2.elim
  · obtain ⟨x, H1, I1, r1, l, ι1, xs, ks, vs, rfl, hq, hr, hk, hz, nd, q1⟩ := z
    cases r1
    obtain ⟨its, r, pl, _⟩ := I1.list hq
    obtain ⟨ps, p1, p2, p3, p4⟩ := keys_at I1 hk hr r
    have lk : ks.length = ps.length := by rw [← p2, List.length_map]
    refine set_of_new (ks := ps) (I1.ok.hd hc) pl.isList (by rw [List.size_toArray, p1, List.length_map]) (fun i v hv => ?_) (by omega) (by rw [p2]; exact nd) p4 (by omega) fun h' tk so kp => PyProof.Rows.args_nil ?_
    · have hv' : its[i]? = some v := by simpa using hv
      rw [p1, List.getElem?_map] at hv'
      cases e3 : ps[i]? with
      | none => rw [e3] at hv'; cases hv'
      | some y =>
        rw [e3] at hv'
        exact ⟨y, rfl, (Option.some.inj hv').symm⟩
    · have I2 : L2.Inv X pins σ H1 { s1 with heap := h', toks := tk } := I1.kept fun b o e => kp b o (Heap.lt_size e) e
      obtain ⟨L, es, ep, tb, S2, ll⟩ := so
      obtain ⟨o, o1, o2, o3⟩ := S2.ob
      have ct := S2.count
      exact call_len_set o1 o2 o3 S2.fits (by omega) ⟨.int (xs.length : Nat), H1, I2.tok _, ⟨_, by rw [ct, ll, p3]⟩, q1⟩
end
end TN
end
section
set_option maxHeartbeats 4000000
namespace TN
open PySem PySem.Spec PyProof.Rows L2 TL
/-- pairs, as a dict takes them: things and their keys -/
def pairsOf : List D → Option (List (D × D) × List NestedKey)
  | [] => some ([], [])
  | .tup [d, e] :: r => match keyOf d, pairsOf r with
    | some k, some (ps, ks) => some ((d, e) :: ps, k :: ks)
    | _, _ => none
  | _ => none
noncomputable def nDictOf : OpN := fun ds M => match ds with
  | [.ref n] => match seqAt M n with
    | some xs => match pairsOf xs with
      | some (ps, ks) => @ite _ (ks.length ≤ 100000 ∧ ks.Nodup) (Classical.propDecidable _) (some (.ref M.length, M ++ [.dct ps])) none
      | none => none
    | none => none
  | _ => none
theorem nDictOf_ok {M : Mem} {n : Nat} {xs : List D} {ps : List (D × D)} {ks : List NestedKey} (h : seqAt M n = some xs) (hp : pairsOf xs = some (ps, ks)) (hl : ks.length ≤ 100000) (nd : ks.Nodup) : nDictOf [.ref n] M = some (.ref M.length, M ++ [.dct ps]) := by
  unfold nDictOf
  simp only [h, hp]
  exact if_pos ⟨hl, nd⟩
theorem stored_new {K : Type} [DecidableEq K] : ∀ (ps xs : List (K × Addr × Value)), ((xs ++ ps).map (·.1)).Nodup → storedAllH xs ps = xs ++ ps
  | [], xs, _ => by rw [List.append_nil]; rfl
  | p :: ps, xs, nd => by
    have out : atKey xs p.1 = none := by
      unfold atKey
      rw [Option.map_eq_none_iff, List.find?_eq_none]
      intro y hy
      rw [decide_eq_true_eq]
      intro e
      rw [List.map_append, List.map_cons, List.nodup_append] at nd
      exact nd.2.2 y.1 (List.mem_map.mpr ⟨y, hy, rfl⟩) p.1 List.mem_cons_self e
    show storedAllH (storedH xs p.1 p.2.1 p.2.2) ps = _
    rw [storedH_new out, stored_new ps (xs ++ [(p.1, p.2.1, p.2.2)]) (by simpa using nd)]
    simp
section
variable {X : Cx} {pins : List (Addr × Obj)} {σ : L2.St} {ι : List Addr} {H : Hp} {s : Shared}
/-- what stands in the list, in the heap -/
theorem pairs_at (I : Inv X pins σ H s) : ∀ {xs : List D} {ps : List (D × D)} {ks : List NestedKey} {vs : List V} {us : List Value}, pairsOf xs = some (ps, ks) → RpA X.K ι H xs vs → Vals vs us →
    ∃ (ys : List (NestedKey × Addr × V)) (zs : List (NestedKey × Addr × Value)) (ts : List Addr), us = ts.map Value.ref ∧ ts.length = zs.length ∧ zs.map (·.1) = ks ∧ RpD X.K ι H ps ys ∧ PV ys zs ∧ (∀ x ∈ zs, KeyAt s.heap x.1 x.2.1) ∧ ∀ (j : Nat) (t : Addr) (z : NestedKey × Addr × Value), ts[j]? = some t → zs[j]? = some z → s.heap.IsTuple t #[.ref z.2.1, z.2.2]
  | [], ps, ks, vs, us, e, r, q => by
    simp only [pairsOf, Option.some.injEq, Prod.mk.injEq] at e
    obtain ⟨rfl, rfl⟩ := e
    cases r
    cases q
    exact ⟨[], [], [], rfl, rfl, rfl, .nil, .nil, fun x hx => (nomatch hx), fun j t z h => by simp at h⟩
  | x :: xs, ps, ks, vs, us, e, r, q => by
    unfold pairsOf at e
    split at e
    · rename_i h
      cases h
    · rename_i d0 e0 r0 h
      cases h
      split at e
      · rename_i k ps' ks' e1 e2
        cases e
        cases r with
        | cons r1 r2 =>
          cases q with
          | cons q1 q2 =>
            obtain ⟨ys, zs, ts, p1, p2, p3, p4, p5, p6, p7⟩ := pairs_at I e2 r2 q2
            obtain ⟨⟨cs, rfl⟩, k1, k2⟩ := keyOf_some e1
            obtain ⟨t, tv, rfl, st, rt⟩ := r1.tup_inv
            cases (show _ = Value.ref t from q1)
            obtain ⟨v1, v2, rfl, a1, a2⟩ := rt.two_inv
            obtain ⟨c, cv, rfl, _, _⟩ := a1.tup_inv
            obtain ⟨its, g1, g2, _⟩ := I.tuple st
            cases g1 with
            | cons b1 b2 =>
              cases b2 with
              | cons b3 b4 =>
                cases b4
                rename_i u1 u2
                cases (show u1 = Value.ref c from b1)
                refine ⟨(k, c, v2) :: ys, (k, c, u2) :: zs, t :: ts, by rw [p1]; rfl, by simp [p2], by rw [← p3]; rfl, .cons k1 k2 a1 a2 p4, .cons ⟨rfl, rfl, b3⟩ p5, fun x hx => ?_, fun j t' z hj hz => ?_⟩
                · rcases List.mem_cons.mp hx with rfl | hx
                  · exact ⟨key_is I k1 a1 rfl, k2⟩
                  · exact p6 x hx
                · cases j with
                  | zero =>
                    simp at hj hz
                    subst hj hz
                    exact g2
                  | succ j =>
                    simp at hj hz
                    exact p7 j t' z hj hz
      · cases e
    · cases e
end
section
variable {X : Cx}
theorem c_dictOf (hc : X.calm = true) (hu : X.A.units + 65 < cLine) : CallR X (.type "dict") (rDN X.K nDictOf) := by
  intro pins s σ H xs us Q I r ⟨ι, M, ds, S, ra, h⟩
  unfold nDictOf at h
  split at h
  · rename_i n
    obtain ⟨v, rfl, r1⟩ := ra.one_inv
    obtain ⟨l, rfl, hl⟩ := r1.ref_inv
    cases r with
    | cons q1 q2 =>
      cases q2
      rename_i u
      cases (show u = Value.ref l from q1)
      split at h
      · rename_i xs hm
        split at h
        · rename_i ps ks hp
          by_cases c : ks.length ≤ 100000 ∧ ks.Nodup
          · rw [if_pos c] at h
            obtain ⟨cl, nd⟩ := c
            obtain ⟨vs, g1, g2⟩ := S.seq hl hm
            obtain ⟨its, rl, pl, _⟩ := I.list g1
            obtain ⟨ys, zs, ts, p1, p2, p3, p4, p5, p6, p7⟩ := pairs_at I hp g2 rl
            have ndz : (zs.map (·.1)).Nodup := by rw [p3]; exact nd
            have lz : zs.length = ks.length := by rw [← p3, List.length_map]
            have items : PairItems s.heap its.toArray (fun j => ts.getD j 0) (zs.map fun z => (Value.ref z.2.1, z.2.2)) := by
              refine ⟨by rw [List.size_toArray, p1, List.length_map, List.length_map, p2], fun j key val hj => ?_⟩
              rw [List.getElem?_map, Option.map_eq_some_iff] at hj
              obtain ⟨z, hz, e⟩ := hj
              cases e
              have lj : j < ts.length := by rw [p2]; exact (List.getElem?_eq_some_iff.mp hz).1
              have hj' := List.getElem?_eq_getElem (l := ts) lj
              have gd : ts.getD j 0 = ts[j] := by simp [lj]
              refine ⟨?_, .inl ?_⟩
              · show its.toArray[j]? = some (Value.ref (ts.getD j 0))
                rw [gd, p1]
                simp [lj]
              · show s.heap.IsTuple (ts.getD j 0) #[Value.ref z.2.1, z.2.2]
                rw [gd]
                exact p7 j _ z hj' hz
            have P := PairArg.list (prog := X.prog) (w := X.w) l its.toArray (fun j => ts.getD j 0) (zs.map fun z => (Value.ref z.2.1, z.2.2))
            refine call_dict_pairsH (knd := nestedKind X.prog X.w) (ps := zs) P (I.ok.hd hc) (show X.A.units + 1 + 1 + 8 < cLine by omega) ⟨pl, items⟩ ⟨by rw [List.length_map], fun i key val hr => ?_⟩ (fun h' hk x hx => key_on (p6 x hx) fun b o e => hk b o (Nat.ne_of_lt (Heap.lt_size e)) (fun z => nomatch z) e) (by rw [List.length_map, lz, sizeLine_eq]; omega) fun h' tk dh kp => ?_
            · have hr' : (zs.map fun z => (Value.ref z.2.1, z.2.2))[i]? = some (key, val) := hr
              rw [List.getElem?_map, Option.map_eq_some_iff] at hr'
              obtain ⟨z, hz, e⟩ := hr'
              cases e
              exact ⟨z.1, z.2.1, hz, rfl⟩
            · rw [stored_new zs [] (by simpa using ndz), List.nil_append] at dh
              have kp' : ∀ b o, s.heap.get? b = some o → h'.get? b = some o := fun b o e => kp b o (fun z => nomatch z) e
              have hp0 := I.hok.fresh (Nat.le_refl s.heap.objs.size)
              have di : DctIs s.heap.objs.size ys h' := dctIs_of (X := X) (beq_eq_false_iff_ne.mpr (Ne.symm (Nat.ne_of_lt I.big))) p4 p5 dh
              have ndy : (ys.map (·.1)).Nodup := by rw [pv_keys p5]; exact ndz
              refine ⟨.ref s.heap.objs.size, _, I.laid (a := s.heap.objs.size) (o := .ext (DctIs s.heap.objs.size ys)) (t' := tk) kp' (Nat.le_refl _) (dctIs_obj di), rfl, ?_⟩
              exact h (ι ++ [s.heap.objs.size]) _ (Ext.more hp0) (S.alloc hp0 ⟨ys, upd_same, p4.ext (Ext.more hp0), ndy⟩) _ (.ref (by rw [← S.len]; simp))
          · rw [if_neg c] at h
            exact h.elim
        · exact h.elim
      · exact h.elim
  · exact h.elim
theorem boot_dict : bootBuiltins "dict" = some (.type "dict") := by decide +kernel
end
end TN
end
section
set_option maxHeartbeats 4000000
namespace LW
open PySem PySem.Spec PyProof.Rows L2 TL
def top (i : Nat) : Stmt := PySem.Challenge.pw_tally_k70_whole_alike_within.main.body.getD i (.Pass ⟨0, 0, 0, 0⟩)
abbrev st_is_between : Stmt := top 8
abbrev st_down_begun : Stmt := top 9
abbrev st_throw_named : Stmt := top 10
abbrev st_with_count : Stmt := top 11
abbrev st_turn_ended : Stmt := top 12
abbrev st_down_thrown : Stmt := top 13
abbrev st_lane_begun : Stmt := top 15
abbrev st_frame_behind : Stmt := top 16
abbrev st_extra_behind : Stmt := top 17
abbrev st_row_behind : Stmt := top 18
abbrev st_lane_bowled : Stmt := top 19
abbrev st_best_of : Stmt := top 20
abbrev st_rule_within : Stmt := top 23
abbrev st_begun : Stmt := top 24
abbrev st_is_won : Stmt := top 25
abbrev st_rallied : Stmt := top 26
abbrev st_cut : Stmt := top 27
abbrev st_first : Stmt := top 29
abbrev st_rally_played : Stmt := top 30
abbrev st_down_played : Stmt := top 31
abbrev st_lane_played : Stmt := top 32
abbrev st_played : Stmt := top 33
abbrev st_place_of : Stmt := top 34
abbrev st_row_to : Stmt := top 36
abbrev st_over_of : Stmt := top 38
abbrev st_pair_behind : Stmt := top 39
abbrev st_alike : Stmt := top 40
abbrev st_l_cell_at : Stmt := top 42
abbrev st_l_draws : Stmt := top 43
abbrev st_l_unit : Stmt := top 44
abbrev st_l_rule : Stmt := top 45
abbrev st_l_turned : Stmt := top 46
abbrev st_l_other : Stmt := top 47
abbrev st_l_pairs : Stmt := top 48
abbrev st_l_row_right : Stmt := top 49
abbrev st_l_pairs_right : Stmt := top 50
abbrev st_l_told_right : Stmt := top 51
abbrev st_l_told : Stmt := top 52
abbrev st_l_is_alike : Stmt := top 53
abbrev st_law : Stmt := top 54
def hcls : List Str := ["ScoreError"]
def icls : List Str := ["NoSide", "Over", "TooMany"]
def fn : List He.DefD := [⟨("is_between", none), "is_between", "is_between", defArgs st_is_between, defBody st_is_between, defScope st_is_between, [], []⟩, ⟨("down_begun", none), "down_begun", "down_begun", defArgs st_down_begun, defBody st_down_begun, defScope st_down_begun, [], []⟩, ⟨("throw_named", none), "throw_named", "throw_named", defArgs st_throw_named, defBody st_throw_named, defScope st_throw_named, [], []⟩, ⟨("with_count", none), "with_count", "with_count", defArgs st_with_count, defBody st_with_count, defScope st_with_count, [], []⟩, ⟨("turn_ended", none), "turn_ended", "turn_ended", defArgs st_turn_ended, defBody st_turn_ended, defScope st_turn_ended, [], []⟩, ⟨("down_thrown", none), "down_thrown", "down_thrown", defArgs st_down_thrown, defBody st_down_thrown, defScope st_down_thrown, [], []⟩, ⟨("lane_begun", none), "lane_begun", "lane_begun", defArgs st_lane_begun, defBody st_lane_begun, defScope st_lane_begun, [], []⟩, ⟨("frame_behind", none), "frame_behind", "frame_behind", defArgs st_frame_behind, defBody st_frame_behind, defScope st_frame_behind, [], []⟩, ⟨("extra_behind", none), "extra_behind", "extra_behind", defArgs st_extra_behind, defBody st_extra_behind, defScope st_extra_behind, [], []⟩, ⟨("row_behind", none), "row_behind", "row_behind", defArgs st_row_behind, defBody st_row_behind, defScope st_row_behind, [], []⟩, ⟨("lane_bowled", none), "lane_bowled", "lane_bowled", defArgs st_lane_bowled, defBody st_lane_bowled, defScope st_lane_bowled, [], []⟩, ⟨("best_of", none), "best_of", "best_of", defArgs st_best_of, defBody st_best_of, defScope st_best_of, [], []⟩, ⟨("rule_within", none), "rule_within", "rule_within", defArgs st_rule_within, defBody st_rule_within, defScope st_rule_within, [], []⟩, ⟨("begun", none), "begun", "begun", defArgs st_begun, defBody st_begun, defScope st_begun, [], []⟩, ⟨("is_won", none), "is_won", "is_won", defArgs st_is_won, defBody st_is_won, defScope st_is_won, [], []⟩, ⟨("rallied", none), "rallied", "rallied", defArgs st_rallied, defBody st_rallied, defScope st_rallied, [], []⟩, ⟨("cut", none), "cut", "cut", defArgs st_cut, defBody st_cut, defScope st_cut, [], []⟩, ⟨("first", none), "first", "first", defArgs st_first, defBody st_first, defScope st_first, [], []⟩, ⟨("rally_played", none), "rally_played", "rally_played", defArgs st_rally_played, defBody st_rally_played, defScope st_rally_played, [], []⟩, ⟨("down_played", none), "down_played", "down_played", defArgs st_down_played, defBody st_down_played, defScope st_down_played, [], []⟩, ⟨("lane_played", none), "lane_played", "lane_played", defArgs st_lane_played, defBody st_lane_played, defScope st_lane_played, [], []⟩, ⟨("played", none), "played", "played", defArgs st_played, defBody st_played, defScope st_played, [], []⟩, ⟨("place_of", none), "place_of", "place_of", defArgs st_place_of, defBody st_place_of, defScope st_place_of, [], []⟩, ⟨("row_to", none), "row_to", "row_to", defArgs st_row_to, defBody st_row_to, defScope st_row_to, [], []⟩, ⟨("over_of", none), "over_of", "over_of", defArgs st_over_of, defBody st_over_of, defScope st_over_of, [], []⟩, ⟨("pair_behind", none), "pair_behind", "pair_behind", defArgs st_pair_behind, defBody st_pair_behind, defScope st_pair_behind, [], []⟩, ⟨("alike", none), "alike", "alike", defArgs st_alike, defBody st_alike, defScope st_alike, [(.int 1000)], []⟩, ⟨("_law_cell_at", none), "_law_cell_at", "_law_cell_at", defArgs st_l_cell_at, defBody st_l_cell_at, defScope st_l_cell_at, [], []⟩, ⟨("_law_draws", none), "_law_draws", "_law_draws", defArgs st_l_draws, defBody st_l_draws, defScope st_l_draws, [], []⟩, ⟨("_law_unit", none), "_law_unit", "_law_unit", defArgs st_l_unit, defBody st_l_unit, defScope st_l_unit, [], []⟩, ⟨("_law_rule", none), "_law_rule", "_law_rule", defArgs st_l_rule, defBody st_l_rule, defScope st_l_rule, [], []⟩, ⟨("_law_turned", none), "_law_turned", "_law_turned", defArgs st_l_turned, defBody st_l_turned, defScope st_l_turned, [], []⟩, ⟨("_law_other", none), "_law_other", "_law_other", defArgs st_l_other, defBody st_l_other, defScope st_l_other, [], []⟩, ⟨("_law_pairs", none), "_law_pairs", "_law_pairs", defArgs st_l_pairs, defBody st_l_pairs, defScope st_l_pairs, [], []⟩, ⟨("_law_row_right", none), "_law_row_right", "_law_row_right", defArgs st_l_row_right, defBody st_l_row_right, defScope st_l_row_right, [], []⟩, ⟨("_law_pairs_right", none), "_law_pairs_right", "_law_pairs_right", defArgs st_l_pairs_right, defBody st_l_pairs_right, defScope st_l_pairs_right, [], []⟩, ⟨("_law_told_right", none), "_law_told_right", "_law_told_right", defArgs st_l_told_right, defBody st_l_told_right, defScope st_l_told_right, [], []⟩, ⟨("_law_told", none), "_law_told", "_law_told", defArgs st_l_told, defBody st_l_told, defScope st_l_told, [], []⟩, ⟨("_law_is_alike", none), "_law_is_alike", "_law_is_alike", defArgs st_l_is_alike, defBody st_l_is_alike, defScope st_l_is_alike, [], []⟩, ⟨("law", none), "law", "law", defArgs st_law, defBody st_law, defScope st_law, [], []⟩]
def fa : List He.Fa := [.glo "is_between", .glo "down_begun", .glo "throw_named", .glo "with_count", .glo "turn_ended", .glo "down_thrown", .glo "lane_begun", .glo "frame_behind", .glo "extra_behind", .glo "row_behind", .glo "lane_bowled", .glo "best_of", .glo "rule_within", .glo "begun", .glo "is_won", .glo "rallied", .glo "cut", .glo "first", .glo "rally_played", .glo "down_played", .glo "lane_played", .glo "played", .glo "place_of", .glo "row_to", .glo "over_of", .glo "pair_behind", .glo "alike", .glo "_law_cell_at", .glo "_law_draws", .glo "_law_unit", .glo "_law_rule", .glo "_law_turned", .glo "_law_other", .glo "_law_pairs", .glo "_law_row_right", .glo "_law_pairs_right", .glo "_law_told_right", .glo "_law_told", .glo "_law_is_alike", .glo "law", .free "ValueError", .free "all", .free "bool", .free "dict", .free "int", .free "isinstance", .free "len", .free "list", .free "max", .free "min", .free "range", .free "set", .free "tuple", .glo "NoPins", .glo "NoSide", .glo "NoThrow", .glo "Over", .glo "ScoreError", .glo "TooMany", .exc "NoPins", .exc "NoSide", .exc "NoThrow", .exc "Over", .exc "TooMany", .glo "POINT"]
def okB (K : PySem.W.Frag) : Bool := fa.all (fun f => f.ok K) && exSubB K ["NoThrow", "NoPins", "NoSide", "Over", "TooMany"] hcls && isTB K ["NoThrow", "NoPins", "NoSide", "Over", "TooMany"] icls && He.tupB K "POINT" [.str "point"]
abbrev R : PySem.W.OpenRow := PySem.W.OpenLaw.row PySem.Challenge.rw_tally_k70_whole_alike_within
abbrev hk : PySem.W.Hook := hookB 4 okB fn
def ob (s : PySem.W.SharedT) : AlB := obsBG 4 okB fn (HandSHeadRun.getT s)
theorem ob_eq (s : PySem.W.SharedT) : ob s = hk.obs s.abs := obsBG_eq (HandSHeadRun.getT_eq s)
def loose0 : List Str := ["ScoreError", "NoThrow", "NoPins", "NoSide", "Over", "TooMany", "is_between", "down_begun", "throw_named", "with_count", "turn_ended", "down_thrown", "lane_begun", "frame_behind", "extra_behind", "row_behind", "lane_bowled", "best_of", "POINT", "rule_within", "begun", "is_won", "rallied", "cut", "first", "rally_played", "down_played", "lane_played", "played", "place_of"]
def loose1 : List Str := ["row_to", "over_of", "pair_behind", "alike", "_law_cell_at", "_law_draws", "_law_unit", "_law_rule", "_law_turned", "_law_other", "_law_pairs", "_law_row_right", "_law_pairs_right", "_law_told_right", "_law_told", "_law_is_alike"]
abbrev loose : List Str := loose0 ++ loose1
theorem run (w : World) : HandSHeadRun.RunEq R (PySem.W.view R.prog [54]) hk ob 9000 loose w := by
  intro os
  kernel_rfl
end LW
end
section
namespace RL
open PySem PySem.Spec PyProof.Rows L2 TL
inductive Rule where
  | point
  | unit (to lead : Int) (cap : Option Int) (inner : Rule)
  | unitL (to lead cap : Int) (inner last : Rule)
  deriving DecidableEq
def capD : Option Int → D
  | none => .non
  | some c => .int c
abbrev pointD : D := .tup [.str "point"]
namespace Rule
def toD : Rule → D
  | point => pointD
  | unit to lead cap inner => .tup [.str "unit", .int to, .int lead, capD cap, inner.toD, .non]
  | unitL to lead cap inner last => .tup [.str "unit", .int to, .int lead, .int cap, inner.toD, last.toD]
/-- units within one another -/
def depth : Rule → Nat
  | point => 0
  | unit _ _ _ inner => inner.depth + 1
  | unitL _ _ _ inner last => max inner.depth last.depth + 1
/-- how many units -/
def units : Rule → Nat
  | point => 0
  | unit _ _ _ inner => inner.units + 1
  | unitL _ _ _ inner last => inner.units + last.units + 1
/-- numbers within their bounds -/
def good : Rule → Prop
  | point => True
  | unit to lead cap inner => 1 ≤ to ∧ to ≤ 99 ∧ 1 ≤ lead ∧ lead ≤ 99 ∧ (∀ c, cap = some c → to ≤ c ∧ c ≤ 99) ∧ inner.good
  | unitL to lead cap inner last => 1 ≤ to ∧ to ≤ 99 ∧ 1 ≤ lead ∧ lead ≤ 99 ∧ to ≤ cap ∧ cap ≤ 99 ∧ inner.good ∧ last.good
theorem ok_unit : PyData.strOk ("unit" : Str) = true := by decide +kernel
theorem ok_point : PyData.strOk ("point" : Str) = true := by decide +kernel
theorem pure_toD : ∀ r : Rule, pureD r.toD (r.depth + 1) = true
  | point => by simp [toD, depth, pureD, pureL, ok_point]
  | unit to lead cap inner => by
    have h := pure_toD inner
    cases cap <;> simp [toD, depth, pureD, pureL, capD, ok_unit, h]
  | unitL to lead cap inner last => by
    have h := pure_mono (pure_toD inner) (show inner.depth + 1 ≤ max inner.depth last.depth + 1 by omega)
    have h' := pure_mono (pure_toD last) (show last.depth + 1 ≤ max inner.depth last.depth + 1 by omega)
    simp [toD, depth, pureD, pureL, ok_unit, h, h']
theorem eqv_point (r : Rule) : PyData.eqv (pyD r.toD) (pyD pointD) = decide (r = point) := by
  cases r <;> simp [toD, pyD, pyL, PyData.eqv, PyData.eqvAll]
end Rule
theorem pure_point : pureD pointD 1 = true := by simp [pureD, pureL, Rule.ok_point]
theorem eq_point {M : Mem} {r : Rule} (h : r.depth ≤ 60) : eqD M r.toD pointD = some (decide (r = .point)) := by
  rw [eqD_pure r.pure_toD pure_point (by omega) (by omega), Rule.eqv_point]
theorem mEq_point {M : Mem} {r : Rule} (h : r.depth ≤ 60) : mEq r.toD (.tup [.str "point"]) M = some (.bl (decide (r = .point)), M) := by rw [mEq_eq, eq_point h]; rfl
@[simp] theorem isNon_capD {c : Option Int} : isNon (capD c) = c.isNone := by cases c <;> rfl
@[simp] theorem isNon_toD {r : Rule} : isNon r.toD = false := by cases r <;> rfl
end RL
end
section
namespace RL
open PySem PySem.Spec PyProof.Rows L2 TL
namespace Rule
def to : Rule → Int
  | point => 0
  | unit t _ _ _ => t
  | unitL t _ _ _ _ => t
def lead : Rule → Int
  | point => 0
  | unit _ l _ _ => l
  | unitL _ l _ _ _ => l
def cap : Rule → Option Int
  | point => none
  | unit _ _ c _ => c
  | unitL _ _ c _ _ => some c
def inner : Rule → Rule
  | point => point
  | unit _ _ _ i => i
  | unitL _ _ _ i _ => i
def last : Rule → Option Rule
  | unitL _ _ _ _ l => some l
  | _ => none
end Rule
def lastD : Option Rule → D
  | none => .non
  | some l => l.toD
theorem toD_unit : ∀ {r : Rule}, r ≠ .point → r.toD = .tup [.str "unit", .int r.to, .int r.lead, capD r.cap, r.inner.toD, lastD r.last]
  | .point, h => absurd rfl h
  | .unit _ _ _ _, _ => rfl
  | .unitL _ _ _ _ _, _ => rfl
theorem depth_inner {r : Rule} (h : r ≠ .point) : r.inner.depth < r.depth := by
  cases r with
  | point => exact absurd rfl h
  | unit _ _ _ i => simp [Rule.inner, Rule.depth]
  | unitL _ _ _ i l => simp [Rule.inner, Rule.depth]; omega
theorem depth_last {r l : Rule} (h : r.last = some l) : l.depth < r.depth := by
  cases r with
  | unitL _ _ _ i l' => simp [Rule.last] at h; subst h; simp [Rule.depth]; omega
  | _ => simp [Rule.last] at h
theorem cap_last {r l : Rule} (h : r.last = some l) : ∃ c, r.cap = some c := by
  cases r with
  | unitL _ _ c _ _ => exact ⟨c, rfl⟩
  | _ => simp [Rule.last] at h
/-- the rule by which a unit goes on at some counts -/
def within (r : Rule) (z o : Int) : Rule := match r.last, r.cap with
  | some l, some c => if z = c - 1 ∧ o = c - 1 then l else r.inner
  | _, _ => r.inner
theorem depth_within {r : Rule} (h : r ≠ .point) (z o : Int) : (within r z o).depth < r.depth := by
  unfold within
  split
  · rename_i l c hl hc
    split
    · exact depth_last hl
    · exact depth_inner h
  · exact depth_inner h
inductive Stand where
  | nil
  | st (zero one : Int) (within : Stand)
  deriving DecidableEq
namespace Stand
def toD : Stand → D
  | nil => .tup []
  | st z o w => .tup [.int z, .int o, w.toD]
def depth : Stand → Nat
  | nil => 0
  | st _ _ w => w.depth + 1
theorem pure_toD : ∀ s : Stand, pureD s.toD (s.depth + 1) = true
  | nil => by simp [toD, depth, pureD, pureL]
  | st z o w => by simp [toD, depth, pureD, pureL, pure_toD w]
theorem eqv_toD : ∀ s t : Stand, PyData.eqv (pyD s.toD) (pyD t.toD) = decide (s = t)
  | nil, nil => by simp [toD, pyD, pyL, PyData.eqv, PyData.eqvAll]
  | nil, st _ _ _ => by simp [toD, pyD, pyL, PyData.eqv, PyData.eqvAll]
  | st _ _ _, nil => by simp [toD, pyD, pyL, PyData.eqv, PyData.eqvAll]
  | st z o w, st z' o' w' => by
    have h := eqv_toD w w'
    simp only [toD, pyD, pyL, PyData.eqv, PyData.eqvAll, h]
    by_cases h1 : z = z' <;> by_cases h2 : o = o' <;> by_cases h3 : w = w' <;> simp [h1, h2, h3]
theorem eq_toD {M : Mem} {s t : Stand} (h1 : s.depth ≤ 60) (h2 : t.depth ≤ 60) : eqD M s.toD t.toD = some (decide (s = t)) := by
  rw [eqD_pure s.pure_toD t.pure_toD (by omega) (by omega), eqv_toD]
end Stand
theorem mNe_nilS {M : Mem} {s : Stand} (h : s.depth ≤ 60) : mNe s.toD (.tup []) M = some (.bl (!decide (s = .nil)), M) := by
  rw [mNe_eq, show (D.tup []) = Stand.nil.toD from rfl, Stand.eq_toD h (by simp [Stand.depth])]; rfl
/-- the first stand -/
def begunR (r : Rule) : Stand := if h : r = .point then .nil else .st 0 0 (begunR (within r 0 0))
termination_by r.depth
decreasing_by exact depth_within h 0 0
theorem begunR_point : begunR .point = .nil := by rw [begunR]; simp
theorem begunR_unit {r : Rule} (h : r ≠ .point) : begunR r = .st 0 0 (begunR (within r 0 0)) := by rw [begunR]; simp [h]
/-- whether a unit is won by a count -/
def wonR (r : Rule) (own other : Int) : Bool := decide (r.cap = some own) || (decide (r.to ≤ own) && decide (r.lead ≤ own - other))
/-- a stand has the rule's form -/
def Fits : Rule → Stand → Prop
  | _, .nil => True
  | r, .st z o w => r ≠ .point ∧ Fits (within r z o) w
/-- a stand that is not won: it has a place for the next rally -/
def Open : Rule → Stand → Prop
  | r, .nil => r = .point
  | r, .st z o w => r ≠ .point ∧ Open (within r z o) w
theorem open_begun : ∀ (n : Nat) (r : Rule), r.depth ≤ n → Open r (begunR r)
  | n, r, hn => by
    by_cases h : r = .point
    · subst h; rw [begunR_point]; exact rfl
    · have hd := depth_within h 0 0
      match n with
      | 0 => omega
      | n + 1 =>
        rw [begunR_unit h]
        exact ⟨h, open_begun n _ (by omega)⟩
theorem open_depth : ∀ {s : Stand} {r : Rule}, Open r s → s.depth ≤ r.depth
  | .nil, _, _ => Nat.zero_le _
  | .st z o w, r, h => by
    have := open_depth h.2
    have := depth_within h.1 z o
    simp only [Stand.depth]; omega
def bump (z o : Int) (side : Bool) : Int × Int := if side then (z, o + 1) else (z + 1, o)
def ownC (p : Int × Int) (side : Bool) : Int := if side then p.2 else p.1
def otherC (p : Int × Int) (side : Bool) : Int := if side then p.1 else p.2
/-- behind a rally: the stand, whether it is won; side true is 1 -/
def ralliedR : Rule → Stand → Bool → Stand × Bool
  | _, .nil, _ => (.nil, true)
  | r, .st z o w, side =>
    let q := ralliedR (within r z o) w side
    if q.2 then
      let p := bump z o side
      if wonR r (ownC p side) (otherC p side) then (.st p.1 p.2 .nil, true) else (.st p.1 p.2 (begunR (within r p.1 p.2)), false)
    else (.st z o q.1, false)
theorem open_rallied : ∀ {s : Stand} {r : Rule} {side : Bool}, Open r s → (ralliedR r s side).2 = false → Open r (ralliedR r s side).1
  | .nil, r, side, h, e => by simp [ralliedR] at e
  | .st z o w, r, side, h, e => by
    have ih := open_rallied (side := side) h.2
    simp only [ralliedR] at e ⊢
    split at e
    · rename_i hq
      split at e
      · cases e
      · rename_i hw
        rw [if_pos hq, if_neg hw]
        exact ⟨h.1, open_begun _ _ (Nat.le_refl _)⟩
    · rename_i hq
      rw [if_neg hq]
      exact ⟨h.1, ih (by simpa using hq)⟩
end RL
end
section
set_option maxHeartbeats 4000000
namespace CM
open PySem PySem.Spec PyProof.Rows L2 TL RL
noncomputable section
def b_rule_within : MS := (sSeq (sIf (tAnd (tB (eBin mIsNot (eBin mIdx (eVar 0) (eC (.int 5))) (eC .non))) (tAnd (tB (eBin mEq (eVar 1) (eBin mSub (eBin mIdx (eVar 0) (eC (.int 3))) (eC (.int 1))))) (tB (eBin mEq (eVar 2) (eBin mSub (eBin mIdx (eVar 0) (eC (.int 3))) (eC (.int 1))))))) (sRet (eBin mIdx (eVar 0) (eC (.int 5)))) sNil)
    (sRet (eBin mIdx (eVar 0) (eC (.int 4)))))
def m_rule_within : Fn := fnD 3 3 b_rule_within
def b_begun (r_begun : Fn) : MS := (sSeq (sIf (tB (eBin mEq (eVar 0) (eC (.tup [(.str "point")])))) (sRet (eTup aNil)) sNil)
    (sRet (eTup (aCons (eC (.int 0)) (aCons (eC (.int 0)) (aCons (eCall r_begun (aCons (eCall m_rule_within (aCons (eVar 0) (aCons (eC (.int 0)) (aCons (eC (.int 0)) aNil)))) aNil)) aNil))))))
def m_begun : Nat → Fn
  | 0 => noFn
  | n + 1 => fnD 1 1 (b_begun (m_begun n))
def b_is_won : MS := (sSeq (sIf (tAnd (tB (eBin mIsNot (eBin mIdx (eVar 0) (eC (.int 3))) (eC .non))) (tB (eBin mEq (eVar 1) (eBin mIdx (eVar 0) (eC (.int 3)))))) (sRet (eC (.bl true))) sNil)
    (sRet (eAnd (eBin mGe (eVar 1) (eBin mIdx (eVar 0) (eC (.int 1)))) (eBin mGe (eBin mSub (eVar 1) (eVar 2)) (eBin mIdx (eVar 0) (eC (.int 2)))))))
def m_is_won : Fn := fnD 3 3 b_is_won
def b_rallied (r_rallied : Fn) : MS := (sSeq (sIf (tB (eBin mEq (eVar 0) (eC (.tup [(.str "point")])))) (sRet (eTup (aCons (eTup aNil) (aCons (eC (.bl true)) aNil)))) sNil)
    (sSeq (sAsg (gOne 3) (eLst (aCons (eBin mIdx (eVar 1) (eC (.int 0))) (aCons (eBin mIdx (eVar 1) (eC (.int 1))) aNil))))
    (sSeq (sAsg (gTupD [4, 5]) (eCall r_rallied (aCons (eCall m_rule_within (aCons (eVar 0) (aCons (eBin mIdx (eVar 1) (eC (.int 0))) (aCons (eBin mIdx (eVar 1) (eC (.int 1))) aNil)))) (aCons (eBin mIdx (eVar 1) (eC (.int 2))) (aCons (eVar 2) aNil)))))
    (sSeq (sIf (tTru (eVar 5)) (sSeq (sSub (eVar 3) (eVar 2) (eBin mAdd (eBin mIdx (eVar 3) (eVar 2)) (eC (.int 1))))
    (sSeq (sIf (tTru (eCall m_is_won (aCons (eVar 0) (aCons (eBin mIdx (eVar 3) (eVar 2)) (aCons (eBin mIdx (eVar 3) (eBin mSub (eC (.int 1)) (eVar 2))) aNil))))) (sRet (eTup (aCons (eTup (aCons (eBin mIdx (eVar 3) (eC (.int 0))) (aCons (eBin mIdx (eVar 3) (eC (.int 1))) (aCons (eTup aNil) aNil)))) (aCons (eC (.bl true)) aNil)))) sNil)
    (sAsg (gOne 4) (eCall (m_begun 14) (aCons (eCall m_rule_within (aCons (eVar 0) (aCons (eBin mIdx (eVar 3) (eC (.int 0))) (aCons (eBin mIdx (eVar 3) (eC (.int 1))) aNil)))) aNil))))) sNil)
    (sRet (eTup (aCons (eTup (aCons (eBin mIdx (eVar 3) (eC (.int 0))) (aCons (eBin mIdx (eVar 3) (eC (.int 1))) (aCons (eVar 4) aNil)))) (aCons (eC (.bl false)) aNil))))))))
def m_rallied : Nat → Fn
  | 0 => noFn
  | n + 1 => fnD 3 6 (b_rallied (m_rallied n))
def b_cut (r_cut : Fn) : MS := (sSeq (sIf (tB (eBin mEq (eVar 0) (eC (.tup [(.str "point")])))) (sRet (eTup aNil)) sNil)
    (sSeq (sAsg (gTupD [3, 4, 5]) (eVar 1))
    (sSeq (sIf (tB (eBin mNe (eVar 5) (eTup aNil))) (sAsg (gOne 5) (eCall r_cut (aCons (eCall m_rule_within (aCons (eVar 0) (aCons (eVar 3) (aCons (eVar 4) aNil)))) (aCons (eVar 5) aNil)))) sNil)
    (sSeq (sAsg (gOne 2) (eC (.int 0)))
    (sSeq (sIf (tB (eBin mIs (eBin mIdx (eVar 0) (eC (.int 3))) (eC .non))) (sAsg (gOne 2) (eCallO nMax2 (aCons (eC (.int 0)) (aCons (eBin mAdd (eBin mSub (eCallO nMin2 (aCons (eVar 3) (aCons (eVar 4) aNil))) (eBin mIdx (eVar 0) (eC (.int 1)))) (eC (.int 1))) aNil)))) sNil)
    (sRet (eTup (aCons (eBin mSub (eVar 3) (eVar 2)) (aCons (eBin mSub (eVar 4) (eVar 2)) (aCons (eVar 5) aNil))))))))))
def m_cut : Nat → Fn
  | 0 => noFn
  | n + 1 => fnD 2 6 (b_cut (m_cut n))
end
theorem rule_within_ok {r : Rule} (h : r ≠ .point) (z o : Int) (M : Mem) : m_rule_within [r.toD, .int z, .int o] M = .ok (within r z o).toD M := by
  show endS (b_rule_within [some r.toD, some (.int z), some (.int o)] M) = _
  unfold b_rule_within
  rw [toD_unit h]
  cases hl : r.last with
  | none => simp [lastD, within, hl]
  | some l =>
    obtain ⟨c, hc⟩ := cap_last hl
    simp [lastD, within, hl, hc, capD]
    by_cases h1 : z = c - 1 <;> by_cases h2 : o = c - 1 <;> simp [h1, h2]
theorem begun_ok : ∀ (n : Nat) (r : Rule) (M : Mem), r.depth < n → r.depth ≤ 60 → m_begun n [r.toD] M = .ok (begunR r).toD M
  | 0, _, _, h, _ => by omega
  | n + 1, r, M, h, h6 => by
    show endS (b_begun (m_begun n) [some r.toD] M) = _
    unfold b_begun
    by_cases hp : r = .point
    · subst hp
      simp [mEq_point (M := M) (r := .point) h6, begunR_point, Stand.toD]
    · have hd := depth_within hp 0 0
      simp [mEq_point (M := M) h6, hp, rule_within_ok hp, begun_ok n _ M (show (within r 0 0).depth < n by omega) (by omega), begunR_unit hp, Stand.toD]
theorem is_won_ok {r : Rule} (h : r ≠ .point) (own other : Int) (M : Mem) : m_is_won [r.toD, .int own, .int other] M = .ok (.bl (wonR r own other)) M := by
  show endS (b_is_won [some r.toD, some (.int own), some (.int other)] M) = _
  unfold b_is_won
  rw [toD_unit h]
  cases hc : r.cap with
  | none =>
    simp [wonR, hc, capD]
    by_cases h1 : r.to ≤ own <;> simp [h1]
  | some c =>
    by_cases h0 : own = c
    · subst h0; simp [wonR, hc, capD]
    · have h0' : ¬ c = own := fun e => h0 e.symm
      simp [wonR, hc, capD, h0, h0']
      by_cases h1 : r.to ≤ own <;> simp [h1]
def sideD (s : Bool) : D := .int (if s then 1 else 0)
theorem rallied_ok : ∀ (n : Nat) (r : Rule) (s : Stand) (side : Bool) (M : Mem), r.depth < n → r.depth ≤ 12 → Open r s → ∃ M', m_rallied n [r.toD, s.toD, sideD side] M = .ok (.tup [(ralliedR r s side).1.toD, .bl (ralliedR r s side).2]) M' ∧ Keep M M'
  | 0, _, _, _, _, h, _, _ => by omega
  | n + 1, r, s, side, M, h, h6, hO => by
    have h60 : r.depth ≤ 60 := by omega
    show ∃ M', endS (b_rallied (m_rallied n) [some r.toD, some s.toD, some (sideD side), none, none, none] M) = _ ∧ _
    unfold b_rallied
    cases s with
    | nil =>
      have hp : r = .point := hO
      subst hp
      exact ⟨M, by simp [mEq_point (M := M) (r := .point) h60, ralliedR, Stand.toD], Keep.refl M⟩
    | st z o w =>
      obtain ⟨hp, hO⟩ := hO
      have hd := depth_within hp z o
      obtain ⟨M1, e1, k1⟩ := rallied_ok n (within r z o) w side (M ++ [.lst [.int z, .int o]]) (by omega) (by omega) hO
      have l1 := k1.at (at_len M (.lst [.int z, .int o]))
      have hlt := lt_of_at l1
      have kk := (Keep.more M [.lst [.int z, .int o]]).trans k1
      simp only [ralliedR]
      generalize ralliedR (within r z o) w side = q at e1
      obtain ⟨w', won⟩ := q
      have nx : ∀ (a b : Int) (M : Mem), m_begun 14 [(within r a b).toD] M = .ok (begunR (within r a b)).toD M := fun a b M => begun_ok 14 _ M (by have := depth_within hp a b; omega) (by have := depth_within hp a b; omega)
      cases won with
      | false =>
        refine ⟨M1, ?_, kk⟩
        simp [mEq_point (M := M) h60, hp, Stand.toD, rule_within_ok hp, e1, seqAt, l1]
      | true =>
        cases side with
        | false =>
          refine ⟨M1.set M.length (.lst [.int (z + 1), .int o]), ?_, kk.setNew (Nat.le_refl _)⟩
          simp [sideD] at e1
          simp [mEq_point (M := M) h60, hp, Stand.toD, rule_within_ok hp, e1, seqAt, l1, sideD, setD, ixN, List.getElem?_set_self hlt, is_won_ok hp, RL.bump, ownC, otherC, nx]
          cases wonR r (z + 1) o <;> simp [Stand.toD, seqAt, List.getElem?_set_self hlt, rule_within_ok hp, nx]
        | true =>
          refine ⟨M1.set M.length (.lst [.int z, .int (o + 1)]), ?_, kk.setNew (Nat.le_refl _)⟩
          simp [sideD] at e1
          simp [mEq_point (M := M) h60, hp, Stand.toD, rule_within_ok hp, e1, seqAt, l1, sideD, setD, ixN, List.getElem?_set_self hlt, is_won_ok hp, RL.bump, ownC, otherC, nx]
          cases wonR r (o + 1) z <;> simp [Stand.toD, seqAt, List.getElem?_set_self hlt, rule_within_ok hp, nx]
/-- a stand cut -/
def lessR (r : Rule) (z o : Int) : Int := match r.cap with
  | none => max 0 (min z o - r.to + 1)
  | some _ => 0
def cutR : Rule → Stand → Stand
  | _, .nil => .nil
  | r, .st z o w => .st (z - lessR r z o) (o - lessR r z o) (cutR (within r z o) w)
theorem fits_depth : ∀ {s : Stand} {r : Rule}, Fits r s → s.depth ≤ r.depth
  | .nil, _, _ => Nat.zero_le _
  | .st z o w, r, h => by
    have := fits_depth h.2
    have := depth_within h.1 z o
    simp only [Stand.depth]; omega
theorem Open.fits : ∀ {s : Stand} {r : Rule}, Open r s → Fits r s
  | .nil, _, _ => trivial
  | .st _ _ _, _, h => ⟨h.1, Open.fits h.2⟩
theorem cutR_nil (r : Rule) : cutR r .nil = .nil := by cases r <;> rfl
theorem cut_ok : ∀ (n : Nat) (r : Rule) (s : Stand) (M : Mem), r.depth < n → r.depth ≤ 60 → Fits r s → (r = .point ↔ s = .nil) → m_cut n [r.toD, s.toD] M = .ok (cutR r s).toD M
  | 0, _, _, _, h, _, _, _ => by omega
  | n + 1, r, s, M, h, h60, hF, hn => by
    show endS (b_cut (m_cut n) [some r.toD, some s.toD, none, none, none, none] M) = _
    unfold b_cut
    cases s with
    | nil =>
      have hp := hn.mpr rfl
      subst hp
      simp [mEq_point (M := M) (r := .point) h60, cutR, Stand.toD]
    | st z o w =>
      obtain ⟨hp, hF⟩ := hF
      have hd := depth_within hp z o
      have hsd : w.depth ≤ 60 := by have := fits_depth hF; omega
      have hw : ∀ M : Mem, w ≠ .nil → m_cut n [(within r z o).toD, w.toD] M = .ok (cutR (within r z o) w).toD M := fun M hw => cut_ok n _ w M (by omega) (by omega) hF ⟨fun e => by
        cases w with
        | nil => exact absurd rfl hw
        | st a b c => exact absurd e hF.1, fun e => absurd e hw⟩
      have hmin : (if o < z then o else z) = min z o := by split <;> omega
      have hmax : ∀ x : Int, (if 0 < x then x else 0) = max 0 x := fun x => by split <;> omega
      have e1 := toD_unit hp
      simp [mEq_point (M := M) h60, hp, Stand.toD, mNe_nilS hsd, rule_within_ok hp]
      by_cases hwn : w = .nil
      · subst hwn
        rw [e1]
        cases hc : r.cap with
        | none => simp [capD, cutR, Stand.toD, lessR, hc, hmin, hmax]
        | some c => simp [capD, cutR, Stand.toD, lessR, hc]
      · simp [hwn, hw]
        rw [e1]
        cases hc : r.cap with
        | none => simp [capD, cutR, Stand.toD, lessR, hc, hmin, hmax]
        | some c => simp [capD, cutR, Stand.toD, lessR, hc]
end CM
end
section
namespace RL
open PySem PySem.Spec PyProof.Rows L2 TL CM
/-- counts of open units lie below the cap -/
def Below : Rule → Stand → Prop
  | _, .nil => True
  | r, .st z o w => 0 ≤ z ∧ 0 ≤ o ∧ (∀ c, r.cap = some c → z < c ∧ o < c) ∧ Below (within r z o) w
theorem good_inner {r : Rule} (h : r.good) : r.inner.good := by
  cases r with
  | point => exact h
  | unit _ _ _ i => exact h.2.2.2.2.2
  | unitL _ _ _ i l => exact h.2.2.2.2.2.2.1
theorem good_last {r l : Rule} (h : r.good) (e : r.last = some l) : l.good := by
  cases r with
  | unitL _ _ _ i l' => simp [Rule.last] at e; subst e; exact h.2.2.2.2.2.2.2
  | _ => simp [Rule.last] at e
theorem good_within {r : Rule} (h : r.good) (z o : Int) : (within r z o).good := by
  unfold within
  split
  · split
    · exact good_last h (by assumption)
    · exact good_inner h
  · exact good_inner h
theorem good_cap {r : Rule} (h : r.good) (hp : r ≠ .point) {c : Int} (e : r.cap = some c) : r.to ≤ c ∧ 1 ≤ c ∧ c ≤ 99 := by
  cases r with
  | point => exact absurd rfl hp
  | unit to lead cap i => simp [Rule.cap] at e; obtain ⟨h1, _, _, _, h5, _⟩ := h; have := h5 c e; simp [Rule.to]; omega
  | unitL to lead cap i l => simp [Rule.cap] at e; obtain ⟨h1, _, _, _, h5, h6, _⟩ := h; simp [Rule.to]; omega
theorem good_num {r : Rule} (h : r.good) (hp : r ≠ .point) : 1 ≤ r.to ∧ r.to ≤ 99 ∧ 1 ≤ r.lead ∧ r.lead ≤ 99 := by
  cases r with
  | point => exact absurd rfl hp
  | unit to lead cap i => obtain ⟨h1, h2, h3, h4, _⟩ := h; exact ⟨h1, h2, h3, h4⟩
  | unitL to lead cap i l => obtain ⟨h1, h2, h3, h4, _⟩ := h; exact ⟨h1, h2, h3, h4⟩
theorem below_begun : ∀ (n : Nat) (r : Rule), r.depth ≤ n → r.good → Below r (begunR r)
  | n, r, hn, hg => by
    by_cases h : r = .point
    · subst h; rw [begunR_point]; exact trivial
    · have hd := depth_within h 0 0
      match n with
      | 0 => omega
      | n + 1 =>
        rw [begunR_unit h]
        exact ⟨Int.le_refl _, Int.le_refl _, fun c hc => by have := good_cap hg h hc; omega, below_begun n _ (by omega) (good_within hg 0 0)⟩
theorem below_rallied : ∀ {s : Stand} {r : Rule} {side : Bool}, r.good → Open r s → Below r s → (ralliedR r s side).2 = false → Below r (ralliedR r s side).1
  | .nil, r, side, hg, h, hb, e => by simp [ralliedR] at e
  | .st z o w, r, side, hg, h, hb, e => by
    have ih := below_rallied (side := side) (good_within hg z o) h.2 hb.2.2.2
    simp only [ralliedR] at e ⊢
    split at e
    · rename_i hq
      split at e
      · cases e
      · rename_i hw
        rw [if_pos hq, if_neg hw]
        refine ⟨?_, ?_, fun c hc => ?_, below_begun _ _ (Nat.le_refl _) (good_within hg _ _)⟩
        · have := hb.1; cases side <;> simp [bump] <;> omega
        · have := hb.2.1; cases side <;> simp [bump] <;> omega
        · obtain ⟨h1, h2⟩ := hb.2.2.1 c hc
          have hw' : wonR r (ownC (bump z o side) side) (otherC (bump z o side) side) = false := by simpa using hw
          unfold wonR at hw'
          rw [hc] at hw'
          cases side <;> simp [bump, ownC, otherC] at hw' ⊢ <;> omega
    · rename_i hq
      rw [if_neg hq]
      exact ⟨hb.1, hb.2.1, hb.2.2.1, ih (by simpa using hq)⟩
/-- a row is played on: who wins, the stand, how many rallies were taken -/
def feed (r : Rule) : Stand → List Bool → Option Bool × Stand × Nat
  | s, [] => (none, s, 0)
  | s, x :: xs => let q := ralliedR r s x
    if q.2 then (some x, q.1, 1) else let f := feed r q.1 xs; (f.1, f.2.1, f.2.2 + 1)
/-- the stand behind a row in which nobody wins -/
def runS (r : Rule) : Stand → List Bool → Stand
  | s, [] => s
  | s, x :: xs => runS r (ralliedR r s x).1 xs
/-- nobody wins along the row -/
def Alive (r : Rule) : Stand → List Bool → Prop
  | _, [] => True
  | s, x :: xs => (ralliedR r s x).2 = false ∧ Alive r (ralliedR r s x).1 xs
theorem runS_append {r : Rule} : ∀ (xs ys : List Bool) (s : Stand), runS r s (xs ++ ys) = runS r (runS r s xs) ys
  | [], _, _ => rfl
  | x :: xs, ys, s => by simp only [List.cons_append, runS]; exact runS_append xs ys _
theorem alive_open {r : Rule} (hg : r.good) : ∀ {xs : List Bool} {s : Stand}, Open r s → Below r s → Alive r s xs → Open r (runS r s xs) ∧ Below r (runS r s xs)
  | [], _, h, b, _ => ⟨h, b⟩
  | x :: xs, s, h, b, a => alive_open (s := (ralliedR r s x).1) hg (open_rallied h a.1) (below_rallied hg h b a.1) a.2
end RL
end
section
set_option maxHeartbeats 4000000
namespace CM
open PySem PySem.Spec PyProof.Rows L2 TL RL
noncomputable section
def b_l_draw : MS := (sSeq (sAsg (gOne 2) (eBin mIdx (eVar 0) (eC (.int 0))))
    (sSeq (sAsg (gOne 3) (eBin mIdx (eVar 0) (eC (.int 1))))
    (sSeq (sSub (eVar 0) (eC (.int 1)) (eBin mAdd (eVar 3) (eC (.int 1))))
    (sSeq (sAsg (gOne 4) (eC (.int 0)))
    (sSeq (sIf (tB (eBin mGt (eCallO nLen (aCons (eVar 2) aNil)) (eC (.int 0)))) (sAsg (gOne 4) (eBin mIdx (eVar 2) (eBin mMod (eIf (tB (eBin mEq (eBin mIdx (eVar 0) (eC (.int 3))) (eC (.int 1)))) (eBin mFdiv (eVar 3) (eC (.int 60))) (eVar 3)) (eCallO nLen (aCons (eVar 2) aNil))))) sNil)
    (sSeq (sIf (tB (eBin mEq (eBin mIdx (eVar 0) (eC (.int 3))) (eC (.int 1)))) (sSeq (sIf (tB (eBin mEq (eBin mMod (eVar 3) (eC (.int 60))) (eC (.int 0)))) (sSub (eVar 0) (eC (.int 2)) (eBin mFdiv (eVar 4) (eC (.int 2)))) sNil)
    (sSeq (sAsg (gOne 6) (eBin mIdx (eVar 0) (eC (.int 2))))
    (sSeq (sSub (eVar 0) (eC (.int 2)) (eBin mFdiv (eVar 6) (eVar 1)))
    (sRet (eBin mMod (eVar 6) (eVar 1)))))) sNil)
    (sSeq (sAsg (gOne 5) (eBin mMod (eBin mMul (eBin mAdd (eBin mMod (eVar 4) (eC (.int 1000003))) (eC (.int 1))) (eBin mAdd (eBin mAdd (eBin mMul (eBin mMod (eVar 3) (eC (.int 997))) (eC (.int 7919))) (eC (.int 104729))) (eVar 3))) (eC (.int 1000033))))
    (sSeq (sAsg (gOne 5) (eBin mMod (eBin mAdd (eBin mAdd (eBin mMul (eVar 5) (eVar 5)) (eBin mMul (eC (.int 3)) (eVar 5))) (eVar 3)) (eC (.int 999983))))
    (sRet (eBin mMod (eBin mMod (eBin mMul (eVar 5) (eC (.int 48271))) (eC (.int 65537))) (eVar 1)))))))))))
def m_l_draw : Fn := fnD 2 7 b_l_draw
def b_l_unit (r_l_unit : Fn) (r_l_rule : Fn) : MS := (sSeq (sAsg (gOne 3) (eBin mAdd (eC (.int 1)) (eCall m_l_draw (aCons (eVar 0) (aCons (eBin mIdx (eLst (aCons (eC (.int 3)) (aCons (eC (.int 5)) (aCons (eC (.int 99)) aNil)))) (eBin mFdiv (eCall m_l_draw (aCons (eVar 0) (aCons (eC (.int 20)) aNil))) (eC (.int 8)))) aNil)))))
    (sSeq (sAsg (gOne 4) (eBin mAdd (eC (.int 1)) (eCall m_l_draw (aCons (eVar 0) (aCons (eBin mIdx (eLst (aCons (eC (.int 2)) (aCons (eC (.int 3)) (aCons (eC (.int 99)) aNil)))) (eBin mFdiv (eCall m_l_draw (aCons (eVar 0) (aCons (eC (.int 20)) aNil))) (eC (.int 9)))) aNil)))))
    (sSeq (sAsg (gOne 5) (eC .non))
    (sSeq (sAsg (gOne 6) (eC .non))
    (sSeq (sIf (tB (eBin mEq (eCall m_l_draw (aCons (eVar 0) (aCons (eC (.int 2)) aNil))) (eC (.int 1)))) (sAsg (gOne 5) (eCallO nMin2 (aCons (eC (.int 99)) (aCons (eBin mAdd (eVar 3) (eCall m_l_draw (aCons (eVar 0) (aCons (eC (.int 4)) aNil)))) aNil)))) sNil)
    (sSeq (sAsg (gOne 7) (eCall r_l_rule (aCons (eVar 0) (aCons (eBin mSub (eVar 1) (eC (.int 1))) (aCons (eVar 2) aNil)))))
    (sSeq (sIf (tAnd (tB (eBin mIsNot (eVar 5) (eC .non))) (tB (eBin mGt (eCall m_l_draw (aCons (eVar 0) (aCons (eC (.int 3)) aNil))) (eC (.int 0))))) (sAsg (gOne 6) (eCall r_l_rule (aCons (eVar 0) (aCons (eCallO nMin2 (aCons (eBin mSub (eVar 1) (eC (.int 1))) (aCons (eVar 2) aNil))) (aCons (eVar 2) aNil))))) sNil)
    (sRet (eTup (aCons (eC (.str "unit")) (aCons (eVar 3) (aCons (eVar 4) (aCons (eVar 5) (aCons (eVar 7) (aCons (eVar 6) aNil)))))))))))))))
def b_l_rule (r_l_unit : Fn) (r_l_rule : Fn) : MS := (sSeq (sIf (tOr (tB (eBin mEq (eVar 1) (eC (.int 0)))) (tB (eBin mEq (eCall m_l_draw (aCons (eVar 0) (aCons (eC (.int 7)) aNil))) (eC (.int 3))))) (sRet (eTup (aCons (eC (.str "point")) aNil))) sNil)
    (sRet (eCall r_l_unit (aCons (eVar 0) (aCons (eVar 1) (aCons (eVar 2) aNil))))))
def g_l_unit : Nat → Fn × Fn
  | 0 => (noFn, noFn)
  | n + 1 => (fnD 3 8 (b_l_unit ((g_l_unit n).1) ((g_l_unit n).2)), fnD 3 3 (b_l_rule ((g_l_unit n).1) ((g_l_unit n).2)))
def m_l_unit (n : Nat) : Fn := (g_l_unit n).1
def m_l_rule (n : Nat) : Fn := (g_l_unit n).2
def b_l_any_rule : MS := (sSeq (sAsg (gOne 1) (eCall m_l_draw (aCons (eVar 0) (aCons (eC (.int 6)) aNil))))
    (sRet (eCall (m_l_rule 14) (aCons (eVar 0) (aCons (eBin mIdx (eLst (aCons (eC (.int 2)) (aCons (eC (.int 1)) (aCons (eC (.int 2)) (aCons (eC (.int 3)) (aCons (eC (.int 3)) (aCons (eC (.int 4)) aNil))))))) (eVar 1)) (aCons (eBin mIdx (eLst (aCons (eC (.int 3)) (aCons (eC (.int 3)) (aCons (eC (.int 3)) (aCons (eC (.int 3)) (aCons (eC (.int 1)) (aCons (eC (.int 1)) aNil))))))) (eVar 1)) aNil))))))
def m_l_any_rule : Fn := fnD 1 2 b_l_any_rule
end
/-- a tape at t -/
def Tape (M : Mem) (t : Nat) : Prop := ∃ (s : Nat) (ns : List Int) (spot left way : Int), M[t]? = some (.lst [.ref s, .int spot, .int left, .int way]) ∧ M[s]? = some (.rol (ns.map D.int)) ∧ ns.length ≤ 63 ∧ 0 ≤ spot
theorem cell_at {ns : List Int} (h : ns ≠ []) {k : Int} (hk : 0 ≤ k) : ∃ c : Int, atI (ns.map D.int) (k % (ns.length : Int)) = some (.int c) := by
  have hl : 0 < ns.length := List.length_pos_iff.mpr h
  have h1 : 0 ≤ k % (ns.length : Int) := Int.emod_nonneg _ (by omega)
  have h2 : k % (ns.length : Int) < ns.length := Int.emod_lt_of_pos _ (by omega)
  obtain ⟨a, e1, e2⟩ := atI_ok (xs := ns.map D.int) h1 (by rw [List.length_map]; exact h2)
  rw [List.getElem?_map] at e1
  cases q : ns[(k % (ns.length : Int)).toNat]? with
  | none => rw [q] at e1; cases e1
  | some c => rw [q] at e1; cases e1; exact ⟨c, e2⟩
def Drew (M : Mem) (t s : Nat) (spot many : Int) (d : D) (M' : Mem) : Prop := ∃ x l w : Int, d = .int (x % many) ∧ M' = M.set t (.lst [.ref s, .int (spot + 1), .int l, .int w])
theorem draw_ok {M : Mem} {t : Nat} {many : Int} (T : Tape M t) (h0 : 0 < many) (h1 : many < 1073741824) :
    Ret (m_l_draw [.ref t, .int many] M) (fun d M' => ∃ (r : Int) (o : MO), d = .int r ∧ M' = M.set t o ∧ 0 ≤ r ∧ r < many ∧ Tape (M.set t o) t) := by
  obtain ⟨s, ns, spot, left, way, ht, hs, hl, hp⟩ := T
  have hne : t ≠ s := by rintro rfl; rw [ht] at hs; cases hs
  have lt : t < M.length := (List.getElem?_eq_some_iff.mp ht).1
  have e : m_l_draw [.ref t, .int many] M = endS (b_l_draw [some (.ref t), some (.int many), none, none, none, none, none] M) := rfl
  suffices h : Ret (m_l_draw [.ref t, .int many] M) (Drew M t s spot many) by
    refine h.imp fun d M' ⟨x, l, w, h1, h2⟩ => ⟨_, _, h1, h2, Int.emod_nonneg _ (by omega), Int.emod_lt_of_pos _ h0, s, ns, spot + 1, l, w, by rw [List.getElem?_set_self lt], by rw [List.getElem?_set_ne hne]; exact hs, hl, by omega⟩
  rw [e]
  unfold b_l_draw
  have bnd : ∀ (x m : Int), 0 < m → 0 ≤ x % m ∧ x % m < m := fun x m h => ⟨Int.emod_nonneg _ (by omega), Int.emod_lt_of_pos _ h⟩
  have k1 : ∀ (x j : Int) (M : Mem), mMul (.int (x % 1000033)) (.int j) M = some (.int (x % 1000033 * j), M) := fun x j M => by
    rw [mMul_int, if_pos]; have := bnd x 1000033 (by decide); omega
  have k2 : ∀ (x j : Int) (M : Mem), mMul (.int (x % 1000003 + 1)) (.int j) M = some (.int ((x % 1000003 + 1) * j), M) := fun x j M => by
    rw [mMul_int, if_pos]; have := bnd x 1000003 (by decide); omega
  have k3 : ∀ (x j : Int) (M : Mem), mMul (.int (x % 997)) (.int j) M = some (.int (x % 997 * j), M) := fun x j M => by
    rw [mMul_int, if_pos]; have := bnd x 997 (by decide); omega
  have k4 : ∀ (j : Int) (M : Mem), mMul (.int 3) (.int j) M = some (.int (3 * j), M) := fun j M => by
    rw [mMul_int, if_pos]; omega
  have k5 : ∀ (x j : Int) (M : Mem), mMul (.int (x % 999983)) (.int j) M = some (.int (x % 999983 * j), M) := fun x j M => by
    rw [mMul_int, if_pos]; have := bnd x 999983 (by decide); omega
  have k0 : ∀ (j : Int) (M : Mem), mMul (.int 1) (.int j) M = some (.int (1 * j), M) := fun j M => by
    rw [mMul_int, if_pos]; omega
  have h2 : spot / 60 ≥ 0 := by omega
  by_cases hns : ns = []
  · subst hns
    by_cases hw : way = 1
    · by_cases h60 : spot % 60 = 0
      · simp [seqAt, ht, setD, ixN, List.getElem?_set_self lt, List.getElem?_set_ne hne, hs, hw, h60, h0, h1]
        first | exact .ok ⟨_, _, _, rfl, rfl⟩ | exact .ok ⟨0, _, _, by simp, rfl⟩
      · simp [seqAt, ht, setD, ixN, List.getElem?_set_self lt, List.getElem?_set_ne hne, hs, hw, h60, h0, h1]
        first | exact .ok ⟨_, _, _, rfl, rfl⟩ | exact .ok ⟨0, _, _, by simp, rfl⟩
    · simp [seqAt, ht, setD, ixN, List.getElem?_set_self lt, List.getElem?_set_ne hne, hs, hw, h0, h1, -mMul_int, k0, k1, k2, k3, k4, k5]
      first | exact .ok ⟨_, _, _, rfl, rfl⟩ | exact .ok ⟨0, _, _, by simp, rfl⟩
  · have hlen : 0 < ns.length := List.length_pos_iff.mpr hns
    have hlen' : (0 : Int) < (ns.length : Int) := by omega
    obtain ⟨c1, e1⟩ := cell_at hns hp
    obtain ⟨c2, e2⟩ := cell_at hns h2
    by_cases hw : way = 1
    · by_cases h60 : spot % 60 = 0
      · simp [seqAt, ht, setD, ixN, List.getElem?_set_self lt, List.getElem?_set_ne hne, hs, hw, h60, h0, h1, e1, e2, hlen, hlen']
        first | exact .ok ⟨_, _, _, rfl, rfl⟩ | exact .ok ⟨0, _, _, by simp, rfl⟩
      · simp [seqAt, ht, setD, ixN, List.getElem?_set_self lt, List.getElem?_set_ne hne, hs, hw, h60, h0, h1, e1, e2, hlen, hlen']
        first | exact .ok ⟨_, _, _, rfl, rfl⟩ | exact .ok ⟨0, _, _, by simp, rfl⟩
    · simp [seqAt, ht, setD, ixN, List.getElem?_set_self lt, List.getElem?_set_ne hne, hs, hw, h0, h1, e1, e2, hlen, hlen', -mMul_int, k0, k1, k2, k3, k4, k5]
      first | exact .ok ⟨_, _, _, rfl, rfl⟩ | exact .ok ⟨0, _, _, by simp, rfl⟩
/-- the tape at t goes on, all else stands -/
structure Adv (t : Nat) (M M' : Mem) : Prop where
  tape : Tape M' t
  len : M.length ≤ M'.length
  keep : ∀ n, n < M.length → n ≠ t → M'[n]? = M[n]?
theorem Tape.lt {M : Mem} {t : Nat} (T : Tape M t) : t < M.length := by obtain ⟨s, ns, spot, left, way, ht, _⟩ := T; exact lt_of_at ht
theorem Tape.keep {M M' : Mem} {t : Nat} (T : Tape M t) (k : Keep M M') : Tape M' t := by
  obtain ⟨s, ns, spot, left, way, ht, hs, h⟩ := T
  exact ⟨s, ns, spot, left, way, k.at ht, k.at hs, h⟩
theorem Adv.trans {t : Nat} {M M1 M2 : Mem} (a : Adv t M M1) (b : Adv t M1 M2) : Adv t M M2 :=
  ⟨b.tape, Nat.le_trans a.len b.len, fun n h hn => (b.keep n (Nat.lt_of_lt_of_le h a.len) hn).trans (a.keep n h hn)⟩
theorem Adv.of {t : Nat} {M M1 : Mem} (T : Tape M t) (k : Keep M M1) : Adv t M M1 := ⟨T.keep k, k.1, fun n h _ => k.2 n h⟩
theorem Adv.refl {t : Nat} {M : Mem} (T : Tape M t) : Adv t M M := .of T (.refl M)
theorem Adv.at {t : Nat} {M M1 : Mem} (a : Adv t M M1) {n : Nat} {o : MO} (h : M[n]? = some o) (hn : n ≠ t) : M1[n]? = some o := (a.keep n (lt_of_at h) hn).trans h
theorem Adv.seq {t : Nat} {M M1 : Mem} (a : Adv t M M1) {n : Nat} {xs : List D} (h : seqAt M n = some xs) (hn : n ≠ t) : seqAt M1 n = some xs := by
  unfold seqAt at h ⊢
  cases q : M[n]? with
  | none => rw [q] at h; cases h
  | some o => rw [a.at q hn]; rw [q] at h; exact h
/-- what a drawn number is -/
def DrawQ (t : Nat) (M : Mem) (many : Int) (d : D) (M' : Mem) : Prop := ∃ r : Int, d = .int r ∧ 0 ≤ r ∧ r < many ∧ Adv t M M'
theorem draw {M : Mem} {t : Nat} {many : Int} (T : Tape M t) (h0 : 0 < many) (h1 : many < 1073741824) : Ret (m_l_draw [.ref t, .int many] M) (DrawQ t M many) :=
  (draw_ok T h0 h1).imp fun d M' ⟨r, o, h1, h2, h3, h4, h5⟩ => ⟨r, h1, h3, h4, by rw [h2]; exact h5, by rw [h2, List.length_set]; omega, fun n hn hne => by rw [h2, List.getElem?_set_ne (Ne.symm hne)]⟩
/-- most units of a drawn rule -/
def ub : Nat → Nat → Nat
  | 0, _ => 0
  | d + 1, thin => 1 + ub d thin + ub (min d thin) thin
theorem ub_succ (d thin : Nat) : ub (d + 1) thin = 1 + ub d thin + ub (min d thin) thin := by rw [ub]
def RuleQ (t : Nat) (M : Mem) (deep thin : Nat) (d : D) (M' : Mem) : Prop := ∃ r : Rule, d = r.toD ∧ r.good ∧ r.depth ≤ deep ∧ r.units ≤ ub deep thin ∧ Adv t M M'
def RuleOk (f : Fn) (deep : Nat) : Prop := ∀ (M : Mem) (t thin : Nat), Tape M t → Ret (f [.ref t, .int (deep : Nat), .int (thin : Nat)] M) (RuleQ t M deep thin)
theorem pick3 {a b c k : Int} (h0 : 0 ≤ k) (h1 : k < 3) : ∃ v : Int, (v = a ∨ v = b ∨ v = c) ∧ atI [D.int a, .int b, .int c] k = some (.int v) := by
  rcases (show k = 0 ∨ k = 1 ∨ k = 2 by omega) with rfl | rfl | rfl
  · exact ⟨a, .inl rfl, by simp⟩
  · exact ⟨b, .inr (.inl rfl), by simp⟩
  · exact ⟨c, .inr (.inr rfl), by simp⟩
theorem unit_ok {ru rr : Fn} {deep : Nat} (ih : ∀ d ≤ deep, RuleOk rr d) : RuleOk (fnD 3 8 (b_l_unit ru rr)) (deep + 1) := by
  intro M t thin T
  show Ret (endS (b_l_unit ru rr [some (.ref t), some (.int (deep + 1 : Nat)), some (.int (thin : Nat)), none, none, none, none, none] M)) _
  unfold b_l_unit
  have n1 : M.length ≠ t := fun e => by have := T.lt; omega
  simp
  refine Ret.bind (draw (T.keep (Keep.more M _)) (by decide) (by decide)) ?_
  rintro _ M1 ⟨r1, rfl, h0, h1, A1⟩
  have l1 := A1.at (at_len M _) n1
  obtain ⟨v1, hv1, ev1⟩ := pick3 (a := 3) (b := 5) (c := 99) (k := r1 / 8) (by omega) (by omega)
  simp [seqAt, l1, ev1]
  refine Ret.bind (draw A1.tape (by omega) (by omega)) ?_
  rintro _ M2 ⟨r2, rfl, h2, h3, A2⟩
  have a2 := (Adv.of T (Keep.more M _)).trans (A1.trans A2)
  have n2 : M2.length ≠ t := fun e => by have := A2.tape.lt; omega
  simp
  refine Ret.bind (draw (A2.tape.keep (Keep.more M2 _)) (by decide) (by decide)) ?_
  rintro _ M3 ⟨r3, rfl, h4, h5, A3⟩
  have l3 := A3.at (at_len M2 _) n2
  obtain ⟨v2, hv2, ev2⟩ := pick3 (a := 2) (b := 3) (c := 99) (k := r3 / 9) (by omega) (by omega)
  simp [seqAt, l3, ev2]
  refine Ret.bind (draw A3.tape (by omega) (by omega)) ?_
  rintro _ M4 ⟨r4, rfl, h6, h7, A4⟩
  have a4 := a2.trans ((Adv.of A2.tape (Keep.more M2 _)).trans (A3.trans A4))
  simp
  refine Ret.bind (draw A4.tape (by decide) (by decide)) ?_
  rintro _ M5 ⟨r5, rfl, h8, h9, A5⟩
  have a5 := a4.trans A5
  have em : (if thin < deep then (thin : Int) else (deep : Int)) = ((min deep thin : Nat) : Int) := by split <;> omega
  by_cases c5 : r5 = 1
  · simp [c5]
    refine Ret.bind (draw A5.tape (by decide) (by decide)) ?_
    rintro _ M6 ⟨r6, rfl, h10, h11, A6⟩
    have a6 := a5.trans A6
    simp
    refine Ret.bind (ih deep (Nat.le_refl _) M6 t thin A6.tape) ?_
    rintro _ M7 ⟨inner, rfl, g1, g2, g3, A7⟩
    refine Ret.bind (draw A7.tape (by decide) (by decide)) ?_
    rintro _ M8 ⟨r8, rfl, h12, h13, A8⟩
    have a8 := a6.trans (A7.trans A8)
    simp
    by_cases c8 : 0 < r8
    · simp [c8, em]
      refine Ret.bind (ih (min deep thin) (Nat.min_le_left _ _) M8 t thin A8.tape) ?_
      rintro _ M9 ⟨last, rfl, g4, g5, g6, A9⟩
      refine .ok ⟨.unitL (1 + r2) (1 + r4) (if 1 + r2 + r6 < 99 then 1 + r2 + r6 else 99) inner last, rfl, ⟨by omega, by omega, by omega, by omega, by split <;> omega, by split <;> omega, g1, g4⟩, ?_, ?_, a8.trans A9⟩
      · show max inner.depth last.depth + 1 ≤ deep + 1
        have := Nat.min_le_left deep thin
        omega
      · show inner.units + last.units + 1 ≤ _
        rw [ub_succ]
        omega
    · simp [c8]
      refine .ok ⟨.unit (1 + r2) (1 + r4) (some (if 1 + r2 + r6 < 99 then 1 + r2 + r6 else 99)) inner, rfl, ⟨by omega, by omega, by omega, by omega, fun c hc => by cases hc; constructor <;> split <;> omega, g1⟩, ?_, ?_, a8⟩
      · show inner.depth + 1 ≤ deep + 1
        omega
      · show inner.units + 1 ≤ _
        rw [ub_succ]
        omega
  · simp [c5]
    refine Ret.bind (ih deep (Nat.le_refl _) M5 t thin A5.tape) ?_
    rintro _ M7 ⟨inner, rfl, g1, g2, g3, A7⟩
    refine .ok ⟨.unit (1 + r2) (1 + r4) none inner, rfl, ⟨by omega, by omega, by omega, by omega, fun c hc => (nomatch hc), g1⟩, ?_, ?_, a5.trans A7⟩
    · show inner.depth + 1 ≤ deep + 1
      omega
    · show inner.units + 1 ≤ _
      rw [ub_succ]
      omega
theorem rule_step {ru rr : Fn} {deep : Nat} (ih : ∀ d, deep = d + 1 → RuleOk ru deep) : RuleOk (fnD 3 3 (b_l_rule ru rr)) deep := by
  intro M t thin T
  show Ret (endS (b_l_rule ru rr [some (.ref t), some (.int (deep : Nat)), some (.int (thin : Nat))] M)) _
  unfold b_l_rule
  cases deep with
  | zero =>
    simp
    exact .ok ⟨.point, rfl, trivial, Nat.le_refl _, Nat.zero_le _, .refl T⟩
  | succ deep =>
    have ne : ¬ ((deep : Int) + 1 = 0) := by omega
    simp [ne]
    refine Ret.bind (draw T (by decide) (by decide)) ?_
    rintro _ M1 ⟨r1, rfl, h0, h1, A1⟩
    by_cases c : r1 = 3
    · simp [c]
      exact .ok ⟨.point, rfl, trivial, Nat.zero_le _, Nat.zero_le _, A1⟩
    · simp [c]
      obtain ⟨d, M2, e, r, h1, h2, h3, h4, A2⟩ := ih deep rfl M1 t thin A1.tape
      rw [show ((deep + 1 : Nat) : Int) = (deep : Int) + 1 from by omega] at e
      rw [e]
      simp
      exact .ok ⟨r, h1, h2, h3, h4, A1.trans A2⟩
theorem rule_ok : ∀ (n deep : Nat), 2 * deep + 1 ≤ n → RuleOk (m_l_rule n) deep
  | 0, deep, h => by omega
  | n + 1, deep, h => by
    refine rule_step fun d hd => ?_
    match n, h with
    | 0, h => omega
    | n + 1, h =>
      subst hd
      exact unit_ok fun d' hd' => rule_ok n d' (by omega)
def AnyRuleQ (t : Nat) (M : Mem) (d : D) (M' : Mem) : Prop := ∃ r : Rule, d = r.toD ∧ r.good ∧ r.depth ≤ 4 ∧ r.units ≤ 7 ∧ Adv t M M'
theorem any_rule {M : Mem} {t : Nat} (T : Tape M t) : Ret (m_l_any_rule [.ref t] M) (AnyRuleQ t M) := by
  show Ret (endS (b_l_any_rule [some (.ref t), none] M)) _
  unfold b_l_any_rule
  simp
  refine Ret.bind (draw T (by decide) (by decide)) ?_
  rintro _ M1 ⟨r1, rfl, h0, h1, A1⟩
  obtain ⟨dp, th, e1, e2, hdp, hub⟩ : ∃ dp th : Nat, atI [D.int 2, D.int 1, D.int 2, D.int 3, D.int 3, D.int 4] r1 = some (.int dp) ∧ atI [D.int 3, D.int 3, D.int 3, D.int 3, D.int 1, D.int 1] r1 = some (.int th) ∧ dp ≤ 4 ∧ ub dp th ≤ 7 := by
    rcases (show r1 = 0 ∨ r1 = 1 ∨ r1 = 2 ∨ r1 = 3 ∨ r1 = 4 ∨ r1 = 5 by omega) with rfl | rfl | rfl | rfl | rfl | rfl
    · exact ⟨2, 3, by simp, by simp, by decide, by simp [ub]⟩
    · exact ⟨1, 3, by simp, by simp, by decide, by simp [ub]⟩
    · exact ⟨2, 3, by simp, by simp, by decide, by simp [ub]⟩
    · exact ⟨3, 3, by simp, by simp, by decide, by simp [ub]⟩
    · exact ⟨3, 1, by simp, by simp, by decide, by simp [ub]⟩
    · exact ⟨4, 1, by simp, by simp, by decide, by simp [ub]⟩
  simp [seqAt, e1, e2]
  refine Ret.bind (rule_ok 14 dp (by omega) _ t th (A1.tape.keep (Keep.more _ _))) ?_
  rintro _ M2 ⟨r, rfl, g1, g2, g3, A2⟩
  exact .ok ⟨r, rfl, g1, by omega, by omega, A1.trans ((Adv.of A1.tape (Keep.more _ _)).trans A2)⟩
end CM
end
section
set_option maxHeartbeats 4000000
namespace CM
open PySem PySem.Spec PyProof.Rows L2 TL RL
noncomputable section
def b_l_alike (r_l_alike : Fn) : MS := (sSeq (sIf (tTru (eIsi "tuple" (eVar 1))) (sSeq (sIf (tOr (tNot (tTru (eIsi "tuple" (eVar 0)))) (tB (eBin mNe (eCallO nLen (aCons (eVar 0) aNil)) (eCallO nLen (aCons (eVar 1) aNil))))) (sRet (eC (.bl false))) sNil)
    (sRet (eBin mNotIn (eC (.bl false)) (eComp 2 (iRange1 (eCallO nLen (aCons (eVar 1) aNil))) tYesD (eCall r_l_alike (aCons (eBin mIdx (eVar 0) (eVar 2)) (aCons (eBin mIdx (eVar 1) (eVar 2)) aNil))))))) sNil)
    (sSeq (sIf (tTru (eIsi "bool" (eVar 1))) (sRet (eAnd (eIsi "bool" (eVar 0)) (eBin mEq (eVar 0) (eVar 1)))) sNil)
    (sRet (eAnd (eIsi "int" (eVar 0)) (eAnd (eNot (eIsi "bool" (eVar 0))) (eBin mEq (eVar 0) (eVar 1)))))))
def m_l_alike : Nat → Fn
  | 0 => noFn
  | n + 1 => fnD 2 3 (b_l_alike (m_l_alike n))
end
section
variable {r : Rule} {M : Mem}
theorem ix1 (h : r ≠ .point) : mIdx r.toD (.int 1) M = some (.int r.to, M) := by rw [toD_unit h]; simp
theorem ix2 (h : r ≠ .point) : mIdx r.toD (.int 2) M = some (.int r.lead, M) := by rw [toD_unit h]; simp
end
@[simp] theorem isNon_lastD {l : Option Rule} : isNon (lastD l) = l.isNone := by cases l <;> simp [lastD]
/-- all but the list at e stand -/
def KeepX (e : Nat) (M M' : Mem) : Prop := M.length ≤ M'.length ∧ ∀ n, n < M.length → n ≠ e → M'[n]? = M[n]?
theorem KeepX.refl (e : Nat) (M : Mem) : KeepX e M M := ⟨Nat.le_refl _, fun _ _ _ => rfl⟩
theorem KeepX.trans {e : Nat} {M M1 M2 : Mem} (a : KeepX e M M1) (b : KeepX e M1 M2) : KeepX e M M2 := ⟨Nat.le_trans a.1 b.1, fun n h hn => (b.2 n (Nat.lt_of_lt_of_le h a.1) hn).trans (a.2 n h hn)⟩
theorem Keep.x {e : Nat} {M M1 : Mem} (a : Keep M M1) : KeepX e M M1 := ⟨a.1, fun n h _ => a.2 n h⟩
theorem KeepX.at {e : Nat} {M M' : Mem} (k : KeepX e M M') {n : Nat} {o : MO} (h : M[n]? = some o) (hn : n ≠ e) : M'[n]? = some o := (k.2 n (lt_of_at h) hn).trans h
theorem KeepX.set (e : Nat) (M : Mem) (o : MO) : KeepX e M (M.set e o) := ⟨by rw [List.length_set]; omega, fun n _ hn => List.getElem?_set_ne (Ne.symm hn)⟩
theorem KeepX.setNew {e : Nat} {M M' : Mem} {n : Nat} {o : MO} (k : KeepX e M M') (h : M.length ≤ n) : KeepX e M (M'.set n o) :=
  ⟨by rw [List.length_set]; exact k.1, fun m hm hn => by rw [List.getElem?_set_ne (by omega)]; exact k.2 m hm hn⟩
def RowQ (t : Nat) (M : Mem) (n : Nat) (d : D) (M' : Mem) : Prop := ∃ (k : Nat) (xs : List Bool), d = .ref k ∧ M.length ≤ k ∧ M'[k]? = some (.lst (xs.map sideD)) ∧ xs.length = n ∧ Adv t M M'
theorem Adv.setNew {t : Nat} {M M' : Mem} {k : Nat} {o : MO} (a : Adv t M M') (h : M.length ≤ k) (hk : k ≠ t) (hnl : ∀ s, M'[t]? = some (.lst s) → ∀ q, s[0]? = some (.ref q) → q ≠ k) : Adv t M (M'.set k o) := by
  obtain ⟨⟨s, ns, spot, left, way, ht, hs, hl, hp⟩, h1, h2⟩ := a
  refine ⟨⟨s, ns, spot, left, way, by rw [List.getElem?_set_ne hk]; exact ht, ?_, hl, hp⟩, by rw [List.length_set]; exact h1, fun n hn hne => by rw [List.getElem?_set_ne (by omega)]; exact h2 n hn hne⟩
  rw [List.getElem?_set_ne (Ne.symm (hnl _ ht s rfl))]
  exact hs
/-- a list of ours is no tape's script -/
theorem Adv.setLst {t : Nat} {M M' : Mem} {k : Nat} {xs : List D} {o : MO} (a : Adv t M M') (h : M.length ≤ k) (hk : k ≠ t) (hx : M'[k]? = some (.lst xs)) : Adv t M (M'.set k o) := by
  refine a.setNew h hk fun s hs q hq e => ?_
  obtain ⟨⟨s', ns, spot, left, way, ht, hs', _⟩, _⟩ := a
  rw [ht] at hs
  cases hs
  cases hq
  subst e
  rw [hx] at hs'
  cases hs'
/-- tuples of whole numbers and truths -/
inductive Nice : Nat → D → Prop
  | int (n : Nat) (i : Int) : Nice n (.int i)
  | bl (n : Nat) (b : Bool) : Nice n (.bl b)
  | tup (n : Nat) {xs : List D} : xs.length ≤ 1000 → (∀ x ∈ xs, Nice n x) → Nice (n + 1) (.tup xs)
end CM
end
section
set_option maxHeartbeats 4000000
namespace CM
open PySem PySem.Spec PyProof.Rows L2 TL RL
theorem cutL_to {α : Type} {xs : List α} {k : Nat} (h : k ≤ xs.length) : cutL xs none (some (k : Int)) = xs.take k := by
  unfold cutL
  rw [HT.sIx_nat, HT.sIx_none, Nat.min_eq_left h]
  simp
/-- the stand behind so many rallies -/
def standAt (r : Rule) (ys : List Bool) (k : Nat) : Stand := runS r (begunR r) (ys.take k)
theorem standAt_zero {r : Rule} {ys : List Bool} : standAt r ys 0 = begunR r := rfl
theorem standAt_succ {r : Rule} {ys : List Bool} {k : Nat} (h : k < ys.length) : standAt r ys (k + 1) = (ralliedR r (standAt r ys k) ys[k]).1 := by
  unfold standAt
  rw [List.take_succ_eq_append_getElem h, runS_append]
  rfl
/-- a row that is played on, ended or not -/
structure Walk (r : Rule) (ys : List Bool) (ended : Bool) : Prop where
  alive : ∀ k, k < ys.length → Alive r (begunR r) (ys.take k)
  won : ∀ k (h : k < ys.length), (ralliedR r (standAt r ys k) ys[k]).2 = (ended && decide (k + 1 = ys.length))
theorem Walk.open {r : Rule} {ys : List Bool} {b : Bool} (w : Walk r ys b) (hg : r.good) {k : Nat} (hk : k < ys.length) : Open r (standAt r ys k) ∧ Below r (standAt r ys k) :=
  alive_open hg (open_begun _ _ (Nat.le_refl _)) (below_begun _ _ (Nat.le_refl _) hg) (w.alive k hk)
theorem fits_rallied : ∀ {s : Stand} {r : Rule} {side : Bool}, Open r s → Fits r (ralliedR r s side).1 ∧ (r = .point ↔ (ralliedR r s side).1 = .nil)
  | .nil, r, side, h => ⟨trivial, fun _ => rfl, fun _ => h⟩
  | .st z o w, r, side, h => by
    have ih := fits_rallied (side := side) h.2
    simp only [ralliedR]
    split
    · split
      · exact ⟨⟨h.1, trivial⟩, fun e => absurd e h.1, fun e => by cases e⟩
      · exact ⟨⟨h.1, CM.Open.fits (open_begun _ _ (Nat.le_refl _))⟩, fun e => absurd e h.1, fun e => by cases e⟩
    · exact ⟨⟨h.1, ih.1⟩, fun e => absurd e h.1, fun e => by cases e⟩
theorem open_nil : ∀ {s : Stand} {r : Rule}, Open r s → (r = .point ↔ s = .nil)
  | .nil, r, h => ⟨fun _ => rfl, fun _ => h⟩
  | .st z o w, r, h => ⟨fun e => absurd e h.1, fun e => by cases e⟩
theorem Walk.fits {r : Rule} {ys : List Bool} {b : Bool} (w : Walk r ys b) (hg : r.good) {k : Nat} (hk : k ≤ ys.length) : Fits r (standAt r ys k) ∧ (r = .point ↔ standAt r ys k = .nil) := by
  cases k with
  | zero =>
    rw [standAt_zero]
    have h := open_begun _ r (Nat.le_refl _)
    exact ⟨CM.Open.fits h, open_nil h⟩
  | succ k =>
    rw [standAt_succ (by omega)]
    exact fits_rallied (w.open hg (by omega)).1
theorem Walk.depth {r : Rule} {ys : List Bool} {b : Bool} (w : Walk r ys b) (hg : r.good) {k : Nat} (hk : k ≤ ys.length) : (standAt r ys k).depth ≤ r.depth := fits_depth (w.fits hg hk).1
/-- the stands along a row -/
def standsD (r : Rule) (ys : List Bool) (n : Nat) : List D := ((List.range n).map (standAt r ys)).map Stand.toD
@[simp] theorem standsD_length {r : Rule} {ys : List Bool} {n : Nat} : (standsD r ys n).length = n := by simp [standsD]
theorem rng_cons (lo : Int) (n : Nat) : rngItems lo (n + 1) = .int lo :: rngItems (lo + 1) n := by
  unfold rngItems
  rw [List.range_succ_eq_map]
  simp only [List.map_cons, List.map_map]
  congr 1
  · simp
  · refine List.map_congr_left fun k _ => ?_
    simp only [Function.comp]
    congr 1
    omega
theorem less_within {r : Rule} (z o : Int) : within r (z - lessR r z o) (o - lessR r z o) = within r z o := by
  unfold lessR
  cases hc : r.cap with
  | some c => simp
  | none =>
    cases hl : r.last with
    | none => simp [within, hl]
    | some l => obtain ⟨c, hc'⟩ := cap_last hl; rw [hc] at hc'; cases hc'
theorem open_cut : ∀ {s : Stand} {r : Rule}, Open r s → Open r (cutR r s)
  | .nil, r, h => by rw [cutR_nil]; exact h
  | .st z o w, r, h => ⟨h.1, by rw [less_within]; exact open_cut h.2⟩
theorem cut_nil {s : Stand} {r : Rule} : cutR r s = .nil ↔ s = .nil := by
  cases s with
  | nil => simp [cutR_nil]
  | st z o w => simp [cutR]
theorem cut_cut : ∀ (s : Stand) (r : Rule), cutR r (cutR r s) = cutR r s
  | .nil, r => by rw [cutR_nil, cutR_nil]
  | .st z o w, r => by
    have e : lessR r (z - lessR r z o) (o - lessR r z o) = 0 := by
      unfold lessR
      cases r.cap with
      | some c => rfl
      | none => simp only; omega
    simp only [cutR]
    rw [e, less_within, cut_cut w]
    simp
/-- stands cut to the same one have one future -/
theorem cut_counts {r : Rule} (hg : r.good) (hp : r ≠ .point) {z o z' o' : Int} (h1 : z - lessR r z o = z' - lessR r z' o') (h2 : o - lessR r z o = o' - lessR r z' o') (x : Bool) :
    wonR r (ownC (RL.bump z o x) x) (otherC (RL.bump z o x) x) = wonR r (ownC (RL.bump z' o' x) x) (otherC (RL.bump z' o' x) x) ∧
    (RL.bump z o x).1 - lessR r (RL.bump z o x).1 (RL.bump z o x).2 = (RL.bump z' o' x).1 - lessR r (RL.bump z' o' x).1 (RL.bump z' o' x).2 ∧
    (RL.bump z o x).2 - lessR r (RL.bump z o x).1 (RL.bump z o x).2 = (RL.bump z' o' x).2 - lessR r (RL.bump z' o' x).1 (RL.bump z' o' x).2 := by
  have hn := good_num hg hp
  cases hc : r.cap with
  | some c =>
    have l1 : ∀ a b, lessR r a b = 0 := fun a b => by simp only [lessR, hc]
    rw [l1, l1] at h1 h2
    have e1 : z = z' := by omega
    have e2 : o = o' := by omega
    subst e1; subst e2
    exact ⟨rfl, rfl, rfl⟩
  | none =>
    have l1 : ∀ a b, lessR r a b = max 0 (min a b - r.to + 1) := fun a b => by simp only [lessR, hc]
    rw [l1, l1] at h1 h2
    refine ⟨?_, ?_, ?_⟩
    · unfold wonR
      rw [hc]
      simp only [reduceCtorEq, decide_false, Bool.false_or]
      cases x <;> simp only [RL.bump, ownC, otherC, if_true, Bool.false_eq_true, if_false]
      · have : (r.to ≤ z + 1 ∧ r.lead ≤ z + 1 - o) ↔ (r.to ≤ z' + 1 ∧ r.lead ≤ z' + 1 - o') := by omega
        simp only [← Bool.decide_and]
        exact decide_eq_decide.mpr this
      · have : (r.to ≤ o + 1 ∧ r.lead ≤ o + 1 - z) ↔ (r.to ≤ o' + 1 ∧ r.lead ≤ o' + 1 - z') := by omega
        simp only [← Bool.decide_and]
        exact decide_eq_decide.mpr this
    · rw [l1, l1]; cases x <;> simp only [RL.bump, if_true, Bool.false_eq_true, if_false] <;> omega
    · rw [l1, l1]; cases x <;> simp only [RL.bump, if_true, Bool.false_eq_true, if_false] <;> omega
theorem cut_within {r : Rule} {z o z' o' : Int} (h1 : z - lessR r z o = z' - lessR r z' o') (h2 : o - lessR r z o = o' - lessR r z' o') : within r z o = within r z' o' := by
  rw [← less_within z o, ← less_within z' o', h1, h2]
theorem cut_step : ∀ {s s' : Stand} {r : Rule} {x : Bool}, r.good → Open r s → Open r s' → cutR r s = cutR r s' → (ralliedR r s x).2 = (ralliedR r s' x).2 ∧ cutR r (ralliedR r s x).1 = cutR r (ralliedR r s' x).1
  | .nil, s', r, x, hg, h, h', e => by
    have e1 : s' = .nil := cut_nil.mp (by rw [← e, cutR_nil])
    subst e1
    exact ⟨rfl, rfl⟩
  | .st z o w, .nil, r, x, hg, h, h', e => absurd h' h.1
  | .st z o w, .st z' o' w', r, x, hg, h, h', e => by
    simp only [cutR, Stand.st.injEq] at e
    obtain ⟨h1, h2, h3⟩ := e
    have hw := cut_within h1 h2
    have ih := cut_step (s := w) (s' := w') (r := within r z o) (x := x) (good_within hg z o) h.2 (by rw [hw]; exact h'.2) (by rw [h3, hw])
    obtain ⟨c1, c2, c3⟩ := cut_counts hg h.1 h1 h2 x
    have hw2 := cut_within c2 c3
    have ih2 := ih.2
    simp only [ralliedR]
    rw [← hw, ← ih.1]
    cases hq : (ralliedR (within r z o) w x).2 with
    | false =>
      simp only [Bool.false_eq_true, if_false, true_and, cutR]
      rw [← hw, ih2, h1, h2]
    | true =>
      simp only [if_true]
      rw [← c1]
      cases wonR r (ownC (RL.bump z o x) x) (otherC (RL.bump z o x) x) with
      | true =>
        simp only [if_true, true_and, cutR]
        rw [c2, c3]
      | false =>
        simp only [Bool.false_eq_true, if_false, true_and, cutR]
        rw [c2, c3, hw2]
theorem mNe_bl {M : Mem} (b c : Bool) : mNe (.bl b) (.bl c) M = some (.bl (b != c), M) := by
  rw [mNe_eq, eqD_pure (n := 0) (m := 0) (by simp [pureD]) (by simp [pureD]) (by omega) (by omega)]
  cases b <;> cases c <;> simp [pyD, PyData.eqv]
end CM
end
section
set_option maxHeartbeats 4000000
namespace RB
open PySem PySem.Spec PyProof.Rows L2 TL RL CM
structure LRow where
  done : Int
  ball : Int
  up : Int
  near : Int
  far : Int
  extra : Int
  total : Int
def LRow.toD (r : LRow) : D := .tup [.int r.done, .int r.ball, .int r.up, .int r.near, .int r.far, .int r.extra, .int r.total]
/-- the program's step -/
def frameB (P n : Int) (r : LRow) (near far earned : Int) : LRow × Bool :=
  if r.done = n - 1 ∧ 0 < earned then (⟨r.done, 0, P, near, far, earned, r.total⟩, false) else (⟨r.done + 1, 0, P, near, far, 0, r.total⟩, true)
def extraB (P : Int) (r : LRow) : LRow × Bool :=
  if r.extra = 1 then (⟨r.done + 1, 0, P, r.near, r.far, 0, r.total⟩, true) else (⟨r.done, 0, if r.up = 0 then P else r.up, r.near, r.far, r.extra - 1, r.total⟩, false)
def stepR (P n : Int) (r : LRow) (p : Int) : LRow × Bool :=
  if 0 < r.extra then extraB P ⟨r.done, 0, r.up - p, r.far, 0, r.extra, r.total + p * r.near⟩
  else if r.up = p ∧ r.ball = 0 then frameB P n ⟨r.done, r.ball + 1, r.up - p, r.far, 0, 0, r.total + p * r.near + p⟩ (r.far + 1) 1 2
  else if r.up = p then frameB P n ⟨r.done, r.ball + 1, r.up - p, r.far, 0, 0, r.total + p * r.near + p⟩ (r.far + 1) 0 1
  else if r.ball = 1 then frameB P n ⟨r.done, r.ball + 1, r.up - p, r.far, 0, 0, r.total + p * r.near + p⟩ r.far 0 0
  else (⟨r.done, r.ball + 1, r.up - p, r.far, 0, 0, r.total + p * r.near + p⟩, false)
/-- a frame of a sheet: where it begins, where it ends, how many balls it earns -/
structure Fr where
  b : Nat
  e : Nat
  q : Nat
/-- a sheet, read: the frames done, the first ball of one begun -/
structure Sh where
  g : List Fr
  h : Option Int
def push (P : Int) (n L : Nat) (s : Sh) (p : Int) : Sh := match s.h with
  | some a => ⟨s.g ++ [⟨L - 1, L + 1, if a + p = P then 1 else 0⟩], none⟩
  | none => if s.g.length < n then (if p = P then ⟨s.g ++ [⟨L, L + 1, 2⟩], none⟩ else ⟨s.g, some p⟩) else s
/-- of balls, from the first one on -/
def sh (P : Int) (n : Nat) (bs : List Int) : Sh :=
  (bs.foldl (fun (x : Sh × Nat) p => (push P n x.2 x.1 p, x.2 + 1)) (⟨[], none⟩, 0)).1
/-- how many frames still earn the ball that comes behind m -/
def cnt (g : List Fr) (m : Nat) : Nat := (g.filter fun f => decide (m < f.e + f.q)).length
def own (bs : List Int) (f : Fr) : Int := ((bs.drop f.b).take (f.e - f.b)).sum
def more (bs : List Int) (f : Fr) : Int := ((bs.drop f.e).take f.q).sum
def tot (bs : List Int) (s : Sh) : Int := (s.g.map fun f => own bs f + more bs f).sum + s.h.getD 0
/-- what is known of a sheet -/
structure Ok (P : Int) (n : Nat) (bs : List Int) (s : Sh) : Prop where
  ends : ∀ f ∈ s.g, f.b ≤ f.e ∧ f.e ≤ bs.length ∧ f.q ≤ 2
  len : s.g.length ≤ n
  half : ∀ a, s.h = some a → s.g.length < n ∧ 1 ≤ bs.length ∧ bs[bs.length - 1]? = some a ∧ 0 ≤ a ∧ a < P
/-- the last frame -/
def lastF (s : Sh) : Fr := s.g.getLastD ⟨0, 0, 0⟩
/-- balls behind the last frame that are still to come -/
def ex (n : Nat) (bs : List Int) (s : Sh) : Int := if s.h = none ∧ s.g.length = n then (lastF s).q - ((bs.length - (lastF s).e : Nat) : Int) else 0
def upR (P : Int) (n : Nat) (bs : List Int) (s : Sh) : Int := match s.h with
  | some a => P - a
  | none => if 0 < ex n bs s ∧ (lastF s).e < bs.length ∧ bs.getLastD 0 < P then P - bs.getLastD 0 else P
def row (P : Int) (n : Nat) (bs : List Int) (s : Sh) : LRow :=
  ⟨s.g.length - (if 0 < ex n bs s then 1 else 0), if s.h.isSome then 1 else 0, upR P n bs s, cnt s.g bs.length, cnt s.g (bs.length + 1), ex n bs s, tot bs s⟩
end RB
end
section
set_option maxHeartbeats 4000000
namespace CM
open PySem PySem.Spec PyProof.Rows L2 TL RL RB
noncomputable section
def b_is_between : MS := (sRet (eAnd (eIsi "int" (eVar 0)) (eAnd (eNot (eIsi "bool" (eVar 0))) (eChain mLe mLe (eVar 1) (eVar 0) (eVar 2)))))
def m_is_between : Fn := fnD 3 3 b_is_between
def b_lane_begun : MS := (sRet (eTup (aCons (eBin mMul (eTup (aCons (eTup (aCons (eC (.int 0)) (aCons (eC (.int 0)) (aCons (eBin mIdx (eVar 0) (eC (.int 1))) (aCons (eC (.int 0)) (aCons (eC (.int 0)) (aCons (eC (.int 0)) (aCons (eC (.int 0)) aNil)))))))) aNil)) (eBin mIdx (eVar 0) (eC (.int 0)))) (aCons (eC (.int 0)) aNil))))
def m_lane_begun : Fn := fnD 1 1 b_lane_begun
def b_frame_behind : MS := (sSeq (sIf (tAnd (tB (eBin mEq (eBin mIdx (eVar 1) (eC (.int 0))) (eBin mSub (eBin mIdx (eVar 0) (eC (.int 2))) (eC (.int 1))))) (tB (eBin mGt (eVar 4) (eC (.int 0))))) (sRet (eTup (aCons (eTup (aCons (eBin mIdx (eVar 1) (eC (.int 0))) (aCons (eC (.int 0)) (aCons (eBin mIdx (eVar 0) (eC (.int 1))) (aCons (eVar 2) (aCons (eVar 3) (aCons (eVar 4) (aCons (eBin mIdx (eVar 1) (eC (.int 6))) aNil)))))))) (aCons (eC (.bl false)) aNil)))) sNil)
    (sRet (eTup (aCons (eTup (aCons (eBin mAdd (eBin mIdx (eVar 1) (eC (.int 0))) (eC (.int 1))) (aCons (eC (.int 0)) (aCons (eBin mIdx (eVar 0) (eC (.int 1))) (aCons (eVar 2) (aCons (eVar 3) (aCons (eC (.int 0)) (aCons (eBin mIdx (eVar 1) (eC (.int 6))) aNil)))))))) (aCons (eC (.bl true)) aNil)))))
def m_frame_behind : Fn := fnD 5 5 b_frame_behind
def b_extra_behind : MS := (sSeq (sIf (tB (eBin mEq (eBin mIdx (eVar 1) (eC (.int 5))) (eC (.int 1)))) (sRet (eTup (aCons (eTup (aCons (eBin mAdd (eBin mIdx (eVar 1) (eC (.int 0))) (eC (.int 1))) (aCons (eC (.int 0)) (aCons (eBin mIdx (eVar 0) (eC (.int 1))) (aCons (eBin mIdx (eVar 1) (eC (.int 3))) (aCons (eBin mIdx (eVar 1) (eC (.int 4))) (aCons (eC (.int 0)) (aCons (eBin mIdx (eVar 1) (eC (.int 6))) aNil)))))))) (aCons (eC (.bl true)) aNil)))) sNil)
    (sSeq (sAsg (gOne 2) (eBin mIdx (eVar 1) (eC (.int 2))))
    (sSeq (sIf (tB (eBin mEq (eVar 2) (eC (.int 0)))) (sAsg (gOne 2) (eBin mIdx (eVar 0) (eC (.int 1)))) sNil)
    (sRet (eTup (aCons (eTup (aCons (eBin mIdx (eVar 1) (eC (.int 0))) (aCons (eC (.int 0)) (aCons (eVar 2) (aCons (eBin mIdx (eVar 1) (eC (.int 3))) (aCons (eBin mIdx (eVar 1) (eC (.int 4))) (aCons (eBin mSub (eBin mIdx (eVar 1) (eC (.int 5))) (eC (.int 1))) (aCons (eBin mIdx (eVar 1) (eC (.int 6))) aNil)))))))) (aCons (eC (.bl false)) aNil)))))))
def m_extra_behind : Fn := fnD 2 3 b_extra_behind
def b_row_behind : MS := (sSeq (sAsg (gTupD [5, 6, 7, 8, 9, 10, 3]) (eVar 1))
    (sSeq (sAsg (gOne 3) (eBin mAdd (eVar 3) (eBin mMul (eVar 2) (eVar 8))))
    (sSeq (sIf (tB (eBin mGt (eVar 10) (eC (.int 0)))) (sRet (eCall m_extra_behind (aCons (eVar 0) (aCons (eTup (aCons (eVar 5) (aCons (eC (.int 0)) (aCons (eBin mSub (eVar 7) (eVar 2)) (aCons (eVar 9) (aCons (eC (.int 0)) (aCons (eVar 10) (aCons (eVar 3) aNil)))))))) aNil)))) sNil)
    (sSeq (sAsg (gOne 4) (eTup (aCons (eVar 5) (aCons (eBin mAdd (eVar 6) (eC (.int 1))) (aCons (eBin mSub (eVar 7) (eVar 2)) (aCons (eVar 9) (aCons (eC (.int 0)) (aCons (eC (.int 0)) (aCons (eBin mAdd (eVar 3) (eVar 2)) aNil)))))))))
    (sSeq (sIf (tAnd (tB (eBin mEq (eVar 7) (eVar 2))) (tB (eBin mEq (eVar 6) (eC (.int 0))))) (sRet (eCall m_frame_behind (aCons (eVar 0) (aCons (eVar 4) (aCons (eBin mAdd (eVar 9) (eC (.int 1))) (aCons (eC (.int 1)) (aCons (eC (.int 2)) aNil))))))) sNil)
    (sSeq (sIf (tB (eBin mEq (eVar 7) (eVar 2))) (sRet (eCall m_frame_behind (aCons (eVar 0) (aCons (eVar 4) (aCons (eBin mAdd (eVar 9) (eC (.int 1))) (aCons (eC (.int 0)) (aCons (eC (.int 1)) aNil))))))) sNil)
    (sSeq (sIf (tB (eBin mEq (eVar 6) (eC (.int 1)))) (sRet (eCall m_frame_behind (aCons (eVar 0) (aCons (eVar 4) (aCons (eVar 9) (aCons (eC (.int 0)) (aCons (eC (.int 0)) aNil))))))) sNil)
    (sRet (eTup (aCons (eVar 4) (aCons (eC (.bl false)) aNil)))))))))))
def m_row_behind : Fn := fnD 3 11 b_row_behind
def b_lane_bowled : MS := (sSeq (sAsg (gTupD [3, 4]) (eVar 1))
    (sSeq (sIf (tNot (tTru (eCall m_is_between (aCons (eVar 2) (aCons (eC (.int 0)) (aCons (eBin mIdx (eBin mIdx (eVar 3) (eVar 4)) (eC (.int 2))) aNil)))))) (sRaise "NoPins") sNil)
    (sSeq (sAsg (gTupD [5, 6]) (eCall m_row_behind (aCons (eVar 0) (aCons (eBin mIdx (eVar 3) (eVar 4)) (aCons (eVar 2) aNil)))))
    (sSeq (sAsg (gOne 3) (eBin mAdd (eBin mAdd (eSl (eVar 3) oNone (oSome (eVar 4))) (eTup (aCons (eVar 5) aNil))) (eSl (eVar 3) (oSome (eBin mAdd (eVar 4) (eC (.int 1)))) oNone)))
    (sSeq (sIf (tTru (eVar 6)) (sAsg (gOne 4) (eBin mMod (eBin mAdd (eVar 4) (eC (.int 1))) (eBin mIdx (eVar 0) (eC (.int 0))))) sNil)
    (sRet (eTup (aCons (eTup (aCons (eVar 3) (aCons (eVar 4) aNil))) (aCons (eCallO nAll (aCons (eComp 7 (iAny (eVar 3)) tYesD (eBin mEq (eBin mIdx (eVar 7) (eC (.int 0))) (eBin mIdx (eVar 0) (eC (.int 2))))) aNil)) aNil)))))))))
def m_lane_bowled : Fn := fnD 3 8 b_lane_bowled
def b_best_of : MS := (sSeq (sAsg (gOne 1) (eComp 2 (iAny (eBin mIdx (eVar 0) (eC (.int 0)))) tYesD (eBin mIdx (eVar 2) (eC (.int 6)))))
    (sRet (eCallO nTuple (aCons (eComp 3 (iRange1 (eCallO nLen (aCons (eVar 1) aNil))) (tB (eBin mEq (eBin mIdx (eVar 1) (eVar 3)) (eCallO nMax (aCons (eVar 1) aNil)))) (eVar 3)) aNil))))
def m_best_of : Fn := fnD 1 4 b_best_of
def b_l_lane : MS := (sSeq (sAsg (gOne 1) (eBin mIdx (eLst (aCons (eBin mAdd (eC (.int 1)) (eCall m_l_draw (aCons (eVar 0) (aCons (eC (.int 4)) aNil)))) (aCons (eC (.int 10)) (aCons (eBin mAdd (eC (.int 1)) (eCall m_l_draw (aCons (eVar 0) (aCons (eC (.int 20)) aNil)))) aNil)))) (eCall m_l_draw (aCons (eVar 0) (aCons (eC (.int 3)) aNil)))))
    (sSeq (sAsg (gOne 2) (eBin mIdx (eLst (aCons (eBin mAdd (eC (.int 1)) (eCall m_l_draw (aCons (eVar 0) (aCons (eC (.int 3)) aNil)))) (aCons (eBin mAdd (eC (.int 1)) (eCall m_l_draw (aCons (eVar 0) (aCons (eC (.int 12)) aNil)))) aNil))) (eCall m_l_draw (aCons (eVar 0) (aCons (eC (.int 2)) aNil)))))
    (sRet (eTup (aCons (eBin mAdd (eC (.int 1)) (eCall m_l_draw (aCons (eVar 0) (aCons (eC (.int 3)) aNil)))) (aCons (eVar 1) (aCons (eVar 2) aNil)))))))
def m_l_lane : Fn := fnD 1 3 b_l_lane
end
def laneD (k : Nat) (P : Int) (n : Nat) : D := .tup [.int (k : Nat), .int P, .int (n : Nat)]
structure Lane (k : Nat) (P : Int) (n : Nat) : Prop where
  k0 : 1 ≤ k
  k1 : k ≤ 3
  p0 : 1 ≤ P
  p1 : P ≤ 20
  n0 : 1 ≤ n
  n1 : n ≤ 12
theorem between_ok (i lo hi : Int) (M : Mem) : m_is_between [.int i, .int lo, .int hi] M = .ok (.bl (decide (lo ≤ i) && decide (i ≤ hi))) M := by
  show endS (b_is_between [some (.int i), some (.int lo), some (.int hi)] M) = _
  unfold b_is_between
  by_cases c : lo ≤ i <;> simp [c]
def freshR (P : Int) : LRow := ⟨0, 0, P, 0, 0, 0, 0⟩
def standD (rows : List LRow) (side : Nat) : D := .tup [.tup (rows.map LRow.toD), .int (side : Nat)]
theorem lane_begun_ok {k : Nat} {P : Int} {n : Nat} (l : Lane k P n) (M : Mem) : m_lane_begun [laneD k P n] M = .ok (standD (List.replicate k (freshR P)) 0) M := by
  show endS (b_lane_begun [some (laneD k P n)] M) = _
  unfold b_lane_begun laneD
  have h0 := l.k0
  have h1 := l.k1
  rcases (show k = 1 ∨ k = 2 ∨ k = 3 by omega) with rfl | rfl | rfl
  · simp [mMul, standD, freshR, LRow.toD]
  · simp [mMul, standD, freshR, LRow.toD, List.replicate]
  · simp [mMul, standD, freshR, LRow.toD, List.replicate]
theorem frame_ok {k : Nat} {P : Int} {n : Nat} (r : LRow) (near far earned : Int) (M : Mem) : m_frame_behind [laneD k P n, r.toD, .int near, .int far, .int earned] M = .ok (.tup [(frameB P n r near far earned).1.toD, .bl (frameB P n r near far earned).2]) M := by
  show endS (b_frame_behind [some (laneD k P n), some r.toD, some (.int near), some (.int far), some (.int earned)] M) = _
  unfold b_frame_behind laneD LRow.toD frameB
  by_cases c : r.done = (n : Int) - 1
  · by_cases c2 : 0 < earned
    · simp [c, c2]
    · simp [c, c2]
  · simp [c]
theorem extra_ok {k : Nat} {P : Int} {n : Nat} (r : LRow) (M : Mem) : m_extra_behind [laneD k P n, r.toD] M = .ok (.tup [(extraB P r).1.toD, .bl (extraB P r).2]) M := by
  show endS (b_extra_behind [some (laneD k P n), some r.toD, none] M) = _
  unfold b_extra_behind laneD LRow.toD extraB
  by_cases c : r.extra = 1
  · simp [c]
  · by_cases c2 : r.up = 0
    · simp [c, c2]
    · simp [c, c2]
theorem row_behind_ok {k : Nat} {P : Int} {n : Nat} (r : LRow) {p : Int} (h0 : 0 ≤ p) (h1 : p ≤ 100) (M : Mem) : m_row_behind [laneD k P n, r.toD, .int p] M = .ok (.tup [(stepR P n r p).1.toD, .bl (stepR P n r p).2]) M := by
  show endS (b_row_behind [some (laneD k P n), some r.toD, some (.int p), none, none, none, none, none, none, none, none] M) = _
  unfold b_row_behind stepR
  have hm : ∀ M, mMul (.int p) (.int r.near) M = some (.int (p * r.near), M) := fun M => by rw [mMul_int, if_pos (by omega)]
  have hex := fun x => extra_ok (k := k) (P := P) (n := n) x M
  have hfr := fun x a b c => frame_ok (k := k) (P := P) (n := n) x a b c M
  unfold LRow.toD at *
  by_cases c : 0 < r.extra
  · have h := hex ⟨r.done, 0, r.up - p, r.far, 0, r.extra, r.total + p * r.near⟩
    simp only at h
    simp [-mMul_int, hm, c, h]
  · by_cases c2 : r.up = p
    · by_cases c3 : r.ball = 0
      · have h := hfr ⟨r.done, r.ball + 1, r.up - p, r.far, 0, 0, r.total + p * r.near + p⟩ (r.far + 1) 1 2
        simp only [c2, c3] at h
        simp at h
        simp [-mMul_int, hm, c, c2, c3, h]
      · have h := hfr ⟨r.done, r.ball + 1, r.up - p, r.far, 0, 0, r.total + p * r.near + p⟩ (r.far + 1) 0 1
        simp only [c2] at h
        simp at h
        simp [-mMul_int, hm, c, c2, c3, h]
    · by_cases c3 : r.ball = 1
      · have h := hfr ⟨r.done, r.ball + 1, r.up - p, r.far, 0, 0, r.total + p * r.near + p⟩ r.far 0 0
        simp only [c3] at h
        simp at h
        simp [-mMul_int, hm, c, c2, c3, h]
      · simp [-mMul_int, hm, c, c2, c3]
def isBest (ts : List Int) : D → Bool
  | .int i => decide (ts[i.toNat]? = some (maxI ts))
  | _ => false
def bestD (ts : List Int) : List D := (rngItems 0 ts.length).filter (isBest ts)
theorem best_comp {i j n : Nat} {S : ME} {env : TL.Env} {M : Mem} {ts : List Int} (hS : S env M = .ok (.int (ts.length : Nat)) M) (hj : env[j]? = some (some (.ref n))) (hi : i < env.length) (hij : i ≠ j) (hn : seqAt M n = some (ts.map D.int)) (hne : ts ≠ []) (hl : ts.length ≤ 1000) :
    eComp i (iRange1 S) (TL.tB (eBin mEq (eBin mIdx (eVar j) (eVar i)) (eCallO nMax (aCons (eVar j) aNil)))) (eVar i) env M = .ok (.ref M.length) (M ++ [.lst (bestD ts)]) := by
  have h := eComp_pure (i := i) (s := iRange1 S) (t := TL.tB (eBin mEq (eBin mIdx (eVar j) (eVar i)) (eCallO nMax (aCons (eVar j) aNil)))) (e := eVar i) (env := env) (M := M) (M1 := M) (src := ⟨rngItems 0 ts.length, fun _ => True⟩) (isBest ts) (fun d => d)
    (by simp [hS, rngOk_nat (show ts.length ≤ 1000000 by omega)]) (fun _ => trivial) (by rw [rng_length]; omega) (fun d hd ys => by
      obtain ⟨k, hk, rfl⟩ := mem_rng hd
      have e1 : (env.set i (some (D.int (0 + (k : Int)))))[j]? = some (some (.ref n)) := by rw [List.getElem?_set_ne hij]; exact hj
      have e2 : (env.set i (some (D.int (0 + (k : Int)))))[i]? = some (some (D.int (0 + (k : Int)))) := List.getElem?_set_self hi
      have hs := (Keep.more M [.lst ys]).seq hn
      have hat : atI (ts.map D.int) (k : Int) = some (.int ts[k]) := atI_nat (by rw [List.getElem?_map, List.getElem?_eq_getElem hk]; rfl)
      have hm := nMax_ints hs hne
      have hb : isBest ts (.int (k : Int)) = decide (ts[k] = maxI ts) := by
        simp only [isBest, Int.toNat_natCast, List.getElem?_eq_getElem hk, Option.some.injEq]
      refine ⟨?_, fun _ => ?_⟩
      · simp only [Int.zero_add] at e1 e2 ⊢
        simp [e1, e2, hs, hat, hm, hb]
      · simp only [Int.zero_add] at e1 e2 ⊢
        simp [e2])
  rw [h]
  simp [bestD]
theorem best_of_ok {rows : List LRow} (hr : rows ≠ []) (hl : rows.length ≤ 1000) (side : Nat) (M : Mem) : ∃ M', m_best_of [standD rows side] M = .ok (.tup (bestD (rows.map LRow.total))) M' ∧ Keep M M' := by
  have h1 := eComp_pure (i := 2) (s := iAny (eBin mIdx (eVar 0) (eC (.int 0)))) (t := tYesD) (e := eBin mIdx (eVar 2) (eC (.int 6))) (env := [some (standD rows side), none, none, none]) (M := M) (M1 := M) (src := ⟨rows.map LRow.toD, fun _ => True⟩) (fun _ => true) (fun d => match d with | .tup [_, _, _, _, _, _, x] => x | _ => .non)
    (by simp [standD]) (fun _ => trivial) (by simp; omega) (fun d hd ys => by
      obtain ⟨r, _, rfl⟩ := List.mem_map.mp hd
      exact ⟨rfl, fun _ => by simp [LRow.toD]⟩)
  have e1 : ((rows.map LRow.toD).filter fun _ => true).map (fun d => match d with | .tup [_, _, _, _, _, _, x] => x | _ => D.non) = (rows.map LRow.total).map D.int := by
    rw [List.filter_eq_self.mpr (fun _ _ => rfl), List.map_map, List.map_map]
    exact List.map_congr_left fun r _ => rfl
  simp only [e1] at h1
  obtain ⟨ts, hts⟩ : ∃ ts, ts = rows.map LRow.total := ⟨_, rfl⟩
  have hne : ts ≠ [] := by rw [hts]; simpa using hr
  have htl : ts.length ≤ 1000 := by rw [hts]; simpa using hl
  rw [← hts] at h1 ⊢
  clear e1 hts
  have hs : seqAt (M ++ [.lst (ts.map D.int)]) M.length = some (ts.map D.int) := seqAt_lst (at_len _ _)
  have h2 := best_comp (i := 3) (j := 1) (n := M.length) (S := eCallO nLen (aCons (eVar 1) aNil)) (env := [some (standD rows side), some (.ref M.length), none, none]) (M := M ++ [.lst (ts.map D.int)]) (ts := ts)
    (by simp [hs]) rfl (by simp) (by decide) hs hne htl
  refine ⟨M ++ [.lst (ts.map D.int)] ++ [.lst (bestD ts)], ?_, by rw [List.append_assoc]; exact Keep.more _ _⟩
  show endS (b_best_of [some (standD rows side), none, none, none] M) = _
  unfold b_best_of
  simp [-eComp_ap, h1, h2]
  rw [nTuple_ref (seqAt_lst (xs := bestD ts) (by simp))]
  simp
end CM
end
section
set_option maxHeartbeats 4000000
namespace CF
open PySem PySem.Spec PyProof.Rows L2 TL TLQ
noncomputable section
def b_l_alike (r_l_alike : Fn) : MS := (sSeq (sIf (tOr (tTru (eIsi "tuple" (eVar 0))) (tTru (eIsi "list" (eVar 0)))) (sSeq (sIf (tOr (tB (eBin mNe (eIsi "tuple" (eVar 0)) (eIsi "tuple" (eVar 1)))) (tB (eBin mNe (eIsi "list" (eVar 0)) (eIsi "list" (eVar 1))))) (sRet (eC (.bl false))) sNil)
    (sRet (eAnd (eBin mEq (eCallO nLen (aCons (eVar 0) aNil)) (eCallO nLen (aCons (eVar 1) aNil))) (eCallO nAll (aCons (eComp 2 (iRange1 (eCallO nLen (aCons (eVar 0) aNil))) tYesD (eCall r_l_alike (aCons (eBin mIdx (eVar 0) (eVar 2)) (aCons (eBin mIdx (eVar 1) (eVar 2)) aNil)))) aNil))))) sNil)
    (sSeq (sIf (tB (eBin mIs (eVar 0) (eC .non))) (sRet (eBin mIs (eVar 1) (eC .non))) sNil)
    (sSeq (sIf (tTru (eIsi "str" (eVar 0))) (sRet (eAnd (eIsi "str" (eVar 1)) (eBin mEq (eVar 1) (eVar 0)))) sNil)
    (sSeq (sIf (tTru (eIsi "bool" (eVar 0))) (sRet (eAnd (eIsi "bool" (eVar 1)) (eBin mEq (eVar 1) (eVar 0)))) sNil)
    (sRet (eAnd (eIsi "int" (eVar 1)) (eAnd (eNot (eIsi "bool" (eVar 1))) (eBin mEq (eVar 1) (eVar 0)))))))))
def m_l_alike : Nat → Fn
  | 0 => noFn
  | n + 1 => fnD 2 3 (b_l_alike (m_l_alike n))
end
/-- flat, its text a text -/
def FlatOk : D → Prop
  | .non => True
  | .bl _ => True
  | .int _ => True
  | .str x => PyData.strOk x = true
  | _ => False
/-- the same, lists by what they hold, at most n deep -/
def SameN (M : Mem) : Nat → D → D → Prop
  | 0, d, e => FlatOk d ∧ d = e
  | n + 1, d, e => (FlatOk d ∧ d = e) ∨ ∃ xs ys : List D, ((d = .tup xs ∧ e = .tup ys) ∨ ∃ a b, d = .ref a ∧ e = .ref b ∧ seqAt M a = some xs ∧ seqAt M b = some ys) ∧ xs.length = ys.length ∧ xs.length ≤ 100000 ∧
      ∀ (i : Nat) (x y : D), xs[i]? = some x → ys[i]? = some y → SameN M n x y
theorem SameN.keep {M M' : Mem} (k : Keep M M') : ∀ {n : Nat} {d e : D}, SameN M n d e → SameN M' n d e
  | 0, _, _, h => h
  | n + 1, _, _, .inl h => .inl h
  | n + 1, _, _, .inr ⟨xs, ys, h1, h2, h3, h4⟩ => .inr ⟨xs, ys, h1.imp id fun ⟨a, b, e1, e2, e3, e4⟩ => ⟨a, b, e1, e2, k.seq e3, k.seq e4⟩, h2, h3, fun i x y a b => (h4 i x y a b).keep k⟩
end CF
end
section
namespace RD
open PySem PySem.Spec PyProof.Rows L2 TL
structure Thr where
  name : Str
  worth : Int
  ends : Bool
  deriving Inhabited
def Thr.toD (t : Thr) : D := .tup [.str t.name, .int t.worth, .bl t.ends]
structure Down where
  sides : Nat
  start : Int
  turn : Nat
  throws : List Thr
def Down.toD (d : Down) : D := .tup [.int (d.sides : Nat), .int d.start, .int (d.turn : Nat), .tup (d.throws.map Thr.toD)]
/-- small letters -/
def letter (c : Nat) : Bool := decide (97 ≤ c) && decide (c ≤ 122)
def figure (c : Nat) : Bool := decide (48 ≤ c) && decide (c ≤ 57)
def sign (c : Nat) : Bool := letter c || figure c
def nameL (l : List Nat) : Bool := (match l with
  | [] => false
  | c :: _ => letter c) && (decide (l.length ≤ 8) && l.all sign)
def nameB (x : Str) : Bool := nameL x.cps.toList
structure Good (ts : List Thr) : Prop where
  nd : (ts.map (·.name)).Nodup
  nm : ∀ t ∈ ts, nameB t.name = true
  w0 : ∀ t ∈ ts, 0 ≤ t.worth ∧ t.worth ≤ 1000000
structure DownOk (d : Down) : Prop where
  s0 : 1 ≤ d.sides
  s1 : d.sides ≤ 3
  b0 : 1 ≤ d.start
  b1 : d.start ≤ 1000000
  t0 : 1 ≤ d.turn
  t1 : d.turn ≤ 3
  n0 : 1 ≤ d.throws.length
  n1 : d.throws.length ≤ 30
  good : Good d.throws
def S (l : List Nat) : Str := ⟨l.toArray⟩
theorem sign_lt {c : Nat} (h : sign c = true) : c < 123 := by
  unfold sign letter figure at h
  simp at h
  omega
theorem name_strOk {x : Str} (h : nameB x = true) : PyData.strOk x = true := by
  unfold nameB nameL at h
  unfold PyData.strOk
  rw [← Array.all_toList]
  obtain ⟨_, h2⟩ := Bool.and_eq_true_iff.mp h
  obtain ⟨_, h3⟩ := Bool.and_eq_true_iff.mp h2
  simp only [List.all_eq_true, decide_eq_true_eq] at h3 ⊢
  exact fun c hc => Nat.lt_trans (sign_lt (h3 c hc)) (by decide)
end RD
end
section
set_option maxHeartbeats 4000000
namespace CM
open PySem PySem.Spec PyProof.Rows L2 TL TLQ RD
noncomputable section
def b_l_great : MS := (sRet (eBin mAdd (eBin mMul (eC (.int 1000)) (eCall m_l_draw (aCons (eVar 0) (aCons (eC (.int 1000)) aNil)))) (eCall m_l_draw (aCons (eVar 0) (aCons (eC (.int 1000)) aNil)))))
def m_l_great : Fn := fnD 1 1 b_l_great
def b_l_names : MS := (sSeq (sAsg (gOne 2) (eC (.str "abcdefghijklmnopqrstuvwxyz")))
    (sSeq (sAsg (gOne 3) (eMeth "str" mJoin (eC (.str "")) (aCons (eComp 11 (iRange1 (eC (.int 8))) tYesD (eBin mIdx (eVar 2) (eCall m_l_draw (aCons (eVar 0) (aCons (eC (.int 26)) aNil))))) aNil)))
    (sSeq (sAsg (gOne 4) (eCall m_l_draw (aCons (eVar 0) (aCons (eC (.int 2)) aNil))))
    (sSeq (sAsg (gOne 5) (eCall m_l_draw (aCons (eVar 0) (aCons (eC (.int 8)) aNil))))
    (sSeq (sIf (tAnd (tB (eBin mLe (eVar 1) (eC (.int 8)))) (tB (eBin mEq (eVar 4) (eC (.int 0))))) (sSeq (sAsg (gOne 10) (eComp 11 (iRange1 (eC (.int 8))) tYesD (eSl (eVar 3) oNone (oSome (eBin mAdd (eVar 11) (eC (.int 1)))))))
    (sRet (eSl (eBin mAdd (eSl (eVar 10) (oSome (eVar 5)) oNone) (eSl (eVar 10) oNone (oSome (eVar 5)))) oNone (oSome (eVar 1))))) sNil)
    (sSeq (sAsg (gOne 6) (eBin mAdd (eC (.int 2)) (eCall m_l_draw (aCons (eVar 0) (aCons (eC (.int 7)) aNil)))))
    (sSeq (sAsg (gOne 7) (eBin mAdd (eC (.int 1)) (eCall m_l_draw (aCons (eVar 0) (aCons (eBin mSub (eVar 6) (eC (.int 1))) aNil)))))
    (sSeq (sAsg (gOne 8) (eBin mAdd (eVar 2) (eC (.str "0123456789"))))
    (sSeq (sAsg (gOne 9) (eCall m_l_draw (aCons (eVar 0) (aCons (eC (.int 36)) aNil))))
    (sRet (eComp 11 (iRange1 (eVar 1)) tYesD (eBin mAdd (eBin mAdd (eSl (eVar 3) oNone (oSome (eVar 7))) (eBin mIdx (eVar 8) (eBin mMod (eBin mAdd (eVar 9) (eBin mMul (eC (.int 5)) (eVar 11))) (eC (.int 36))))) (eSl (eVar 3) (oSome (eBin mAdd (eVar 7) (eC (.int 1)))) (oSome (eVar 6)))))))))))))))
def m_l_names : Fn := fnD 2 12 b_l_names
def lp_l_throws_0 : MS := (sSeq (sAsg (gOne 5) (eLst (aCons (eCall m_l_draw (aCons (eVar 0) (aCons (eC (.int 21)) aNil))) (aCons (eCall m_l_draw (aCons (eVar 0) (aCons (eC (.int 21)) aNil))) (aCons (eBin mFdiv (eVar 2) (eC (.int 2))) (aCons (eBin mSub (eVar 2) (eCall m_l_draw (aCons (eVar 0) (aCons (eVar 2) aNil)))) aNil))))))
    (sSeq (sExpr (eMeth "list" mAppend (eVar 5) (aCons (eBin mAdd (eCall m_l_great (aCons (eVar 0) aNil)) (eCall m_l_draw (aCons (eVar 0) (aCons (eC (.int 2)) aNil)))) aNil)))
    (sExpr (eMeth "list" mAppend (eVar 3) (aCons (eTup (aCons (eVar 4) (aCons (eBin mIdx (eVar 5) (eCall m_l_draw (aCons (eVar 0) (aCons (eC (.int 5)) aNil)))) (aCons (eBin mEq (eCall m_l_draw (aCons (eVar 0) (aCons (eC (.int 2)) aNil))) (eC (.int 0))) aNil)))) aNil)))))
def b_l_throws : MS := (sSeq (sAsg (gOne 3) (eLst aNil))
    (sSeq (sFor (iAny (eVar 1)) (gOne 4) lp_l_throws_0)
    (sRet (eCallO nTuple (aCons (eVar 3) aNil)))))
def m_l_throws : Fn := fnD 3 6 b_l_throws
def b_l_down : MS := (sSeq (sAsg (gOne 1) (eBin mIdx (eLst (aCons (eBin mAdd (eC (.int 1)) (eCall m_l_draw (aCons (eVar 0) (aCons (eC (.int 6)) aNil)))) (aCons (eBin mAdd (eC (.int 1)) (eCall m_l_draw (aCons (eVar 0) (aCons (eC (.int 30)) aNil)))) aNil))) (eBin mFdiv (eCall m_l_draw (aCons (eVar 0) (aCons (eC (.int 8)) aNil))) (eC (.int 7)))))
    (sSeq (sAsg (gOne 2) (eLst (aCons (eBin mAdd (eC (.int 1)) (eCall m_l_draw (aCons (eVar 0) (aCons (eC (.int 30)) aNil)))) (aCons (eBin mAdd (eC (.int 1)) (eCall m_l_draw (aCons (eVar 0) (aCons (eC (.int 501)) aNil)))) (aCons (eBin mAdd (eC (.int 1)) (eCall m_l_great (aCons (eVar 0) aNil))) aNil)))))
    (sSeq (sAsg (gOne 3) (eBin mIdx (eVar 2) (eCall m_l_draw (aCons (eVar 0) (aCons (eC (.int 3)) aNil)))))
    (sSeq (sAsg (gOne 4) (eCall m_l_throws (aCons (eVar 0) (aCons (eCall m_l_names (aCons (eVar 0) (aCons (eVar 1) aNil))) (aCons (eVar 3) aNil)))))
    (sRet (eTup (aCons (eBin mAdd (eC (.int 1)) (eCall m_l_draw (aCons (eVar 0) (aCons (eC (.int 3)) aNil)))) (aCons (eVar 3) (aCons (eBin mAdd (eC (.int 1)) (eCall m_l_draw (aCons (eVar 0) (aCons (eC (.int 3)) aNil)))) (aCons (eVar 4) aNil))))))))))
def m_l_down : Fn := fnD 1 5 b_l_down
end
theorem Adv.putLst {t : Nat} {M M' : Mem} {k : Nat} {xs : List D} {o : MO} (a : Adv t M M') (h : M.length ≤ k) (hk : k ≠ t) (hx : M'[k]? = some (.lst xs)) : Adv t M (M'.set k o) := by
  refine ⟨?_, by rw [List.length_set]; exact a.len, fun m hm hmt => by rw [List.getElem?_set_ne (by omega)]; exact a.keep m hm hmt⟩
  obtain ⟨s, ns, spot, left, way, g1, g2, g3⟩ := a.tape
  refine ⟨s, ns, spot, left, way, by rw [List.getElem?_set_ne hk]; exact g1, ?_, g3⟩
  have : k ≠ s := by
    rintro rfl
    rw [hx] at g2
    cases g2
  rw [List.getElem?_set_ne this]
  exact g2
/-- a comprehension whose elements draw -/
theorem compL_drawn {good : Mem → Prop} {i n t : Nat} {e : ME} {env : TL.Env} {P : D → Prop} (M0 : Mem) (hg : ∀ M', Adv t M0 M' → good M') (hn : M0.length ≤ n) (hnt : n ≠ t) : ∀ (ds acc : List D) (M : Mem), Adv t M0 M → M[n]? = some (.lst acc) → (∀ x ∈ acc, P x) → acc.length + ds.length ≤ 1000000 →
    (∀ d ∈ ds, ∀ M', Adv t M0 M' → Ret (e (env.set i (some d)) M') (fun x M2 => P x ∧ Adv t M' M2)) →
    ∃ xs M2, compL good i tYesD e n env ds M = .ok () M2 ∧ Adv t M0 M2 ∧ M2[n]? = some (.lst xs) ∧ xs.length = acc.length + ds.length ∧ ∀ x ∈ xs, P x
  | [], acc, M, k, ha, hp, _, _ => ⟨acc, M, compL_nil (hg M k), k, ha, rfl, hp⟩
  | d :: ds, acc, M, k, ha, hp, hl, h => by
    obtain ⟨x, M2, e2, px, k2⟩ := h d List.mem_cons_self M k
    rw [compL_cons (hg M k)]
    simp only [tYesD_ap, Out.nox_ok, Out.bind_ok, if_true, e2]
    have a2 := k2.at ha hnt
    simp only [a2]
    rw [if_pos (by rw [sizeLine_eq]; simp at hl; omega)]
    have k3 : Adv t M0 (M2.set n (.lst (acc ++ [x]))) := (k.trans k2).putLst hn hnt a2
    obtain ⟨xs, M3, e3, k3, a3, l3, p3⟩ := compL_drawn M0 hg hn hnt ds (acc ++ [x]) (M2.set n (.lst (acc ++ [x]))) k3 (List.getElem?_set_self (lt_of_at a2)) (fun y hy => by
      rcases List.mem_append.mp hy with hy | hy
      · exact hp y hy
      · cases List.mem_singleton.mp hy
        exact px) (by simp at hl ⊢; omega) fun d' hd => h d' (List.mem_cons_of_mem _ hd)
    exact ⟨xs, M3, e3, k3, a3, by rw [l3]; simp; omega, p3⟩
theorem Ret.drawn {good : Mem → Prop} {i t : Nat} {e : ME} {env : TL.Env} {P : D → Prop} {ds : List D} {M0 : Mem} {Q : Unit → Mem → Prop} (T : Tape M0 t) (hg : ∀ M', Adv t M0 M' → good M') (hl : ds.length ≤ 1000000)
    (h : ∀ d ∈ ds, ∀ M', Adv t M0 M' → Ret (e (env.set i (some d)) M') (fun x M2 => P x ∧ Adv t M' M2))
    (k : ∀ xs M2, Adv t M0 M2 → M2[M0.length]? = some (.lst xs) → xs.length = ds.length → (∀ x ∈ xs, P x) → Q () M2) : Ret (compL good i tYesD e M0.length env ds (M0 ++ [.lst []])) Q := by
  obtain ⟨xs, M2, e2, k2, a2, l2, p2⟩ := compL_drawn (n := M0.length) (P := P) (e := e) (env := env) (i := i) M0 hg (Nat.le_refl _) (fun e => by have := T.lt; omega) ds [] (M0 ++ [.lst []]) (Adv.of T (Keep.more _ _)) (at_len _ _) (fun x hx => by cases hx) (by simpa using hl) h
  exact ⟨(), M2, e2, k xs M2 k2 a2 (by simpa using l2) p2⟩
theorem cutL_fr {α : Type} {xs : List α} {k : Nat} (h : k ≤ xs.length) : cutL xs (some (k : Int)) none = xs.drop k := by
  unfold cutL
  rw [HT.sIx_nat, HT.sIx_none, Nat.min_eq_left h, List.take_of_length_le]
  simp
theorem mSl_fr {M : Mem} {n k : Nat} {xs : List D} (h : seqAt M n = some xs) (hk : k ≤ xs.length) : mSl (.ref n) (some (k : Int)) none M = some (.ref M.length, M ++ [.lst (xs.drop k)]) := by rw [mSl_ref, h]; simp only [cutL_fr hk]
end CM
end
section
set_option maxHeartbeats 4000000
namespace CM
open PySem PySem.Spec PyProof.Rows L2 TL TLQ RD
noncomputable section
def b_down_begun : MS := (sRet (eTup (aCons (eBin mMul (eTup (aCons (eBin mIdx (eVar 0) (eC (.int 1))) aNil)) (eBin mIdx (eVar 0) (eC (.int 0)))) (aCons (eC (.int 0)) (aCons (eC (.int 0)) (aCons (eBin mIdx (eVar 0) (eC (.int 1))) aNil))))))
def m_down_begun : Fn := fnD 1 1 b_down_begun
def lp_throw_named_0 : MS := (sIf (tB (eBin mEq (eBin mIdx (eVar 2) (eC (.int 0))) (eVar 1))) (sRet (eVar 2)) sNil)
def b_throw_named : MS := (sSeq (sFor (iAny (eBin mIdx (eVar 0) (eC (.int 3)))) (gOne 2) lp_throw_named_0)
    (sRaise "NoThrow"))
def m_throw_named : Fn := fnD 2 3 b_throw_named
def b_with_count : MS := (sRet (eBin mAdd (eBin mAdd (eSl (eVar 0) oNone (oSome (eVar 1))) (eTup (aCons (eVar 2) aNil))) (eSl (eVar 0) (oSome (eBin mAdd (eVar 1) (eC (.int 1)))) oNone)))
def m_with_count : Fn := fnD 3 3 b_with_count
def b_turn_ended : MS := (sSeq (sAsg (gOne 3) (eBin mMod (eBin mAdd (eVar 2) (eC (.int 1))) (eBin mIdx (eVar 0) (eC (.int 0)))))
    (sRet (eTup (aCons (eVar 1) (aCons (eVar 3) (aCons (eC (.int 0)) (aCons (eBin mIdx (eVar 1) (eVar 3)) aNil)))))))
def m_turn_ended : Fn := fnD 3 4 b_turn_ended
def b_down_thrown : MS := (sSeq (sAsg (gTupD [5, 6, 7, 8]) (eVar 1))
    (sSeq (sAsg (gOne 3) (eCall m_throw_named (aCons (eVar 0) (aCons (eVar 2) aNil))))
    (sSeq (sAsg (gOne 4) (eBin mSub (eBin mIdx (eVar 5) (eVar 6)) (eBin mIdx (eVar 3) (eC (.int 1)))))
    (sSeq (sIf (tAnd (tB (eBin mEq (eVar 4) (eC (.int 0)))) (tTru (eBin mIdx (eVar 3) (eC (.int 2))))) (sRet (eTup (aCons (eTup (aCons (eCall m_with_count (aCons (eVar 5) (aCons (eVar 6) (aCons (eC (.int 0)) aNil)))) (aCons (eVar 6) (aCons (eBin mAdd (eVar 7) (eC (.int 1))) (aCons (eVar 8) aNil))))) (aCons (eC (.bl true)) aNil)))) sNil)
    (sSeq (sIf (tB (eBin mLe (eVar 4) (eC (.int 0)))) (sRet (eTup (aCons (eCall m_turn_ended (aCons (eVar 0) (aCons (eCall m_with_count (aCons (eVar 5) (aCons (eVar 6) (aCons (eVar 8) aNil)))) (aCons (eVar 6) aNil)))) (aCons (eC (.bl false)) aNil)))) sNil)
    (sSeq (sAsg (gOne 5) (eCall m_with_count (aCons (eVar 5) (aCons (eVar 6) (aCons (eVar 4) aNil)))))
    (sSeq (sIf (tB (eBin mEq (eBin mAdd (eVar 7) (eC (.int 1))) (eBin mIdx (eVar 0) (eC (.int 2))))) (sRet (eTup (aCons (eCall m_turn_ended (aCons (eVar 0) (aCons (eVar 5) (aCons (eVar 6) aNil)))) (aCons (eC (.bl false)) aNil)))) sNil)
    (sRet (eTup (aCons (eTup (aCons (eVar 5) (aCons (eVar 6) (aCons (eBin mAdd (eVar 7) (eC (.int 1))) (aCons (eVar 8) aNil))))) (aCons (eC (.bl false)) aNil)))))))))))
def m_down_thrown : Fn := fnD 3 9 b_down_thrown
end
/-- a stand of a down -/
structure DSt where
  counts : List Int
  side : Nat
  thrown : Nat
  held : Int
def DSt.toD (s : DSt) : D := .tup [.tup (s.counts.map D.int), .int (s.side : Nat), .int (s.thrown : Nat), .int s.held]
structure DStOk (w : Down) (s : DSt) : Prop where
  len : s.counts.length = w.sides
  side : s.side < w.sides
  thr : s.thrown < w.turn
def firstS (w : Down) : DSt := ⟨List.replicate w.sides w.start, 0, 0, w.start⟩
theorem firstS_ok {w : Down} (h : DownOk w) : DStOk w (firstS w) := ⟨by simp [firstS], by show 0 < _; have := h.s0; omega, by show 0 < _; have := h.t0; omega⟩
/-- whose turn comes: at the next side -/
def nextS' (w : Down) (counts : List Int) (side : Nat) : DSt := ⟨counts, (side + 1) % w.sides, 0, counts.getD ((side + 1) % w.sides) 0⟩
/-- behind a throw -/
def thrownS (w : Down) (s : DSt) (t : Thr) : DSt × Bool :=
  let left := s.counts.getD s.side 0 - t.worth
  if left = 0 ∧ t.ends = true then (⟨s.counts.set s.side 0, s.side, s.thrown + 1, s.held⟩, true)
  else if left ≤ 0 then (nextS' w (s.counts.set s.side s.held) s.side, false)
  else if s.thrown + 1 = w.turn then (nextS' w (s.counts.set s.side left) s.side, false)
  else (⟨s.counts.set s.side left, s.side, s.thrown + 1, s.held⟩, false)
theorem down_begun_ok {w : Down} (h : DownOk w) (M : Mem) : m_down_begun [w.toD] M = .ok (firstS w).toD M := by
  show endS (b_down_begun [some w.toD] M) = _
  unfold b_down_begun
  have hm : mMul (.tup [.int w.start]) (.int (w.sides : Nat)) M = some (.tup (List.replicate w.sides (D.int w.start)), M) := by
    show (if (w.sides : Int) = 1 then some (D.tup [.int w.start], M) else if _ then some (D.tup (List.replicate ((w.sides : Int)).toNat [D.int w.start]).flatten, M) else none) = _
    have := h.s0
    have := h.s1
    by_cases q : (w.sides : Int) = 1
    · rw [if_pos q]
      have : w.sides = 1 := by omega
      rw [this]; rfl
    · rw [if_neg q, if_pos ⟨by simp, by omega, by omega, by simp⟩]
      simp
  simp [Down.toD, hm, firstS, DSt.toD]
/-- any thing, held against a name -/
def isName (x : D) (t : Thr) : Bool := match x with
  | .str y => decide (t.name = y)
  | _ => false
/-- a thing that is held against names -/
def Held' (M : Mem) (x : D) : Prop := (∃ z, x = .str z) ∨ ((toP 64 M x).isSome = true ∧ ∀ p, toP 64 M x = some p → SeqAt.shaped p = true)
theorem throws_eq {M : Mem} {t : Thr} {x : D} (hx : Held' M x) (hn : nameB t.name = true) : mEq (.str t.name) x M = some (.bl (isName x t), M) := by
  rcases hx with ⟨z, rfl⟩ | hx
  · exact mEq_text
  rw [mEq_eq]
  obtain ⟨p, hp⟩ := Option.isSome_iff_exists.mp hx.1
  have sp := hx.2 p hp
  have sn : SeqAt.shaped (.str t.name) = true := by
    unfold SeqAt.shaped
    have := name_strOk hn
    simp [PyData.canLay0, PyData.depth, this]
  have e : eqD M (.str t.name) x = some (PyData.eqv (.str t.name) p) := by
    unfold eqD
    rw [hp]
    show (if SeqAt.shaped (.str t.name) = true ∧ SeqAt.shaped p = true then some (PyData.eqv (.str t.name) p) else strEq (.str t.name) x) = _
    rw [if_pos ⟨sn, sp⟩]
  rw [e]
  have e2 : PyData.eqv (.str t.name) p = isName x t := by
    cases x with
    | non => cases hp; simp [PyData.eqv, isName]
    | bl b => cases hp; simp [PyData.eqv, isName]
    | int i => cases hp; simp [PyData.eqv, isName]
    | str y => cases hp; simp only [PyData.eqv, isName]; rfl
    | err y => cases hp
    | tup xs =>
      have e' : (optAll (toP 63 M) xs).map PyData.tuple = some p := hp
      cases q : optAll (toP 63 M) xs with
      | none => rw [q] at e'; cases e'
      | some ps => rw [q] at e'; cases e'; simp [PyData.eqv, isName]
    | ref m =>
      have e' : (match seqAt M m with | some xs => (optAll (toP 63 M) xs).map PyData.list | none => none) = some p := hp
      cases q0 : seqAt M m with
      | none => rw [q0] at e'; cases e'
      | some xs =>
        simp only [q0] at e'
        cases q : optAll (toP 63 M) xs with
        | none => rw [q] at e'; cases e'
        | some ps => rw [q] at e'; cases e'; simp [PyData.eqv, isName]
  rw [e2]
  rfl
theorem throw_named_ok {w : Down} (h : DownOk w) {x : D} {M : Mem} (hx : Held' M x) : m_throw_named [w.toD, x] M = match w.throws.find? (isName x) with
    | some t => .ok t.toD M
    | none => .exc ⟨"NoThrow", none⟩ M := by
  show endS (b_throw_named [some w.toD, some x, none] M) = _
  unfold b_throw_named
  have go : ∀ (ts : List Thr) (e : Option D), (∀ t ∈ ts, nameB t.name = true) → forL (fun _ => True) (gOne 2) lp_throw_named_0 (ts.map Thr.toD) [some w.toD, some x, e] M = match ts.find? (isName x) with
      | some t => .ret t.toD M
      | none => .next [some w.toD, some x, if ts = [] then e else (ts.map fun t => some t.toD).getLastD none] M := by
    intro ts
    induction ts with
    | nil => intro e _; rw [List.map_nil, forL_nil trivial]; rfl
    | cons t ts ih =>
      intro e hn
      rw [List.map_cons, forL_cons (env1 := [some w.toD, some x, some t.toD]) trivial rfl]
      have he := throws_eq hx (hn t List.mem_cons_self)
      unfold lp_throw_named_0
      cases q : isName x t with
      | true =>
        rw [q] at he
        simp [Thr.toD, he, List.find?_cons, q]
      | false =>
        rw [q] at he
        rw [List.find?_cons, q]
        have step : nextS (sIf (TL.tB (eBin mEq (eBin mIdx (eVar 2) (eC (.int 0))) (eVar 1))) (sRet (eVar 2)) sNil [some w.toD, some x, some t.toD] M) (forL (fun _ => True) (gOne 2) lp_throw_named_0 (ts.map Thr.toD)) = forL (fun _ => True) (gOne 2) lp_throw_named_0 (ts.map Thr.toD) [some w.toD, some x, some t.toD] M := by
          simp [Thr.toD, he]
        unfold lp_throw_named_0 at step
        rw [step]
        have := ih (some t.toD) fun u hu => hn u (List.mem_cons_of_mem _ hu)
        unfold lp_throw_named_0 at this
        rw [this]
        cases ts.find? (isName x) with
        | some u => rfl
        | none =>
          cases ts with
          | nil => rfl
          | cons u us => rfl
  have g := go w.throws none fun t ht => h.good.nm t ht
  simp [Down.toD] at g ⊢
  rw [g]
  cases w.throws.find? (isName x) with
  | some t => rfl
  | none => rfl
theorem set_cut {α : Type} {xs : List α} {k : Nat} {y : α} (h : k < xs.length) : xs.take k ++ [y] ++ xs.drop (k + 1) = xs.set k y := by
  rw [List.set_eq_take_append_cons_drop, if_pos h]
  simp
theorem with_count_ok {cs : List Int} {k : Nat} (h : k < cs.length) (hl : cs.length ≤ 1000) (c : Int) (M : Mem) : m_with_count [.tup (cs.map D.int), .int (k : Nat), .int c] M = .ok (.tup ((cs.set k c).map D.int)) M := by
  show endS (b_with_count [some (.tup (cs.map D.int)), some (.int (k : Nat)), some (.int c)] M) = _
  unfold b_with_count
  have e1 : cutL (cs.map D.int) none (some (k : Int)) = (cs.take k).map D.int := by rw [cutL_to (by simp; omega), List.map_take]
  have e2 : cutL (cs.map D.int) (some ((k : Int) + 1)) none = (cs.drop (k + 1)).map D.int := by rw [show ((k : Int) + 1) = ((k + 1 : Nat) : Int) from by simp, cutL_fr (by simp; omega), List.map_drop]
  have e3 : (cs.take k).map D.int ++ [D.int c] ++ (cs.drop (k + 1)).map D.int = (cs.set k c).map D.int := by
    rw [← set_cut h]
    simp
  have l1 : ((cs.take k).map D.int).length ≤ 1000 := by rw [List.length_map, List.length_take]; omega
  have l2 : ((cs.drop (k + 1)).map D.int).length ≤ 1000 := by rw [List.length_map, List.length_drop]; omega
  generalize hA : (cs.take k).map D.int = A at *
  generalize hB : (cs.drop (k + 1)).map D.int = B at *
  have s1 : mAdd (.tup A) (.tup [.int c]) M = some (.tup (A ++ [.int c]), M) := by rw [mAdd_tup, if_pos (by rw [sizeLine_eq]; simp; omega)]
  have s2 : mAdd (.tup (A ++ [.int c])) (.tup B) M = some (.tup (A ++ [.int c] ++ B), M) := by rw [mAdd_tup, if_pos (by rw [sizeLine_eq]; simp; omega)]
  rw [e3] at s2
  simp [-mAdd_tup, e1, e2, s1, s2]
theorem at_ints {cs : List Int} {k : Nat} (h : k < cs.length) : atI (cs.map D.int) (k : Int) = some (.int (cs.getD k 0)) := by
  refine atI_nat ?_
  rw [List.getElem?_map, List.getElem?_eq_getElem h, List.getD_eq_getElem?_getD, List.getElem?_eq_getElem h]
  rfl
theorem turn_ended_ok {w : Down} (h : DownOk w) {cs : List Int} {side : Nat} (hl : cs.length = w.sides) (M : Mem) : m_turn_ended [w.toD, .tup (cs.map D.int), .int (side : Nat)] M = .ok (nextS' w cs side).toD M := by
  show endS (b_turn_ended [some w.toD, some (.tup (cs.map D.int)), some (.int (side : Nat)), none] M) = _
  unfold b_turn_ended
  have s0 := h.s0
  have e0 : ((side : Int) + 1) % (w.sides : Int) = (((side + 1) % w.sides : Nat) : Int) := by simp
  have e1 := at_ints (cs := cs) (k := (side + 1) % w.sides) (by rw [hl]; exact Nat.mod_lt _ (by omega))
  rw [← e0] at e1
  have c0 : 0 < w.sides := s0
  simp [Down.toD, e1, c0, nextS', DSt.toD]
theorem down_thrown_ok {w : Down} (h : DownOk w) {s : DSt} (o : DStOk w s) {x : D} {M : Mem} (hx : Held' M x) : m_down_thrown [w.toD, s.toD, x] M = match w.throws.find? (isName x) with
    | some t => .ok (.tup [(thrownS w s t).1.toD, .bl (thrownS w s t).2]) M
    | none => .exc ⟨"NoThrow", none⟩ M := by
  show endS (b_down_thrown [some w.toD, some s.toD, some x, none, none, none, none, none, none] M) = _
  unfold b_down_thrown
  have e1 := throw_named_ok h hx
  have s3 := h.s1
  have hlt : s.side < s.counts.length := by rw [o.len]; exact o.side
  have hl : s.counts.length ≤ 1000 := by rw [o.len]; omega
  have ha := at_ints hlt
  cases q : w.throws.find? (isName x) with
  | none =>
    rw [q] at e1
    simp [DSt.toD, e1]
  | some t =>
    rw [q] at e1
    have wc := fun c => with_count_ok hlt hl c M
    have te := fun c => turn_ended_ok h (cs := s.counts.set s.side c) (side := s.side) (by rw [List.length_set]; exact o.len) M
    unfold thrownS
    dsimp only
    generalize s.counts.getD s.side 0 = cnt at *
    have e1 : m_throw_named [w.toD, x] M = .ok (.tup [.str t.name, .int t.worth, .bl t.ends]) M := e1
    by_cases c1 : cnt - t.worth = 0
    · cases c0 : t.ends with
      | true =>
        simp [DSt.toD, e1, ha, c1, c0, wc]
      | false =>
        have te' := te s.held
        simp [DSt.toD] at te'
        simp [DSt.toD, e1, ha, c1, c0, wc, te']
    · by_cases c2 : cnt - t.worth ≤ 0
      · have te' := te s.held
        simp [DSt.toD] at te'
        simp [DSt.toD, e1, ha, c1, c2, wc, te']
      · have c2' : cnt - t.worth > 0 := by omega
        by_cases c3 : s.thrown + 1 = w.turn
        · have te' := te (cnt - t.worth)
          simp [DSt.toD, Down.toD] at te'
          have c3' : (s.thrown : Int) + 1 = (w.turn : Int) := by omega
          simp [DSt.toD, Down.toD] at e1
          simp [DSt.toD, Down.toD, e1, ha, c1, c2, c3, c3', wc, te']
        · have c3' : ¬ ((s.thrown : Int) + 1 = (w.turn : Int)) := by omega
          simp [DSt.toD, Down.toD] at e1
          simp [DSt.toD, Down.toD, e1, ha, c1, c2, c3, c3', wc]
end CM
end
section
set_option maxHeartbeats 4000000
namespace CM
open PySem PySem.Spec PyProof.Rows L2 TL TLQ
/-- a thing whose kind is known, and those in it -/
def Kinds (M : Mem) : D → Prop
  | .tup xs => ∀ x ∈ xs, (tyName M x).isSome = true
  | d => (tyName M d).isSome = true
theorem tyName_keep {M M' : Mem} (k : Keep M M') {d : D} (h : (tyName M d).isSome = true) : (tyName M' d).isSome = true := by
  cases d with
  | ref n =>
    cases q : seqAt M n with
    | none => simp [tyName, q] at h
    | some xs => simp [tyName, k.seq q]
  | _ => exact h
theorem Kinds.keep {M M' : Mem} (k : Keep M M') {d : D} (h : Kinds M d) : Kinds M' d := by
  cases d with
  | tup xs => exact fun x hx => tyName_keep k (h x hx)
  | _ => exact tyName_keep k h
end CM
end
section
set_option maxHeartbeats 4000000
namespace CM
open PySem PySem.Spec PyProof.Rows L2 TL RL RB TLQ
theorem rows_at {rows : List LRow} {side : Nat} (h : side < rows.length) : atI (rows.map LRow.toD) (side : Int) = some rows[side].toD :=
  atI_nat (by rw [List.getElem?_map, List.getElem?_eq_getElem h]; rfl)
theorem cutL_from {α : Type} {xs : List α} {k : Nat} (h : k ≤ xs.length) : cutL xs (some (k : Int)) none = xs.drop k := by
  unfold cutL
  rw [HT.sIx_nat, HT.sIx_none, Nat.min_eq_left h]
  exact List.take_of_length_le (by simp)
theorem set_split {α : Type} {xs : List α} {k : Nat} {y : α} (h : k < xs.length) : xs.take k ++ [y] ++ xs.drop (k + 1) = xs.set k y := by
  rw [List.set_eq_take_append_cons_drop, if_pos h]; simp
/-- all sides through -/
def overR (n : Nat) (rows : List LRow) : Bool := rows.all fun r => decide (r.done = (n : Int))
theorem bowled_ok {k : Nat} {P : Int} {n : Nat} (l : Lane k P n) {rows : List LRow} {side : Nat} {p : Int} (hk : rows.length = k) (hs : side < k) (h0 : 0 ≤ p) (hp : p ≤ (rows[side]'(by omega)).up) (h1 : p ≤ 100) (M : Mem) :
    Ret (m_lane_bowled [laneD k P n, standD rows side, .int p] M) (TL.Gives M (.tup [standD (rows.set side (stepR P n (rows[side]'(by omega)) p).1) (if (stepR P n (rows[side]'(by omega)) p).2 then (side + 1) % k else side), .bl (overR n (rows.set side (stepR P n (rows[side]'(by omega)) p).1))])) := by
  have hsl : side < rows.length := by omega
  generalize hr : rows[side] = r at *
  have hrb := row_behind_ok (k := k) (P := P) (n := n) r h0 (by omega) M
  obtain ⟨r', ended, hq⟩ : ∃ a b, stepR P n r p = (a, b) := ⟨_, _, rfl⟩
  rw [hq] at hrb ⊢
  simp only at hrb ⊢
  have hat := rows_at hsl
  rw [hr] at hat
  have hb := between_ok p 0 r.up M
  have hcut1 : cutL (rows.map LRow.toD) none (some (side : Int)) = (rows.map LRow.toD).take side := cutL_to (by simp; omega)
  have hcut2 : cutL (rows.map LRow.toD) (some ((side : Int) + 1)) none = (rows.map LRow.toD).drop (side + 1) := by
    rw [show ((side : Int) + 1) = ((side + 1 : Nat) : Int) by omega, cutL_from (by simp; omega)]
  have hset : (rows.map LRow.toD).take side ++ [r'.toD] ++ (rows.map LRow.toD).drop (side + 1) = (rows.set side r').map LRow.toD := by
    rw [set_split (by simpa using hsl), List.map_set]
  have hrl : (rows.set side r').length ≤ 3 := by rw [List.length_set]; have := l.k1; omega
  generalize rows.set side r' = rows' at *
  have hup : mIdx r.toD (.int 2) M = some (.int r.up, M) := by simp [LRow.toD]
  have hk0 := l.k0
  have hkn : mIdx (laneD k P n) (.int 0) M = some (.int (k : Nat), M) := by simp [laneD]
  have hsum : mAdd (.tup ((rows.map LRow.toD).take side)) (.tup [r'.toD]) M = some (.tup ((rows.map LRow.toD).take side ++ [r'.toD]), M) := by
    rw [mAdd_tup, if_pos (by rw [sizeLine_eq]; simp; have := l.k1; omega)]
  have hsum2 : mAdd (.tup ((rows.map LRow.toD).take side ++ [r'.toD])) (.tup ((rows.map LRow.toD).drop (side + 1))) M = some (.tup (rows'.map LRow.toD), M) := by
    rw [mAdd_tup, if_pos (by rw [sizeLine_eq]; simp; have := l.k1; omega), hset]
  have hmod : ((side : Int) + 1) % (k : Int) = (((side + 1) % k : Nat) : Int) := by rw [Int.natCast_emod]; rfl
  have hk' : (0 : Int) < (k : Int) := by omega
  show Ret (endS (b_lane_bowled [some (laneD k P n), some (standD rows side), some (.int p), none, none, none, none, none] M)) _
  unfold b_lane_bowled standD
  have fin : ∀ env : TL.Env, env[0]? = some (some (laneD k P n)) → env.length = 8 → Ret (compL (fun _ => True) 7 tYesD (eBin mEq (eBin mIdx (eVar 7) (eC (.int 0))) (eBin mIdx (eVar 0) (eC (.int 2)))) M.length env (rows'.map LRow.toD) (M ++ [.lst []]))
      (fun _ M2 => Keep M M2 ∧ nAll [.ref M.length] M2 = some (.bl (overR n rows'), M2)) := by
    intro env h0 hl
    refine Ret.comp (fun d => match d with | D.tup (D.int x :: _) => D.bl (decide (x = (n : Int))) | _ => D.non) (fun _ _ => trivial) (by simp; omega) (fun d hd M' _ => ?_) fun M2 k2 a2 => ⟨k2, ?_⟩
    · obtain ⟨x, _, rfl⟩ := List.mem_map.mp hd
      have e7 : (env.set 7 (some x.toD))[7]? = some (some x.toD) := List.getElem?_set_self (by omega)
      have e0 : (env.set 7 (some x.toD))[0]? = some (some (laneD k P n)) := by rw [List.getElem?_set_ne (by decide)]; exact h0
      simp [e7, e0, h0]
      simp [LRow.toD, h0]; simp [laneD]
      exact .ok ⟨rfl, Keep.refl _⟩
    · have := nAll_bls (M := M2) (n := M.length) (bs := rows'.map fun r => decide (r.done = (n : Int))) (seqAt_lst (by rw [a2]; congr 2; rw [List.map_map, List.map_map]; exact List.map_congr_left fun r _ => rfl))
      rw [this, List.all_map]; rfl
  cases ended with
  | false =>
    simp [-mAdd_tup, hat, hup, hb, h0, hp, hrb, hcut1, hcut2, hsum, hsum2]
    refine Ret.bindQ (fin _ rfl rfl) ?_
    rintro _ M2 ⟨k2, e2⟩
    simp [e2]
    exact .ok ⟨rfl, k2⟩
  | true =>
    have hk2 : 0 < k := by omega
    simp [-mAdd_tup, hat, hup, hb, h0, hp, hrb, hcut1, hcut2, hsum, hsum2, hkn, hk2]
    refine Ret.bindQ (fin _ rfl rfl) ?_
    rintro _ M2 ⟨k2, e2⟩
    simp [e2]
    exact .ok ⟨rfl, k2⟩
@[simp] theorem stand_idx0 {rows : List LRow} {side : Nat} {M : Mem} : mIdx (standD rows side) (.int 0) M = some (.tup (rows.map LRow.toD), M) := by simp [standD]
@[simp] theorem stand_idx1 {rows : List LRow} {side : Nat} {M : Mem} : mIdx (standD rows side) (.int 1) M = some (.int (side : Nat), M) := by simp [standD]
def UpOk (P : Int) (r : LRow) : Prop := 0 ≤ r.up ∧ r.up ≤ P
theorem best_ints (ts : List Int) : ∃ bs : List Int, bestD ts = bs.map D.int ∧ bs.length ≤ ts.length := by
  unfold bestD
  have h : ∀ l : List D, (∀ d ∈ l, ∃ i : Int, d = .int i) → ∃ bs : List Int, l = bs.map D.int := by
    intro l
    induction l with
    | nil => exact fun _ => ⟨[], rfl⟩
    | cons d l ih =>
      intro h
      obtain ⟨i, rfl⟩ := h d List.mem_cons_self
      obtain ⟨bs, e⟩ := ih fun x hx => h x (List.mem_cons_of_mem _ hx)
      exact ⟨i :: bs, by rw [e]; rfl⟩
  obtain ⟨bs, e⟩ := h ((rngItems 0 ts.length).filter (isBest ts)) (fun d hd => by
    obtain ⟨k, _, rfl⟩ := mem_rng (List.mem_filter.mp hd).1
    exact ⟨_, rfl⟩)
  refine ⟨bs, e, ?_⟩
  have h1 : bs.length = ((rngItems 0 ts.length).filter (isBest ts)).length := by rw [e]; simp
  have h2 := List.length_filter_le (isBest ts) (rngItems 0 ts.length)
  rw [rng_length] at h2
  omega
end CM
namespace CF
open PySem PySem.Spec PyProof.Rows L2 TL
end CF
namespace TL
open PySem PySem.Spec PyProof.Rows L2
end TL
end
section
set_option maxHeartbeats 4000000
namespace CM
open PySem PySem.Spec PyProof.Rows L2 TL TLQ RD
theorem Sh.ty {M : Mem} {n w : Nat} {d : D} (h : TL.Sh M (n + 1) w d) : (tyName M d).isSome = true := by
  obtain ⟨x, e, _⟩ := h
  cases d with
  | ref m =>
    have e' : (match seqAt M m with | some xs => (datL (dat n M) xs).map PyData.list | none => none) = some x := e
    cases q : seqAt M m with
    | none => rw [q] at e'; cases e'
    | some xs => simp [tyName, q]
  | err y => cases e
  | _ => rfl
theorem Sh.text {M : Mem} {n w : Nat} {x : Str} (h : TL.Sh M (n + 1) w (.str x)) : x.length ≤ w := by
  obtain ⟨p, e, _, _, l⟩ := h
  cases e
  exact l
/-- a whole number between -/
def inB (lo hi : Int) : D → Bool
  | .int i => decide (lo ≤ i) && decide (i ≤ hi)
  | _ => false
end CM
end
section
set_option maxHeartbeats 4000000
namespace CG
open PySem PySem.Spec PyProof.Rows L2 TL
open CM hiding b_l_alike m_l_alike b_l_unit m_l_unit g_l_unit b_l_rule m_l_rule b_l_any_rule m_l_any_rule unit_ok rule_step rule_ok any_rule
open CF
noncomputable section
def b_first : MS := (sSeq (sIf (tB (eBin mEq (eBin mIdx (eVar 0) (eC (.int 0))) (eC (.str "rally")))) (sRet (eTup (aCons (eCall (m_begun 14) (aCons (eBin mIdx (eVar 0) (eC (.int 1))) aNil)) (aCons (eC .non) aNil)))) sNil)
    (sSeq (sIf (tB (eBin mEq (eBin mIdx (eVar 0) (eC (.int 0))) (eC (.str "down")))) (sRet (eTup (aCons (eCall m_down_begun (aCons (eBin mIdx (eVar 0) (eC (.int 1))) aNil)) (aCons (eC .non) aNil)))) sNil)
    (sRet (eTup (aCons (eCall m_lane_begun (aCons (eBin mIdx (eVar 0) (eC (.int 1))) aNil)) (aCons (eC .non) aNil))))))
def m_first : Fn := fnD 1 1 b_first
def b_deeds_at : MS := (sSeq (sIf (tB (eBin mIsNot (eBin mIdx (eVar 1) (eC (.int 1))) (eC .non))) (sRet (eLst aNil)) sNil)
    (sSeq (sIf (tB (eBin mEq (eBin mIdx (eVar 0) (eC (.int 0))) (eC (.str "rally")))) (sRet (eLst (aCons (eC (.int 0)) (aCons (eC (.int 1)) aNil)))) sNil)
    (sSeq (sIf (tB (eBin mEq (eBin mIdx (eVar 0) (eC (.int 0))) (eC (.str "down")))) (sRet (eComp 4 (iAny (eBin mIdx (eBin mIdx (eVar 0) (eC (.int 1))) (eC (.int 3)))) tYesD (eBin mIdx (eVar 4) (eC (.int 0))))) sNil)
    (sSeq (sAsg (gTupD [2, 3]) (eBin mIdx (eVar 1) (eC (.int 0))))
    (sRet (eLstRg1 (eBin mAdd (eBin mIdx (eBin mIdx (eVar 2) (eVar 3)) (eC (.int 2))) (eC (.int 1)))))))))
def m_deeds_at : Fn := fnD 2 5 b_deeds_at
def b_rally_played : MS := (sSeq (sIf (tNot (tTru (eCall m_is_between (aCons (eVar 2) (aCons (eC (.int 0)) (aCons (eC (.int 1)) aNil)))))) (sRaise "NoSide") sNil)
    (sSeq (sAsg (gTupD [3, 4]) (eCall (m_rallied 14) (aCons (eVar 0) (aCons (eVar 1) (aCons (eVar 2) aNil)))))
    (sSeq (sIf (tTru (eVar 4)) (sRet (eTup (aCons (eVar 3) (aCons (eTup (aCons (eVar 2) aNil)) aNil)))) sNil)
    (sRet (eTup (aCons (eVar 3) (aCons (eC .non) aNil)))))))
def m_rally_played : Fn := fnD 3 5 b_rally_played
def b_down_played : MS := (sSeq (sAsg (gTupD [3, 4]) (eCall m_down_thrown (aCons (eVar 0) (aCons (eVar 1) (aCons (eVar 2) aNil)))))
    (sSeq (sIf (tTru (eVar 4)) (sRet (eTup (aCons (eVar 3) (aCons (eTup (aCons (eBin mIdx (eVar 3) (eC (.int 1))) aNil)) aNil)))) sNil)
    (sRet (eTup (aCons (eVar 3) (aCons (eC .non) aNil))))))
def m_down_played : Fn := fnD 3 5 b_down_played
def b_lane_played : MS := (sSeq (sAsg (gTupD [3, 4]) (eCall m_lane_bowled (aCons (eVar 0) (aCons (eVar 1) (aCons (eVar 2) aNil)))))
    (sSeq (sIf (tTru (eVar 4)) (sRet (eTup (aCons (eVar 3) (aCons (eCall m_best_of (aCons (eVar 3) aNil)) aNil)))) sNil)
    (sRet (eTup (aCons (eVar 3) (aCons (eC .non) aNil))))))
def m_lane_played : Fn := fnD 3 5 b_lane_played
def b_played : MS := (sSeq (sIf (tB (eBin mIsNot (eBin mIdx (eVar 1) (eC (.int 1))) (eC .non))) (sRaise "Over") sNil)
    (sSeq (sIf (tB (eBin mEq (eBin mIdx (eVar 0) (eC (.int 0))) (eC (.str "rally")))) (sRet (eCall m_rally_played (aCons (eBin mIdx (eVar 0) (eC (.int 1))) (aCons (eBin mIdx (eVar 1) (eC (.int 0))) (aCons (eVar 2) aNil))))) sNil)
    (sSeq (sIf (tB (eBin mEq (eBin mIdx (eVar 0) (eC (.int 0))) (eC (.str "down")))) (sRet (eCall m_down_played (aCons (eBin mIdx (eVar 0) (eC (.int 1))) (aCons (eBin mIdx (eVar 1) (eC (.int 0))) (aCons (eVar 2) aNil))))) sNil)
    (sRet (eCall m_lane_played (aCons (eBin mIdx (eVar 0) (eC (.int 1))) (aCons (eBin mIdx (eVar 1) (eC (.int 0))) (aCons (eVar 2) aNil))))))))
def m_played : Fn := fnD 3 3 b_played
def b_place_of : MS := (sSeq (sIf (tB (eBin mEq (eBin mIdx (eVar 0) (eC (.int 0))) (eC (.str "rally")))) (sRet (eTup (aCons (eCall (m_cut 14) (aCons (eBin mIdx (eVar 0) (eC (.int 1))) (aCons (eBin mIdx (eVar 1) (eC (.int 0))) aNil))) (aCons (eBin mIdx (eVar 1) (eC (.int 1))) aNil)))) sNil)
    (sRet (eVar 1)))
def m_place_of : Fn := fnD 2 2 b_place_of
def b_l_unit (r_l_unit : Fn) (r_l_rule : Fn) : MS := (sSeq (sAsg (gOne 3) (eBin mAdd (eC (.int 1)) (eCall m_l_draw (aCons (eVar 0) (aCons (eBin mIdx (eLst (aCons (eC (.int 3)) (aCons (eC (.int 5)) (aCons (eC (.int 99)) aNil)))) (eBin mFdiv (eCall m_l_draw (aCons (eVar 0) (aCons (eC (.int 20)) aNil))) (eC (.int 8)))) aNil)))))
    (sSeq (sAsg (gOne 4) (eBin mAdd (eC (.int 1)) (eCall m_l_draw (aCons (eVar 0) (aCons (eBin mIdx (eLst (aCons (eC (.int 2)) (aCons (eC (.int 3)) (aCons (eC (.int 99)) aNil)))) (eBin mFdiv (eCall m_l_draw (aCons (eVar 0) (aCons (eC (.int 20)) aNil))) (eC (.int 9)))) aNil)))))
    (sSeq (sAsg (gOne 5) (eC .non))
    (sSeq (sAsg (gOne 6) (eC .non))
    (sSeq (sIf (tB (eBin mEq (eCall m_l_draw (aCons (eVar 0) (aCons (eC (.int 2)) aNil))) (eC (.int 1)))) (sAsg (gOne 5) (eCallO nMin2 (aCons (eC (.int 99)) (aCons (eBin mAdd (eVar 3) (eCall m_l_draw (aCons (eVar 0) (aCons (eC (.int 4)) aNil)))) aNil)))) sNil)
    (sSeq (sAsg (gOne 7) (eCall r_l_rule (aCons (eVar 0) (aCons (eBin mSub (eVar 1) (eC (.int 1))) (aCons (eVar 2) aNil)))))
    (sSeq (sIf (tAnd (tB (eBin mIsNot (eVar 5) (eC .non))) (tB (eBin mGt (eCall m_l_draw (aCons (eVar 0) (aCons (eC (.int 3)) aNil))) (eC (.int 0))))) (sAsg (gOne 6) (eCall r_l_rule (aCons (eVar 0) (aCons (eCallO nMin2 (aCons (eBin mSub (eVar 1) (eC (.int 1))) (aCons (eVar 2) aNil))) (aCons (eVar 2) aNil))))) sNil)
    (sRet (eTup (aCons (eC (.str "unit")) (aCons (eVar 3) (aCons (eVar 4) (aCons (eVar 5) (aCons (eVar 7) (aCons (eVar 6) aNil)))))))))))))))
def b_l_rule (r_l_unit : Fn) (r_l_rule : Fn) : MS := (sSeq (sIf (tOr (tB (eBin mEq (eVar 1) (eC (.int 0)))) (tB (eBin mEq (eCall m_l_draw (aCons (eVar 0) (aCons (eC (.int 7)) aNil))) (eC (.int 6))))) (sRet (eTup (aCons (eC (.str "point")) aNil))) sNil)
    (sRet (eCall r_l_unit (aCons (eVar 0) (aCons (eVar 1) (aCons (eVar 2) aNil))))))
def g_l_unit : Nat → Fn × Fn
  | 0 => (noFn, noFn)
  | n + 1 => (fnD 3 8 (b_l_unit ((g_l_unit n).1) ((g_l_unit n).2)), fnD 3 3 (b_l_rule ((g_l_unit n).1) ((g_l_unit n).2)))
def m_l_unit (n : Nat) : Fn := (g_l_unit n).1
def m_l_rule (n : Nat) : Fn := (g_l_unit n).2
def b_l_any_rule : MS := (sSeq (sAsg (gOne 1) (eCall m_l_draw (aCons (eVar 0) (aCons (eC (.int 6)) aNil))))
    (sRet (eCall (m_l_rule 14) (aCons (eVar 0) (aCons (eBin mIdx (eLst (aCons (eC (.int 2)) (aCons (eC (.int 1)) (aCons (eC (.int 2)) (aCons (eC (.int 3)) (aCons (eC (.int 3)) (aCons (eC (.int 4)) aNil))))))) (eVar 1)) (aCons (eBin mIdx (eLst (aCons (eC (.int 3)) (aCons (eC (.int 3)) (aCons (eC (.int 3)) (aCons (eC (.int 3)) (aCons (eC (.int 1)) (aCons (eC (.int 1)) aNil))))))) (eVar 1)) aNil))))))
def m_l_any_rule : Fn := fnD 1 2 b_l_any_rule
def b_l_game : MS := (sSeq (sAsg (gOne 1) (eCall m_l_draw (aCons (eVar 0) (aCons (eC (.int 3)) aNil))))
    (sSeq (sIf (tB (eBin mEq (eVar 1) (eC (.int 0)))) (sRet (eTup (aCons (eC (.str "rally")) (aCons (eCall m_l_any_rule (aCons (eVar 0) aNil)) aNil)))) sNil)
    (sSeq (sIf (tB (eBin mEq (eVar 1) (eC (.int 1)))) (sRet (eTup (aCons (eC (.str "down")) (aCons (eCall m_l_down (aCons (eVar 0) aNil)) aNil)))) sNil)
    (sRet (eTup (aCons (eC (.str "lane")) (aCons (eCall m_l_lane (aCons (eVar 0) aNil)) aNil)))))))
def m_l_game : Fn := fnD 1 2 b_l_game
end
open RL RB TLQ RD
theorem unit_ok {ru rr : Fn} {deep : Nat} (ih : ∀ d ≤ deep, RuleOk rr d) : RuleOk (fnD 3 8 (b_l_unit ru rr)) (deep + 1) := CM.unit_ok (ru := ru) ih
theorem rule_step {ru rr : Fn} {deep : Nat} (ih : ∀ d, deep = d + 1 → RuleOk ru deep) : RuleOk (fnD 3 3 (b_l_rule ru rr)) deep := by
  intro M t thin T
  show Ret (endS (b_l_rule ru rr [some (.ref t), some (.int (deep : Nat)), some (.int (thin : Nat))] M)) _
  unfold b_l_rule
  cases deep with
  | zero =>
    simp
    exact .ok ⟨.point, rfl, trivial, Nat.le_refl _, Nat.zero_le _, .refl T⟩
  | succ deep =>
    have ne : ¬ ((deep : Int) + 1 = 0) := by omega
    simp [ne]
    refine Ret.bindQ (draw T (by decide) (by decide)) ?_
    rintro _ M1 ⟨r1, rfl, h0, h1, A1⟩
    by_cases c : r1 = 6
    · simp [c]
      exact .ok ⟨.point, rfl, trivial, Nat.zero_le _, Nat.zero_le _, A1⟩
    · simp [c]
      obtain ⟨d, M2, e, r, h1, h2, h3, h4, A2⟩ := ih deep rfl M1 t thin A1.tape
      rw [show ((deep + 1 : Nat) : Int) = (deep : Int) + 1 from by omega] at e
      rw [e]
      simp
      exact .ok ⟨r, h1, h2, h3, h4, A1.trans A2⟩
theorem rule_ok : ∀ (n deep : Nat), 2 * deep + 1 ≤ n → RuleOk (m_l_rule n) deep
  | 0, deep, h => by omega
  | n + 1, deep, h => by
    refine rule_step fun d hd => ?_
    match n, h with
    | 0, h => omega
    | n + 1, h =>
      subst hd
      exact unit_ok fun d' hd' => rule_ok n d' (by omega)
theorem any_rule {M : Mem} {t : Nat} (T : Tape M t) : Ret (m_l_any_rule [.ref t] M) (AnyRuleQ t M) := by
  show Ret (endS (b_l_any_rule [some (.ref t), none] M)) _
  unfold b_l_any_rule
  simp
  refine Ret.bindQ (draw T (by decide) (by decide)) ?_
  rintro _ M1 ⟨r1, rfl, h0, h1, A1⟩
  obtain ⟨dp, th, e1, e2, hdp, hub⟩ : ∃ dp th : Nat, atI [D.int 2, D.int 1, D.int 2, D.int 3, D.int 3, D.int 4] r1 = some (.int dp) ∧ atI [D.int 3, D.int 3, D.int 3, D.int 3, D.int 1, D.int 1] r1 = some (.int th) ∧ dp ≤ 4 ∧ ub dp th ≤ 7 := by
    rcases (show r1 = 0 ∨ r1 = 1 ∨ r1 = 2 ∨ r1 = 3 ∨ r1 = 4 ∨ r1 = 5 by omega) with rfl | rfl | rfl | rfl | rfl | rfl
    · exact ⟨2, 3, by simp, by simp, by decide, by simp [ub]⟩
    · exact ⟨1, 3, by simp, by simp, by decide, by simp [ub]⟩
    · exact ⟨2, 3, by simp, by simp, by decide, by simp [ub]⟩
    · exact ⟨3, 3, by simp, by simp, by decide, by simp [ub]⟩
    · exact ⟨3, 1, by simp, by simp, by decide, by simp [ub]⟩
    · exact ⟨4, 1, by simp, by simp, by decide, by simp [ub]⟩
  simp [seqAt, e1, e2]
  refine Ret.bindQ (rule_ok 14 dp (by omega) _ t th (A1.tape.keep (Keep.more _ _))) ?_
  rintro _ M2 ⟨r, rfl, g1, g2, g3, A2⟩
  exact .ok ⟨r, rfl, g1, by omega, by omega, A1.trans ((Adv.of A1.tape (Keep.more _ _)).trans A2)⟩
inductive Gm where
  | rally (r : Rule)
  | down (w : Down)
  | lane (k : Nat) (P : Int) (n : Nat)
def Gm.toD : Gm → D
  | .rally r => .tup [.str (Str.ofString "rally"), r.toD]
  | .down w => .tup [.str (Str.ofString "down"), w.toD]
  | .lane k P n => .tup [.str (Str.ofString "lane"), laneD k P n]
def Gm.Ok : Gm → Prop
  | .rally r => r.good ∧ r.depth ≤ 4
  | .down w => DownOk w
  | .lane k P n => Lane k P n
def GameQ (t : Nat) (M : Mem) (d : D) (M' : Mem) : Prop := ∃ g : Gm, d = g.toD ∧ g.Ok ∧ Adv t M M'
def SmI (i : Int) : Prop := i.natAbs < 10 ^ 60
def wonD : Option (List Int) → D
  | none => .non
  | some bs => .tup (bs.map D.int)
def WonOk (won : Option (List Int)) : Prop := ∀ bs, won = some bs → bs.length ≤ 100 ∧ ∀ i ∈ bs, SmI i
def SmS : Stand → Prop
  | .nil => True
  | .st z o w => SmI z ∧ SmI o ∧ SmS w
structure ROk (r : Rule) (s : Stand) (won : Option (List Int)) : Prop where
  d : r.depth ≤ 4
  f : Fits r s
  p : r = .point ↔ s = .nil
  m : SmS s
  w : WonOk won
  e : won.isSome = true → s.depth ≤ 1
theorem place_rally {r : Rule} {s : Stand} {x : D} (d : r.depth ≤ 4) (f : Fits r s) (p : r = .point ↔ s = .nil) (M : Mem) :
    m_place_of [.tup [.str (Str.ofString "rally"), r.toD], .tup [s.toD, x]] M = .ok (.tup [(cutR r s).toD, x]) M := by
  show endS (b_place_of [some _, some _] M) = _
  unfold b_place_of
  have e := fun M => cut_ok 14 r s M (by omega) (by omega) f p
  simp [e]
def SB (B : Int) : Stand → Prop
  | .nil => True
  | .st z o w => (0 ≤ z ∧ z ≤ B) ∧ (0 ≤ o ∧ o ≤ B) ∧ SB B w
theorem SB.le {B C : Int} (h : B ≤ C) : ∀ {s : Stand}, SB B s → SB C s
  | .nil, _ => trivial
  | .st z o w, ⟨h1, h2, h3⟩ => ⟨⟨h1.1, by omega⟩, ⟨h2.1, by omega⟩, SB.le h h3⟩
theorem smI_of {B i : Int} (hB : B ≤ 1000000) (h0 : 0 ≤ i) (h1 : i ≤ B) : SmI i := by
  have : i.natAbs ≤ 1000000 := by omega
  exact Nat.lt_of_le_of_lt this (by decide)
theorem SB.sm {B : Int} (hB : B ≤ 1000000) : ∀ {s : Stand}, SB B s → SmS s
  | .nil, _ => trivial
  | .st z o w, ⟨h1, h2, h3⟩ => ⟨smI_of hB h1.1 h1.2, smI_of hB h2.1 h2.2, SB.sm hB h3⟩
theorem sb_begun {B : Int} (hB : 0 ≤ B) : ∀ (n : Nat) (r : Rule), r.depth ≤ n → SB B (begunR r)
  | n, r, hn => by
    by_cases h : r = .point
    · subst h; rw [begunR_point]; trivial
    · have hd := depth_within h 0 0
      match n with
      | 0 => omega
      | n + 1 =>
        rw [begunR_unit h]
        exact ⟨⟨Int.le_refl _, hB⟩, ⟨Int.le_refl _, hB⟩, sb_begun hB n _ (by omega)⟩
theorem sb_rallied {B : Int} (hB : 0 ≤ B) : ∀ {s : Stand} {r : Rule} {side : Bool}, SB B s → SB (B + 1) (ralliedR r s side).1
  | .nil, r, side, h => trivial
  | .st z o w, r, side, ⟨h1, h2, h3⟩ => by
    have ih := sb_rallied (r := within r z o) (side := side) hB h3
    simp only [ralliedR]
    have p1 : 0 ≤ (RL.bump z o side).1 ∧ (RL.bump z o side).1 ≤ B + 1 := by unfold RL.bump; cases side <;> simp <;> omega
    have p2 : 0 ≤ (RL.bump z o side).2 ∧ (RL.bump z o side).2 ≤ B + 1 := by unfold RL.bump; cases side <;> simp <;> omega
    split
    · split
      · exact ⟨p1, p2, trivial⟩
      · exact ⟨p1, p2, sb_begun (by omega) _ _ (Nat.le_refl _)⟩
    · exact ⟨⟨h1.1, by show z ≤ B + 1; omega⟩, ⟨h2.1, by show o ≤ B + 1; omega⟩, ih⟩
theorem won_shape : ∀ {s : Stand} {r : Rule} {side : Bool}, Open r s → (ralliedR r s side).2 = true → Fits r (ralliedR r s side).1 ∧ (r = .point ↔ (ralliedR r s side).1 = .nil) ∧ (ralliedR r s side).1.depth ≤ 1
  | .nil, r, side, h, _ => by
    have h : r = .point := h
    subst h
    exact ⟨trivial, by simp [ralliedR], by simp [ralliedR, Stand.depth]⟩
  | .st z o w, r, side, h, e => by
    simp only [ralliedR] at e ⊢
    split at e
    · rename_i hq
      split at e
      · rename_i hw
        rw [if_pos hq, if_pos hw]
        exact ⟨⟨h.1, trivial⟩, by simp [h.1], by simp [Stand.depth]⟩
      · cases e
    · cases e
theorem open_nil {r : Rule} {s : Stand} (h : Open r s) : r = .point ↔ s = .nil := by
  cases s with
  | nil => exact ⟨fun _ => rfl, fun _ => h⟩
  | st z o w => exact ⟨fun e => absurd e h.1, fun e => by cases e⟩
def RGo (r : Rule) (B : Int) (s : Stand) (won : Option (List Int)) : Prop := ROk r s won ∧ SB B s ∧ (won = none → Open r s)
theorem deeds_won (g x : D) (bs : List Int) (M : Mem) : m_deeds_at [g, .tup [x, wonD (some bs)]] M = .ok (.ref M.length) (M ++ [.lst []]) := by
  show endS (b_deeds_at [some g, some (.tup [x, wonD (some bs)]), none, none, none] M) = _
  unfold b_deeds_at
  simp [wonD]
theorem deeds_rally (r x : D) (M : Mem) : m_deeds_at [.tup [.str (Str.ofString "rally"), r], .tup [x, wonD none]] M = .ok (.ref M.length) (M ++ [.lst [.int 0, .int 1]]) := by
  show endS (b_deeds_at [some (.tup [.str (Str.ofString "rally"), r]), some (.tup [x, wonD none]), none, none, none] M) = _
  unfold b_deeds_at
  simp [wonD]
theorem RGo.le {r : Rule} {B C : Int} {s : Stand} {won : Option (List Int)} (h : B ≤ C) (g : RGo r B s won) : RGo r C s won := ⟨g.1, SB.le h g.2.1, g.2.2⟩
theorem played_rally {r x d : D} {M : Mem} {y : D} (h : Ret (m_rally_played [r, x, d] M) (TL.Gives M y)) : Ret (m_played [.tup [.str (Str.ofString "rally"), r], .tup [x, wonD none], d] M) (TL.Gives M y) := by
  obtain ⟨M1, e1, k1⟩ := gives_of h
  show Ret (endS (b_played [some (.tup [.str (Str.ofString "rally"), r]), some (.tup [x, wonD none]), some d] M)) _
  unfold b_played
  simp [wonD, e1]
  exact TL.Ret.ok (P := TL.Gives M _) ⟨rfl, k1⟩
structure DB (s : DSt) : Prop where
  c : ∀ x ∈ s.counts, 0 ≤ x ∧ x ≤ 1000000
  h : 0 ≤ s.held ∧ s.held ≤ 1000000
theorem db_first {w : Down} (h : DownOk w) : DB (firstS w) := ⟨fun x hx => by
  obtain ⟨_, rfl⟩ := List.mem_replicate.mp hx
  exact ⟨by have := h.b0; omega, h.b1⟩, ⟨by have := h.b0; show 0 ≤ w.start; omega, h.b1⟩⟩
structure DGo (w : Down) (s : DSt) (won : Option (List Int)) : Prop where
  l : s.counts.length = w.sides
  b : DB s
  v : WonOk won
  o : won = none → DStOk w s
theorem deeds_down {w : Down} (h : DownOk w) (x : D) (M : Mem) : Ret (m_deeds_at [.tup [.str (Str.ofString "down"), w.toD], .tup [x, wonD none]] M) (fun d M1 => d = .ref M.length ∧ Keep M M1 ∧ seqAt M1 M.length = some (w.throws.map fun t => .str t.name)) := by
  show Ret (endS (b_deeds_at [some (.tup [.str (Str.ofString "down"), w.toD]), some (.tup [x, wonD none]), none, none, none] M)) _
  unfold b_deeds_at
  have e3 : ∀ M, mIdx w.toD (.int 3) M = some (.tup (w.throws.map Thr.toD), M) := fun M => rfl
  simp [wonD, e3]
  refine Ret.bindQ (P := fun _ M1 => Keep M M1 ∧ seqAt M1 M.length = some (w.throws.map fun t => .str t.name)) ?_ ?_
  · refine Ret.comp (fun d => match d with | .tup (y :: _) => y | _ => .non) (fun _ _ => trivial) (by have := h.n1; rw [List.length_map]; omega) (fun d hd M' k => ?_) fun M2 k a => ⟨k, ?_⟩
    · obtain ⟨u, hu, rfl⟩ := List.mem_map.mp hd
      have e0 : mIdx u.toD (.int 0) M' = some (.str u.name, M') := rfl
      simp [e0]
      exact TL.Ret.ok (P := TL.Gives M' _) ⟨rfl, Keep.refl _⟩
    · rw [seqAt_lst a, List.map_map]
      rfl
  · rintro _ M1 ⟨k1, a1⟩
    exact .ok ⟨rfl, k1, a1⟩
structure RowB (B : Int) (r : LRow) : Prop where
  n : 0 ≤ r.near ∧ r.near ≤ 2
  f : 0 ≤ r.far ∧ r.far ≤ 1
  t : 0 ≤ r.total ∧ r.total ≤ B
theorem RowB.le {B C : Int} (h : B ≤ C) {r : LRow} (g : RowB B r) : RowB C r := ⟨g.n, g.f, g.t.1, by have := g.t.2; omega⟩
structure LGo (k : Nat) (P : Int) (B : Int) (rows : List LRow) (side : Nat) (won : Option (List Int)) : Prop where
  l : rows.length = k
  s : side < k
  u : ∀ r ∈ rows, UpOk P r
  b : ∀ r ∈ rows, RowB B r
  v : WonOk won
theorem LGo.le {k : Nat} {P B C : Int} {rows : List LRow} {side : Nat} {won : Option (List Int)} (h : B ≤ C) (g : LGo k P B rows side won) : LGo k P C rows side won := ⟨g.l, g.s, g.u, fun r hr => (g.b r hr).le h, g.v⟩
theorem deeds_lane {rows : List LRow} {side : Nat} (hs : side < rows.length) {u : Nat} (hu : rows[side].up = (u : Int)) (h1 : u ≤ 1000) (g : D) (M : Mem) : m_deeds_at [.tup [.str (Str.ofString "lane"), g], .tup [standD rows side, wonD none]] M = .ok (.ref M.length) (M ++ [.lst (rngItems 0 (u + 1))]) := by
  show endS (b_deeds_at [some (.tup [.str (Str.ofString "lane"), g]), some (.tup [standD rows side, wonD none]), none, none, none] M) = _
  unfold b_deeds_at
  have ha := rows_at hs
  have e2 : mIdx rows[side].toD (.int 2) M = some (.int (u : Nat), M) := by rw [← hu]; rfl
  have rg : RgOk (0 : Int) ((u : Int) + 1) := by have := rgOk_nat (i := 0) (j := u + 1) (by omega) (by omega); simpa using this
  have tn : ((u : Int) + 1).toNat = u + 1 := by omega
  simp [wonD, standD, ha, e2, rg, tn]
end CG
end
section
set_option maxHeartbeats 4000000
namespace CI
open PySem PySem.Spec PyProof.Rows L2 TL
open CM hiding b_l_alike m_l_alike b_l_unit m_l_unit g_l_unit b_l_rule m_l_rule b_l_any_rule m_l_any_rule unit_ok rule_step rule_ok any_rule
noncomputable section
def b_sides_of : MS := (sSeq (sIf (tB (eBin mEq (eBin mIdx (eVar 0) (eC (.int 0))) (eC (.str "rally")))) (sRet (eC (.int 2))) sNil)
    (sRet (eBin mIdx (eBin mIdx (eVar 0) (eC (.int 1))) (eC (.int 0)))))
def m_sides_of : Fn := fnD 1 1 b_sides_of
end
open RL RB TLQ RD CG
def isPoint : D → Bool
  | .tup [d] => isText (Str.ofString "point") d
  | _ => false
/-- how many units; none where it is no rule -/
def okNums (t l c la : D) : Bool := inB 1 99 t && (inB 1 99 l && (match c with
  | .non => isNon la
  | .int i => (match t with | .int j => decide (j ≤ i) && decide (i ≤ 99) | _ => false)
  | _ => false))
def unitsD : Nat → D → Nat → Option Nat
  | 0, _, _ => none
  | n + 1, d, a => if isPoint d = true then some 0 else match d with
    | .tup [u, t, l, c, i, la] => if a = 4 then none else if isText (Str.ofString "unit") u = true ∧ okNums t l c la = true then
        match unitsD n i (a + 1), (if isNon la = true then some 0 else unitsD n la (a + 1)) with
        | some x, some y => some (1 + x + y)
        | _, _ => none
      else none
    | _ => none
theorem notTup {d : D} (h : ∀ xs, d ≠ .tup xs) (n a : Nat) : unitsD n d a = none ∧ isPoint d = false := by
  have p : isPoint d = false := by cases d with | tup xs => exact absurd rfl (h xs) | _ => rfl
  refine ⟨?_, p⟩
  cases n with
  | zero => rfl
  | succ n =>
    unfold unitsD
    rw [p]
    cases d with | tup xs => exact absurd rfl (h xs) | _ => rfl
/-- a game as the law draws it -/
def Gd : Gm → Prop
  | .rally r => r.good ∧ r.depth ≤ 4 ∧ r.units ≤ 7
  | .down w => DownOk w
  | .lane k P n => Lane k P n
def firstD : Gm → D
  | .rally r => .tup [(begunR r).toD, .non]
  | .down w => .tup [(firstS w).toD, .non]
  | .lane k P n => .tup [standD (List.replicate k (freshR P)) 0, .non]
def sidesD : Gm → Int
  | .rally _ => 2
  | .down w => w.sides
  | .lane k _ _ => k
theorem sides_of_ok {g : Gm} (M : Mem) : m_sides_of [g.toD] M = .ok (.int (sidesD g)) M := by
  show endS (b_sides_of [some g.toD] M) = _
  unfold b_sides_of
  cases g with
  | rally r => simp [Gm.toD, sidesD]
  | down w => simp [Gm.toD, Down.toD, sidesD]
  | lane k P n => simp [Gm.toD, laneD, sidesD]
end CI
end
section
set_option maxHeartbeats 4000000
namespace CE
open PySem PySem.Spec PyProof.Rows L2 TL
noncomputable section
def b_l_cell_at : MS := (sSeq (sIf (tB (eBin mLt (eVar 1) (eCallO nLen (aCons (eVar 0) aNil)))) (sRet (eBin mIdx (eVar 0) (eVar 1))) sNil)
    (sRet (eC (.int 0))))
def m_l_cell_at : Fn := fnD 2 2 b_l_cell_at
def lp_l_draws_0 : MS := (sSeq (sExpr (eMeth "list" mAppend (eVar 2) (aCons (eBin mMod (eVar 3) (eC (.int 720720))) aNil)))
    (sAsg (gOne 3) (eBin mFdiv (eVar 3) (eC (.int 720720)))))
def lp_l_draws_1 : MS := (sSeq (sAsg (gOne 3) (eBin mMod (eBin mAdd (eBin mAdd (eBin mMul (eVar 3) (eVar 3)) (eBin mMul (eC (.int 48271)) (eVar 3))) (eVar 4)) (eC (.int 2147483647))))
    (sExpr (eMeth "list" mAppend (eVar 2) (aCons (eBin mMod (eBin mAdd (eBin mMul (eVar 3) (eC (.int 69621))) (eBin mMul (eC (.int 7)) (eVar 4))) (eC (.int 2147483629))) aNil))))
def b_l_draws : MS := (sSeq (sAsg (gOne 2) (eLst aNil))
    (sSeq (sIf (tB (eBin mEq (eBin mMod (eVar 0) (eC (.int 2))) (eC (.int 1)))) (sSeq (sAsg (gOne 3) (eBin mFdiv (eVar 0) (eC (.int 2))))
    (sSeq (sFor (iRange1 (eVar 1)) (gOne 4) lp_l_draws_0)
    (sRet (eVar 2)))) sNil)
    (sSeq (sAsg (gOne 3) (eBin mAdd (eBin mMod (eBin mFdiv (eVar 0) (eC (.int 2))) (eC (.int 2147483647))) (eC (.int 48271))))
    (sSeq (sFor (iRange1 (eBin mAdd (eVar 1) (eC (.int 1)))) (gOne 4) lp_l_draws_1)
    (sRet (eSl (eVar 2) (oSome (eC (.int 1))) oNone))))))
def m_l_draws : Fn := fnD 2 5 b_l_draws
def b_l_unit (r_l_unit : Fn) : MS := (sSeq (sIf (tOr (tB (eBin mEq (eVar 2) (eVar 3))) (tAnd (tB (eBin mGt (eVar 1) (eC (.int 0)))) (tB (eBin mEq (eBin mMod (eBin mIdx (eVar 0) (eBin mMul (eC (.int 4)) (eVar 1))) (eC (.int 7))) (eC (.int 0)))))) (sRet (eTup (aCons (eC (.str "point")) aNil))) sNil)
    (sSeq (sAsg (gOne 4) (eBin mAdd (eC (.int 1)) (eBin mMod (eBin mIdx (eVar 0) (eBin mAdd (eBin mMul (eC (.int 4)) (eVar 1)) (eC (.int 1)))) (eBin mIdx (eLst (aCons (eC (.int 3)) (aCons (eC (.int 5)) (aCons (eC (.int 99)) aNil)))) (eBin mMod (eBin mFdiv (eBin mIdx (eVar 0) (eBin mAdd (eBin mMul (eC (.int 4)) (eVar 1)) (eC (.int 1)))) (eC (.int 99))) (eC (.int 3)))))))
    (sSeq (sAsg (gOne 5) (eBin mAdd (eC (.int 1)) (eBin mMod (eBin mIdx (eVar 0) (eBin mAdd (eBin mMul (eC (.int 4)) (eVar 1)) (eC (.int 2)))) (eBin mIdx (eLst (aCons (eC (.int 2)) (aCons (eC (.int 3)) (aCons (eC (.int 99)) aNil)))) (eBin mMod (eBin mFdiv (eBin mIdx (eVar 0) (eBin mAdd (eBin mMul (eC (.int 4)) (eVar 1)) (eC (.int 2)))) (eC (.int 99))) (eC (.int 3)))))))
    (sSeq (sAsg (gOne 6) (eC .non))
    (sSeq (sAsg (gOne 7) (eC .non))
    (sSeq (sIf (tB (eBin mEq (eBin mMod (eBin mIdx (eVar 0) (eBin mAdd (eBin mMul (eC (.int 4)) (eVar 1)) (eC (.int 3)))) (eC (.int 2))) (eC (.int 1)))) (sSeq (sAsg (gOne 6) (eCallO nMin2 (aCons (eC (.int 99)) (aCons (eBin mAdd (eVar 4) (eBin mMod (eBin mFdiv (eBin mIdx (eVar 0) (eBin mAdd (eBin mMul (eC (.int 4)) (eVar 1)) (eC (.int 3)))) (eC (.int 2))) (eC (.int 4)))) aNil))))
    (sIf (tAnd (tB (eBin mEq (eBin mMod (eBin mFdiv (eBin mIdx (eVar 0) (eBin mAdd (eBin mMul (eC (.int 4)) (eVar 1)) (eC (.int 3)))) (eC (.int 8))) (eC (.int 2))) (eC (.int 1)))) (tB (eBin mLt (eVar 3) (eC (.int 4))))) (sAsg (gOne 7) (eCall r_l_unit (aCons (eVar 0) (aCons (eBin mAdd (eBin mMul (eC (.int 2)) (eVar 1)) (eC (.int 2))) (aCons (eBin mAdd (eVar 2) (eC (.int 1))) (aCons (eVar 3) aNil)))))) sNil)) sNil)
    (sRet (eTup (aCons (eC (.str "unit")) (aCons (eVar 4) (aCons (eVar 5) (aCons (eVar 6) (aCons (eCall r_l_unit (aCons (eVar 0) (aCons (eBin mAdd (eBin mMul (eC (.int 2)) (eVar 1)) (eC (.int 1))) (aCons (eBin mAdd (eVar 2) (eC (.int 1))) (aCons (eVar 3) aNil))))) (aCons (eVar 7) aNil))))))))))))))
def m_l_unit : Nat → Fn
  | 0 => noFn
  | n + 1 => fnD 4 8 (b_l_unit (m_l_unit n))
def lp_l_throws_0 : MS := (sExpr (eMeth "list" mAppend (eVar 3) (aCons (eTup (aCons (eBin mIdx (eVar 2) (eVar 4)) (aCons (eBin mMod (eBin mIdx (eVar 0) (eBin mAdd (eC (.int 3)) (eBin mMul (eC (.int 2)) (eVar 4)))) (eBin mIdx (eLst (aCons (eC (.int 4)) (aCons (eC (.int 21)) (aCons (eC (.int 1000001)) aNil)))) (eBin mMod (eBin mFdiv (eBin mIdx (eVar 0) (eBin mAdd (eC (.int 4)) (eBin mMul (eC (.int 2)) (eVar 4)))) (eC (.int 2))) (eC (.int 3))))) (aCons (eBin mEq (eBin mMod (eBin mIdx (eVar 0) (eBin mAdd (eC (.int 4)) (eBin mMul (eC (.int 2)) (eVar 4)))) (eC (.int 2))) (eC (.int 1))) aNil)))) aNil)))
def b_l_throws : MS := (sSeq (sAsg (gOne 1) (eLst (aCons (eLst (aCons (eC (.str "a")) (aCons (eC (.str "ab")) (aCons (eC (.str "abc")) (aCons (eC (.str "abcd")) (aCons (eC (.str "b")) aNil)))))) (aCons (eLst (aCons (eC (.str "z9")) (aCons (eC (.str "z")) (aCons (eC (.str "z90")) (aCons (eC (.str "y")) (aCons (eC (.str "zz")) aNil)))))) (aCons (eLst (aCons (eC (.str "t20")) (aCons (eC (.str "d20")) (aCons (eC (.str "t2")) (aCons (eC (.str "d")) (aCons (eC (.str "x0000000")) aNil)))))) aNil)))))
    (sSeq (sAsg (gOne 2) (eBin mIdx (eVar 1) (eBin mMod (eBin mIdx (eVar 0) (eC (.int 1))) (eC (.int 3)))))
    (sSeq (sAsg (gOne 3) (eLst aNil))
    (sSeq (sFor (iRange1 (eBin mAdd (eC (.int 1)) (eBin mMod (eBin mIdx (eVar 0) (eC (.int 2))) (eC (.int 5))))) (gOne 4) lp_l_throws_0)
    (sRet (eCallO nTuple (aCons (eVar 3) aNil)))))))
def m_l_throws : Fn := fnD 1 5 b_l_throws
def b_l_game : MS := (sSeq (sAsg (gOne 1) (eCall m_l_draws (aCons (eVar 0) (aCons (eC (.int 34)) aNil))))
    (sSeq (sIf (tB (eBin mEq (eBin mMod (eBin mIdx (eVar 1) (eC (.int 33))) (eC (.int 3))) (eC (.int 0)))) (sRet (eTup (aCons (eC (.str "rally")) (aCons (eCall (m_l_unit 14) (aCons (eVar 1) (aCons (eC (.int 0)) (aCons (eC (.int 0)) (aCons (eBin mMod (eBin mIdx (eVar 1) (eC (.int 32))) (eC (.int 5))) aNil))))) aNil)))) sNil)
    (sSeq (sIf (tB (eBin mEq (eBin mMod (eBin mIdx (eVar 1) (eC (.int 33))) (eC (.int 3))) (eC (.int 1)))) (sSeq (sAsg (gOne 2) (eBin mAdd (eC (.int 1)) (eBin mMod (eBin mIdx (eVar 1) (eC (.int 11))) (eBin mIdx (eLst (aCons (eC (.int 9)) (aCons (eC (.int 60)) (aCons (eC (.int 1000000)) aNil)))) (eBin mMod (eBin mIdx (eVar 1) (eC (.int 13))) (eC (.int 3)))))))
    (sRet (eTup (aCons (eC (.str "down")) (aCons (eTup (aCons (eBin mAdd (eC (.int 1)) (eBin mMod (eBin mIdx (eVar 1) (eC (.int 0))) (eC (.int 3)))) (aCons (eVar 2) (aCons (eBin mAdd (eC (.int 1)) (eBin mMod (eBin mIdx (eVar 1) (eC (.int 12))) (eC (.int 3)))) (aCons (eCall m_l_throws (aCons (eVar 1) aNil)) aNil))))) aNil))))) sNil)
    (sRet (eTup (aCons (eC (.str "lane")) (aCons (eTup (aCons (eBin mAdd (eC (.int 1)) (eBin mMod (eBin mIdx (eVar 1) (eC (.int 0))) (eC (.int 3)))) (aCons (eBin mAdd (eC (.int 1)) (eBin mMod (eBin mIdx (eVar 1) (eC (.int 1))) (eBin mIdx (eLst (aCons (eC (.int 3)) (aCons (eC (.int 10)) (aCons (eC (.int 20)) aNil)))) (eBin mMod (eBin mIdx (eVar 1) (eC (.int 3))) (eC (.int 3)))))) (aCons (eBin mAdd (eC (.int 1)) (eBin mMod (eBin mIdx (eVar 1) (eC (.int 2))) (eBin mIdx (eLst (aCons (eC (.int 2)) (aCons (eC (.int 3)) (aCons (eC (.int 12)) aNil)))) (eBin mMod (eBin mIdx (eVar 1) (eC (.int 4))) (eC (.int 3)))))) aNil)))) aNil)))))))
def m_l_game : Fn := fnD 1 3 b_l_game
end
open RL RB TLQ RD CI
open CM hiding b_l_alike m_l_alike b_l_unit m_l_unit g_l_unit b_l_rule m_l_rule b_l_any_rule m_l_any_rule unit_ok rule_step rule_ok any_rule
open CG (Gm)
theorem asg_step {i : Nat} {e : ME} {env : TL.Env} {M M' : Mem} {v : D} {rest : MS} (h : e env M = .ok v M') : (sSeq (sAsg (gOne i) e) rest) env M = rest (env.set i (some v)) M' := by
  show nextS (thenS env (e env M) fun d M1 => match gOne i d env with | some env' => .next env' M1 | none => .stuck) rest = _
  rw [h]
  rfl
theorem cell_at_ok {ns : List Int} {S : Nat} {M : Mem} {k : Nat} (hS : seqAt M S = some (ns.map D.int)) : m_l_cell_at [.ref S, .int (k : Nat)] M = .ok (.int (ns.getD k 0)) M := by
  show endS (b_l_cell_at [some (.ref S), some (.int (k : Nat))] M) = _
  unfold b_l_cell_at
  by_cases c : k < ns.length
  · have c' : (k : Int) < (ns.length : Nat) := by omega
    have i1 : atI (ns.map D.int) (k : Int) = some (.int (ns.getD k 0)) := atI_nat (by rw [List.getElem?_map, List.getD_eq_getElem?_getD, List.getElem?_eq_getElem c]; rfl)
    simp [hS, c', i1, c]
  · have c' : ¬ ((k : Int) < (ns.length : Nat)) := by omega
    have d0 : ns.getD k 0 = 0 := by rw [List.getD_eq_getElem?_getD, List.getElem?_eq_none (by omega)]; rfl
    simp [hS, c', d0, c]
theorem mul_in {M : Mem} {i j : Int} (h0 : -100000000000 ≤ i) (h1 : i ≤ 100000000000) : mMul (.int i) (.int j) M = some (.int (i * j), M) := by
  rw [mMul_int, if_pos]; omega
/-- a list of numbers, drawn -/
def DrawsQ (many : Nat) (M : Mem) (d : D) (M' : Mem) : Prop := ∃ (n : Nat) (xs : List Nat), d = .ref n ∧ M.length ≤ n ∧ Keep M M' ∧ M'[n]? = some (.lst (xs.map fun x => D.int (x : Nat))) ∧ xs.length = many
def OInv (M : Mem) (many : Nat) : List D → TL.Env → Mem → Prop := fun ds env M' => ∃ (e0 e1 e4 : Option D) (num : Int) (xs : List Nat), env = [e0, e1, some (.ref M.length), some (.int num), e4] ∧ Keep M M' ∧ M'[M.length]? = some (.lst (xs.map fun x => D.int (x : Nat))) ∧ xs.length + ds.length = many
def EvInv (M : Mem) (many : Nat) : List D → TL.Env → Mem → Prop := fun ds env M' => ∃ (e0 e1 e4 : Option D) (num : Int) (xs : List Nat), env = [e0, e1, some (.ref M.length), some (.int num), e4] ∧ Keep M M' ∧ M'[M.length]? = some (.lst (xs.map fun x => D.int (x : Nat))) ∧ xs.length + ds.length = many ∧ 0 ≤ num ∧ num ≤ 3000000000 ∧ ∀ d ∈ ds, ∃ i : Int, d = .int i ∧ 0 ≤ i
theorem draws_ok {c : Int} {many : Nat} (hm : many ≤ 1000) (M : Mem) : Ret (m_l_draws [.int c, .int (many : Nat)] M) (DrawsQ many M) := by
  show Ret (endS (b_l_draws [some (.int c), some (.int (many : Nat)), none, none, none] M)) _
  unfold b_l_draws
  have ro : RngOk (many : Int) := rngOk_nat (by omega)
  have ro1 : RngOk ((many : Int) + 1) := rngOk_nat (n := many + 1) (by omega)
  have tn : ((many : Int) + 1).toNat = many + 1 := by omega
  by_cases q : c % 2 = 1
  · simp [q, ro]
    refine Ret.endS ?_
    refine SRet.forQ (OInv M many) ⟨_, _, _, c / 2, [], rfl, Keep.more _ _, at_len _ _, by simp [rng_length]⟩ (fun _ _ _ _ => trivial) ?_ ?_
    · rintro d ds env M' ⟨e0, e1, e4, num, xs, rfl, k, h, hl⟩
      refine ⟨_, rfl, ?_⟩
      unfold lp_l_draws_0
      obtain ⟨y, hy⟩ : ∃ y : Nat, num % 720720 = (y : Int) := ⟨(num % 720720).toNat, by omega⟩
      have ap := mAppend_ok (y := .int (y : Nat)) h (by rw [List.length_map]; rw [List.length_cons] at hl; omega)
      have sq := seqAt_lst h
      have lt := lt_of_at h
      simp [sq, hy, ap]
      refine SRet.next ⟨_, _, _, num / 720720, xs ++ [y], rfl, k.setNew (Nat.le_refl _), ?_, ?_⟩
      · rw [List.getElem?_set_self lt]; simp
      · rw [List.length_append, List.length_singleton]; rw [List.length_cons] at hl; omega
    · rintro env M' ⟨e0, e1, e4, num, xs, rfl, k, h, hl⟩
      simp
      exact SRet.ret ⟨M.length, xs, rfl, Nat.le_refl _, k, h, by simpa using hl⟩
  · have q' : ¬ (c % 2 = 1) := q
    simp [q', ro1, tn]
    refine Ret.endS ?_
    refine SRet.forQ (EvInv M (many + 1)) ⟨_, _, _, c / 2 % 2147483647 + 48271, [], rfl, Keep.more _ _, at_len _ _, by simp [rng_length], by omega, by omega, fun d hd => ?_⟩ (fun _ _ _ _ => trivial) ?_ ?_
    · obtain ⟨i, hi, rfl⟩ := mem_rng hd
      exact ⟨_, rfl, by omega⟩
    · rintro d ds env M' ⟨e0, e1, e4, num, xs, rfl, k, h, hl, n0, n1, hd⟩
      obtain ⟨i, rfl, i0⟩ := hd d List.mem_cons_self
      refine ⟨_, rfl, ?_⟩
      unfold lp_l_draws_1
      have m1 := mul_in (M := M') (i := num) (j := num) (by omega) (by omega)
      have m2 := mul_in (M := M') (i := 48271) (j := num) (by omega) (by omega)
      obtain ⟨nu, hnu⟩ : ∃ nu, nu = (num * num + 48271 * num + i) % 2147483647 := ⟨_, rfl⟩
      have b0 : 0 ≤ nu ∧ nu < 2147483647 := by rw [hnu]; omega
      have m3 := mul_in (M := M') (i := nu) (j := 69621) (by omega) (by omega)
      have m4 := mul_in (M := M') (i := 7) (j := i) (by omega) (by omega)
      obtain ⟨y, hy⟩ : ∃ y : Nat, (nu * 69621 + 7 * i) % 2147483629 = (y : Int) := ⟨((nu * 69621 + 7 * i) % 2147483629).toNat, by omega⟩
      have ap := mAppend_ok (y := .int (y : Nat)) h (by rw [List.length_map]; rw [List.length_cons] at hl; omega)
      have sq := seqAt_lst h
      have lt := lt_of_at h
      simp [-mMul_int, m1, m2, ← hnu, m3, m4, sq, hy, ap]
      refine SRet.next ⟨_, _, _, nu, xs ++ [y], rfl, k.setNew (Nat.le_refl _), ?_, ?_, b0.1, by omega, fun d hd' => hd d (List.mem_cons_of_mem _ hd')⟩
      · rw [List.getElem?_set_self lt]; simp
      · rw [List.length_append, List.length_singleton]; rw [List.length_cons] at hl; omega
    · rintro env M' ⟨e0, e1, e4, num, xs, rfl, k, h, hl, _⟩
      have sl : mSl (.ref M.length) (some 1) none M' = some (.ref M'.length, M' ++ [.lst ((xs.drop 1).map fun x => D.int (x : Nat))]) := by
        rw [show (1 : Int) = ((1 : Nat) : Int) from rfl, mSl_fr (seqAt_lst h) (by rw [List.length_map]; simp at hl; omega), List.map_drop]
      simp [-List.drop_one, sl]
      exact SRet.ret ⟨M'.length, xs.drop 1, rfl, k.1, k.trans (Keep.more _ _), by rw [← List.map_drop]; exact at_len _ _, by rw [List.length_drop]; simp at hl; omega⟩
structure Xs (M : Mem) (X : Nat) (xs : List Nat) : Prop where
  s : seqAt M X = some (xs.map fun x => D.int (x : Nat))
  l : xs.length = 34
theorem Xs.at_ {M : Mem} {X : Nat} {xs : List Nat} (h : Xs M X xs) {i : Nat} (hi : i < 34) : ∃ v : Nat, ∀ M', Keep M M' → mIdx (.ref X) (.int (i : Nat)) M' = some (.int (v : Nat), M') := by
  obtain ⟨v, hv⟩ : ∃ v, xs[i]? = some v := ⟨xs[i]'(by rw [h.l]; exact hi), List.getElem?_eq_getElem _⟩
  refine ⟨v, fun M' k => ?_⟩
  have := atI_nat (xs := xs.map fun x => D.int (x : Nat)) (j := i) (v := .int (v : Nat)) (by rw [List.getElem?_map, hv]; rfl)
  show (match seqAt M' X with | some xs => (atI xs (i : Int)).map fun d => (d, M') | none => none) = _
  rw [k.seq h.s]
  simp only [this]
  rfl
theorem Xs.keep {M M' : Mem} {X : Nat} {xs : List Nat} (h : Xs M X xs) (k : Keep M M') : Xs M' X xs := ⟨k.seq h.s, h.l⟩
theorem pick3 {a b c : Int} {i : Int} (h0 : 0 ≤ i) (h1 : i < 3) (P : Int → Prop) (pa : P a) (pb : P b) (pc : P c) : ∃ v, atI [D.int a, .int b, .int c] i = some (.int v) ∧ P v := by
  rcases (show i = 0 ∨ i = 1 ∨ i = 2 by omega) with rfl | rfl | rfl
  · exact ⟨a, by simp, pa⟩
  · exact ⟨b, by simp, pb⟩
  · exact ⟨c, by simp, pc⟩
/-- a number drawn below one of three -/
def e3 (ix : ME) (dv : ME → ME) (a b c : Int) : ME := (eBin mAdd (eC (.int 1)) (eBin mMod (eBin mIdx (eVar 0) ix) (eBin mIdx (eLst (aCons (eC (.int a)) (aCons (eC (.int b)) (aCons (eC (.int c)) aNil)))) (eBin mMod (dv (eBin mIdx (eVar 0) ix)) (eC (.int 3))))))
theorem e3_ok {ix : ME} {a b c : Int} {X i v : Nat} {env : TL.Env} {M : Mem} (h0 : env[0]? = some (some (.ref X))) (hi : ∀ M', ix env M' = .ok (.int (i : Nat)) M') (hv : ∀ M', Keep M M' → mIdx (.ref X) (.int (i : Nat)) M' = some (.int (v : Nat), M'))
    (ha : 1 ≤ a ∧ a ≤ 99) (hb : 1 ≤ b ∧ b ≤ 99) (hc : 1 ≤ c ∧ c ≤ 99) : ∃ r : Int, 1 ≤ r ∧ r ≤ 99 ∧ e3 ix (fun e => eBin mFdiv e (eC (.int 99))) a b c env M = .ok (.int r) (M ++ [.lst [.int a, .int b, .int c]]) := by
  obtain ⟨m, e1, g1, g2⟩ := pick3 (a := a) (b := b) (c := c) (i := (v : Int) / 99 % 3) (by omega) (by omega) (fun m => 1 ≤ m ∧ m ≤ 99) ha hb hc
  have v1 := hv M (Keep.refl _)
  have v2 := hv (M ++ [.lst [.int a, .int b, .int c]]) (Keep.more _ _)
  have sq : seqAt (M ++ [MO.lst [D.int a, .int b, .int c]]) M.length = some [.int a, .int b, .int c] := seqAt_lst (at_len _ _)
  have p0 : 0 < m := by omega
  have ix2 : mIdx (.ref M.length) (.int ((v : Int) / 99 % 3)) (M ++ [MO.lst [D.int a, .int b, .int c]]) = some (.int m, M ++ [MO.lst [D.int a, .int b, .int c]]) := by
    show (match seqAt (M ++ [MO.lst [D.int a, .int b, .int c]]) M.length with | some xs => (atI xs ((v : Int) / 99 % 3)).map fun d => (d, M ++ [MO.lst [D.int a, .int b, .int c]]) | none => none) = _
    rw [sq]; simp only [e1]; rfl
  refine ⟨1 + (v : Int) % m, ?_, ?_, ?_⟩
  · have := Int.emod_nonneg (v : Int) (show m ≠ 0 by omega); omega
  · have := Int.emod_lt_of_pos (v : Int) p0; omega
  · unfold e3
    simp [-mIdx_ref, h0, hi, v1, v2, ix2, p0]
def uLim (levels level at_ : Nat) : Prop := level ≤ levels ∧ levels ≤ 4 ∧ (levels = 4 → at_ + 1 = 2 ^ level) ∧ (levels ≤ 3 → at_ + 2 ≤ 2 ^ (level + 1))
def ubL (levels level : Nat) : Nat := if levels = 4 then 4 - level else 2 ^ (levels - level) - 1
theorem uLim.seven {levels level at_ : Nat} (h : uLim levels level at_) (hl : level < levels) : at_ ≤ 7 := by
  obtain ⟨h1, h2, h3, h4⟩ := h
  rcases (show levels = 4 ∨ levels ≤ 3 by omega) with c | c
  · have := h3 c
    have : level = 0 ∨ level = 1 ∨ level = 2 ∨ level = 3 := by omega
    rcases this with rfl | rfl | rfl | rfl <;> simp at * <;> omega
  · have := h4 c
    have : level = 0 ∨ level = 1 ∨ level = 2 := by omega
    rcases this with rfl | rfl | rfl <;> simp at * <;> omega
theorem uLim.next {levels level at_ : Nat} (h : uLim levels level at_) (hl : level < levels) : uLim levels (level + 1) (2 * at_ + 1) := by
  obtain ⟨h1, h2, h3, h4⟩ := h
  refine ⟨by omega, h2, fun c => ?_, fun c => ?_⟩
  · have := h3 c; rw [Nat.pow_succ]; omega
  · have := h4 c; rw [Nat.pow_succ]; omega
theorem uLim.nextL {levels level at_ : Nat} (h : uLim levels level at_) (hl : level < levels) (h3 : levels ≤ 3) : uLim levels (level + 1) (2 * at_ + 2) := by
  obtain ⟨h1, h2, _, h4⟩ := h
  refine ⟨by omega, h2, fun c => by omega, fun c => ?_⟩
  have := h4 c; rw [Nat.pow_succ]; omega
def UnitQ (levels level : Nat) (M : Mem) (d : D) (M' : Mem) : Prop := ∃ r : Rule, d = r.toD ∧ r.good ∧ r.depth ≤ levels - level ∧ r.units ≤ ubL levels level ∧ Keep M M'
theorem unit_ok {X : Nat} {xs : List Nat} : ∀ (n levels level at_ : Nat) (M : Mem), levels - level < n → uLim levels level at_ → Xs M X xs → Ret (m_l_unit n [.ref X, .int (at_ : Nat), .int (level : Nat), .int (levels : Nat)] M) (UnitQ levels level M)
  | 0, _, _, _, _, h, _, _ => by omega
  | n + 1, levels, level, at_, M, hn, lim, hx => by
    show Ret (endS (b_l_unit (m_l_unit n) [some (.ref X), some (.int (at_ : Nat)), some (.int (level : Nat)), some (.int (levels : Nat)), none, none, none, none] M)) _
    have eb : b_l_unit (m_l_unit n) = sSeq (sIf (tOr (TL.tB (eBin mEq (eVar 2) (eVar 3))) (tAnd (TL.tB (eBin mGt (eVar 1) (eC (.int 0)))) (TL.tB (eBin mEq (eBin mMod (eBin mIdx (eVar 0) (eBin mMul (eC (.int 4)) (eVar 1))) (eC (.int 7))) (eC (.int 0)))))) (sRet (eTup (aCons (eC (.str "point")) aNil))) sNil)
      (sSeq (sAsg (gOne 4) (e3 (eBin mAdd (eBin mMul (eC (.int 4)) (eVar 1)) (eC (.int 1))) (fun e => eBin mFdiv e (eC (.int 99))) 3 5 99))
      (sSeq (sAsg (gOne 5) (e3 (eBin mAdd (eBin mMul (eC (.int 4)) (eVar 1)) (eC (.int 2))) (fun e => eBin mFdiv e (eC (.int 99))) 2 3 99)) _)) := rfl
    rw [eb]
    have le := lim.1
    by_cases c0 : level = levels
    · subst c0
      simp
      exact TL.Ret.ok (P := UnitQ level level M) ⟨.point, rfl, trivial, Nat.zero_le _, Nat.zero_le _, Keep.refl _⟩
    · have c0' : ¬ ((level : Int) = (levels : Nat)) := by omega
      have a7 := lim.seven (by omega)
      have m4 : ∀ M', mMul (.int 4) (.int (at_ : Nat)) M' = some (.int (4 * (at_ : Int)), M') := fun M' => mul_in (by decide) (by decide)
      have m2 : ∀ M', mMul (.int 2) (.int (at_ : Nat)) M' = some (.int (2 * (at_ : Int)), M') := fun M' => mul_in (by decide) (by decide)
      obtain ⟨v0, h0⟩ := hx.at_ (i := 4 * at_) (by omega)
      have v0' : mIdx (.ref X) (.int (4 * (at_ : Int))) M = some (.int (v0 : Nat), M) := by have := h0 M (Keep.refl _); rwa [show ((4 * at_ : Nat) : Int) = 4 * (at_ : Int) from by omega] at this
      have isP : Ret (.ok (.tup [.str (Str.ofString "point")]) M) (UnitQ levels level M) := .ok ⟨.point, rfl, trivial, Nat.zero_le _, Nat.zero_le _, Keep.refl _⟩
      by_cases cP : 0 < at_ ∧ (v0 : Int) % 7 = 0
      · have cp1 : 0 < (at_ : Int) := by omega
        simp [-mIdx_ref, -mMul_int, c0', cp1, m4, v0', cP.1, cP.2]
        exact isP
      · have first : ∀ rest : MS, (sSeq (sIf (tOr (TL.tB (eBin mEq (eVar 2) (eVar 3))) (tAnd (TL.tB (eBin mGt (eVar 1) (eC (.int 0)))) (TL.tB (eBin mEq (eBin mMod (eBin mIdx (eVar 0) (eBin mMul (eC (.int 4)) (eVar 1))) (eC (.int 7))) (eC (.int 0)))))) (sRet (eTup (aCons (eC (.str "point")) aNil))) sNil) rest) [some (.ref X), some (.int (at_ : Nat)), some (.int (level : Nat)), some (.int (levels : Nat)), none, none, none, none] M = rest [some (.ref X), some (.int (at_ : Nat)), some (.int (level : Nat)), some (.int (levels : Nat)), none, none, none, none] M := by
          intro rest
          by_cases c1 : 0 < at_
          · have c1' : 0 < (at_ : Int) := by omega
            have c2 : ¬ ((v0 : Int) % 7 = 0) := fun e => cP ⟨c1, e⟩
            simp [-mIdx_ref, -mMul_int, c0', c1, c1', m4, v0', c2]
          · have c1' : ¬ 0 < (at_ : Int) := by omega
            simp [c0', c1, c1']
        rw [first]
        obtain ⟨v1, h1⟩ := hx.at_ (i := 4 * at_ + 1) (by omega)
        obtain ⟨to, t0, t1, et⟩ := e3_ok (ix := eBin mAdd (eBin mMul (eC (.int 4)) (eVar 1)) (eC (.int 1))) (a := 3) (b := 5) (c := 99) (env := [some (.ref X), some (.int (at_ : Nat)), some (.int (level : Nat)), some (.int (levels : Nat)), none, none, none, none]) (i := 4 * at_ + 1) (M := M) rfl (fun M' => by simp [-mMul_int, m4]) h1 (by decide) (by decide) (by decide)
        rw [asg_step et]
        have k1 := Keep.more M [MO.lst [.int 3, .int 5, .int 99]]
        have hx1 := hx.keep k1
        obtain ⟨v2, h2⟩ := hx1.at_ (i := 4 * at_ + 2) (by omega)
        generalize M ++ [MO.lst [.int 3, .int 5, .int 99]] = M1 at *
        obtain ⟨lead, l0, l1, el⟩ := e3_ok (ix := eBin mAdd (eBin mMul (eC (.int 4)) (eVar 1)) (eC (.int 2))) (a := 2) (b := 3) (c := 99) (env := [some (.ref X), some (.int (at_ : Nat)), some (.int (level : Nat)), some (.int (levels : Nat)), some (.int to), none, none, none]) (i := 4 * at_ + 2) (M := M1) rfl (fun M' => by simp [-mMul_int, m4]) h2 (by decide) (by decide) (by decide)
        have el' : e3 (eBin mAdd (eBin mMul (eC (.int 4)) (eVar 1)) (eC (.int 2))) (fun e => eBin mFdiv e (eC (.int 99))) 2 3 99 ([some (.ref X), some (.int (at_ : Nat)), some (.int (level : Nat)), some (.int (levels : Nat)), none, none, none, none].set 4 (some (.int to))) M1 = .ok (.int lead) (M1 ++ [.lst [.int 2, .int 3, .int 99]]) := el
        rw [asg_step el']
        have k2 := k1.trans (Keep.more M1 [MO.lst [.int 2, .int 3, .int 99]])
        have hx2 := hx.keep k2
        generalize M1 ++ [MO.lst [.int 2, .int 3, .int 99]] = M2 at *
        obtain ⟨v3, h3⟩ := hx2.at_ (i := 4 * at_ + 3) (by omega)
        have v3' : mIdx (.ref X) (.int (4 * (at_ : Int) + 3)) M2 = some (.int (v3 : Nat), M2) := by have := h3 M2 (Keep.refl _); rwa [show ((4 * at_ + 3 : Nat) : Int) = 4 * (at_ : Int) + 3 from by omega] at this
        have lt : level < levels := by omega
        have c1 : ((2 * at_ + 1 : Nat) : Int) = 2 * (at_ : Int) + 1 := by omega
        have c2 : ((2 * at_ + 2 : Nat) : Int) = 2 * (at_ : Int) + 2 := by omega
        have c3 : ((level + 1 : Nat) : Int) = (level : Int) + 1 := by omega
        have inner : ∀ M', Keep M M' → Ret (m_l_unit n [.ref X, .int (2 * (at_ : Int) + 1), .int ((level : Int) + 1), .int (levels : Nat)] M') (UnitQ levels (level + 1) M') := by
          intro M' k'
          have := unit_ok n levels (level + 1) (2 * at_ + 1) M' (by omega) (lim.next lt) (hx.keep k')
          rwa [c1, c3] at this
        have done0 : ∀ (cap : Option Int) (inn : Rule) (M' : Mem), (∀ c, cap = some c → to ≤ c ∧ c ≤ 99) → inn.good → inn.depth ≤ levels - (level + 1) → inn.units ≤ ubL levels (level + 1) → Keep M M' → Ret (.ok (Rule.unit to lead cap inn).toD M') (UnitQ levels level M) := by
          intro cap inn M' hc hg hd hu k'
          refine .ok ⟨_, rfl, ⟨t0, t1, l0, l1, hc, hg⟩, by simp only [Rule.depth]; omega, ?_, k'⟩
          simp only [Rule.units, ubL] at hu ⊢
          split at hu
          · rename_i e; rw [if_pos e]; omega
          · rename_i e
            rw [if_neg e]
            have : 2 ^ (levels - level) = 2 * 2 ^ (levels - (level + 1)) := by rw [show levels - level = (levels - (level + 1)) + 1 from by omega, Nat.pow_succ]; omega
            have := Nat.one_le_two_pow (n := levels - (level + 1))
            omega
        have done1 : ∀ (cap : Int) (inn la : Rule) (M' : Mem), (to ≤ cap ∧ cap ≤ 99) → inn.good → la.good → inn.depth ≤ levels - (level + 1) → la.depth ≤ levels - (level + 1) → levels ≤ 3 → inn.units ≤ ubL levels (level + 1) → la.units ≤ ubL levels (level + 1) → Keep M M' → Ret (.ok (Rule.unitL to lead cap inn la).toD M') (UnitQ levels level M) := by
          intro cap inn la M' hc hg hg2 hd hd2 h3 hu hu2 k'
          refine .ok ⟨_, rfl, ⟨t0, t1, l0, l1, hc.1, hc.2, hg, hg2⟩, by simp only [Rule.depth]; omega, ?_, k'⟩
          have e : levels ≠ 4 := by omega
          simp only [Rule.units, ubL, if_neg e] at hu hu2 ⊢
          have : 2 ^ (levels - level) = 2 * 2 ^ (levels - (level + 1)) := by rw [show levels - level = (levels - (level + 1)) + 1 from by omega, Nat.pow_succ]; omega
          have := Nat.one_le_two_pow (n := levels - (level + 1))
          omega
        by_cases q1 : (v3 : Int) % 2 = 1
        · obtain ⟨cap, hcap⟩ : ∃ cap : Int, cap = (if to + (v3 : Int) / 2 % 4 < 99 then to + (v3 : Int) / 2 % 4 else 99) := ⟨_, rfl⟩
          have hc : to ≤ cap ∧ cap ≤ 99 := by rw [hcap]; split <;> omega
          by_cases q2 : (v3 : Int) / 8 % 2 = 1 ∧ (levels : Int) < 4
          · have l3 : levels ≤ 3 := by omega
            have lastR : Ret (m_l_unit n [.ref X, .int (2 * (at_ : Int) + 2), .int ((level : Int) + 1), .int (levels : Nat)] M2) (UnitQ levels (level + 1) M2) := by
              have := unit_ok n levels (level + 1) (2 * at_ + 2) M2 (by omega) (lim.nextL lt l3) hx2
              rwa [c2, c3] at this
            simp [-mIdx_ref, -mMul_int, m4, m2, v3', q1, q2.1, q2.2, ← hcap, l3]
            refine Ret.bindQ lastR ?_
            rintro _ M3 ⟨la, rfl, ga, da, ua, k3⟩
            simp [-mMul_int, m2]
            refine Ret.bindQ (inner M3 (k2.trans k3)) ?_
            rintro _ M4 ⟨inn, rfl, gi, di, ui, k4⟩
            simp
            exact done1 cap inn la M4 hc gi ga di da l3 ui ua ((k2.trans k3).trans k4)
          · have fin : Ret (m_l_unit n [.ref X, .int (2 * (at_ : Int) + 1), .int ((level : Int) + 1), .int (levels : Nat)] M2) (UnitQ levels (level + 1) M2) := inner M2 k2
            by_cases q3 : (v3 : Int) / 8 % 2 = 1
            · have q4 : ¬ (levels : Int) < 4 := fun e => q2 ⟨q3, e⟩
              have q5 : ¬ levels ≤ 3 := by omega
              have q6 : ¬ levels < 4 := by omega
              simp [-mIdx_ref, -mMul_int, m4, m2, v3', q1, q3, q4, q6, ← hcap]
              refine Ret.bindQ fin ?_
              rintro _ M4 ⟨inn, rfl, gi, di, ui, k4⟩
              simp
              exact done0 (some cap) inn M4 (fun c e => by cases e; exact hc) gi di ui (k2.trans k4)
            · simp [-mIdx_ref, -mMul_int, m4, m2, v3', q1, q3, ← hcap]
              refine Ret.bindQ fin ?_
              rintro _ M4 ⟨inn, rfl, gi, di, ui, k4⟩
              simp
              exact done0 (some cap) inn M4 (fun c e => by cases e; exact hc) gi di ui (k2.trans k4)
        · have fin : Ret (m_l_unit n [.ref X, .int (2 * (at_ : Int) + 1), .int ((level : Int) + 1), .int (levels : Nat)] M2) (UnitQ levels (level + 1) M2) := inner M2 k2
          simp [-mIdx_ref, -mMul_int, m4, m2, v3', q1]
          refine Ret.bindQ fin ?_
          rintro _ M4 ⟨inn, rfl, gi, di, ui, k4⟩
          simp
          exact done0 none inn M4 (fun c e => by cases e) gi di ui (k2.trans k4)
/-- the rule of a game by a cell -/
theorem rule_ok {X : Nat} {xs : List Nat} {M : Mem} (hx : Xs M X xs) {levels : Nat} (hl : levels ≤ 4) : Ret (m_l_unit 14 [.ref X, .int 0, .int 0, .int (levels : Nat)] M) (fun d M' => ∃ r : Rule, d = r.toD ∧ (r.good ∧ r.depth ≤ 4 ∧ r.units ≤ 7) ∧ Keep M M') := by
  refine (unit_ok 14 levels 0 0 M (by omega) ⟨Nat.zero_le _, hl, fun _ => rfl, fun _ => by decide⟩ hx).imp ?_
  rintro d M' ⟨r, e, g, dd, u, k⟩
  refine ⟨r, e, ⟨g, by omega, ?_⟩, k⟩
  unfold ubL at u
  split at u
  · omega
  · have : levels = 0 ∨ levels = 1 ∨ levels = 2 ∨ levels = 3 := by omega
    rcases this with rfl | rfl | rfl | rfl <;> simp at u <;> omega
end CE
end
section
set_option maxHeartbeats 4000000
namespace CE
open PySem PySem.Spec PyProof.Rows L2 TL
open RL RB TLQ RD CI
open CM hiding b_l_alike m_l_alike b_l_unit m_l_unit g_l_unit b_l_rule m_l_rule b_l_any_rule m_l_any_rule unit_ok rule_step rule_ok any_rule
open CG (Gm)
theorem rng_cons (lo : Int) (n : Nat) : rngItems lo (n + 1) = .int lo :: rngItems (lo + 1) n := by
  unfold rngItems
  rw [List.range_succ_eq_map]
  simp [List.map_map, Function.comp_def]
  intro a _
  omega
theorem idx_of {M : Mem} {n : Nat} {xs : List D} {i : Int} {v : D} (h : seqAt M n = some xs) (e : atI xs i = some v) : mIdx (.ref n) (.int i) M = some (v, M) := by
  show (match seqAt M n with | some xs => (atI xs i).map fun d => (d, M) | none => none) = _
  rw [h]; simp only [e]; rfl
structure ThB (t : Thr) : Prop where
  nm : nameB t.name = true
  w0 : 0 ≤ t.worth
  w1 : t.worth ≤ 1000000
/-- a number drawn below one of three, by another number -/
def g3 (i j a b c : Int) : ME := (eBin mAdd (eC (.int 1)) (eBin mMod (eBin mIdx (eVar 1) (eC (.int i))) (eBin mIdx (eLst (aCons (eC (.int a)) (aCons (eC (.int b)) (aCons (eC (.int c)) aNil)))) (eBin mMod (eBin mIdx (eVar 1) (eC (.int j))) (eC (.int 3))))))
def GameQ (M : Mem) (d : D) (M' : Mem) : Prop := ∃ g : Gm, d = g.toD ∧ Gd g ∧ Keep M M'
end CE
end
section
set_option maxHeartbeats 4000000
namespace CP
open PySem PySem.Spec PyProof.Rows L2 TL
open RL RB TLQ RD CI CG
open CM hiding b_l_alike m_l_alike b_l_unit m_l_unit g_l_unit b_l_rule m_l_rule b_l_any_rule m_l_any_rule unit_ok rule_step rule_ok any_rule
abbrev Won := Option (List Int)
/-- what a rally tells -/
def rWon (q : Stand × Bool) (b : Bool) : Won := if q.2 = true then some [if b then 1 else 0] else none
theorem rally_next {r : Rule} {s : Stand} {B : Int} (hB : 0 ≤ B) (hB1 : B < 1000000) (hd : r.depth ≤ 4) (ho : Open r s) (hs : SB B s) (b : Bool) :
    RGo r (B + 1) (ralliedR r s b).1 (rWon (ralliedR r s b) b) ∧ ∀ M, Ret (m_rally_played [r.toD, s.toD, sideD b] M) (TL.Gives M (.tup [(ralliedR r s b).1.toD, wonD (rWon (ralliedR r s b) b)])) := by
  have sb := sb_rallied (r := r) (side := b) hB hs
  have sm := SB.sm (by omega) sb
  refine ⟨?_, fun M => ?_⟩
  · cases hw : (ralliedR r s b).2 with
    | true =>
      obtain ⟨f, p, d1⟩ := won_shape (side := b) ho hw
      refine ⟨⟨hd, f, p, sm, fun bs e => ?_, fun _ => d1⟩, sb, fun e => ?_⟩
      · simp only [rWon, hw, if_true] at e
        cases e
        exact ⟨by simp, fun i hi => by
          cases List.mem_singleton.mp hi
          cases b <;> exact smI_of (B := 1) (by decide) (by decide) (by decide)⟩
      · simp [rWon, hw] at e
    | false =>
      have op := open_rallied (side := b) ho hw
      exact ⟨⟨hd, Open.fits op, CG.open_nil op, sm, fun bs e => (by simp [rWon, hw] at e), fun e => (by simp [rWon, hw] at e)⟩, sb, fun _ => op⟩
  · obtain ⟨M1, e1, k1⟩ := rallied_ok 14 r s b M (by omega) (by omega) ho
    show Ret (endS (b_rally_played [some r.toD, some s.toD, some (sideD b), none, none] M)) _
    unfold b_rally_played
    have hb : ∀ M, m_is_between [sideD b, .int 0, .int 1] M = .ok (.bl true) M := fun M => by
      unfold sideD
      rw [between_ok]
      cases b <;> rfl
    unfold rWon
    generalize ralliedR r s b = q at *
    cases hw : q.2 with
    | true =>
      rw [hw] at e1
      simp [hb, e1]
      exact TL.Ret.ok (P := TL.Gives M _) ⟨by simp [wonD, sideD], k1⟩
    | false =>
      rw [hw] at e1
      simp [hb, e1]
      exact TL.Ret.ok (P := TL.Gives M _) ⟨by simp [wonD], k1⟩
def Sd (B : Int) : Gm → D → Won → Prop
  | .rally r, st, won => ∃ s : Stand, st = .tup [s.toD, wonD won] ∧ RGo r B s won
  | .down w, st, won => ∃ s : DSt, st = .tup [s.toD, wonD won] ∧ DGo w s won
  | .lane k P n, st, won => ∃ (rows : List LRow) (side : Nat), st = .tup [standD rows side, wonD won] ∧ LGo k P B rows side won
theorem Sd.form {B : Int} {g : Gm} {st : D} {won : Won} (h : Sd B g st won) : ∃ x, st = .tup [x, wonD won] := by
  cases g with
  | rally r => obtain ⟨s, e, _⟩ := h; exact ⟨_, e⟩
  | down w => obtain ⟨s, e, _⟩ := h; exact ⟨_, e⟩
  | lane k P n => obtain ⟨rows, side, e, _⟩ := h; exact ⟨_, e⟩
theorem Sd.le {B C : Int} (hl : B ≤ C) {g : Gm} {st : D} {won : Won} (h : Sd B g st won) : Sd C g st won := by
  cases g with
  | rally r => obtain ⟨s, e, g⟩ := h; exact ⟨s, e, g.le hl⟩
  | down w => exact h
  | lane k P n => obtain ⟨rows, side, e, g⟩ := h; exact ⟨rows, side, e, g.le hl⟩
/-- a deed that is let -/
def LetD : Gm → D → D → Prop
  | .rally _, _, d => ∃ b : Bool, d = sideD b
  | .down w, _, d => ∃ t ∈ w.throws, d = .str t.name
  | .lane _ _ _, st, d => ∃ (rows : List LRow) (side : Nat) (p : Int) (hs : side < rows.length), st = .tup [standD rows side, wonD none] ∧ d = .int p ∧ 0 ≤ p ∧ p ≤ (rows[side]).up
/-- from a stand to the one behind a deed -/
structure Stp (g : Gm) (B : Int) (a d b : D) : Prop where
  sa : Sd B g a none
  sd : LetD g a d
  sb : ∃ won, Sd (B + 100) g b won
  run : ∀ M, Ret (m_played [g.toD, a, d] M) (TL.Gives M b)
theorem first_sd {g : Gm} (hg : Gd g) : Sd 0 g (firstD g) none := by
  cases g with
  | rally r =>
    obtain ⟨h1, h2, h3⟩ := hg
    have op := open_begun _ r (Nat.le_refl _)
    have sb := sb_begun (B := 0) (Int.le_refl 0) _ r (Nat.le_refl _)
    exact ⟨begunR r, rfl, ⟨h2, Open.fits op, CG.open_nil op, SB.sm (by decide) sb, fun bs e => (by cases e), fun e => (by cases e)⟩, sb, fun _ => op⟩
  | down w =>
    have h : DownOk w := hg
    exact ⟨firstS w, rfl, (firstS_ok h).len, db_first h, fun bs e => (by cases e), fun _ => firstS_ok h⟩
  | lane k P n =>
    have h : Lane k P n := hg
    have p0 := h.p0
    refine ⟨_, 0, rfl, List.length_replicate, by have := h.k0; omega, fun r hr => ?_, fun r hr => ?_, fun bs e => (by cases e)⟩
    · obtain ⟨_, rfl⟩ := List.mem_replicate.mp hr
      exact ⟨by show 0 ≤ P; omega, Int.le_refl _⟩
    · obtain ⟨_, rfl⟩ := List.mem_replicate.mp hr
      exact ⟨by show (0 : Int) ≤ 0 ∧ (0 : Int) ≤ 2; decide, by show (0 : Int) ≤ 0 ∧ (0 : Int) ≤ 1; decide, by show (0 : Int) ≤ 0 ∧ (0 : Int) ≤ 0; decide⟩
def DeedsQ (M : Mem) (xs : List D) (d : D) (M' : Mem) : Prop := ∃ n, d = .ref n ∧ M.length ≤ n ∧ Keep M M' ∧ seqAt M' n = some xs
end CP
end
section
set_option maxHeartbeats 4000000
namespace CQ
open PySem PySem.Spec PyProof.Rows L2 TL
open CM hiding b_l_alike m_l_alike b_l_unit m_l_unit g_l_unit b_l_rule m_l_rule b_l_any_rule m_l_any_rule unit_ok rule_step rule_ok any_rule
open CG CI
open RL RB TLQ RD CP
structure Run (g : Gm) (ds sts : List D) : Prop where
  len : sts.length = ds.length + 1
  first : sts[0]? = some (firstD g)
  step : ∀ (i : Nat) (d : D), ds[i]? = some d → ∃ a b, sts[i]? = some a ∧ sts[i + 1]? = some b ∧ Stp g (100 * (i : Int)) a d b
theorem Run.nil {g : Gm} : Run g [] [firstD g] := ⟨rfl, rfl, fun i d h => by simp at h⟩
theorem Run.at_ {g : Gm} {ds sts : List D} (hg : Gd g) (h : Run g ds sts) {i : Nat} (hi : i ≤ ds.length) : ∃ st won, sts[i]? = some st ∧ Sd (100 * (i : Int)) g st won ∧ (i < ds.length → won = none) := by
  by_cases c : i < ds.length
  · obtain ⟨a, b, h1, h2, h3⟩ := h.step i ds[i] (List.getElem?_eq_getElem c)
    exact ⟨a, none, h1, h3.sa, fun _ => rfl⟩
  · have e : i = ds.length := by omega
    subst e
    cases hl : ds.length with
    | zero => exact ⟨firstD g, none, h.first, first_sd hg, fun e => absurd e (by omega)⟩
    | succ n =>
      obtain ⟨a, b, h1, h2, h3⟩ := h.step n ds[n] (List.getElem?_eq_getElem (by omega))
      obtain ⟨won, hw⟩ := h3.sb
      exact ⟨b, won, h2, by have e : 100 * ((n + 1 : Nat) : Int) = 100 * (n : Int) + 100 := by omega
                            rw [e]; exact hw, fun e => absurd e (by omega)⟩
theorem Run.snoc {g : Gm} {ds sts : List D} (h : Run g ds sts) {a d b : D} (ha : sts[ds.length]? = some a) (st : Stp g (100 * (ds.length : Int)) a d b) : Run g (ds ++ [d]) (sts ++ [b]) := by
  have hl := h.len
  refine ⟨by simp [hl], by rw [List.getElem?_append_left (by omega)]; exact h.first, fun i x hx => ?_⟩
  by_cases c : i < ds.length
  · rw [List.getElem?_append_left c] at hx
    obtain ⟨p, q, h1, h2, h3⟩ := h.step i x hx
    exact ⟨p, q, by rw [List.getElem?_append_left (by omega)]; exact h1, by rw [List.getElem?_append_left (by omega)]; exact h2, h3⟩
  · have e : i = ds.length := by
      have := (List.getElem?_eq_some_iff.mp hx).1
      simp at this; omega
    subst e
    have hx' : d = x := by simpa using hx
    subst hx'
    refine ⟨a, b, by rw [List.getElem?_append_left (by omega)]; exact ha, ?_, st⟩
    rw [List.getElem?_append_right (by omega), hl]
    simp
theorem Run.pre {g : Gm} {ds sts : List D} (h : Run g ds sts) (n : Nat) (hn : n ≤ ds.length) : Run g (ds.take n) (sts.take (n + 1)) := by
  have hl := h.len
  refine ⟨by rw [List.length_take, List.length_take]; omega, by rw [List.getElem?_take, if_pos (by omega)]; exact h.first, fun i d hd => ?_⟩
  rw [List.getElem?_take] at hd
  split at hd
  · rename_i c
    obtain ⟨p, q, h1, h2, h3⟩ := h.step i d hd
    exact ⟨p, q, by rw [List.getElem?_take, if_pos (by omega)]; exact h1, by rw [List.getElem?_take, if_pos (by omega)]; exact h2, h3⟩
  · cases hd
def bF (g : Gm) (Dn S : Nat) : List (Str × D) := [(Str.ofString "kept_game", g.toD), (Str.ofString "kept_deeds", .ref Dn), (Str.ofString "kept_stands", .ref S)]
abbrev bS : Str := Str.ofString "Book"
structure BookAt (M : Mem) (b Dn S : Nat) (g : Gm) (ds sts : List D) : Prop where
  o : M[b]? = some (.ins bS (bF g Dn S))
  d : M[Dn]? = some (.lst ds)
  s : M[S]? = some (.lst sts)
/-- but for these, what stood stands -/
structure Fr (L : List Nat) (M M' : Mem) : Prop where
  len : M.length ≤ M'.length
  at_ : ∀ n, n < M.length → n ∉ L → M'[n]? = M[n]?
theorem Fr.of {L : List Nat} {M M' : Mem} (k : Keep M M') : Fr L M M' := ⟨k.1, fun n h _ => k.2 n h⟩
theorem Fr.trans {L : List Nat} {M M1 M2 : Mem} (a : Fr L M M1) (b : Fr L M1 M2) : Fr L M M2 := ⟨Nat.le_trans a.len b.len, fun n h hn => (b.at_ n (Nat.lt_of_lt_of_le h a.len) hn).trans (a.at_ n h hn)⟩
theorem Fr.mono {L L' : List Nat} {M M' : Mem} (h : ∀ n ∈ L, n ∈ L' ∨ M.length ≤ n) (a : Fr L M M') : Fr L' M M' := ⟨a.len, fun n hl hn => a.at_ n hl fun hm => by
  rcases h n hm with h | h
  · exact hn h
  · omega⟩
theorem Fr.set {L : List Nat} {M M' : Mem} {n : Nat} {o : MO} (a : Fr L M M') (h : n ∈ L ∨ M.length ≤ n) : Fr L M (M'.set n o) := ⟨by rw [List.length_set]; exact a.len, fun m hm hn => by
  rw [List.getElem?_set_ne (fun e => by subst e; rcases h with h | h; exact hn h; omega)]
  exact a.at_ m hm hn⟩
theorem Fr.get {L : List Nat} {M M' : Mem} (a : Fr L M M') {n : Nat} {o : MO} (h : M[n]? = some o) (hn : n ∉ L) : M'[n]? = some o := (a.at_ n (lt_of_at h) hn).trans h
theorem Fr.seq {L : List Nat} {M M' : Mem} (a : Fr L M M') {n : Nat} {xs : List D} (h : seqAt M n = some xs) (hn : n ∉ L) : seqAt M' n = some xs := by
  have lt := lt_of_seq h
  unfold seqAt at h ⊢
  rw [a.at_ n lt hn]
  exact h
section
variable {M M' : Mem} {b Dn S : Nat} {g : Gm} {ds sts : List D}
theorem BookAt.keep (h : BookAt M b Dn S g ds sts) (k : Keep M M') : BookAt M' b Dn S g ds sts := ⟨k.at h.o, k.at h.d, k.at h.s⟩
theorem BookAt.fr {L : List Nat} (h : BookAt M b Dn S g ds sts) (f : Fr L M M') (h1 : b ∉ L) (h2 : Dn ∉ L) (h3 : S ∉ L) : BookAt M' b Dn S g ds sts := ⟨f.get h.o h1, f.get h.d h2, f.get h.s h3⟩
theorem BookAt.bd (h : BookAt M b Dn S g ds sts) : b ≠ Dn := fun e => by have := h.o; rw [e, h.d] at this; cases this
end
end CQ
end
section
set_option maxHeartbeats 4000000
namespace CQ
open PySem PySem.Spec PyProof.Rows L2 TL
open CM hiding b_l_alike m_l_alike b_l_unit m_l_unit g_l_unit b_l_rule m_l_rule b_l_any_rule m_l_any_rule unit_ok rule_step rule_ok any_rule
open CG CI
open RL RB TLQ RD CP
end CQ
end
section
set_option maxHeartbeats 4000000
namespace CQ
open PySem PySem.Spec PyProof.Rows L2 TL
open CM hiding b_l_alike m_l_alike b_l_unit m_l_unit g_l_unit b_l_rule m_l_rule b_l_any_rule m_l_any_rule unit_ok rule_step rule_ok any_rule
open CG CI
open RL RB TLQ RD CP
section
variable {M : Mem} {b Dn S : Nat} {g : Gm} {ds sts : List D}
/-- a row written anew, for the book -/
def AnewQ (M : Mem) (b : Nat) (g : Gm) (ds sts : List D) (d : D) (M' : Mem) : Prop := d = .non ∧ ∃ R S', M.length ≤ R ∧ M.length ≤ S' ∧ BookAt M' b R S' g ds sts ∧ Fr [b] M M'
theorem AnewQ.of {M M1 : Mem} {R : Nat} {d : D} {M' : Mem} (k : Keep M M1) (hR : M.length ≤ R) (h : d = .non ∧ ∃ S', M1.length ≤ S' ∧ BookAt M' b R S' g ds sts ∧ Fr [b] M1 M') : AnewQ M b g ds sts d M' := by
  obtain ⟨rfl, S', h1, h2, h3⟩ := h
  exact ⟨rfl, R, S', hR, Nat.le_trans k.1 h1, h2, (Fr.of k).trans h3⟩
end
end CQ
end
section
set_option maxHeartbeats 4000000
namespace CQ
open PySem PySem.Spec PyProof.Rows L2 TL
open CM hiding b_l_alike m_l_alike b_l_unit m_l_unit g_l_unit b_l_rule m_l_rule b_l_any_rule m_l_any_rule unit_ok rule_step rule_ok any_rule
open CG CI
open RL RB TLQ RD CP
/-- the stand of a rule behind some rallies -/
def stAt (r : Rule) (s : Stand) (bs : List Bool) : Stand := bs.foldl (fun s b => (ralliedR r s b).1) s
theorem stAt_snoc {r : Rule} {s : Stand} {bs : List Bool} {b : Bool} : stAt r s (bs ++ [b]) = (ralliedR r (stAt r s bs) b).1 := by simp [stAt]
/-- a row of rallies, its stands -/
theorem Run.rally {r : Rule} (hg : Gd (.rally r)) {ds sts : List D} (h : Run (.rally r) ds sts) (hn : ds.length ≤ 1000) : ∃ bs : List Bool, ds = bs.map sideD ∧
    ∀ i (hi : i < bs.length), sts[i]? = some (.tup [(stAt r (begunR r) (bs.take i)).toD, .non]) ∧ RGo r (100 * (i : Int)) (stAt r (begunR r) (bs.take i)) none ∧
      sts[i + 1]? = some (.tup [(stAt r (begunR r) (bs.take (i + 1))).toD, wonD (rWon (ralliedR r (stAt r (begunR r) (bs.take i)) bs[i]) bs[i])]) := by
  have hb : ∃ bs : List Bool, ds = bs.map sideD := by
    have hall : ∀ d ∈ ds, ∃ b : Bool, d = sideD b := fun d hd => by
      obtain ⟨i, hi, e⟩ := List.mem_iff_getElem.mp hd
      obtain ⟨a, b, _, _, st⟩ := h.step i d (by rw [List.getElem?_eq_getElem hi, e])
      exact st.sd
    clear h hn
    induction ds with
    | nil => exact ⟨[], rfl⟩
    | cons d ds ih =>
      obtain ⟨bs, e⟩ := ih fun x hx => hall x (List.mem_cons_of_mem _ hx)
      obtain ⟨b, e2⟩ := hall d List.mem_cons_self
      exact ⟨b :: bs, by rw [e, e2]; rfl⟩
  obtain ⟨bs, rfl⟩ := hb
  refine ⟨bs, rfl, ?_⟩
  have key : ∀ i, i < bs.length → sts[i]? = some (.tup [(stAt r (begunR r) (bs.take i)).toD, .non]) → RGo r (100 * (i : Int)) (stAt r (begunR r) (bs.take i)) none → 
      ∀ hi : i < bs.length, sts[i + 1]? = some (.tup [(stAt r (begunR r) (bs.take (i + 1))).toD, wonD (rWon (ralliedR r (stAt r (begunR r) (bs.take i)) bs[i]) bs[i])]) ∧ RGo r (100 * (i : Int) + 1) (stAt r (begunR r) (bs.take (i + 1))) (rWon (ralliedR r (stAt r (begunR r) (bs.take i)) bs[i]) bs[i]) := by
    intro i hi e1 go _
    have hlen : bs.length ≤ 1000 := by simpa using hn
    obtain ⟨a, b, h1, h2, st⟩ := h.step i (sideD bs[i]) (by simp [hi])
    rw [e1] at h1
    cases h1
    obtain ⟨go', run⟩ := rally_next (B := 100 * (i : Int)) (by omega) (by omega) hg.2.1 (go.2.2 rfl) go.2.1 bs[i]
    have e3 : bs.take (i + 1) = bs.take i ++ [bs[i]] := by rw [List.take_succ, List.getElem?_eq_getElem hi]; rfl
    rw [e3, stAt_snoc]
    obtain ⟨M1, q1, _⟩ := gives_of (st.run [])
    obtain ⟨M2, q2, _⟩ := gives_of (played_rally (run []))
    have q1' : m_played [.tup [.str (Str.ofString "rally"), r.toD], .tup [(stAt r (begunR r) (bs.take i)).toD, .non], sideD bs[i]] [] = .ok b M1 := q1
    have q2' : m_played [.tup [.str (Str.ofString "rally"), r.toD], .tup [(stAt r (begunR r) (bs.take i)).toD, .non], sideD bs[i]] [] = .ok _ M2 := q2
    rw [q1'] at q2'
    cases q2'
    exact ⟨h2, go'⟩
  have all : ∀ i, i < bs.length → sts[i]? = some (.tup [(stAt r (begunR r) (bs.take i)).toD, .non]) ∧ RGo r (100 * (i : Int)) (stAt r (begunR r) (bs.take i)) none := by
    intro i
    induction i with
    | zero =>
      intro _
      obtain ⟨h1, h2, h3⟩ := hg
      have op := open_begun _ r (Nat.le_refl _)
      have sb := sb_begun (B := 0) (Int.le_refl 0) _ r (Nat.le_refl _)
      exact ⟨h.first, ⟨h2, Open.fits op, CG.open_nil op, SB.sm (by decide) sb, fun bs e => (by cases e), fun e => (by cases e)⟩, sb, fun _ => op⟩
    | succ i ih =>
      intro hi
      obtain ⟨e1, go⟩ := ih (by omega)
      obtain ⟨e2, go2⟩ := key i (by omega) e1 go (by omega)
      obtain ⟨a, b, h1, _, st⟩ := h.step (i + 1) (sideD bs[i + 1]) (by simp [hi])
      rw [e2] at h1
      cases h1
      obtain ⟨x, fx⟩ := st.sa.form
      have w0 : rWon (ralliedR r (stAt r (begunR r) (bs.take i)) bs[i]) bs[i] = none := by
        cases hw : rWon (ralliedR r (stAt r (begunR r) (bs.take i)) bs[i]) bs[i] with
        | none => rfl
        | some q => rw [hw] at fx; simp [wonD] at fx
      rw [w0] at e2 go2
      refine ⟨e2, go2.le (by omega)⟩
  exact fun i hi => ⟨(all i hi).1, (all i hi).2, (key i hi (all i hi).1 (all i hi).2 hi).1⟩
end CQ
end
section
set_option maxHeartbeats 4000000
namespace CZ
open PySem PySem.Spec PyProof.Rows L2 TL
open CG (m_deeds_at m_place_of m_played m_first Gm)
open CE (m_l_draws m_l_cell_at)
noncomputable section
def b_behind : MS := (sRet (eComp 2 (iAny (eCall m_deeds_at (aCons (eVar 0) (aCons (eVar 1) aNil)))) tYesD (eTup (aCons (eVar 2) (aCons (eCall m_place_of (aCons (eVar 0) (aCons (eCall m_played (aCons (eVar 0) (aCons (eVar 1) (aCons (eVar 2) aNil)))) aNil))) aNil)))))
def m_behind : Fn := fnD 2 3 b_behind
def lp_reached_0 : MS := (sIf (tB (eBin mNotInD (eVar 9) (eVar 5))) (sSeq (sIf (tB (eBin mEq (eCallO nLen (aCons (eVar 4) aNil)) (eVar 2))) (sRaise "TooMany") sNil)
    (sSeq (sPutD (eVar 5) (eVar 9) (eC (.bl true)))
    (sExpr (eMeth "list" mAppend (eVar 4) (aCons (eVar 9) aNil))))) sNil)
def lp_reached_1 : MS := (sSeq (sPutD (eVar 6) (eBin mIdx (eVar 4) (eVar 7)) (eCall m_behind (aCons (eVar 0) (aCons (eBin mIdx (eVar 4) (eVar 7)) aNil))))
    (sSeq (sFor (iAny (eBin mGet (eVar 6) (eBin mIdx (eVar 4) (eVar 7)))) (gTupD [8, 9]) lp_reached_0)
    (sAsg (gOne 7) (eBin mAdd (eVar 7) (eC (.int 1))))))
def b_l_unit (r_l_unit : Fn) : MS := (sSeq (sIf (tOr (tB (eBin mEq (eVar 2) (eVar 3))) (tAnd (tB (eBin mGt (eVar 1) (eC (.int 0)))) (tB (eBin mEq (eBin mMod (eBin mIdx (eVar 0) (eBin mMul (eC (.int 4)) (eVar 1))) (eC (.int 7))) (eC (.int 0)))))) (sRet (eTup (aCons (eC (.str "point")) aNil))) sNil)
    (sSeq (sAsg (gOne 4) (eBin mAdd (eC (.int 1)) (eBin mMod (eBin mIdx (eVar 0) (eBin mAdd (eBin mMul (eC (.int 4)) (eVar 1)) (eC (.int 1)))) (eBin mIdx (eLst (aCons (eC (.int 4)) (aCons (eC (.int 3)) (aCons (eC (.int 2)) (aCons (eC (.int 2)) aNil))))) (eBin mSub (eVar 3) (eC (.int 1)))))))
    (sSeq (sAsg (gOne 5) (eBin mAdd (eC (.int 1)) (eBin mMod (eBin mIdx (eVar 0) (eBin mAdd (eBin mMul (eC (.int 4)) (eVar 1)) (eC (.int 2)))) (eBin mIdx (eLst (aCons (eC (.int 3)) (aCons (eC (.int 2)) (aCons (eC (.int 1)) (aCons (eC (.int 1)) aNil))))) (eBin mSub (eVar 3) (eC (.int 1)))))))
    (sSeq (sIf (tAnd (tB (eBin mEq (eVar 3) (eC (.int 3)))) (tB (eBin mEq (eVar 1) (eC (.int 0))))) (sAsg (gOne 5) (eBin mAdd (eC (.int 1)) (eBin mMod (eBin mIdx (eVar 0) (eC (.int 2))) (eC (.int 2))))) sNil)
    (sSeq (sAsg (gOne 6) (eC .non))
    (sSeq (sAsg (gOne 7) (eC .non))
    (sSeq (sIf (tB (eBin mEq (eBin mMod (eBin mIdx (eVar 0) (eBin mAdd (eBin mMul (eC (.int 4)) (eVar 1)) (eC (.int 3)))) (eC (.int 2))) (eC (.int 1)))) (sSeq (sAsg (gOne 6) (eBin mAdd (eVar 4) (eBin mMod (eBin mFdiv (eBin mIdx (eVar 0) (eBin mAdd (eBin mMul (eC (.int 4)) (eVar 1)) (eC (.int 3)))) (eC (.int 2))) (eBin mIdx (eLst (aCons (eC (.int 3)) (aCons (eC (.int 2)) (aCons (eC (.int 3)) (aCons (eC (.int 3)) aNil))))) (eBin mSub (eVar 3) (eC (.int 1)))))))
    (sIf (tAnd (tB (eBin mEq (eBin mMod (eBin mFdiv (eBin mIdx (eVar 0) (eBin mAdd (eBin mMul (eC (.int 4)) (eVar 1)) (eC (.int 3)))) (eC (.int 6))) (eC (.int 2))) (eC (.int 1)))) (tB (eBin mLt (eVar 3) (eC (.int 4))))) (sAsg (gOne 7) (eCall r_l_unit (aCons (eVar 0) (aCons (eBin mAdd (eBin mMul (eC (.int 2)) (eVar 1)) (eC (.int 2))) (aCons (eBin mAdd (eVar 2) (eC (.int 1))) (aCons (eVar 3) aNil)))))) sNil)) sNil)
    (sRet (eTup (aCons (eC (.str "unit")) (aCons (eVar 4) (aCons (eVar 5) (aCons (eVar 6) (aCons (eCall r_l_unit (aCons (eVar 0) (aCons (eBin mAdd (eBin mMul (eC (.int 2)) (eVar 1)) (eC (.int 1))) (aCons (eBin mAdd (eVar 2) (eC (.int 1))) (aCons (eVar 3) aNil))))) (aCons (eVar 7) aNil)))))))))))))))
def m_l_unit : Nat → Fn
  | 0 => noFn
  | n + 1 => fnD 4 8 (b_l_unit (m_l_unit n))
def b_l_rule : MS := (sRet (eCall (m_l_unit 14) (aCons (eVar 0) (aCons (eC (.int 0)) (aCons (eC (.int 0)) (aCons (eBin mAdd (eC (.int 1)) (eBin mMod (eBin mIdx (eVar 0) (eC (.int 32))) (eC (.int 4)))) aNil))))))
def m_l_rule : Fn := fnD 1 1 b_l_rule
def lp_l_down_0 : MS := (sExpr (eMeth "list" mAppend (eVar 3) (aCons (eTup (aCons (eBin mIdx (eVar 2) (eVar 4)) (aCons (eBin mMod (eBin mIdx (eVar 0) (eBin mAdd (eC (.int 3)) (eBin mMul (eC (.int 2)) (eVar 4)))) (eC (.int 5))) (aCons (eBin mGt (eBin mMod (eBin mIdx (eVar 0) (eBin mAdd (eC (.int 4)) (eBin mMul (eC (.int 2)) (eVar 4)))) (eC (.int 3))) (eC (.int 0))) aNil)))) aNil)))
def b_l_down : MS := (sSeq (sAsg (gOne 1) (eBin mAdd (eC (.int 1)) (eBin mMod (eBin mIdx (eVar 0) (eC (.int 0))) (eC (.int 2)))))
    (sSeq (sAsg (gOne 2) (eBin mIdx (eLst (aCons (eLst (aCons (eC (.str "a")) (aCons (eC (.str "ab")) (aCons (eC (.str "abc")) (aCons (eC (.str "abcd")) aNil))))) (aCons (eLst (aCons (eC (.str "z9")) (aCons (eC (.str "z")) (aCons (eC (.str "z90")) (aCons (eC (.str "y")) aNil))))) (aCons (eLst (aCons (eC (.str "t20")) (aCons (eC (.str "d20")) (aCons (eC (.str "t2")) (aCons (eC (.str "d")) aNil))))) aNil)))) (eBin mMod (eBin mIdx (eVar 0) (eC (.int 1))) (eC (.int 3)))))
    (sSeq (sAsg (gOne 3) (eLst aNil))
    (sSeq (sFor (iRange1 (eBin mAdd (eC (.int 1)) (eBin mMod (eBin mIdx (eVar 0) (eC (.int 2))) (eC (.int 4))))) (gOne 4) lp_l_down_0)
    (sRet (eTup (aCons (eVar 1) (aCons (eBin mAdd (eC (.int 1)) (eBin mMod (eBin mIdx (eVar 0) (eC (.int 11))) (eBin mIdx (eLst (aCons (eC (.int 12)) (aCons (eC (.int 4)) aNil))) (eBin mSub (eVar 1) (eC (.int 1)))))) (aCons (eBin mAdd (eC (.int 1)) (eBin mMod (eBin mIdx (eVar 0) (eC (.int 12))) (eBin mIdx (eLst (aCons (eC (.int 3)) (aCons (eC (.int 2)) aNil))) (eBin mSub (eVar 1) (eC (.int 1)))))) (aCons (eCallO nTuple (aCons (eVar 3) aNil)) aNil))))))))))
def m_l_down : Fn := fnD 1 5 b_l_down
def b_l_lane : MS := (sSeq (sAsg (gOne 1) (eBin mAdd (eC (.int 1)) (eBin mMod (eBin mIdx (eVar 0) (eC (.int 0))) (eC (.int 2)))))
    (sSeq (sIf (tB (eBin mEq (eVar 1) (eC (.int 2)))) (sRet (eTup (aCons (eC (.int 2)) (aCons (eC (.int 1)) (aCons (eBin mAdd (eC (.int 1)) (eBin mMod (eBin mIdx (eVar 0) (eC (.int 1))) (eC (.int 2)))) aNil))))) sNil)
    (sRet (eTup (aCons (eC (.int 1)) (aCons (eBin mAdd (eC (.int 1)) (eBin mMod (eBin mIdx (eVar 0) (eC (.int 1))) (eC (.int 3)))) (aCons (eBin mAdd (eC (.int 1)) (eBin mMod (eBin mIdx (eVar 0) (eC (.int 2))) (eC (.int 2)))) aNil)))))))
def m_l_lane : Fn := fnD 1 2 b_l_lane
def b_l_game : MS := (sSeq (sAsg (gOne 1) (eCall m_l_draws (aCons (eVar 0) (aCons (eC (.int 34)) aNil))))
    (sSeq (sIf (tB (eBin mEq (eBin mMod (eBin mIdx (eVar 1) (eC (.int 33))) (eC (.int 3))) (eC (.int 0)))) (sRet (eTup (aCons (eC (.str "rally")) (aCons (eCall m_l_rule (aCons (eVar 1) aNil)) aNil)))) sNil)
    (sSeq (sIf (tB (eBin mEq (eBin mMod (eBin mIdx (eVar 1) (eC (.int 33))) (eC (.int 3))) (eC (.int 1)))) (sRet (eTup (aCons (eC (.str "down")) (aCons (eCall m_l_down (aCons (eVar 1) aNil)) aNil)))) sNil)
    (sRet (eTup (aCons (eC (.str "lane")) (aCons (eCall m_l_lane (aCons (eVar 1) aNil)) aNil)))))))
def m_l_game : Fn := fnD 1 2 b_l_game
end
open RL RB TLQ RD CP CI
open CQ (Fr)
mutual
theorem nk_inj : ∀ {d e : D} {k : NestedKey}, nk d = some k → nk e = some k → d = e
  | .non, e, k, h1, h2 => by
    simp only [nk, Option.some.injEq] at h1; subst h1
    cases e with
    | non => rfl
    | int i => simp [nk] at h2
    | tup xs => simp only [nk, Option.map_eq_some_iff] at h2; obtain ⟨_, _, h⟩ := h2; cases h
    | _ => simp [nk] at h2
  | .int i, e, k, h1, h2 => by
    simp only [nk, Option.some.injEq] at h1; subst h1
    cases e with
    | non => simp [nk] at h2
    | int j => simp only [nk, Option.some.injEq, NestedKey.num.injEq] at h2; rw [h2]
    | tup xs => simp only [nk, Option.map_eq_some_iff] at h2; obtain ⟨_, _, h⟩ := h2; cases h
    | _ => simp [nk] at h2
  | .tup xs, e, k, h1, h2 => by
    simp only [nk, Option.map_eq_some_iff] at h1
    obtain ⟨ks, h1, rfl⟩ := h1
    cases e with
    | non => simp [nk] at h2
    | int j => simp [nk] at h2
    | tup ys =>
      simp only [nk, Option.map_eq_some_iff] at h2
      obtain ⟨ks', h2, h3⟩ := h2
      cases h3
      rw [nkL_inj h1 h2]
    | _ => simp [nk] at h2
  | .bl b, e, k, h1, h2 => by simp [nk] at h1
  | .str b, e, k, h1, h2 => by simp [nk] at h1
  | .ref b, e, k, h1, h2 => by simp [nk] at h1
  | .err b, e, k, h1, h2 => by simp [nk] at h1
theorem nkL_inj : ∀ {ds es : List D} {ks : List NestedKey}, nkL ds = some ks → nkL es = some ks → ds = es
  | [], es, ks, h1, h2 => by
    simp only [nkL, Option.some.injEq] at h1; subst h1
    cases es with
    | nil => rfl
    | cons e es => unfold nkL at h2; split at h2 <;> cases h2
  | d :: ds, es, ks, h1, h2 => by
    unfold nkL at h1
    split at h1
    · rename_i k ks' q1 q2
      cases h1
      cases es with
      | nil => simp [nkL] at h2
      | cons e es =>
        unfold nkL at h2
        split at h2
        · rename_i k2 ks2 r1 r2
          simp only [Option.some.injEq, List.cons.injEq] at h2
          obtain ⟨rfl, rfl⟩ := h2
          rw [nk_inj q1 r1, nkL_inj q2 r2]
        · cases h2
    · cases h1
end
theorem find_none {kvs : List (D × D)} {q : D} {k : NestedKey} (hk : nk q = some k) (h : ∀ t ∈ kvs, t.1 ≠ q) : dctFind kvs k = none := by
  induction kvs with
  | nil => rfl
  | cons t kvs ih =>
    obtain ⟨d, e⟩ := t
    unfold dctFind
    rw [if_neg (fun z => h (d, e) List.mem_cons_self (nk_inj z hk))]
    exact ih fun t ht => h t (List.mem_cons_of_mem _ ht)
theorem find_some {kvs : List (D × D)} {q e : D} {k : NestedKey} (hk : nk q = some k) (hn : (kvs.map (·.1)).Nodup) (h : (q, e) ∈ kvs) : dctFind kvs k = some e := by
  induction kvs with
  | nil => cases h
  | cons t kvs ih =>
    obtain ⟨d, x⟩ := t
    rw [List.map_cons, List.nodup_cons] at hn
    unfold dctFind
    rcases List.mem_cons.mp h with h | h
    · cases h
      rw [if_pos hk]
    · have ne : ¬ nk d = some k := fun z => hn.1 (by
        have := nk_inj z hk
        subst this
        exact List.mem_map.mpr ⟨(d, e), h, rfl⟩)
      rw [if_neg ne]
      exact ih hn.2 h
theorem put_new {kvs : List (D × D)} {q e : D} {k : NestedKey} (hk : nk q = some k) (h : ∀ t ∈ kvs, t.1 ≠ q) : dctPut kvs q k e = kvs ++ [(q, e)] := by
  unfold dctPut
  rw [find_none hk h]
  rfl
/-- all of these, known -/
def setD (S : List D) : List (D × D) := S.map fun p => (p, .bl true)
theorem setD_names (S : List D) : (setD S).map (·.1) = S := by simp [setD, Function.comp_def]
theorem setD_in {S : List D} {q : D} {k : NestedKey} (hk : nk q = some k) (hn : S.Nodup) : (dctFind (setD S) k).isSome = true ↔ q ∈ S := by
  constructor
  · intro h
    by_cases c : q ∈ S
    · exact c
    · rw [find_none hk (fun t ht e => by
        obtain ⟨p, hp, rfl⟩ := List.mem_map.mp ht
        exact c (by rw [← show p = q from e]; exact hp))] at h
      cases h
  · intro h
    rw [find_some (kvs := setD S) (e := .bl true) hk (by rw [setD_names]; exact hn) (List.mem_map.mpr ⟨q, h, rfl⟩)]
    rfl
def DeedD (d : D) : Prop := (∃ i : Int, d = .int i) ∨ ∃ x, d = .str x ∧ PyData.strOk x = true
structure Gr (g : Gm) where
  P : D → Prop
  ds : D → List D
  raw : D → D → D
  nx : D → D → D
  size : Nat
  small : size ≤ 30000
  key : ∀ {p}, P p → ∃ k, keyOf p = some k
  few : ∀ {p}, P p → (ds p).length ≤ 30
  run : ∀ {p}, P p → ∀ M, Ret (m_deeds_at [g.toD, p] M) (DeedsQ M (ds p))
  play : ∀ {p d}, P p → d ∈ ds p → ∀ M, Ret (m_played [g.toD, p, d] M) (TL.Gives M (raw p d))
  place : ∀ {p d}, P p → d ∈ ds p → ∀ M, Ret (m_place_of [g.toD, raw p d] M) (TL.Gives M (nx p d))
  next : ∀ {p d}, P p → d ∈ ds p → P (nx p d)
  form : ∀ {p}, P p → ∃ (x : D) (won : Won), p = .tup [x, CG.wonD won] ∧ (won = none ↔ ds p ≠ [])
  fl : ∀ {p d}, P p → d ∈ ds p → DeedD d
  S : D → Prop
  s0 : S (firstD g)
  sd : ∀ {st}, S st → ∃ xs : List D, xs.length ≤ 1000 ∧ (∀ M, Ret (m_deeds_at [g.toD, st] M) (DeedsQ M xs)) ∧ ∀ d ∈ xs, ∃ q, (∀ M, Ret (m_played [g.toD, st, d] M) (TL.Gives M q)) ∧ S q
  sp : ∀ {st}, S st → ∃ b, P b ∧ ∀ M, Ret (m_place_of [g.toD, st] M) (TL.Gives M b)
  pp : ∀ {p}, P p → ∀ M, Ret (m_place_of [g.toD, p] M) (TL.Gives M p)
  most : ∃ all : List D, all.length ≤ size ∧ ∀ p, P p → p ∈ all
section
variable {g : Gm} (G : Gr g)
def Gr.road (p d : D) : D := .tup [d, G.nx p d]
def Gr.roads (p : D) : List D := (G.ds p).map (G.road p)
/-- these are some of the places, one behind another -/
structure Grow (b : D) (L : List D) : Prop where
  nd : L.Nodup
  pl : ∀ p ∈ L, G.P p
  hd : L[0]? = some b
  bk : ∀ c, 0 < c → c < L.length → ∃ a p d, a < c ∧ L[a]? = some p ∧ d ∈ G.ds p ∧ L[c]? = some (G.nx p d)
/-- these are all -/
structure Whole (b : D) (L : List D) : Prop extends Grow G b L where
  cl : ∀ p ∈ L, ∀ d ∈ G.ds p, G.nx p d ∈ L
variable {G}
theorem sub_len {α : Type} {xs : List α} (hn : xs.Nodup) : ∀ {ys : List α}, (∀ x ∈ xs, x ∈ ys) → xs.length ≤ ys.length := by
  induction xs with
  | nil => intro ys _; exact Nat.zero_le _
  | cons x xs ih =>
    intro ys h
    rw [List.nodup_cons] at hn
    obtain ⟨l, r, rfl⟩ := List.append_of_mem (h x List.mem_cons_self)
    have : xs.length ≤ (l ++ r).length := ih hn.2 fun z hz => by
      have := h z (List.mem_cons_of_mem _ hz)
      simp only [List.mem_append, List.mem_cons] at this ⊢
      rcases this with h1 | rfl | h1
      · exact .inl h1
      · exact absurd hz hn.1
      · exact .inr h1
    simp only [List.length_append, List.length_cons] at this ⊢
    omega
theorem Grow.len {b : D} {L : List D} (h : Grow G b L) : L.length ≤ G.size := by
  obtain ⟨all, h1, h2⟩ := G.most
  exact Nat.le_trans (sub_len h.nd fun p hp => h2 p (h.pl p hp)) h1
theorem Grow.one {b : D} (hb : G.P b) : Grow G b [b] := ⟨by simp, fun p hp => by cases List.mem_singleton.mp hp; exact hb, rfl, fun c h0 h1 => by simp at h1; omega⟩
theorem Grow.more {b : D} {L : List D} (h : Grow G b L) {a : Nat} {p d : D} (ha : L[a]? = some p) (hd : d ∈ G.ds p) (hq : G.nx p d ∉ L) : Grow G b (L ++ [G.nx p d]) := by
  have al := (List.getElem?_eq_some_iff.mp ha).1
  have hp := h.pl p (List.mem_of_getElem? ha)
  refine ⟨?_, fun q hq => ?_, ?_, fun c h0 h1 => ?_⟩
  · rw [List.nodup_append]
    exact ⟨h.nd, by simp, fun x hx y hy e => by
      cases List.mem_singleton.mp hy
      exact hq (e ▸ hx)⟩
  · rcases List.mem_append.mp hq with hq | hq
    · exact h.pl q hq
    · cases List.mem_singleton.mp hq
      exact G.next hp hd
  · rw [List.getElem?_append_left (by omega)]; exact h.hd
  · simp only [List.length_append, List.length_cons, List.length_nil] at h1
    by_cases q : c < L.length
    · obtain ⟨a', p', d', e1, e2, e3, e4⟩ := h.bk c h0 q
      exact ⟨a', p', d', e1, by rw [List.getElem?_append_left (by omega)]; exact e2, e3, by rw [List.getElem?_append_left q]; exact e4⟩
    · have e : c = L.length := by omega
      subst e
      exact ⟨a, p, d, al, by rw [List.getElem?_append_left al]; exact ha, hd, by simp⟩
/-- all places are met -/
theorem Grow.sub {b : D} {L L' : List D} (h : Grow G b L) (w : Whole G b L') : ∀ p ∈ L, p ∈ L' := by
  have go : ∀ (n c : Nat) (p : D), c < n → L[c]? = some p → p ∈ L' := by
    intro n
    induction n with
    | zero => intro c p hc; omega
    | succ n ih =>
      intro c p hc hp
      by_cases c0 : c = 0
      · subst c0
        rw [h.hd] at hp
        cases hp
        exact List.mem_of_getElem? w.hd
      · obtain ⟨a, q, d, e1, e2, e3, e4⟩ := h.bk c (by omega) (List.getElem?_eq_some_iff.mp hp).1
        rw [hp] at e4
        cases e4
        exact w.cl q (ih a q (by omega) e2) d e3
  intro p hp
  obtain ⟨c, hc⟩ := List.mem_iff_getElem?.mp hp
  exact go (c + 1) c p (by omega) hc
theorem behind_ok {p : D} (hp : G.P p) (M : Mem) : Ret (m_behind [g.toD, p] M) (fun d M' => ∃ n, d = .ref n ∧ M.length ≤ n ∧ Keep M M' ∧ M'[n]? = some (.lst (G.roads p))) := by
  show Ret (endS (b_behind [some g.toD, some p, none] M)) _
  unfold b_behind
  obtain ⟨_, M1, e1, n, rfl, l1, k1, a1⟩ := G.run hp M
  simp [e1, srcOf_ref a1]
  refine Ret.bindQ (P := fun _ M2 => Keep M1 M2 ∧ M2[M1.length]? = some (.lst (G.roads p))) (TL.Ret.comp (G.road p) (fun M' k => k.seq a1) (by have := G.few hp; omega) ?_ fun M2 k2 a2 => ⟨k2, a2⟩) ?_
  · intro d hd M' k'
    obtain ⟨M2, e2, k2⟩ := gives_of (G.play hp hd M')
    obtain ⟨M3, e3, k3⟩ := gives_of (G.place hp hd M2)
    simp [e2, e3]
    exact .ok ⟨rfl, k2.trans k3⟩
  · rintro _ M2 ⟨k2, a2⟩
    exact .ok ⟨_, rfl, k1.1, k1.trans k2, a2⟩
end
end CZ
end
section
set_option maxHeartbeats 4000000
namespace CZ
open PySem PySem.Spec PyProof.Rows L2 TL
open CG (m_deeds_at m_place_of m_played m_first Gm)
open CE (m_l_draws m_l_cell_at asg_step)
open RL RB TLQ RD CP CI
section
variable {g : Gm} {G : Gr g}
def tabD (T : List (D × Nat)) : List (D × D) := T.map fun t => (t.1, .ref t.2)
theorem tabD_names (T : List (D × Nat)) : (tabD T).map (·.1) = T.map (·.1) := by simp [tabD, Function.comp_def]
structure RS (G : Gr g) (M0 : Mem) (b : D) (l κ ρ : Nat) (L : List D) (T : List (D × Nat)) (M : Mem) : Prop where
  k : Keep M0 M
  nl : M0.length ≤ l
  nk : M0.length ≤ κ
  nr : M0.length ≤ ρ
  kr : κ ≠ ρ
  al : M[l]? = some (.lst L)
  ak : M[κ]? = some (.dct (setD L))
  ar : M[ρ]? = some (.dct (tabD T))
  gr : Grow G b L
  rt : ∀ t ∈ T, M[t.2]? = some (.lst (G.roads t.1)) ∧ M0.length ≤ t.2 ∧ t.2 ≠ l
variable {M0 M : Mem} {b : D} {l κ ρ : Nat} {L : List D} {T : List (D × Nat)}
theorem ne_of_at {M : Mem} {n m : Nat} {x y : MO} (h1 : M[n]? = some x) (h2 : M[m]? = some y) (h : x ≠ y) : n ≠ m := fun e => h (by rw [e, h2] at h1; exact (Option.some.inj h1).symm)
theorem RS.keep {M' : Mem} (h : RS G M0 b l κ ρ L T M) (k : Keep M M') : RS G M0 b l κ ρ L T M' :=
  ⟨h.k.trans k, h.nl, h.nk, h.nr, h.kr, k.at h.al, k.at h.ak, k.at h.ar, h.gr, fun t ht => let ⟨a, c⟩ := h.rt t ht; ⟨k.at a, c⟩⟩
theorem RS.more (h : RS G M0 b l κ ρ L T M) {a : Nat} {p d : D} (ha : L[a]? = some p) (hd : d ∈ G.ds p) (hq : G.nx p d ∉ L) :
    RS G M0 b l κ ρ (L ++ [G.nx p d]) T ((M.set κ (.dct (setD (L ++ [G.nx p d])))).set l (.lst (L ++ [G.nx p d]))) := by
  have lk : κ ≠ l := ne_of_at h.ak h.al (by simp)
  have lr : ρ ≠ l := ne_of_at h.ar h.al (by simp)
  have ll := lt_of_at h.al
  have lκ := lt_of_at h.ak
  refine ⟨(h.k.setNew h.nk).setNew h.nl, h.nl, h.nk, h.nr, h.kr, List.getElem?_set_self (by rw [List.length_set]; exact ll), ?_, ?_, h.gr.more ha hd hq, fun t ht => ?_⟩
  · rw [List.getElem?_set_ne (Ne.symm lk), List.getElem?_set_self lκ]
  · rw [List.getElem?_set_ne (Ne.symm lr), List.getElem?_set_ne h.kr]; exact h.ar
  · obtain ⟨h1, h2, h3⟩ := h.rt t ht
    have tk : t.2 ≠ κ := ne_of_at h1 h.ak (by simp)
    exact ⟨by rw [List.getElem?_set_ne (Ne.symm h3), List.getElem?_set_ne (Ne.symm tk)]; exact h1, h2, h3⟩
abbrev envR (g : Gm) (st b : D) (lim : Int) (l κ ρ i : Nat) (e8 e9 : Option D) : TL.Env := [some g.toD, some st, some (.int lim), some b, some (.ref l), some (.ref κ), some (.ref ρ), some (.int (i : Nat)), e8, e9]
def InvA (G : Gr g) (M0 : Mem) (st b : D) (lim : Int) (l κ ρ i : Nat) (T : List (D × Nat)) (p : D) : List D → TL.Env → Mem → Prop := fun rest env M => ∃ (e8 e9 : Option D) (L es : List D),
  env = envR g st b lim l κ ρ i e8 e9 ∧ RS G M0 b l κ ρ L T M ∧ L[i]? = some p ∧ T.map (·.1) = L.take (i + 1) ∧ rest = es.map (G.road p) ∧ (∀ d ∈ es, d ∈ G.ds p) ∧ (∀ d ∈ G.ds p, d ∈ es ∨ G.nx p d ∈ L) ∧ (∀ q ∈ L.take i, ∀ d ∈ G.ds q, G.nx q d ∈ L)
theorem stepA {st : D} {lim : Int} {i : Nat} {p d : D} {rest : List D} {env : TL.Env} (hl : ∀ L, Grow G b L → (L.length : Int) ≤ lim) (h : InvA G M0 st b lim l κ ρ i T p (d :: rest) env M) : ∃ env1, gTupD [8, 9] d env = some env1 ∧ SRet (lp_reached_0 env1 M) (InvA G M0 st b lim l κ ρ i T p rest) (fun _ _ => False) := by
  obtain ⟨e8, e9, L, es, rfl, R, hi, ht, hr, h1, h2, h3⟩ := h
  cases es with
  | nil => cases hr
  | cons x es =>
    rw [List.map_cons] at hr
    cases hr
    refine ⟨_, rfl, ?_⟩
    unfold lp_reached_0
    have hx := h1 x List.mem_cons_self
    have hp := R.gr.pl p (List.mem_of_getElem? hi)
    obtain ⟨k, hk⟩ := G.key (G.next hp hx)
    obtain ⟨_, nkk, _⟩ := keyOf_some hk
    have e1 := mNotInD_at R.ak hk
    by_cases c : G.nx p x ∈ L
    · rw [(setD_in nkk R.gr.nd).mpr c] at e1
      simp [e1]
      refine SRet.next (N := InvA G M0 st b lim l κ ρ i T p _) ?_
      refine ⟨_, _, L, es, rfl, R, hi, ht, rfl, fun d hd => h1 d (List.mem_cons_of_mem _ hd), fun d hd => ?_, h3⟩
      rcases h2 d hd with h | h
      · rcases List.mem_cons.mp h with rfl | h
        · exact .inr c
        · exact .inl h
      · exact .inr h
    · have f : (dctFind (setD L) k).isSome = false := by
        cases q : (dctFind (setD L) k).isSome with
        | false => rfl
        | true => exact absurd ((setD_in nkk R.gr.nd).mp q) c
      rw [f] at e1
      have gm := R.gr.more hi hx c
      have le := gm.len
      have hlm := hl _ gm
      rw [List.length_append, List.length_cons, List.length_nil] at hlm
      have sm := G.small
      rw [List.length_append, List.length_cons, List.length_nil] at le
      have sL := seqAt_lst R.al
      have ne : ¬ ((L.length : Int) = lim) := by omega
      have ep := putDct_at (e := .bl true) R.ak hk (by unfold setD; rw [List.length_map]; omega)
      rw [put_new nkk (fun t ht e => by
        obtain ⟨p', hp', rfl⟩ := List.mem_map.mp ht
        exact c (by rw [← show p' = G.nx p x from e]; exact hp'))] at ep
      have es' : setD L ++ [(G.nx p x, D.bl true)] = setD (L ++ [G.nx p x]) := by simp [setD]
      rw [es'] at ep
      have lk : κ ≠ l := ne_of_at R.ak R.al (by simp)
      have al2 : (M.set κ (.dct (setD (L ++ [G.nx p x]))))[l]? = some (.lst L) := by rw [List.getElem?_set_ne lk]; exact R.al
      have ap := mAppend_ok (y := G.nx p x) al2 (by omega)
      have sl2 := seqAt_lst al2
      simp [e1, sL, ne, ep, ap, sl2]
      have il := (List.getElem?_eq_some_iff.mp hi).1
      refine SRet.next (N := InvA G M0 st b lim l κ ρ i T p _) ?_
      refine ⟨_, _, L ++ [G.nx p x], es, rfl, R.more hi hx c, by rw [List.getElem?_append_left il]; exact hi, by rw [List.take_append_of_le_length (by omega)]; exact ht, rfl, fun d hd => h1 d (List.mem_cons_of_mem _ hd), fun d hd => ?_, fun q hq d hd => ?_⟩
      · rcases h2 d hd with h | h
        · rcases List.mem_cons.mp h with rfl | h
          · exact .inr (by simp)
          · exact .inl h
        · exact .inr (List.mem_append_left _ h)
      · rw [List.take_append_of_le_length (by omega)] at hq
        exact List.mem_append_left _ (h3 q hq d hd)
theorem RS.road (h : RS G M0 b l κ ρ L T M) {M1 : Mem} (k1 : Keep M M1) {n : Nat} (ln : M.length ≤ n) {p : D} (an : M1[n]? = some (.lst (G.roads p))) : RS G M0 b l κ ρ L (T ++ [(p, n)]) (M1.set ρ (.dct (tabD (T ++ [(p, n)])))) := by
  have h1 := h.keep k1
  have lr : ρ ≠ l := ne_of_at h1.ar h1.al (by simp)
  have lρ := lt_of_at h1.ar
  refine ⟨h1.k.setNew h.nr, h.nl, h.nk, h.nr, h.kr, by rw [List.getElem?_set_ne lr]; exact h1.al, by rw [List.getElem?_set_ne (Ne.symm h.kr)]; exact h1.ak, List.getElem?_set_self lρ, h.gr, fun t ht => ?_⟩
  rcases List.mem_append.mp ht with ht | ht
  · obtain ⟨q1, q2, q3⟩ := h1.rt t ht
    have : ρ ≠ t.2 := ne_of_at h1.ar q1 (by simp)
    exact ⟨by rw [List.getElem?_set_ne this]; exact q1, q2, q3⟩
  · cases List.mem_singleton.mp ht
    have ne : ρ ≠ n := ne_of_at h1.ar an (by simp)
    have ll := lt_of_at h.al
    have kl := h.k.1
    exact ⟨by rw [List.getElem?_set_ne ne]; exact an, by show M0.length ≤ n; omega, by show n ≠ l; omega⟩
def InvW (G : Gr g) (M0 : Mem) (st b : D) (lim : Int) (l κ ρ : Nat) : Nat → TL.Env → Mem → Prop := fun m env M => ∃ (e8 e9 : Option D) (L : List D) (T : List (D × Nat)) (i : Nat),
  env = envR g st b lim l κ ρ i e8 e9 ∧ RS G M0 b l κ ρ L T M ∧ T.map (·.1) = L.take i ∧ i ≤ L.length ∧ (∀ q ∈ L.take i, ∀ d ∈ G.ds q, G.nx q d ∈ L) ∧ m + i = G.size + 1
theorem stepW {st : D} {lim : Int} (hl : ∀ L, Grow G b L → (L.length : Int) ≤ lim) {m : Nat} {env : TL.Env} (h : InvW G M0 st b lim l κ ρ m env M) :
    Ret (tB (eBin mLt (eVar 7) (eCallO nLen (aCons (eVar 4) aNil))) env M) (fun c M1 => if c = true then SRet (lp_reached_1 env M1) (fun e M => ∃ m', m' < m ∧ InvW G M0 st b lim l κ ρ m' e M) (fun _ _ => False)
      else ∃ e8 e9 L T i, env = envR g st b lim l κ ρ i e8 e9 ∧ RS G M0 b l κ ρ L T M1 ∧ Whole G b L ∧ T.map (·.1) = L) := by
  obtain ⟨e8, e9, L, T, i, rfl, R, ht, hi, hc, hm⟩ := h
  have sL := seqAt_lst R.al
  have et : tB (eBin mLt (eVar 7) (eCallO nLen (aCons (eVar 4) aNil))) (envR g st b lim l κ ρ i e8 e9) M = .ok (decide (i < L.length)) M := by simp [sL]
  rw [et]
  refine .ok ?_
  by_cases c : i < L.length
  · rw [if_pos (by simpa using c)]
    obtain ⟨p, hp⟩ : ∃ p, L[i]? = some p := ⟨L[i], List.getElem?_eq_getElem c⟩
    have Pp := R.gr.pl p (List.mem_of_getElem? hp)
    obtain ⟨kp, hk⟩ := G.key Pp
    obtain ⟨_, nkk, _⟩ := keyOf_some hk
    have ix : ∀ M', Keep M M' → mIdx (.ref l) (.int (i : Nat)) M' = some (p, M') := fun M' k => CE.idx_of (k.seq sL) (atI_nat hp)
    obtain ⟨_, M1, e1, n, rfl, ln, k1, a1⟩ := behind_ok Pp M
    have R1 := R.road k1 ln a1
    have pn : ∀ t ∈ T, t.1 ≠ p := fun t hh e => by
      have m1 : p ∈ L.take i := by rw [← ht, ← e]; exact List.mem_map.mpr ⟨t, hh, rfl⟩
      obtain ⟨j, hj⟩ := List.mem_iff_getElem?.mp m1
      have lj := (List.getElem?_eq_some_iff.mp hj).1
      rw [List.length_take] at lj
      rw [List.getElem?_take_of_lt (by omega)] at hj
      have := (List.getElem?_inj c R.gr.nd).mp (hp.trans hj.symm)
      omega
    have ep := putDct_at (e := .ref n) (R.keep k1).ar hk (by
      have := congrArg List.length ht
      rw [List.length_map, List.length_take] at this
      have := R.gr.len
      have := G.small
      unfold tabD
      rw [List.length_map]; omega)
    rw [put_new nkk (fun t hh e => by
      unfold tabD at hh
      obtain ⟨t', h1, rfl⟩ := List.mem_map.mp hh
      exact pn t' h1 e)] at ep
    have et : tabD T ++ [(p, D.ref n)] = tabD (T ++ [(p, n)]) := by simp [tabD]
    rw [et] at ep
    have ix0 := ix M (Keep.refl M)
    have ix1 := ix M1 k1
    unfold lp_reached_1
    have tn : (T ++ [(p, n)]).map (·.1) = L.take (i + 1) := by
      rw [List.map_append, ht, List.take_succ, hp]; rfl
    generalize hM2 : M1.set ρ (.dct (tabD (T ++ [(p, n)]))) = M2 at *
    have ix2 : mIdx (.ref l) (.int (i : Nat)) M2 = some (p, M2) := CE.idx_of (seqAt_lst R1.al) (atI_nat hp)
    have mn : (p, n) ∈ T ++ [(p, n)] := by simp
    have eg : mGet (.ref ρ) p M2 = some (.ref n, M2) := mGet_at R1.ar hk (find_some nkk (by
      rw [tabD_names, tn]
      exact R.gr.nd.sublist (List.take_sublist _ _)) (List.mem_map.mpr ⟨_, mn, rfl⟩))
    have sn := seqAt_lst (R1.rt _ mn).1
    simp [-mIdx_ref, ix0, e1, ix1, ep, ix2, eg, srcOf_ref sn]
    refine SRet.forQ (InvA G M0 st b lim l κ ρ i (T ++ [(p, n)]) p) ⟨_, _, L, G.ds p, rfl, R1, hp, tn, rfl, fun d hd => hd, fun d hd => .inl hd, hc⟩ (fun rest env M hi => by
      obtain ⟨_, _, _, _, _, R', _⟩ := hi
      exact seqAt_lst (R'.rt _ mn).1) (fun d rest env M h => stepA hl h) ?_
    rintro env M3 ⟨e8, e9, L', es, rfl, R', hi', ht', hr, h1, h2, h3⟩
    cases es with
    | cons x es => cases hr
    | nil =>
      simp
      refine SRet.next (N := fun e M => ∃ m', m' < m ∧ InvW G M0 st b lim l κ ρ m' e M) ?_
      refine ⟨m - 1, by have := R.gr.len; omega, _, _, L', _, i + 1, rfl, R', ht', by have := (List.getElem?_eq_some_iff.mp hi').1; omega, fun q hq d hd => ?_, by have := R.gr.len; omega⟩
      rw [List.take_succ, hi'] at hq
      rcases List.mem_append.mp hq with hq | hq
      · exact h3 q hq d hd
      · cases (show q = p by simpa using hq)
        rcases h2 d hd with h | h
        · cases h
        · exact h
  · rw [if_neg (by simpa using c)]
    have e : i = L.length := by omega
    subst e
    rw [List.take_length] at ht hc
    exact ⟨_, _, L, T, _, rfl, R, ⟨R.gr, hc⟩, ht⟩
end
end CZ
end
section
set_option maxHeartbeats 4000000
namespace CZ
open PySem PySem.Spec PyProof.Rows L2 TL
open CG (m_deeds_at m_place_of m_played m_first Gm)
open CE (m_l_draws m_l_cell_at asg_step)
open RL RB TLQ RD CP CI
section
variable {g : Gm} {G : Gr g}
def cont (G : Gr g) (i : Nat) (dn : List D) (j : Nat) (p : D) : List D := if j < i then G.roads p else if j = i then dn.map (G.road p) else []
structure TS (G : Gr g) (M0 : Mem) (b : D) (l τ : Nat) (L : List D) (T : List (D × Nat)) (i : Nat) (dn : List D) (M : Mem) : Prop where
  k : Keep M0 M
  nl : M0.length ≤ l
  nt : M0.length ≤ τ
  al : M[l]? = some (.lst L)
  at_ : M[τ]? = some (.dct (tabD T))
  gr : Grow G b L
  nm : T.map (·.1) = L
  rn : (T.map (·.2)).Nodup
  rf : ∀ t ∈ T, M0.length ≤ t.2 ∧ t.2 ≠ l
  ct : ∀ (j : Nat) (t : D × Nat), T[j]? = some t → M[t.2]? = some (.lst (cont G i dn j t.1))
variable {M0 M : Mem} {b : D} {l τ i : Nat} {L dn : List D} {T : List (D × Nat)}
theorem TS.keep {M' : Mem} (h : TS G M0 b l τ L T i dn M) (k : Keep M M') : TS G M0 b l τ L T i dn M' :=
  ⟨h.k.trans k, h.nl, h.nt, k.at h.al, k.at h.at_, h.gr, h.nm, h.rn, h.rf, fun j t ht => k.at (h.ct j t ht)⟩
theorem TS.len (h : TS G M0 b l τ L T i dn M) : T.length = L.length := by rw [← h.nm, List.length_map]
/-- a road more -/
theorem TS.road (h : TS G M0 b l τ L T i dn M) {t : D × Nat} (ht : T[i]? = some t) (d : D) : TS G M0 b l τ L T i (dn ++ [d]) (M.set t.2 (.lst ((dn ++ [d]).map (G.road t.1)))) := by
  have mt := List.mem_of_getElem? ht
  obtain ⟨r1, r2⟩ := h.rf t mt
  have c := h.ct i t ht
  have lt := lt_of_at c
  have nτ : t.2 ≠ τ := ne_of_at c h.at_ (by simp)
  refine ⟨h.k.setNew r1, h.nl, h.nt, by rw [List.getElem?_set_ne r2]; exact h.al, by rw [List.getElem?_set_ne nτ]; exact h.at_, h.gr, h.nm, h.rn, h.rf, fun j u hu => ?_⟩
  by_cases e : j = i
  · subst e
    rw [ht] at hu
    cases hu
    rw [List.getElem?_set_self lt]
    simp [cont]
  · have ne : t.2 ≠ u.2 := fun z => e (by
      have h1 : (T.map (·.2))[i]? = some t.2 := by rw [List.getElem?_map, ht]; rfl
      have h2 : (T.map (·.2))[j]? = some t.2 := by rw [List.getElem?_map, hu, z]; rfl
      exact ((List.getElem?_inj (List.getElem?_eq_some_iff.mp h1).1 h.rn).mp (h1.trans h2.symm)).symm)
    rw [List.getElem?_set_ne ne, h.ct j u hu]
    simp [cont, e]
/-- a place more -/
theorem TS.more (h : TS G M0 b l τ L T i dn M) (hi : i < L.length) {a : Nat} {p d : D} (ha : L[a]? = some p) (hd : d ∈ G.ds p) (hq : G.nx p d ∉ L) :
    TS G M0 b l τ (L ++ [G.nx p d]) (T ++ [(G.nx p d, M.length)]) i dn ((((M ++ [MO.lst []]).set τ (.dct (tabD (T ++ [(G.nx p d, M.length)]))))).set l (.lst (L ++ [G.nx p d]))) := by
  have k1 := Keep.more M [MO.lst []]
  have h1 := h.keep k1
  have tl : τ ≠ l := ne_of_at h1.at_ h1.al (by simp)
  have ll := lt_of_at h1.al
  have lτ := lt_of_at h1.at_
  have lM := lt_of_at h.al
  have tM := lt_of_at h.at_
  have kl := h.k.1
  refine ⟨(h1.k.setNew h.nt).setNew h.nl, h.nl, h.nt, List.getElem?_set_self (by rw [List.length_set]; exact ll), by rw [List.getElem?_set_ne (Ne.symm tl), List.getElem?_set_self lτ], h.gr.more ha hd hq, by rw [List.map_append, h.nm]; rfl, ?_, fun t ht => ?_, fun j t ht => ?_⟩
  · rw [List.map_append, List.nodup_append]
    refine ⟨h.rn, by simp, fun x hx y hy e => ?_⟩
    obtain ⟨t, ht, rfl⟩ := List.mem_map.mp hx
    obtain ⟨j, hj⟩ := List.mem_iff_getElem?.mp ht
    have := lt_of_at (h.ct j t hj)
    have e2 : y = M.length := by simpa using hy
    omega
  · rcases List.mem_append.mp ht with ht | ht
    · exact h.rf t ht
    · cases List.mem_singleton.mp ht
      exact ⟨kl, by show M.length ≠ l; omega⟩
  · by_cases q : j < T.length
    · rw [List.getElem?_append_left q] at ht
      have c := h1.ct j t ht
      have n1 : τ ≠ t.2 := ne_of_at h1.at_ c (by simp)
      have n2 := (h.rf t (List.mem_of_getElem? ht)).2
      rw [List.getElem?_set_ne (Ne.symm n2), List.getElem?_set_ne n1]
      exact c
    · have lj := (List.getElem?_eq_some_iff.mp ht).1
      simp only [List.length_append, List.length_cons, List.length_nil] at lj
      have e : j = T.length := by omega
      subst e
      simp only [List.getElem?_concat_length, Option.some.injEq] at ht
      subst ht
      have tl2 := h.len
      show ((((M ++ [MO.lst []]).set τ _).set l _))[M.length]? = _
      rw [List.getElem?_set_ne (by omega), List.getElem?_set_ne (by omega), at_len]
      simp only [cont]
      rw [if_neg (by omega), if_neg (by omega)]
theorem TS.next (h : TS G M0 b l τ L T i dn M) {p : D} (hp : L[i]? = some p) (hd : dn = G.ds p) : TS G M0 b l τ L T (i + 1) [] M := by
  refine ⟨h.k, h.nl, h.nt, h.al, h.at_, h.gr, h.nm, h.rn, h.rf, fun j t ht => ?_⟩
  rw [h.ct j t ht]
  have e1 : L[j]? = some t.1 := by rw [← h.nm, List.getElem?_map, ht]; rfl
  unfold cont
  by_cases c1 : j < i
  · rw [if_pos c1, if_pos (by omega)]
  · rw [if_neg c1]
    by_cases c2 : j = i
    · subst c2
      rw [hp] at e1
      cases e1
      rw [if_pos rfl, if_pos (by omega), hd]
      rfl
    · rw [if_neg c2, if_neg (by omega)]
      simp
end
end CZ
end
section
set_option maxHeartbeats 4000000
namespace CZ
open PySem PySem.Spec PyProof.Rows L2 TL
open CG (m_deeds_at m_place_of m_played m_first Gm)
open CE (m_l_draws m_l_cell_at asg_step)
open RL RB TLQ RD CP CI
section
variable {g : Gm} {G : Gr g} {M0 M : Mem} {b : D} {l τ i : Nat} {L dn : List D} {T : List (D × Nat)}
/-- the places met, each with its roads -/
structure Tab (G : Gr g) (b : D) (M : Mem) (τ : Nat) (T : List (D × Nat)) : Prop where
  at_ : M[τ]? = some (.dct (tabD T))
  w : Whole G b (T.map (·.1))
  rt : ∀ t ∈ T, M[t.2]? = some (.lst (G.roads t.1))
theorem Tab.keep {M' : Mem} (h : Tab G b M τ T) (k : Keep M M') : Tab G b M' τ T := ⟨k.at h.at_, h.w, fun t ht => k.at (h.rt t ht)⟩
theorem pureL_mono' {ds : List D} {n m : Nat} (h : pureL ds n = true) (l : n ≤ m) : pureL ds m = true := by
  have h1 : pureD (.tup ds) (n + 1) = true := by simpa [pureD] using h
  have := pure_mono h1 (show n + 1 ≤ m + 1 by omega)
  simpa [pureD] using this
mutual
theorem nk_pure : ∀ {d : D} {k : NestedKey}, nk d = some k → pureD d k.depth = true
  | .non, k, h => by cases hk : k.depth <;> simp [pureD]
  | .int i, k, h => by cases hk : k.depth <;> simp [pureD]
  | .tup xs, k, h => by
    simp only [nk, Option.map_eq_some_iff] at h
    obtain ⟨ks, h, rfl⟩ := h
    simp only [NestedKey.depth, pureD]
    exact nkL_pure h
  | .bl b, k, h => by simp [nk] at h
  | .str b, k, h => by simp [nk] at h
  | .ref b, k, h => by simp [nk] at h
  | .err b, k, h => by simp [nk] at h
theorem nkL_pure : ∀ {ds : List D} {ks : List NestedKey}, nkL ds = some ks → pureL ds (NestedKey.depthAll ks) = true
  | [], ks, h => by simp [pureL]
  | d :: ds, ks, h => by
    unfold nkL at h
    split at h
    · rename_i k ks' q1 q2
      cases h
      simp only [NestedKey.depthAll, pureL, Bool.and_eq_true]
      exact ⟨pure_mono (nk_pure q1) (Nat.le_max_left _ _), pureL_mono' (nkL_pure q2) (Nat.le_max_right _ _)⟩
    · cases h
end
end
end CZ
end
section
set_option maxHeartbeats 4000000
namespace CZ
open PySem PySem.Spec PyProof.Rows L2 TL
open CE (asg_step)
open CM (lessR cutR less_within cutR_nil cut_step cut_cut open_cut)
open RL RB TLQ RD CP CI
/-- counts at which a unit goes on, lessened -/
def openPair (to lead : Int) (cap : Option Int) (z o : Int) : Bool :=
  (decide (z < to) && decide (o < to)) || (decide (2 ≤ lead) && decide (z - o < lead) && decide (o - z < lead) && (match cap with | none => decide (min z o < to) | some c => decide (z < c) && decide (o < c)))
def grid : List (Int × Int) := (List.range 8).flatMap fun (a : Nat) => (List.range 8).map fun (b : Nat) => ((a : Int), (b : Int))
def pairsL (to lead : Int) (cap : Option Int) : List (Int × Int) := grid.filter fun p => openPair to lead cap p.1 p.2
theorem mem_grid {z o : Int} : (z, o) ∈ grid ↔ 0 ≤ z ∧ z < 8 ∧ 0 ≤ o ∧ o < 8 := by
  unfold grid
  simp only [List.mem_flatMap, List.mem_map, List.mem_range, Prod.mk.injEq]
  constructor
  · rintro ⟨a, ha, b, hb, rfl, rfl⟩
    omega
  · rintro ⟨h1, h2, h3, h4⟩
    exact ⟨z.toNat, by omega, o.toNat, by omega, by omega, by omega⟩
def openL : Rule → List Stand
  | .point => [.nil]
  | .unit to lead cap inner => (pairsL to lead cap).flatMap fun p => (openL inner).map (.st p.1 p.2)
  | .unitL to lead cap inner last => (pairsL to lead (some cap)).flatMap fun p => if p.1 = cap - 1 ∧ p.2 = cap - 1 then (openL last).map (.st p.1 p.2) else (openL inner).map (.st p.1 p.2)
def finL (r : Rule) : List Stand := if r = .point then [.nil] else (pairsL r.to r.lead r.cap).flatMap fun p => [.st (p.1 + 1) p.2 .nil, .st p.1 (p.2 + 1) .nil]
/-- small numbers -/
def numR : Rule → Prop
  | .point => True
  | .unit to lead cap inner => 1 ≤ to ∧ to ≤ 4 ∧ 1 ≤ lead ∧ lead ≤ 4 ∧ (∀ c, cap = some c → to ≤ c ∧ c ≤ 6) ∧ numR inner
  | .unitL to lead cap inner last => 1 ≤ to ∧ to ≤ 4 ∧ 1 ≤ lead ∧ lead ≤ 4 ∧ to ≤ cap ∧ cap ≤ 6 ∧ numR inner ∧ numR last
theorem num_at {r : Rule} (h : numR r) (hp : r ≠ .point) : 1 ≤ r.to ∧ r.to ≤ 4 ∧ 1 ≤ r.lead ∧ r.lead ≤ 4 ∧ (∀ c, r.cap = some c → r.to ≤ c ∧ c ≤ 6) ∧ ∀ z o, numR (within r z o) := by
  cases r with
  | point => exact absurd rfl hp
  | unit to lead cap inner =>
    obtain ⟨h1, h2, h3, h4, h5, h6⟩ := h
    exact ⟨h1, h2, h3, h4, h5, fun z o => h6⟩
  | unitL to lead cap inner last =>
    obtain ⟨h1, h2, h3, h4, h5, h6, h7, h8⟩ := h
    refine ⟨h1, h2, h3, h4, fun c e => (by cases e; exact ⟨h5, h6⟩), fun z o => ?_⟩
    show numR (if z = cap - 1 ∧ o = cap - 1 then last else inner)
    split
    · exact h8
    · exact h7
theorem num_good : ∀ {r : Rule}, numR r → r.good
  | .point, _ => trivial
  | .unit to lead cap inner, ⟨h1, h2, h3, h4, h5, h6⟩ => ⟨h1, by omega, h3, by omega, fun c e => ⟨(h5 c e).1, by have := (h5 c e).2; omega⟩, num_good h6⟩
  | .unitL to lead cap inner last, ⟨h1, h2, h3, h4, h5, h6, h7, h8⟩ => ⟨h1, by omega, h3, by omega, h5, by omega, num_good h7, num_good h8⟩
theorem mem_open {r : Rule} (hp : r ≠ .point) {s : Stand} : s ∈ openL r ↔ ∃ z o w, s = .st z o w ∧ (z, o) ∈ pairsL r.to r.lead r.cap ∧ w ∈ openL (within r z o) := by
  cases r with
  | point => exact absurd rfl hp
  | unit to lead cap inner =>
    simp only [openL, List.mem_flatMap, List.mem_map]
    constructor
    · rintro ⟨p, hp, w, hw, rfl⟩
      exact ⟨p.1, p.2, w, rfl, hp, hw⟩
    · rintro ⟨z, o, w, rfl, hp, hw⟩
      exact ⟨(z, o), hp, w, hw, rfl⟩
  | unitL to lead cap inner last =>
    simp only [openL, List.mem_flatMap]
    have e : ∀ z o, within (.unitL to lead cap inner last) z o = if z = cap - 1 ∧ o = cap - 1 then last else inner := fun z o => rfl
    constructor
    · rintro ⟨p, hp, hs⟩
      by_cases c : p.1 = cap - 1 ∧ p.2 = cap - 1
      · rw [if_pos c] at hs
        obtain ⟨w, hw, rfl⟩ := List.mem_map.mp hs
        exact ⟨p.1, p.2, w, rfl, hp, by rw [e, if_pos c]; exact hw⟩
      · rw [if_neg c] at hs
        obtain ⟨w, hw, rfl⟩ := List.mem_map.mp hs
        exact ⟨p.1, p.2, w, rfl, hp, by rw [e, if_neg c]; exact hw⟩
    · rintro ⟨z, o, w, rfl, hp, hw⟩
      refine ⟨(z, o), hp, ?_⟩
      rw [e] at hw
      by_cases c : z = cap - 1 ∧ o = cap - 1
      · rw [if_pos c] at hw ⊢
        exact List.mem_map.mpr ⟨w, hw, rfl⟩
      · rw [if_neg c] at hw ⊢
        exact List.mem_map.mpr ⟨w, hw, rfl⟩
/-- what such counts are -/
def PairP (r : Rule) (z o : Int) : Prop := 0 ≤ z ∧ 0 ≤ o ∧ ((z < r.to ∧ o < r.to) ∨ (2 ≤ r.lead ∧ z - o < r.lead ∧ o - z < r.lead ∧ (match r.cap with | none => min z o < r.to | some c => z < c ∧ o < c)))
theorem mem_pairs {r : Rule} (h : numR r) (hp : r ≠ .point) {z o : Int} : (z, o) ∈ pairsL r.to r.lead r.cap ↔ PairP r z o := by
  obtain ⟨h1, h2, h3, h4, h5, _⟩ := num_at h hp
  unfold pairsL PairP
  rw [List.mem_filter, mem_grid]
  unfold openPair
  cases hc : r.cap with
  | none =>
    simp only [Bool.or_eq_true, Bool.and_eq_true, decide_eq_true_eq]
    omega
  | some c =>
    have := h5 c hc
    simp only [Bool.or_eq_true, Bool.and_eq_true, decide_eq_true_eq]
    omega
theorem pair_less {r : Rule} (h : numR r) (hp : r ≠ .point) {z o : Int} (hz : PairP r z o) : lessR r z o = 0 := by
  obtain ⟨h1, h2, h3, h4, h5, _⟩ := num_at h hp
  unfold PairP at hz
  unfold lessR
  cases hc : r.cap with
  | none => rw [hc] at hz; simp only at hz ⊢; omega
  | some c => rfl
theorem pair_bump {r : Rule} (h : numR r) (hp : r ≠ .point) {z o : Int} (hz : PairP r z o) (x : Bool) (hw : wonR r (ownC (RL.bump z o x) x) (otherC (RL.bump z o x) x) = false) :
    PairP r ((RL.bump z o x).1 - lessR r (RL.bump z o x).1 (RL.bump z o x).2) ((RL.bump z o x).2 - lessR r (RL.bump z o x).1 (RL.bump z o x).2) := by
  obtain ⟨h1, h2, h3, h4, h5, _⟩ := num_at h hp
  unfold PairP at hz ⊢
  unfold wonR at hw
  unfold lessR
  cases hc : r.cap with
  | none =>
    rw [hc] at hz hw
    simp only [reduceCtorEq, decide_false, Bool.false_or, Bool.and_eq_false_iff, decide_eq_false_iff_not] at hz hw ⊢
    cases x <;> simp only [RL.bump, ownC, otherC, if_true, Bool.false_eq_true, if_false] at hw ⊢ <;> omega
  | some c =>
    have := h5 c hc
    rw [hc] at hz hw
    simp only [Option.some.injEq, Bool.or_eq_false_iff, Bool.and_eq_false_iff, decide_eq_false_iff_not] at hz hw ⊢
    cases x <;> simp only [RL.bump, ownC, otherC, if_true, Bool.false_eq_true, if_false] at hw ⊢ <;> omega
theorem begun_open : ∀ (n : Nat) (r : Rule), r.depth ≤ n → numR r → begunR r ∈ openL r ∧ cutR r (begunR r) = begunR r
  | n, r, hn, h => by
    by_cases hp : r = .point
    · subst hp
      rw [begunR_point]
      exact ⟨by simp [openL], rfl⟩
    · have hd := depth_within hp 0 0
      match n with
      | 0 => omega
      | n + 1 =>
        obtain ⟨h1, h2, h3, h4, h5, h6⟩ := num_at h hp
        obtain ⟨i1, i2⟩ := begun_open n (within r 0 0) (by omega) (h6 0 0)
        have pp : PairP r 0 0 := ⟨by decide, by decide, .inl ⟨by omega, by omega⟩⟩
        rw [begunR_unit hp]
        refine ⟨(mem_open hp).mpr ⟨0, 0, _, rfl, (mem_pairs h hp).mpr pp, i1⟩, ?_⟩
        simp only [cutR]
        rw [pair_less h hp pp, i2]
        rfl
theorem open_facts : ∀ {s : Stand} {r : Rule}, numR r → s ∈ openL r → Open r s ∧ cutR r s = s
  | .nil, r, h, hs => by
    by_cases hp : r = .point
    · exact ⟨hp, by rw [CM.cutR_nil]⟩
    · obtain ⟨z, o, w, e, _⟩ := (mem_open hp).mp hs
      cases e
  | .st z o w, r, h, hs => by
    have hp : r ≠ .point := fun e => by subst e; simp [openL] at hs
    obtain ⟨z', o', w', e, h1, h2⟩ := (mem_open hp).mp hs
    cases e
    obtain ⟨_, _, _, _, _, h6⟩ := num_at h hp
    obtain ⟨i1, i2⟩ := open_facts (h6 z o) h2
    refine ⟨⟨hp, i1⟩, ?_⟩
    simp only [cutR]
    rw [pair_less h hp ((mem_pairs h hp).mp h1), i2]
    simp
theorem open_next : ∀ {s : Stand} {r : Rule} (x : Bool), numR r → s ∈ openL r → ((ralliedR r s x).2 = false → cutR r (ralliedR r s x).1 ∈ openL r) ∧ ((ralliedR r s x).2 = true → (ralliedR r s x).1 ∈ finL r ∧ cutR r (ralliedR r s x).1 = (ralliedR r s x).1)
  | .nil, r, x, h, hs => by
    have hp : r = .point := (open_facts h hs).1
    subst hp
    simp [ralliedR, finL, CM.cutR_nil]
  | .st z o w, r, x, h, hs => by
    have hp : r ≠ .point := (open_facts h hs).1.1
    obtain ⟨z', o', w', e, h1, h2⟩ := (mem_open hp).mp hs
    cases e
    obtain ⟨_, _, _, _, _, h6⟩ := num_at h hp
    obtain ⟨i1, i2⟩ := open_next x (h6 z o) h2
    have pp := (mem_pairs h hp).mp h1
    simp only [ralliedR]
    cases hq : (ralliedR (within r z o) w x).2 with
    | false =>
      simp only [Bool.false_eq_true, if_false, cutR, forall_const, false_implies, and_true]
      rw [pair_less h hp pp]
      simp only [Int.sub_zero]
      exact (mem_open hp).mpr ⟨z, o, _, rfl, h1, i1 hq⟩
    | true =>
      simp only [if_true]
      cases hw : wonR r (ownC (RL.bump z o x) x) (otherC (RL.bump z o x) x) with
      | true =>
        simp only [if_true, Bool.true_eq_false, false_implies, true_and, forall_const, cutR]
        refine ⟨?_, ?_⟩
        · unfold finL
          rw [if_neg hp]
          refine List.mem_flatMap.mpr ⟨(z, o), h1, ?_⟩
          cases x <;> simp [RL.bump]
        · have l0 : lessR r (RL.bump z o x).1 (RL.bump z o x).2 = 0 := by
            obtain ⟨n1, n2, n3, n4, n5, _⟩ := num_at h hp
            unfold PairP at pp
            unfold wonR at hw
            unfold lessR
            cases hc : r.cap with
            | some c => rfl
            | none =>
              rw [hc] at pp hw
              simp only [reduceCtorEq, decide_false, Bool.false_or, Bool.and_eq_true, decide_eq_true_eq] at pp hw ⊢
              cases x <;> simp only [RL.bump, ownC, otherC, if_true, Bool.false_eq_true, if_false] at hw ⊢ <;> omega
          rw [l0]
          simp
      | false =>
        simp only [Bool.false_eq_true, if_false, forall_const, false_implies, and_true, cutR]
        have p2 := pair_bump h hp pp x hw
        obtain ⟨b1, b2⟩ := begun_open _ (within r (RL.bump z o x).1 (RL.bump z o x).2) (Nat.le_refl _) (h6 _ _)
        rw [b2]
        refine (mem_open hp).mpr ⟨_, _, _, rfl, (mem_pairs h hp).mpr p2, ?_⟩
        rw [CM.less_within]
        exact b1
theorem flat_len {α β : Type} {f : α → List β} {n : Nat} : ∀ {xs : List α}, (∀ x ∈ xs, (f x).length ≤ n) → (xs.flatMap f).length ≤ xs.length * n
  | [], _ => by simp
  | x :: xs, h => by
    have := flat_len (f := f) (n := n) (xs := xs) fun y hy => h y (List.mem_cons_of_mem _ hy)
    have := h x List.mem_cons_self
    rw [List.flatMap_cons, List.length_append, List.length_cons, Nat.add_mul]
    omega
theorem open_len {r : Rule} (hp : r ≠ .point) {n m : Nat} (hw : ∀ z o, (openL (within r z o)).length ≤ n) (hm : (pairsL r.to r.lead r.cap).length ≤ m) : (openL r).length ≤ m * n := by
  refine Nat.le_trans ?_ (Nat.mul_le_mul_right n hm)
  cases r with
  | point => exact absurd rfl hp
  | unit to lead cap inner =>
    exact flat_len fun p _ => by rw [List.length_map]; exact hw 0 0
  | unitL to lead cap inner last =>
    refine flat_len fun p _ => ?_
    have := hw p.1 p.2
    have e : within (.unitL to lead cap inner last) p.1 p.2 = if p.1 = cap - 1 ∧ p.2 = cap - 1 then last else inner := rfl
    rw [e] at this
    split <;> rename_i c
    · rw [if_pos c] at this; rw [List.length_map]; exact this
    · rw [if_neg c] at this; rw [List.length_map]; exact this
theorem fin_len {r : Rule} {m : Nat} (hm : r ≠ .point → (pairsL r.to r.lead r.cap).length ≤ m) : (finL r).length ≤ m * 2 + 1 := by
  unfold finL
  split
  · simp
  · rename_i hp
    have := flat_len (f := fun p : Int × Int => [Stand.st (p.1 + 1) p.2 .nil, .st p.1 (p.2 + 1) .nil]) (n := 2) (xs := pairsL r.to r.lead r.cap) fun _ _ => by simp
    have := hm hp
    omega
def caps (hi : Nat) (to : Int) : List (Option Int) := none :: (List.range hi).map fun k => some (to + (k : Nat))
/-- how many counts at most, by how many units there may be within one another -/
def widest (tos leads : List Int) (hi : Nat) (m : Nat) : Bool := tos.all fun to => leads.all fun lead => (caps hi to).all fun cap => decide ((pairsL to lead cap).length ≤ m)
theorem wide1 : widest [1, 2, 3, 4] [1, 2, 3] 3 26 = true := by decide +kernel
theorem wide2 : widest [1, 2, 3] [1, 2] 2 12 = true := by decide +kernel
theorem wide3 : widest [1, 2] [1, 2] 3 10 = true := by decide +kernel
theorem wide4 : widest [1, 2] [1] 3 4 = true := by decide +kernel
theorem widest_at {tos leads : List Int} {hi m : Nat} (h : widest tos leads hi m = true) {to lead : Int} {cap : Option Int} (h1 : to ∈ tos) (h2 : lead ∈ leads) (h3 : ∀ c, cap = some c → to ≤ c ∧ c < to + (hi : Int)) : (pairsL to lead cap).length ≤ m := by
  unfold widest at h
  rw [List.all_eq_true] at h
  have := h to h1
  rw [List.all_eq_true] at this
  have := this lead h2
  rw [List.all_eq_true] at this
  refine of_decide_eq_true (this cap ?_)
  cases cap with
  | none => exact List.mem_cons_self
  | some c =>
    obtain ⟨c1, c2⟩ := h3 c rfl
    exact List.mem_cons_of_mem _ (List.mem_map.mpr ⟨(c - to).toNat, List.mem_range.mpr (by omega), by congr 1; omega⟩)
/-- a rule as it is drawn: its numbers, by the levels there are; at: whether it is the outer one; left: how deep it may be -/
def lvlR (lv : Nat) : Bool → Rule → Prop
  | _, .point => True
  | outer, .unit to lead cap inner => 1 ≤ to ∧ to ≤ [4, 3, 2, 2].getD (lv - 1) 1 ∧ 1 ≤ lead ∧ lead ≤ (if lv = 3 ∧ outer = true then 2 else [3, 2, 1, 1].getD (lv - 1) 1) ∧ (∀ c, cap = some c → to ≤ c ∧ c < to + [3, 2, 3, 3].getD (lv - 1) 1) ∧ lvlR lv false inner
  | outer, .unitL to lead cap inner last => 1 ≤ to ∧ to ≤ [4, 3, 2, 2].getD (lv - 1) 1 ∧ 1 ≤ lead ∧ lead ≤ (if lv = 3 ∧ outer = true then 2 else [3, 2, 1, 1].getD (lv - 1) 1) ∧ to ≤ cap ∧ cap < to + [3, 2, 3, 3].getD (lv - 1) 1 ∧ lvlR lv false inner ∧ lvlR lv false last
/-- how many counts a unit has -/
theorem lvl_pairs {lv : Nat} (h1 : 1 ≤ lv) (h4 : lv ≤ 4) {o : Bool} {r : Rule} (hp : r ≠ .point) (h : lvlR lv o r) : (pairsL r.to r.lead r.cap).length ≤ (if lv = 3 ∧ o = true then 10 else [26, 12, 4, 4].getD (lv - 1) 1) := by
  have key : ∀ (to lead : Int) (cap : Option Int), 1 ≤ to → to ≤ [4, 3, 2, 2].getD (lv - 1) 1 → 1 ≤ lead → lead ≤ (if lv = 3 ∧ o = true then 2 else [3, 2, 1, 1].getD (lv - 1) 1) → (∀ c, cap = some c → to ≤ c ∧ c < to + [3, 2, 3, 3].getD (lv - 1) 1) → (pairsL to lead cap).length ≤ (if lv = 3 ∧ o = true then 10 else [26, 12, 4, 4].getD (lv - 1) 1) := by
    intro to lead cap a1 a2 a3 a4 a5
    rcases (show lv = 1 ∨ lv = 2 ∨ lv = 3 ∨ lv = 4 by omega) with rfl | rfl | rfl | rfl
    · simp at a2 a4 a5 ⊢
      exact widest_at wide1 (by simp; omega) (by simp; omega) (fun c e => by have := a5 c e; exact ⟨this.1, by simpa using this.2⟩)
    · simp at a2 a4 a5 ⊢
      exact widest_at wide2 (by simp; omega) (by simp; omega) (fun c e => by have := a5 c e; exact ⟨this.1, by simpa using this.2⟩)
    · cases o with
      | true =>
        simp at a2 a4 a5 ⊢
        exact widest_at wide3 (by simp; omega) (by simp; omega) (fun c e => by have := a5 c e; exact ⟨this.1, by simpa using this.2⟩)
      | false =>
        simp at a2 a4 a5 ⊢
        exact widest_at wide4 (by simp; omega) (by simp; omega) (fun c e => by have := a5 c e; exact ⟨this.1, by simpa using this.2⟩)
    · simp at a2 a4 a5 ⊢
      exact widest_at wide4 (by simp; omega) (by simp; omega) (fun c e => by have := a5 c e; exact ⟨this.1, by simpa using this.2⟩)
  cases r with
  | point => exact absurd rfl hp
  | unit to lead cap inner => obtain ⟨a1, a2, a3, a4, a5, _⟩ := h; exact key _ _ _ a1 a2 a3 a4 a5
  | unitL to lead cap inner last => obtain ⟨a1, a2, a3, a4, a5, a6, _⟩ := h; exact key _ _ _ a1 a2 a3 a4 (fun c e => by cases e; exact ⟨a5, a6⟩)
theorem lvl_within {lv : Nat} {o : Bool} {r : Rule} (hp : r ≠ .point) (h : lvlR lv o r) (z q : Int) : lvlR lv false (within r z q) := by
  cases r with
  | point => exact absurd rfl hp
  | unit to lead cap inner => exact h.2.2.2.2.2
  | unitL to lead cap inner last =>
    show lvlR lv false (if z = cap - 1 ∧ q = cap - 1 then last else inner)
    split
    · exact h.2.2.2.2.2.2.2
    · exact h.2.2.2.2.2.2.1
theorem lvl_len {lv : Nat} (h1 : 1 ≤ lv) (h4 : lv ≤ 4) : ∀ (n : Nat) {r : Rule}, r.depth ≤ n → lvlR lv false r → (openL r).length ≤ [26, 12, 4, 4].getD (lv - 1) 1 ^ n
  | n, r, hd, h => by
    by_cases hp : r = .point
    · subst hp
      simp only [openL, List.length_cons, List.length_nil]
      refine Nat.one_le_pow _ _ ?_
      rcases (show lv = 1 ∨ lv = 2 ∨ lv = 3 ∨ lv = 4 by omega) with rfl | rfl | rfl | rfl <;> decide
    · match n with
      | 0 => have := depth_within hp 0 0; omega
      | n + 1 =>
        have := open_len hp (n := [26, 12, 4, 4].getD (lv - 1) 1 ^ n) (fun z o => lvl_len h1 h4 n (by have := depth_within hp z o; omega) (lvl_within hp h z o)) (lvl_pairs h1 h4 hp h)
        simp only [Bool.false_eq_true, and_false, if_false] at this
        rw [Nat.pow_succ, Nat.mul_comm]
        exact this
theorem lvl_all {lv : Nat} (h1 : 1 ≤ lv) (h4 : lv ≤ 4) {r : Rule} (hd : r.depth ≤ lv) (h : lvlR lv true r) : (openL r).length ≤ 256 ∧ (finL r).length ≤ 53 := by
  have pr := fun hp => lvl_pairs h1 h4 hp h
  constructor
  · by_cases hp : r = .point
    · subst hp; simp [openL]
    · have w := fun z o => lvl_len h1 h4 (lv - 1) (r := within r z o) (by have := depth_within hp z o; omega) (lvl_within hp h z o)
      have := open_len hp w (pr hp)
      refine Nat.le_trans this ?_
      rcases (show lv = 1 ∨ lv = 2 ∨ lv = 3 ∨ lv = 4 by omega) with rfl | rfl | rfl | rfl <;> decide
  · refine Nat.le_trans (fin_len pr) ?_
    rcases (show lv = 1 ∨ lv = 2 ∨ lv = 3 ∨ lv = 4 by omega) with rfl | rfl | rfl | rfl <;> decide
end CZ
end
section
set_option maxHeartbeats 4000000
namespace CZ
open PySem PySem.Spec PyProof.Rows L2 TL
open CE (asg_step)
open CG (m_deeds_at m_place_of m_played m_rally_played b_rally_played b_place_of Gm wonD deeds_won deeds_rally played_rally place_rally won_shape)
open CM (lessR cutR less_within cutR_nil cut_step cut_cut open_cut rallied_ok sideD)
open RL RB TLQ RD CP CI
/-- the same, with what is told left open -/
structure Gr0 (g : Gm) where
  P : D → Prop
  size : Nat
  small : size ≤ 30000
  key : ∀ {p}, P p → ∃ k, TL.keyOf p = some k
  stp : ∀ {p}, P p → ∃ xs : List D, xs.length ≤ 30 ∧ (∃ (x : D) (won : Won), p = .tup [x, wonD won] ∧ (won = none ↔ xs ≠ [])) ∧ (∀ M, Ret (m_deeds_at [g.toD, p] M) (DeedsQ M xs)) ∧ (∀ d ∈ xs, DeedD d) ∧
    ∀ d ∈ xs, ∃ q n, (∀ M, Ret (m_played [g.toD, p, d] M) (TL.Gives M q)) ∧ (∀ M, Ret (m_place_of [g.toD, q] M) (TL.Gives M n)) ∧ P n
  S : D → Prop
  s0 : S (firstD g)
  sd : ∀ {st}, S st → ∃ xs : List D, xs.length ≤ 1000 ∧ (∀ M, Ret (m_deeds_at [g.toD, st] M) (DeedsQ M xs)) ∧ ∀ d ∈ xs, ∃ q, (∀ M, Ret (m_played [g.toD, st, d] M) (TL.Gives M q)) ∧ S q
  sp : ∀ {st}, S st → ∃ b, P b ∧ ∀ M, Ret (m_place_of [g.toD, st] M) (TL.Gives M b)
  pp : ∀ {p}, P p → ∀ M, Ret (m_place_of [g.toD, p] M) (TL.Gives M p)
  most : ∃ all : List D, all.length ≤ size ∧ ∀ p, P p → p ∈ all
section
variable {g : Gm} (G : Gr0 g)
open Classical in
noncomputable def Gr0.ds (p : D) : List D := if h : G.P p then (G.stp h).choose else []
theorem Gr0.ds_ok {p : D} (h : G.P p) : (G.ds p).length ≤ 30 ∧ (∃ (x : D) (won : Won), p = .tup [x, wonD won] ∧ (won = none ↔ G.ds p ≠ [])) ∧ (∀ M, Ret (m_deeds_at [g.toD, p] M) (DeedsQ M (G.ds p))) ∧ (∀ d ∈ G.ds p, DeedD d) ∧
    ∀ d ∈ G.ds p, ∃ q n, (∀ M, Ret (m_played [g.toD, p, d] M) (TL.Gives M q)) ∧ (∀ M, Ret (m_place_of [g.toD, q] M) (TL.Gives M n)) ∧ G.P n := by
  unfold Gr0.ds
  rw [dif_pos h]
  exact (G.stp h).choose_spec
open Classical in
noncomputable def Gr0.two (p d : D) : D × D := if h : G.P p ∧ d ∈ G.ds p then (((G.ds_ok h.1).2.2.2.2 d h.2).choose, ((G.ds_ok h.1).2.2.2.2 d h.2).choose_spec.choose) else (.non, .non)
theorem Gr0.two_ok {p d : D} (h : G.P p) (hd : d ∈ G.ds p) : (∀ M, Ret (m_played [g.toD, p, d] M) (TL.Gives M (G.two p d).1)) ∧ (∀ M, Ret (m_place_of [g.toD, (G.two p d).1] M) (TL.Gives M (G.two p d).2)) ∧ G.P (G.two p d).2 := by
  unfold Gr0.two
  rw [dif_pos ⟨h, hd⟩]
  exact ((G.ds_ok h).2.2.2.2 d hd).choose_spec.choose_spec
noncomputable def Gr0.gr : Gr g where
  P := G.P
  ds := G.ds
  raw := fun p d => (G.two p d).1
  nx := fun p d => (G.two p d).2
  size := G.size
  small := G.small
  key := G.key
  few := fun h => (G.ds_ok h).1
  run := fun h => (G.ds_ok h).2.2.1
  play := fun h hd => (G.two_ok h hd).1
  place := fun h hd => (G.two_ok h hd).2.1
  next := fun h hd => (G.two_ok h hd).2.2
  form := fun h => (G.ds_ok h).2.1
  fl := fun h hd => (G.ds_ok h).2.2.2.1 _ hd
  S := G.S
  s0 := G.s0
  sd := G.sd
  sp := G.sp
  pp := G.pp
  most := G.most
end
theorem rally_run {r : Rule} {s : Stand} (hd : r.depth ≤ 4) (ho : Open r s) (b : Bool) (M : Mem) : Ret (m_rally_played [r.toD, s.toD, sideD b] M) (TL.Gives M (.tup [(ralliedR r s b).1.toD, wonD (rWon (ralliedR r s b) b)])) := by
  obtain ⟨M1, e1, k1⟩ := rallied_ok 14 r s b M (by omega) (by omega) ho
  show Ret (endS (b_rally_played [some r.toD, some s.toD, some (sideD b), none, none] M)) _
  unfold b_rally_played
  have hb : ∀ M, CM.m_is_between [sideD b, .int 0, .int 1] M = .ok (.bl true) M := fun M => by
    unfold sideD
    rw [CM.between_ok]
    cases b <;> rfl
  unfold rWon
  generalize ralliedR r s b = q at *
  cases hw : q.2 with
  | true =>
    rw [hw] at e1
    simp [hb, e1]
    exact TL.Ret.ok (P := TL.Gives M _) ⟨by simp [wonD, sideD], k1⟩
  | false =>
    rw [hw] at e1
    simp [hb, e1]
    exact TL.Ret.ok (P := TL.Gives M _) ⟨by simp [wonD], k1⟩
theorem nk_stand : ∀ s : Stand, ∃ k, nk s.toD = some k ∧ k.depth ≤ s.depth + 1
  | .nil => ⟨.tup [], rfl, by simp [NestedKey.depth, NestedKey.depthAll]⟩
  | .st z o w => by
    obtain ⟨k, h1, h2⟩ := nk_stand w
    refine ⟨.tup [.num z, .num o, k], by simp [Stand.toD, nk, nkL, h1], ?_⟩
    simp only [NestedKey.depth, NestedKey.depthAll, Stand.depth]
    omega
theorem key_pair {x y : D} {k j : NestedKey} (h1 : nk x = some k) (h2 : nk y = some j) (d1 : k.depth ≤ 7) (d2 : j.depth ≤ 7) : ∃ k, TL.keyOf (.tup [x, y]) = some k := by
  have e : nk (.tup [x, y]) = some (.tup [k, j]) := by simp [nk, nkL, h1, h2]
  refine ⟨.tup [k, j], ?_⟩
  unfold TL.keyOf
  simp only [e]
  rw [if_pos (by simp only [NestedKey.depth, NestedKey.depthAll]; omega)]
def sideW (b : Bool) : Won := some [if b then 1 else 0]
def PRally (r : Rule) (p : D) : Prop := (∃ s ∈ openL r, p = .tup [s.toD, wonD none]) ∨ ∃ s ∈ finL r, cutR r s = s ∧ ∃ b : Bool, p = .tup [s.toD, wonD (sideW b)]
def SRally (r : Rule) (st : D) : Prop := (∃ s : Stand, st = .tup [s.toD, wonD none] ∧ Open r s ∧ cutR r s ∈ openL r) ∨ ∃ (s : Stand) (b : Bool), st = .tup [s.toD, wonD (sideW b)] ∧ Fits r s ∧ (r = .point ↔ s = .nil) ∧ cutR r s ∈ finL r
theorem fin_facts {r : Rule} {s : Stand} (h : numR r) (hs : s ∈ finL r) : Fits r s ∧ (r = .point ↔ s = .nil) ∧ s.depth ≤ 1 := by
  unfold finL at hs
  split at hs
  · rename_i e
    subst e
    cases List.mem_singleton.mp hs
    exact ⟨trivial, by simp, by simp [Stand.depth]⟩
  · rename_i hp
    obtain ⟨p, _, hs⟩ := List.mem_flatMap.mp hs
    simp only [List.mem_cons, List.not_mem_nil, or_false] at hs
    rcases hs with rfl | rfl <;> exact ⟨⟨hp, trivial⟩, by simp [hp], by simp [Stand.depth]⟩
theorem rally_step {r : Rule} {s : Stand} (h : numR r) (hd : r.depth ≤ 4) (ho : Open r s) (hc : cutR r s ∈ openL r) (b : Bool) :
    ((ralliedR r s b).2 = false → Open r (ralliedR r s b).1 ∧ cutR r (ralliedR r s b).1 ∈ openL r) ∧ ((ralliedR r s b).2 = true → Fits r (ralliedR r s b).1 ∧ (r = .point ↔ (ralliedR r s b).1 = .nil) ∧ cutR r (ralliedR r s b).1 ∈ finL r) := by
  obtain ⟨c1, c2⟩ := cut_step (x := b) (num_good h) ho (open_cut ho) (cut_cut s r).symm
  obtain ⟨n1, n2⟩ := open_next b h hc
  constructor
  · intro e
    exact ⟨open_rallied ho e, by rw [c2]; exact n1 (by rw [← c1]; exact e)⟩
  · intro e
    obtain ⟨f, p, _⟩ := won_shape ho e
    obtain ⟨m1, m2⟩ := n2 (by rw [← c1]; exact e)
    exact ⟨f, p, by rw [c2, m2]; exact m1⟩
theorem deeds_open {r : Rule} {x : D} (M : Mem) : Ret (m_deeds_at [(Gm.rally r).toD, .tup [x, wonD none]] M) (DeedsQ M [.int 0, .int 1]) := by
  rw [Gm.toD, deeds_rally]
  exact .ok ⟨_, rfl, Nat.le_refl _, Keep.more _ _, seqAt_lst (at_len _ _)⟩
theorem deeds_over {g : D} {x : D} {bs : List Int} (M : Mem) : Ret (m_deeds_at [g, .tup [x, wonD (some bs)]] M) (DeedsQ M []) := by
  rw [deeds_won]
  exact .ok ⟨_, rfl, Nat.le_refl _, Keep.more _ _, seqAt_lst (at_len _ _)⟩
theorem two_sides {d : D} (h : d ∈ [D.int 0, D.int 1]) : ∃ b : Bool, d = sideD b := by
  simp only [List.mem_cons, List.not_mem_nil, or_false] at h
  rcases h with rfl | rfl
  · exact ⟨false, rfl⟩
  · exact ⟨true, rfl⟩
theorem place_rallyG {r : Rule} {s : Stand} {x : D} (d : r.depth ≤ 4) (f : Fits r s) (p : r = .point ↔ s = .nil) (M : Mem) : Ret (m_place_of [(Gm.rally r).toD, .tup [s.toD, x]] M) (TL.Gives M (.tup [(cutR r s).toD, x])) := by
  rw [Gm.toD, place_rally d f p]
  exact .ok ⟨rfl, Keep.refl _⟩
theorem open_nilR {r : Rule} {s : Stand} (h : Open r s) : r = .point ↔ s = .nil := by
  cases s with
  | nil => exact ⟨fun _ => rfl, fun _ => h⟩
  | st z o w => exact ⟨fun e => absurd e h.1, fun e => (by cases e)⟩
noncomputable def rallyG {r : Rule} (h : numR r) (hd : r.depth ≤ 4) (n : Nat) (hn : (openL r).length + 2 * (finL r).length ≤ n) (n5 : n ≤ 30000) : Gr0 (.rally r) where
  P := PRally r
  size := n
  small := n5
  key := fun {p} hp => by
    rcases hp with ⟨s, hs, rfl⟩ | ⟨s, hs, hcc, b, rfl⟩
    · obtain ⟨k, k1, k2⟩ := nk_stand s
      have := open_depth (open_facts h hs).1
      exact key_pair k1 (show nk .non = some .none from rfl) (by omega) (by simp [NestedKey.depth])
    · obtain ⟨k, k1, k2⟩ := nk_stand s
      have := (fin_facts h hs).2.2
      exact key_pair k1 (show nk (wonD (sideW b)) = some (.tup [.num (if b then 1 else 0)]) from by simp [wonD, sideW, nk, nkL]) (by omega) (by simp [NestedKey.depth, NestedKey.depthAll])
  stp := fun {p} hp => by
    rcases hp with ⟨s, hs, rfl⟩ | ⟨s, hs, hcc, b, rfl⟩
    · obtain ⟨ho, hc⟩ := open_facts h hs
      refine ⟨[.int 0, .int 1], by simp, ⟨_, none, rfl, by simp⟩, deeds_open, fun d hdd => (by obtain ⟨b, rfl⟩ := two_sides hdd; exact .inl ⟨_, rfl⟩), fun d hdd => ?_⟩
      obtain ⟨b, rfl⟩ := two_sides hdd
      obtain ⟨n1, n2⟩ := rally_step h hd ho (by rw [hc]; exact hs) b
      have run := fun M => played_rally (rally_run hd ho b M)
      cases hw : (ralliedR r s b).2 with
      | false =>
        obtain ⟨o1, o2⟩ := n1 hw
        refine ⟨_, _, run, place_rallyG hd (CM.Open.fits o1) (open_nilR o1), .inl ⟨_, o2, ?_⟩⟩
        unfold rWon; rw [hw]; rfl
      | true =>
        obtain ⟨o1, o2, o3⟩ := n2 hw
        refine ⟨_, _, run, place_rallyG hd o1 o2, .inr ⟨_, o3, cut_cut _ _, b, ?_⟩⟩
        unfold rWon; rw [hw]; rfl
    · exact ⟨[], by simp, ⟨_, _, rfl, by simp [sideW]⟩, deeds_over, fun d hdd => (by cases hdd), fun d hdd => (by cases hdd)⟩
  S := SRally r
  s0 := .inl ⟨begunR r, rfl, open_begun _ r (Nat.le_refl _), by obtain ⟨b1, b2⟩ := begun_open _ r (Nat.le_refl _) h; rw [b2]; exact b1⟩
  sd := fun {st} hs => by
    rcases hs with ⟨s, rfl, ho, hc⟩ | ⟨s, b, rfl, _⟩
    · refine ⟨[.int 0, .int 1], by simp, deeds_open, fun d hdd => ?_⟩
      obtain ⟨b, rfl⟩ := two_sides hdd
      obtain ⟨n1, n2⟩ := rally_step h hd ho hc b
      refine ⟨_, fun M => played_rally (rally_run hd ho b M), ?_⟩
      cases hw : (ralliedR r s b).2 with
      | false =>
        obtain ⟨o1, o2⟩ := n1 hw
        exact .inl ⟨_, by unfold rWon; rw [hw]; rfl, o1, o2⟩
      | true =>
        obtain ⟨o1, o2, o3⟩ := n2 hw
        exact .inr ⟨_, b, by unfold rWon; rw [hw]; rfl, o1, o2, o3⟩
    · exact ⟨[], by simp, deeds_over, fun d hdd => (by cases hdd)⟩
  sp := fun {st} hs => by
    rcases hs with ⟨s, rfl, ho, hc⟩ | ⟨s, b, rfl, h1, h2, h3⟩
    · exact ⟨_, .inl ⟨_, hc, rfl⟩, place_rallyG hd (CM.Open.fits ho) (open_nilR ho)⟩
    · exact ⟨_, .inr ⟨_, h3, cut_cut _ _, b, rfl⟩, place_rallyG hd h1 h2⟩
  pp := fun {p} hp M => by
    rcases hp with ⟨s, hs, rfl⟩ | ⟨s, hs, hcc, b, rfl⟩
    · obtain ⟨ho, hc⟩ := open_facts h hs
      have := place_rallyG (x := wonD none) hd (CM.Open.fits ho) (open_nilR ho) M
      rw [hc] at this
      exact this
    · obtain ⟨h1, h2, _⟩ := fin_facts h hs
      have := place_rallyG (x := wonD (sideW b)) hd h1 h2 M
      rw [hcc] at this
      exact this
  most := ⟨(openL r).map (fun s => .tup [s.toD, wonD none]) ++ (finL r).flatMap fun s => [.tup [s.toD, wonD (sideW false)], .tup [s.toD, wonD (sideW true)]], by
    have := flat_len (f := fun s : Stand => [D.tup [s.toD, wonD (sideW false)], .tup [s.toD, wonD (sideW true)]]) (n := 2) (xs := finL r) fun _ _ => by simp
    rw [List.length_append, List.length_map]
    omega, fun p hp => by
    rcases hp with ⟨s, hs, rfl⟩ | ⟨s, hs, hcc, b, rfl⟩
    · exact List.mem_append_left _ (List.mem_map.mpr ⟨s, hs, rfl⟩)
    · exact List.mem_append_right _ (List.mem_flatMap.mpr ⟨s, hs, by cases b <;> simp⟩)⟩
end CZ
end
section
set_option maxHeartbeats 4000000
namespace CZ
open PySem PySem.Spec PyProof.Rows L2 TL
open CE (asg_step)
open CG (m_deeds_at m_place_of m_played m_down_played b_down_played b_played b_place_of Gm wonD deeds_won deeds_down)
open CM (DSt DStOk thrownS nextS' firstS m_down_thrown down_thrown_ok isName firstS_ok)
open RL RB TLQ RD CP CI
end CZ
end
section
set_option maxHeartbeats 4000000
namespace CZ
open PySem PySem.Spec PyProof.Rows L2 TL
open CE (asg_step)
open CG (m_deeds_at m_place_of m_played m_lane_played b_lane_played b_played b_place_of Gm wonD deeds_won deeds_lane)
open CM (overR bowled_ok best_ints Lane laneD standD freshR bestD best_of_ok m_lane_bowled)
open RL RB TLQ RD CP CI
instance : DecidableEq RB.LRow := fun a b => decidable_of_iff (a.done = b.done ∧ a.ball = b.ball ∧ a.up = b.up ∧ a.near = b.near ∧ a.far = b.far ∧ a.extra = b.extra ∧ a.total = b.total) (by cases a; cases b; simp)
abbrev LS := List LRow × Nat
end CZ
end
section
set_option maxHeartbeats 4000000
namespace CZ
open PySem PySem.Spec PyProof.Rows L2 TL
open CE (asg_step m_l_draws m_l_cell_at draws_ok)
open CG (Gm)
open RL RB TLQ RD CP CI
theorem if_true_step {t : MT} {a b rest : MS} {env : TL.Env} {M M' : Mem} (h : t env M = .ok true M') : (sSeq (sIf t a b) rest) env M = (sSeq a rest) env M' := by
  show nextS (thenS env (t env M) fun k M1 => if k = true then a env M1 else b env M1) rest = _
  rw [h]
  rfl
theorem if_false_step {t : MT} {a rest : MS} {env : TL.Env} {M M' : Mem} (h : t env M = .ok false M') : (sSeq (sIf t a sNil) rest) env M = rest env M' := by
  show nextS (thenS env (t env M) fun k M1 => if k = true then a env M1 else sNil env M1) rest = _
  rw [h]
  rfl
theorem seq_assoc {a b c : MS} {env : TL.Env} {M : Mem} : (sSeq (sSeq a b) c) env M = (sSeq a (sSeq b c)) env M := nextS_nextS (a env M) b c
structure XN (M : Mem) (X : Nat) (xs : List Nat) (n : Nat) : Prop where
  s : seqAt M X = some (xs.map fun x => D.int (x : Nat))
  l : xs.length = n
theorem XN.keep {M M' : Mem} {X n : Nat} {xs : List Nat} (h : XN M X xs n) (k : Keep M M') : XN M' X xs n := ⟨k.seq h.s, h.l⟩
theorem XN.at_ {M : Mem} {X n : Nat} {xs : List Nat} (h : XN M X xs n) {i : Int} (h0 : 0 ≤ i) (hi : i < (n : Int)) : ∃ v : Nat, ∀ M', Keep M M' → mIdx (.ref X) (.int i) M' = some (.int (v : Nat), M') := by
  obtain ⟨j, rfl⟩ : ∃ j : Nat, i = (j : Int) := ⟨i.toNat, by omega⟩
  have hi' : j < xs.length := by rw [h.l]; omega
  exact ⟨xs[j], fun M' k => CE.idx_of (k.seq h.s) (atI_nat (by rw [List.getElem?_map, List.getElem?_eq_getElem hi']; rfl))⟩
theorem pick4 {a b c d : Int} {lv : Nat} (h1 : 1 ≤ lv) (h4 : lv ≤ 4) (M : Mem) : mIdx (.ref M.length) (.int ((lv : Int) - 1)) (M ++ [.lst [.int a, .int b, .int c, .int d]]) = some (.int ([a, b, c, d].getD (lv - 1) 1), M ++ [.lst [.int a, .int b, .int c, .int d]]) := by
  refine CE.idx_of (seqAt_lst (at_len _ _)) ?_
  rcases (show lv = 1 ∨ lv = 2 ∨ lv = 3 ∨ lv = 4 by omega) with rfl | rfl | rfl | rfl <;> rfl
/-- where a unit's numbers are -/
def spotOk (lv level at' : Nat) : Prop := (lv ≤ 3 ∧ at' + 2 ≤ 2 ^ (level + 1)) ∨ (lv = 4 ∧ at' + 1 = 2 ^ level)
def UnitQ (M : Mem) (lv level at' : Nat) (d : D) (M' : Mem) : Prop := ∃ r : Rule, d = r.toD ∧ lvlR lv (decide (at' = 0)) r ∧ r.depth + level ≤ lv ∧ Keep M M'
theorem spot_in {lv level at' : Nat} (h4 : lv ≤ 4) (hl : level < lv) (h : spotOk lv level at') : at' ≤ 7 := by
  rcases h with ⟨h1, h2⟩ | ⟨rfl, h2⟩
  · rcases (show level = 0 ∨ level = 1 ∨ level = 2 by omega) with rfl | rfl | rfl <;> simp at h2 <;> omega
  · rcases (show level = 0 ∨ level = 1 ∨ level = 2 ∨ level = 3 by omega) with rfl | rfl | rfl | rfl <;> simp at h2 <;> omega
theorem spot_one {lv level at' : Nat} (h : spotOk lv level at') : spotOk lv (level + 1) (2 * at' + 1) := by
  unfold spotOk at *
  rw [Nat.pow_succ 2 level] at *
  rw [Nat.pow_succ 2 (level + 1), Nat.pow_succ 2 level]
  omega
theorem spot_two {lv level at' : Nat} (h3 : lv < 4) (h : spotOk lv level at') : spotOk lv (level + 1) (2 * at' + 2) := by
  unfold spotOk at *
  rw [Nat.pow_succ 2 level] at *
  rw [Nat.pow_succ 2 (level + 1), Nat.pow_succ 2 level]
  omega
theorem unit_ok {lv : Nat} (h1 : 1 ≤ lv) (h4 : lv ≤ 4) {X : Nat} {xs : List Nat} : ∀ (n : Nat) {level at' : Nat} {M : Mem}, XN M X xs 34 → level ≤ lv → lv - level < n → spotOk lv level at' →
    Ret (m_l_unit n [.ref X, .int (at' : Nat), .int (level : Nat), .int (lv : Nat)] M) (UnitQ M lv level at')
  | 0, _, _, _, _, _, h, _ => by omega
  | n + 1, level, at', M, hx, hl, hn, hs => by
    show Ret (endS (b_l_unit (m_l_unit n) [some (.ref X), some (.int (at' : Nat)), some (.int (level : Nat)), some (.int (lv : Nat)), none, none, none, none] M)) _
    unfold b_l_unit
    by_cases c0 : level = lv
    · simp [c0]
      exact .ok ⟨.point, rfl, trivial, by simp [Rule.depth], Keep.refl _⟩
    · have hll : level < lv := by omega
      have a7 := spot_in h4 hll hs
      have c0' : ¬ (level : Int) = (lv : Int) := by omega
      obtain ⟨v0, x0⟩ := hx.at_ (i := 4 * (at' : Int)) (by omega) (by omega)
      by_cases c1 : 0 < at' ∧ (v0 : Int) % 7 = 0
      · have c1a : (0 : Int) < (at' : Int) := by omega
        have z : ¬ at' = 0 := by omega
        rw [if_true_step (M' := M) (by simp [-mIdx_ref, c0', c1a, z, x0 M (Keep.refl M), c1.2])]
        simp
        exact .ok ⟨.point, rfl, trivial, by simp [Rule.depth]; omega, Keep.refl _⟩
      · rw [if_false_step (M' := M) (by
          by_cases q : 0 < at'
          · have q2 : ¬ (v0 : Int) % 7 = 0 := fun e => c1 ⟨by omega, e⟩
            have q3 : ¬ at' = 0 := by omega
            simp [-mIdx_ref, c0', q, q3, x0 M (Keep.refl M), q2]
          · have q3 : at' = 0 := by omega
            simp [-mIdx_ref, c0', q3])]
        obtain ⟨v1, x1⟩ := hx.at_ (i := 4 * (at' : Int) + 1) (by omega) (by omega)
        obtain ⟨v2, x2⟩ := hx.at_ (i := 4 * (at' : Int) + 2) (by omega) (by omega)
        obtain ⟨v3, x3⟩ := hx.at_ (i := 4 * (at' : Int) + 3) (by omega) (by omega)
        obtain ⟨w2, y2⟩ := hx.at_ (i := 2) (by omega) (by omega)
        obtain ⟨tm, htm⟩ : ∃ t : Int, t = [4, 3, 2, 2].getD (lv - 1) 1 := ⟨_, rfl⟩
        obtain ⟨lm, hlm⟩ : ∃ t : Int, t = [3, 2, 1, 1].getD (lv - 1) 1 := ⟨_, rfl⟩
        obtain ⟨cm, hcm⟩ : ∃ t : Int, t = [3, 2, 3, 3].getD (lv - 1) 1 := ⟨_, rfl⟩
        have tp : 0 < tm := by rw [htm]; rcases (show lv = 1 ∨ lv = 2 ∨ lv = 3 ∨ lv = 4 by omega) with rfl | rfl | rfl | rfl <;> decide
        have lp : 0 < lm := by rw [hlm]; rcases (show lv = 1 ∨ lv = 2 ∨ lv = 3 ∨ lv = 4 by omega) with rfl | rfl | rfl | rfl <;> decide
        have cp : 0 < cm := by rw [hcm]; rcases (show lv = 1 ∨ lv = 2 ∨ lv = 3 ∨ lv = 4 by omega) with rfl | rfl | rfl | rfl <;> decide
        have p1 := pick4 (a := 4) (b := 3) (c := 2) (d := 2) h1 h4 M
        rw [← htm] at p1
        have k1 := Keep.more M [MO.lst [.int 4, .int 3, .int 2, .int 2]]
        rw [asg_step (v := .int (1 + (v1 : Int) % tm)) (M' := M ++ [MO.lst [.int 4, .int 3, .int 2, .int 2]]) (by simp [-mIdx_ref, x1 M (Keep.refl M), p1, tp])]
        simp only [List.set]
        generalize M ++ [MO.lst [.int 4, .int 3, .int 2, .int 2]] = M1 at *
        have p2 := pick4 (a := 3) (b := 2) (c := 1) (d := 1) h1 h4 M1
        rw [← hlm] at p2
        have k2 := k1.trans (Keep.more M1 [MO.lst [.int 3, .int 2, .int 1, .int 1]])
        rw [asg_step (v := .int (1 + (v2 : Int) % lm)) (M' := M1 ++ [MO.lst [.int 3, .int 2, .int 1, .int 1]]) (by simp [-mIdx_ref, x2 M1 k1, p2, lp])]
        simp only [List.set]
        generalize M1 ++ [MO.lst [.int 3, .int 2, .int 1, .int 1]] = M2 at *
        obtain ⟨to, hto⟩ : ∃ t : Int, t = 1 + (v1 : Int) % tm := ⟨_, rfl⟩
        have t1 : 1 ≤ to ∧ to ≤ tm := by
          have := Int.emod_nonneg (v1 : Int) (show tm ≠ 0 by omega)
          have := Int.emod_lt_of_pos (v1 : Int) tp
          omega
        obtain ⟨lead, el, l1⟩ : ∃ lead : Int, (∀ rest : MS, (sSeq (sIf (tAnd (tB (eBin mEq (eVar 3) (eC (.int 3)))) (tB (eBin mEq (eVar 1) (eC (.int 0))))) (sAsg (gOne 5) (eBin mAdd (eC (.int 1)) (eBin mMod (eBin mIdx (eVar 0) (eC (.int 2))) (eC (.int 2))))) sNil) rest)
            [some (.ref X), some (.int (at' : Nat)), some (.int (level : Nat)), some (.int (lv : Nat)), some (.int (1 + (v1 : Int) % tm)), some (.int (1 + (v2 : Int) % lm)), none, none] M2 =
            rest [some (.ref X), some (.int (at' : Nat)), some (.int (level : Nat)), some (.int (lv : Nat)), some (.int (1 + (v1 : Int) % tm)), some (.int lead), none, none] M2) ∧ 1 ≤ lead ∧ lead ≤ (if lv = 3 ∧ decide (at' = 0) = true then 2 else lm) := by
          by_cases q : lv = 3 ∧ at' = 0
          · have q1 : ((lv : Nat) : Int) = 3 := by omega
            have q2 : ((at' : Nat) : Int) = 0 := by omega
            refine ⟨1 + (w2 : Int) % 2, fun rest => ?_, ?_⟩
            · rw [if_true_step (M' := M2) (by have := q.2; simp [q1, this])]
              rw [asg_step (v := .int (1 + (w2 : Int) % 2)) (M' := M2) (by simp [-mIdx_ref, y2 M2 k2])]
              rfl
            · rw [if_pos ⟨q.1, by simpa using q.2⟩]
              omega
          · refine ⟨1 + (v2 : Int) % lm, fun rest => ?_, ?_⟩
            · rw [if_false_step (M' := M2) (by
                by_cases q1 : ((lv : Nat) : Int) = 3
                · have q2 : ¬ at' = 0 := fun e => q ⟨by omega, by omega⟩
                  simp [q1, q2]
                · simp [q1])]
            · rw [if_neg (fun e => q ⟨e.1, by simpa using e.2⟩)]
              have := Int.emod_nonneg (v2 : Int) (show lm ≠ 0 by omega)
              have := Int.emod_lt_of_pos (v2 : Int) lp
              omega
        rw [el]
        rw [← hto]
        rw [asg_step (v := .non) (M' := M2) (by simp)]
        simp only [List.set]
        rw [asg_step (v := .non) (M' := M2) (by simp)]
        simp only [List.set]
        have lo : (decide (at' = 0) : Bool) = decide (at' = 0) := rfl
        have rec1 : ∀ M', Keep M M' → Ret (m_l_unit n [.ref X, .int (2 * (at' : Int) + 1), .int ((level : Int) + 1), .int (lv : Nat)] M') (UnitQ M' lv (level + 1) (2 * at' + 1)) := fun M' k => by
          have := unit_ok h1 h4 n (level := level + 1) (at' := 2 * at' + 1) (hx.keep k) (by omega) (by omega) (spot_one hs)
          simpa using this
        have fin : ∀ (cap : Option Int) (last : Option Rule) (M' : Mem), Keep M M' → (∀ c, cap = some c → to ≤ c ∧ c < to + cm) → (∀ l, last = some l → (∃ c, cap = some c) ∧ lvlR lv false l ∧ l.depth + (level + 1) ≤ lv) →
            Ret (endS ((sRet (eTup (aCons (eC (.str "unit")) (aCons (eVar 4) (aCons (eVar 5) (aCons (eVar 6) (aCons (eCall (m_l_unit n) (aCons (eVar 0) (aCons (eBin mAdd (eBin mMul (eC (.int 2)) (eVar 1)) (eC (.int 1))) (aCons (eBin mAdd (eVar 2) (eC (.int 1))) (aCons (eVar 3) aNil))))) (aCons (eVar 7) aNil))))))))
              [some (.ref X), some (.int (at' : Nat)), some (.int (level : Nat)), some (.int (lv : Nat)), some (.int to), some (.int lead), some (capD cap), some (lastD last)] M')) (UnitQ M lv level at') := by
          intro cap last M' k hc hla
          obtain ⟨_, M3, e3, r, rfl, lr, dr, k3⟩ := rec1 M' k
          have o1 : (decide (2 * at' + 1 = 0) : Bool) = false := by simp
          rw [o1] at lr
          simp [e3]
          cases last with
          | none =>
            refine .ok ⟨.unit to lead cap r, rfl, ⟨t1.1, by rw [← htm]; exact t1.2, l1.1, by rw [← hlm]; exact l1.2, by rw [← hcm]; exact hc, lr⟩, by simp only [Rule.depth]; omega, k.trans k3⟩
          | some l =>
            obtain ⟨⟨c, rfl⟩, ll, dl⟩ := hla l rfl
            refine .ok ⟨.unitL to lead c r l, rfl, ⟨t1.1, by rw [← htm]; exact t1.2, l1.1, by rw [← hlm]; exact l1.2, (hc c rfl).1, by rw [← hcm]; exact (hc c rfl).2, lr, ll⟩, by simp only [Rule.depth]; omega, k.trans k3⟩
        by_cases c2 : (v3 : Int) % 2 = 1
        · rw [if_true_step (M' := M2) (by simp [-mIdx_ref, x3 M2 k2, c2])]
          rw [seq_assoc]
          have p3 := pick4 (a := 3) (b := 2) (c := 3) (d := 3) h1 h4 M2
          rw [← hcm] at p3
          have k3 := k2.trans (Keep.more M2 [MO.lst [.int 3, .int 2, .int 3, .int 3]])
          rw [asg_step (v := .int (to + (v3 : Int) / 2 % cm)) (M' := M2 ++ [MO.lst [.int 3, .int 2, .int 3, .int 3]]) (by simp [-mIdx_ref, x3 M2 k2, p3, cp])]
          simp only [List.set]
          generalize M2 ++ [MO.lst [.int 3, .int 2, .int 3, .int 3]] = M3 at *
          have cb : ∀ c, some (to + (v3 : Int) / 2 % cm) = some c → to ≤ c ∧ c < to + cm := fun c e => by
            cases e
            have := Int.emod_nonneg ((v3 : Int) / 2) (show cm ≠ 0 by omega)
            have := Int.emod_lt_of_pos ((v3 : Int) / 2) cp
            omega
          by_cases c3 : (v3 : Int) / 6 % 2 = 1 ∧ lv < 4
          · have c3a : (lv : Int) < 4 := by omega
            rw [if_true_step (M' := M3) (by simp [-mIdx_ref, x3 M3 k3, c3.1, c3a])]
            obtain ⟨_, M4, e4, l, rfl, ll, dl, k4⟩ := (by
              have := unit_ok h1 h4 n (level := level + 1) (at' := 2 * at' + 2) (hx.keep k3) (by omega) (by omega) (spot_two c3.2 hs)
              simpa using this : Ret (m_l_unit n [.ref X, .int (2 * (at' : Int) + 2), .int ((level : Int) + 1), .int (lv : Nat)] M3) (UnitQ M3 lv (level + 1) (2 * at' + 2)))
            have o1 : (decide (2 * at' + 2 = 0) : Bool) = false := by simp
            rw [o1] at ll
            rw [asg_step (v := l.toD) (M' := M4) (by simp [e4])]
            simp only [List.set]
            exact fin (some _) (some l) M4 (k3.trans k4) cb (fun l' e => by cases e; exact ⟨⟨_, rfl⟩, ll, dl⟩)
          · rw [if_false_step (M' := M3) (by
              by_cases q : (v3 : Int) / 6 % 2 = 1
              · have q2 : ¬ (lv : Int) < 4 := fun e => c3 ⟨q, by omega⟩
                simp [-mIdx_ref, x3 M3 k3, q, q2]
              · simp [-mIdx_ref, x3 M3 k3, q])]
            exact fin (some _) none M3 k3 cb (fun l e => (by cases e))
        · rw [if_false_step (M' := M2) (by simp [-mIdx_ref, x3 M2 k2, c2])]
          exact fin none none M2 k2 (fun c e => (by cases e)) (fun l e => (by cases e))
end CZ
end
section
set_option maxHeartbeats 4000000
namespace CZ
open PySem PySem.Spec PyProof.Rows L2 TL
open CE (asg_step m_l_draws m_l_cell_at draws_ok ThB DrawsQ)
open CM (Lane laneD)
open CG (Gm m_first m_deeds_at m_played)
open RL RB TLQ RD CP CI
def nms : List (List Str) := [[Str.ofString "a", Str.ofString "ab", Str.ofString "abc", Str.ofString "abcd"], [Str.ofString "z9", Str.ofString "z", Str.ofString "z90", Str.ofString "y"], [Str.ofString "t20", Str.ofString "d20", Str.ofString "t2", Str.ofString "d"]]
end CZ
end
section
set_option maxHeartbeats 4000000
namespace CZ
open PySem PySem.Spec PyProof.Rows L2 TL
open CE (asg_step m_l_draws m_l_cell_at draws_ok ThB DrawsQ)
open CM (Lane laneD begun_ok down_begun_ok lane_begun_ok)
open CG (Gm m_first b_first m_deeds_at m_played)
open RL RB TLQ RD CP CI
end CZ
end
section
set_option maxHeartbeats 4000000
namespace CZ
open PySem PySem.Spec PyProof.Rows L2 TL
open CG (m_deeds_at m_place_of m_played m_first Gm)
open CE (m_l_draws m_l_cell_at asg_step)
noncomputable section
def lp_leading_to_1 : MS := (sExpr (eMeth "list" mAppend (eBin mGet (eVar 2) (eVar 5)) (aCons (eVar 3) aNil)))
def lp_ranked_1 : MS := (sSeq (sPutD (eVar 2) (eVar 4) (eBin mSub (eBin mGet (eVar 2) (eVar 4)) (eC (.int 1))))
    (sSeq (sPutD (eVar 3) (eVar 4) (eCallO nMax2 (aCons (eBin mGet (eVar 3) (eVar 4)) (aCons (eBin mAdd (eBin mGet (eVar 7) (eBin mIdx (eVar 6) (eVar 8))) (eC (.int 1))) aNil))))
    (sIf (tB (eBin mEq (eBin mGet (eVar 2) (eVar 4)) (eC (.int 0)))) (sExpr (eMeth "list" mAppend (eVar 6) (aCons (eVar 4) aNil))) sNil)))
def lp_ranked_2 : MS := (sSeq (sPutD (eVar 7) (eBin mIdx (eVar 6) (eVar 8)) (eBin mGet (eVar 3) (eBin mIdx (eVar 6) (eVar 8))))
    (sSeq (sFor (iAny (eBin mGet (eVar 5) (eBin mIdx (eVar 6) (eVar 8)))) (gOne 4) lp_ranked_1)
    (sAsg (gOne 8) (eBin mAdd (eVar 8) (eC (.int 1))))))
end
open RL RB TLQ RD CP CI
section
variable {g : Gm} {G : Gr g}
/-- the line and the roads, as reached tells them -/
structure Road (G : Gr g) (b : D) (M : Mem) (l ρ : Nat) (T : List (D × Nat)) : Prop extends Tab G b M ρ T where
  al : M[l]? = some (.lst (T.map (·.1)))
theorem Road.keep {b : D} {M M' : Mem} {l ρ : Nat} {T : List (D × Nat)} (h : Road G b M l ρ T) (k : Keep M M') : Road G b M' l ρ T := ⟨h.toTab.keep k, k.at h.al⟩
open Classical in
/-- from p to q, as often as deeds lead so -/
noncomputable def ahd (G : Gr g) (q p : D) (ds : List D) : List D := (ds.filter fun d => decide (G.nx p d = q)).map fun _ => p
/-- the places from which a deed leads to q -/
noncomputable def aheadL (G : Gr g) (L : List D) (q : D) : List D := L.flatMap fun p => ahd G q p (G.ds p)
theorem ahd_len {q p : D} {ds : List D} : (ahd G q p ds).length ≤ ds.length := by
  unfold ahd
  rw [List.length_map]
  exact List.length_filter_le _ _
theorem ahd_snoc (q p : D) (dn : List D) (d : D) : (G.nx p d = q → ahd G q p (dn ++ [d]) = ahd G q p dn ++ [p]) ∧ (G.nx p d ≠ q → ahd G q p (dn ++ [d]) = ahd G q p dn) := by
  unfold ahd
  rw [List.filter_append]
  constructor
  · intro h
    simp [h]
  · intro h
    simp [h]
/-- what is gathered so far, behind each place -/
structure Led (G : Gr g) (M0 : Mem) (L : List D) (φ : Nat) (F : List (D × Nat)) (i : Nat) (p : D) (dn : List D) (M : Mem) : Prop where
  k : Keep M0 M
  nf : M0.length ≤ φ
  af : M[φ]? = some (.dct (tabD F))
  nm : F.map (·.1) = L
  rn : (F.map (·.2)).Nodup
  rf : ∀ f ∈ F, M0.length ≤ f.2
  ct : ∀ f ∈ F, M[f.2]? = some (.lst (aheadL G (L.take i) f.1 ++ ahd G f.1 p dn))
variable {M0 M : Mem} {b : D} {l ρ φ i : Nat} {L dn : List D} {T F : List (D × Nat)}
theorem Led.one (h : Led G M0 L φ F i p dn M) (nd : L.Nodup) {f : D × Nat} (hf : f ∈ F) {d : D} (hq : G.nx p d = f.1) : Led G M0 L φ F i p (dn ++ [d]) (M.set f.2 (.lst (aheadL G (L.take i) f.1 ++ ahd G f.1 p dn ++ [p]))) := by
  have c := h.ct f hf
  have lt := lt_of_at c
  have nφ : f.2 ≠ φ := ne_of_at c h.af (by simp)
  refine ⟨h.k.setNew (h.rf f hf), h.nf, by rw [List.getElem?_set_ne nφ]; exact h.af, h.nm, h.rn, h.rf, fun u hu => ?_⟩
  by_cases e : u = f
  · subst e
    rw [List.getElem?_set_self lt, (ahd_snoc u.1 p dn d).1 hq, List.append_assoc]
  · have n1 : u.1 ≠ f.1 := fun z => e (by
      obtain ⟨a, ha⟩ := List.mem_iff_getElem?.mp hu
      obtain ⟨c, hc⟩ := List.mem_iff_getElem?.mp hf
      have h1 : (F.map (·.1))[a]? = some u.1 := by rw [List.getElem?_map, ha]; rfl
      have h2 : (F.map (·.1))[c]? = some u.1 := by rw [List.getElem?_map, hc, z]; rfl
      have := (List.getElem?_inj (List.getElem?_eq_some_iff.mp h1).1 (by rw [h.nm]; exact nd)).mp (h1.trans h2.symm)
      subst this
      rw [ha] at hc
      exact Option.some.inj hc)
    have n2 : f.2 ≠ u.2 := fun z => n1 (by
      obtain ⟨a, ha⟩ := List.mem_iff_getElem?.mp hu
      obtain ⟨c, hc⟩ := List.mem_iff_getElem?.mp hf
      have h1 : (F.map (·.2))[a]? = some u.2 := by rw [List.getElem?_map, ha]; rfl
      have h2 : (F.map (·.2))[c]? = some u.2 := by rw [List.getElem?_map, hc]; exact congrArg some z
      have := (List.getElem?_inj (List.getElem?_eq_some_iff.mp h1).1 h.rn).mp (h1.trans h2.symm)
      subst this
      rw [ha] at hc
      rw [Option.some.inj hc])
    rw [List.getElem?_set_ne n2, h.ct u hu, (ahd_snoc u.1 p dn d).2 (fun z => n1 (z.symm.trans hq))]
theorem ahead_len {L : List D} {q : D} (hp : ∀ p ∈ L, G.P p) : (aheadL G L q).length ≤ 30 * L.length := by
  unfold aheadL
  have := flat_len (f := fun p => ahd G q p (G.ds p)) (n := 30) (xs := L) fun p h => Nat.le_trans ahd_len (G.few (hp p h))
  omega
abbrev envF (l ρ φ : Nat) (e3 e4 e5 : Option D) : TL.Env := [some (.ref l), some (.ref ρ), some (.ref φ), e3, e4, e5]
def InvF (G : Gr g) (M0 : Mem) (l ρ φ : Nat) (L : List D) (F : List (D × Nat)) (i : Nat) (p : D) : List D → TL.Env → Mem → Prop := fun rest env M => ∃ (e4 e5 : Option D) (dn es : List D),
  env = envF l ρ φ (some p) e4 e5 ∧ Led G M0 L φ F i p dn M ∧ rest = es.map (G.road p) ∧ G.ds p = dn ++ es
theorem stepF (rd : Road G b M0 l ρ T) (hL : T.map (·.1) = L) {p : D} (hi : L[i]? = some p) {d : D} {rest : List D} {env : TL.Env} (h : InvF G M0 l ρ φ L F i p (d :: rest) env M) : ∃ env1, gTupD [4, 5] d env = some env1 ∧ SRet (lp_leading_to_1 env1 M) (InvF G M0 l ρ φ L F i p rest) (fun _ _ => False) := by
  obtain ⟨e4, e5, dn, es, rfl, S, hr, hd⟩ := h
  cases es with
  | nil => cases hr
  | cons x es =>
    rw [List.map_cons] at hr
    cases hr
    refine ⟨_, rfl, ?_⟩
    unfold lp_leading_to_1
    have w : Whole G b L := by rw [← hL]; exact rd.w
    have Pp := w.pl p (List.mem_of_getElem? hi)
    have mx : x ∈ G.ds p := by rw [hd]; simp
    have mq : G.nx p x ∈ L := w.cl p (List.mem_of_getElem? hi) x mx
    obtain ⟨f, hf, ef⟩ := List.mem_map.mp (by rw [S.nm]; exact mq : G.nx p x ∈ F.map (·.1))
    obtain ⟨k, hk⟩ := G.key (G.next Pp mx)
    obtain ⟨_, nkk, _⟩ := keyOf_some hk
    have eg : mGet (.ref φ) (G.nx p x) M = some (.ref f.2, M) := mGet_at S.af hk (find_some nkk (by rw [tabD_names, S.nm]; exact w.nd) (List.mem_map.mpr ⟨f, hf, by rw [ef]⟩))
    have c := S.ct f hf
    have l1 := ahead_len (G := G) (q := f.1) (L := L.take i) fun q hq => w.pl q (List.mem_of_mem_take hq)
    have l2 : (L.take i).length ≤ L.length := by rw [List.length_take]; exact Nat.min_le_right _ _
    have l3 := w.toGrow.len
    have l4 := G.small
    have l5 := G.few Pp
    have l6 := ahd_len (G := G) (q := f.1) (p := p) (ds := dn)
    have l7 : dn.length ≤ 30 := by rw [hd, List.length_append] at l5; omega
    have ap := mAppend_ok (y := p) c (by rw [List.length_append]; omega)
    have sc := seqAt_lst c
    have S1 := S.one w.nd hf (d := x) ef.symm
    generalize M.set f.2 (.lst (aheadL G (L.take i) f.1 ++ ahd G f.1 p dn ++ [p])) = M2 at *
    simp [eg, sc, ap]
    refine SRet.next (N := InvF G M0 l ρ φ L F i p _) ?_
    exact ⟨_, _, dn ++ [x], es, rfl, S1, rfl, by rw [hd]; simp⟩
theorem Led.next (h : Led G M0 L φ F i p dn M) (hi : L[i]? = some p) (hd : dn = G.ds p) (p' : D) : Led G M0 L φ F (i + 1) p' [] M := by
  refine ⟨h.k, h.nf, h.af, h.nm, h.rn, h.rf, fun f hf => ?_⟩
  rw [h.ct f hf, List.take_succ, hi, hd]
  simp [aheadL, ahd]
/-- what the dict of leading_to is -/
structure Lead (G : Gr g) (M : Mem) (L : List D) (φ : Nat) (F : List (D × Nat)) : Prop where
  af : M[φ]? = some (.dct (tabD F))
  nm : F.map (·.1) = L
  ct : ∀ f ∈ F, M[f.2]? = some (.lst (aheadL G L f.1))
theorem Lead.keep {M' : Mem} (h : Lead G M L φ F) (k : Keep M M') : Lead G M' L φ F := ⟨k.at h.af, h.nm, fun f hf => k.at (h.ct f hf)⟩
end
end CZ
end
section
set_option maxHeartbeats 4000000
namespace CZ
open PySem PySem.Spec PyProof.Rows L2 TL
open CG (m_deeds_at m_place_of m_played m_first Gm)
open CE (m_l_draws m_l_cell_at asg_step)
open RL RB TLQ RD CP CI
def valD (L : List D) (f : D → D) : List (D × D) := L.map fun p => (p, f p)
open Classical in
noncomputable def updF {α : Type} (f : D → α) (p : D) (v : α) : D → α := fun q => if q = p then v else f q
theorem updF_same {α : Type} {f : D → α} {p : D} {v : α} : updF f p v p = v := by unfold updF; rw [if_pos rfl]
theorem updF_ne {α : Type} {f : D → α} {p q : D} {v : α} (h : q ≠ p) : updF f p v q = f q := by unfold updF; rw [if_neg h]
theorem valD_names (L : List D) (f : D → D) : (valD L f).map (·.1) = L := by simp [valD, Function.comp_def]
theorem valD_len (L : List D) (f : D → D) : (valD L f).length = L.length := by simp [valD]
theorem val_find {L : List D} {f : D → D} {p : D} {k : NestedKey} (hk : nk p = some k) (hn : L.Nodup) (hp : p ∈ L) : dctFind (valD L f) k = some (f p) :=
  find_some hk (by rw [valD_names]; exact hn) (List.mem_map.mpr ⟨p, hp, rfl⟩)
theorem val_none {L : List D} {f : D → D} {p : D} {k : NestedKey} (hk : nk p = some k) (hp : p ∉ L) : dctFind (valD L f) k = none :=
  find_none hk fun t ht e => by
    obtain ⟨q, hq, rfl⟩ := List.mem_map.mp ht
    exact hp (by rw [← show q = p from e]; exact hq)
theorem val_repl {f : D → D} {p : D} {k : NestedKey} {v : D} (hk : nk p = some k) : ∀ (L : List D), dctRepl k v (valD L f) = valD L (updF f p v)
  | [] => rfl
  | q :: L => by
    have ih := val_repl (f := f) (v := v) hk L
    show dctRepl k v ((q, f q) :: valD L f) = (q, updF f p v q) :: valD L (updF f p v)
    unfold dctRepl
    by_cases c : nk q = some k
    · have e := nk_inj c hk
      subst e
      rw [if_pos c, ih, updF_same]
    · rw [if_neg c, ih, updF_ne (fun e => c (by rw [e]; exact hk))]
section
variable {M : Mem} {n : Nat} {L : List D} {f : D → D} {p v : D} {k : NestedKey}
theorem get_val (h : M[n]? = some (.dct (valD L f))) (hk : TL.keyOf p = some k) (hn : L.Nodup) (hp : p ∈ L) : mGet (.ref n) p M = some (f p, M) :=
  mGet_at h hk (val_find (keyOf_some hk).2.1 hn hp)
theorem put_old (h : M[n]? = some (.dct (valD L f))) (hk : TL.keyOf p = some k) (hn : L.Nodup) (hp : p ∈ L) (hl : L.length ≤ 50000) : putDct (.ref n) p v M = some (M.set n (.dct (valD L (updF f p v)))) := by
  obtain ⟨_, nkk, _⟩ := keyOf_some hk
  rw [putDct_at h hk (by rw [valD_len]; omega)]
  unfold dctPut
  rw [val_find nkk hn hp, Option.isSome_some, if_pos rfl, val_repl nkk]
theorem put_newV (h : M[n]? = some (.dct (valD L f))) (hk : TL.keyOf p = some k) (hp : p ∉ L) (hl : L.length ≤ 50000) : putDct (.ref n) p v M = some (M.set n (.dct (valD (L ++ [p]) (updF f p v)))) := by
  obtain ⟨_, nkk, _⟩ := keyOf_some hk
  rw [putDct_at h hk (by rw [valD_len]; omega)]
  unfold dctPut
  rw [val_none nkk hp]
  have e : valD L f ++ [(p, v)] = valD (L ++ [p]) (updF f p v) := by
    unfold valD
    rw [List.map_append]
    congr 1
    · refine List.map_congr_left fun q hq => ?_
      rw [updF_ne (fun e => hp (by rw [← e]; exact hq))]
    · simp [updF_same]
  simp only [Option.isSome_none, Bool.false_eq_true, if_false, e]
end
open Classical in
/-- how many deeds lead to where it is not yet -/
noncomputable def cntN {g : Gm} (G : Gr g) (p : D) (S : List D) : Nat := (G.ds p).countP fun d => decide (G.nx p d ∉ S)
open Classical in
noncomputable def cntT {g : Gm} (G : Gr g) (p f : D) : Nat := (G.ds p).countP fun d => decide (G.nx p d = f)
open Classical in
noncomputable def cntL (A : List D) (p : D) : Nat := A.countP fun q => decide (q = p)
section
variable {g : Gm} {G : Gr g}
theorem cnt_split {p f : D} {S : List D} (hf : f ∉ S) : cntN G p S = cntN G p (S ++ [f]) + cntT G p f := by
  unfold cntN cntT
  induction G.ds p with
  | nil => rfl
  | cons d ds ih =>
    rw [List.countP_cons, List.countP_cons, List.countP_cons, ih]
    by_cases c1 : G.nx p d = f
    · have h1 : G.nx p d ∉ S := by rw [c1]; exact hf
      simp [c1, hf]
      omega
    · by_cases c2 : G.nx p d ∈ S
      · simp [c1, c2]
      · simp [c1, c2]
        omega
theorem cnt_zero {p : D} {S : List D} : cntN G p S = 0 ↔ ∀ d ∈ G.ds p, G.nx p d ∈ S := by
  unfold cntN
  rw [List.countP_eq_zero]
  constructor
  · intro h d hd
    have := h d hd
    simpa using this
  · intro h d hd
    simp [h d hd]
theorem cntL_app (A B : List D) (p : D) : cntL (A ++ B) p = cntL A p + cntL B p := by unfold cntL; rw [List.countP_append]
open Classical in
theorem cnt_ahd {p q f : D} : ∀ (ds : List D), cntL (ahd G f q ds) p = if q = p then (ahd G f q ds).length else 0 := by
  intro ds
  unfold ahd cntL
  by_cases c : q = p
  · subst c
    rw [if_pos rfl, List.countP_eq_length]
    intro x hx
    obtain ⟨_, _, rfl⟩ := List.mem_map.mp hx
    simp
  · rw [if_neg c, List.countP_eq_zero]
    intro x hx
    obtain ⟨_, _, rfl⟩ := List.mem_map.mp hx
    simp [c]
theorem ahd_cnt (p f : D) : (ahd G f p (G.ds p)).length = cntT G p f := by
  unfold ahd cntT
  rw [List.length_map, List.countP_eq_length_filter]
theorem cnt_ahead {p f : D} : ∀ {L : List D}, L.Nodup → cntL (aheadL G L f) p ≤ cntT G p f ∧ (p ∈ L → cntL (aheadL G L f) p = cntT G p f) ∧ (p ∉ L → cntL (aheadL G L f) p = 0)
  | [], _ => ⟨Nat.zero_le _, fun h => (by cases h), fun _ => rfl⟩
  | q :: L, hn => by
    rw [List.nodup_cons] at hn
    obtain ⟨i1, i2, i3⟩ := cnt_ahead (p := p) (f := f) hn.2
    have e : cntL (aheadL G (q :: L) f) p = cntL (ahd G f q (G.ds q)) p + cntL (aheadL G L f) p := by
      unfold aheadL
      rw [List.flatMap_cons, cntL_app]
    rw [e, cnt_ahd]
    by_cases c : q = p
    · subst c
      rw [if_pos rfl, ahd_cnt, i3 hn.1]
      exact ⟨by omega, fun _ => by omega, fun h => absurd List.mem_cons_self h⟩
    · rw [if_neg c]
      refine ⟨by omega, fun h => ?_, fun h => ?_⟩
      · rcases List.mem_cons.mp h with h | h
        · exact absurd h.symm c
        · have := i2 h; omega
      · have := i3 fun z => h (List.mem_cons_of_mem _ z); omega
open Classical in
theorem mem_ahead {p f : D} {L : List D} (h : p ∈ aheadL G L f) : p ∈ L ∧ ∃ d ∈ G.ds p, G.nx p d = f := by
  unfold aheadL at h
  obtain ⟨q, hq, h⟩ := List.mem_flatMap.mp h
  unfold ahd at h
  obtain ⟨d, hd, rfl⟩ := List.mem_map.mp h
  rw [List.mem_filter] at hd
  exact ⟨hq, d, hd.1, of_decide_eq_true hd.2⟩
open Classical in
theorem ahead_mem {p d : D} {L : List D} (hp : p ∈ L) (hd : d ∈ G.ds p) : p ∈ aheadL G L (G.nx p d) := by
  unfold aheadL
  refine List.mem_flatMap.mpr ⟨p, hp, ?_⟩
  unfold ahd
  exact List.mem_map.mpr ⟨d, List.mem_filter.mpr ⟨hd, decide_eq_true rfl⟩, rfl⟩
variable {M0 M : Mem} {b : D} {l ρ φ lf ms θ κ a : Nat} {L Fr A1 : List D} {f : D} {T F : List (D × Nat)} {cn mx rk : D → Int}
/-- the memory of the walk -/
structure RM (G : Gr g) (M0 : Mem) (b : D) (l ρ : Nat) (T F : List (D × Nat)) (φ lf ms θ κ : Nat) (cn mx rk : D → Int) (Fr Rk : List D) (M : Mem) : Prop where
  k : Keep M0 M
  rd : Road G b M l ρ T
  ld : Lead G M (T.map (·.1)) φ F
  nlf : M0.length ≤ lf
  nms : M0.length ≤ ms
  nθ : M0.length ≤ θ
  nκ : M0.length ≤ κ
  alf : M[lf]? = some (.dct (valD (T.map (·.1)) fun p => .int (cn p)))
  ams : M[ms]? = some (.dct (valD (T.map (·.1)) fun p => .int (mx p)))
  aθ : M[θ]? = some (.lst Fr)
  aκ : M[κ]? = some (.dct (valD Rk fun p => .int (rk p)))
  /-- apart from one another, and from what is read -/
  ap : lf ≠ ms ∧ lf ≠ κ ∧ ms ≠ κ ∧ (lf ≠ ρ ∧ ms ≠ ρ ∧ κ ≠ ρ) ∧ (lf ≠ φ ∧ ms ≠ φ ∧ κ ≠ φ) ∧ θ ≠ l ∧ (∀ t ∈ T, t.2 ≠ θ) ∧ ∀ f ∈ F, f.2 ≠ θ
theorem RM.keep {Rk : List D} {M' : Mem} (h : RM G M0 b l ρ T F φ lf ms θ κ cn mx rk Fr Rk M) (k : Keep M M') : RM G M0 b l ρ T F φ lf ms θ κ cn mx rk Fr Rk M' :=
  ⟨h.k.trans k, h.rd.keep k, h.ld.keep k, h.nlf, h.nms, h.nθ, h.nκ, k.at h.alf, k.at h.ams, k.at h.aθ, k.at h.aκ, h.ap⟩
/-- a place of the walk's own is written -/
theorem RM.put {Rk Fr' Rk' : List D} {cn' mx' rk' : D → Int} {n : Nat} {o : MO} (h : RM G M0 b l ρ T F φ lf ms θ κ cn mx rk Fr Rk M)
    (c : (n = lf ∧ o = .dct (valD (T.map (·.1)) fun p => .int (cn' p)) ∧ mx' = mx ∧ Fr' = Fr ∧ rk' = rk ∧ Rk' = Rk) ∨ (n = ms ∧ o = .dct (valD (T.map (·.1)) fun p => .int (mx' p)) ∧ cn' = cn ∧ Fr' = Fr ∧ rk' = rk ∧ Rk' = Rk) ∨
      (n = θ ∧ o = .lst Fr' ∧ cn' = cn ∧ mx' = mx ∧ rk' = rk ∧ Rk' = Rk) ∨ (n = κ ∧ o = .dct (valD Rk' fun p => .int (rk' p)) ∧ cn' = cn ∧ mx' = mx ∧ Fr' = Fr)) :
    RM G M0 b l ρ T F φ lf ms θ κ cn' mx' rk' Fr' Rk' (M.set n o) := by
  obtain ⟨p1, p2, p3, ⟨p4, p5, p6⟩, ⟨p7, p8, p9⟩, p10, p11, p12⟩ := h.ap
  have t1 : lf ≠ θ := ne_of_at h.alf h.aθ (by simp)
  have t2 : ms ≠ θ := ne_of_at h.ams h.aθ (by simp)
  have t3 : κ ≠ θ := ne_of_at h.aκ h.aθ (by simp)
  have go : ∀ (n : Nat) (o : MO), M0.length ≤ n → n ≠ ρ → n ≠ φ → n ≠ l → (∀ t ∈ T, t.2 ≠ n) → (∀ f ∈ F, f.2 ≠ n) → Keep M0 (M.set n o) ∧ Road G b (M.set n o) l ρ T ∧ Lead G (M.set n o) (T.map (·.1)) φ F := by
    intro n o h1 h2 h3 h4 h5 h6
    refine ⟨h.k.setNew h1, ⟨⟨by rw [List.getElem?_set_ne h2]; exact h.rd.at_, h.rd.w, fun t ht => by rw [List.getElem?_set_ne (Ne.symm (h5 t ht))]; exact h.rd.rt t ht⟩, by rw [List.getElem?_set_ne h4]; exact h.rd.al⟩, ⟨by rw [List.getElem?_set_ne h3]; exact h.ld.af, h.ld.nm, fun f hf => by rw [List.getElem?_set_ne (Ne.symm (h6 f hf))]; exact h.ld.ct f hf⟩⟩
  rcases c with ⟨rfl, rfl, rfl, rfl, rfl, rfl⟩ | ⟨rfl, rfl, rfl, rfl, rfl, rfl⟩ | ⟨rfl, rfl, rfl, rfl, rfl, rfl⟩ | ⟨rfl, rfl, rfl, rfl, rfl⟩
  · obtain ⟨g1, g2, g3⟩ := go n (.dct (valD (T.map (·.1)) fun p => .int (cn' p))) h.nlf p4 p7 (ne_of_at h.alf h.rd.al (by simp)) (fun t ht => Ne.symm (ne_of_at h.alf (h.rd.rt t ht) (by simp))) (fun f hf => Ne.symm (ne_of_at h.alf (h.ld.ct f hf) (by simp)))
    exact ⟨g1, g2, g3, h.nlf, h.nms, h.nθ, h.nκ, List.getElem?_set_self (lt_of_at h.alf), by rw [List.getElem?_set_ne p1]; exact h.ams, by rw [List.getElem?_set_ne t1]; exact h.aθ, by rw [List.getElem?_set_ne p2]; exact h.aκ, h.ap⟩
  · obtain ⟨g1, g2, g3⟩ := go n (.dct (valD (T.map (·.1)) fun p => .int (mx' p))) h.nms p5 p8 (ne_of_at h.ams h.rd.al (by simp)) (fun t ht => Ne.symm (ne_of_at h.ams (h.rd.rt t ht) (by simp))) (fun f hf => Ne.symm (ne_of_at h.ams (h.ld.ct f hf) (by simp)))
    exact ⟨g1, g2, g3, h.nlf, h.nms, h.nθ, h.nκ, by rw [List.getElem?_set_ne (Ne.symm p1)]; exact h.alf, List.getElem?_set_self (lt_of_at h.ams), by rw [List.getElem?_set_ne t2]; exact h.aθ, by rw [List.getElem?_set_ne p3]; exact h.aκ, h.ap⟩
  · obtain ⟨g1, g2, g3⟩ := go n (.lst Fr') h.nθ (ne_of_at h.aθ h.rd.at_ (by simp)) (ne_of_at h.aθ h.ld.af (by simp)) p10 p11 p12
    exact ⟨g1, g2, g3, h.nlf, h.nms, h.nθ, h.nκ, by rw [List.getElem?_set_ne (Ne.symm t1)]; exact h.alf, by rw [List.getElem?_set_ne (Ne.symm t2)]; exact h.ams, List.getElem?_set_self (lt_of_at h.aθ), by rw [List.getElem?_set_ne (Ne.symm t3)]; exact h.aκ, h.ap⟩
  · obtain ⟨g1, g2, g3⟩ := go n (.dct (valD Rk' fun p => .int (rk' p))) h.nκ p6 p9 (ne_of_at h.aκ h.rd.al (by simp)) (fun t ht => Ne.symm (ne_of_at h.aκ (h.rd.rt t ht) (by simp))) (fun f hf => Ne.symm (ne_of_at h.aκ (h.ld.ct f hf) (by simp)))
    exact ⟨g1, g2, g3, h.nlf, h.nms, h.nθ, h.nκ, by rw [List.getElem?_set_ne (Ne.symm p2)]; exact h.alf, by rw [List.getElem?_set_ne (Ne.symm p3)]; exact h.ams, by rw [List.getElem?_set_ne t3]; exact h.aθ, List.getElem?_set_self (lt_of_at h.aκ), h.ap⟩
theorem int_upd (f : D → Int) (p : D) (v : Int) : (updF (fun q => D.int (f q)) p (.int v)) = fun q => .int (updF f p v q) := by
  funext q
  by_cases c : q = p
  · subst c; rw [updF_same, updF_same]
  · rw [updF_ne c, updF_ne c]
/-- what holds of the numbers: front is gone through to a, ranks are told to s, and A1 of those ahead of f are done -/
structure RN (G : Gr g) (L Fr : List D) (a s : Nat) (f : D) (A1 : List D) (cn mx rk : D → Int) : Prop where
  nd : Fr.Nodup
  sub : ∀ p ∈ Fr, p ∈ L
  c0 : ∀ p ∈ L, cn p + (cntL A1 p : Int) = (cntN G p (Fr.take a) : Int)
  fr : ∀ p ∈ L, (p ∈ Fr ↔ cn p = 0)
  m0 : ∀ p ∈ L, 0 ≤ mx p
  m1 : ∀ p ∈ L, ∀ d ∈ G.ds p, G.nx p d ∈ Fr.take a → rk (G.nx p d) + 1 ≤ mx p
  mf : ∀ p ∈ A1, rk f + 1 ≤ mx p
  m2 : ∀ p ∈ L, mx p = 0 ∨ ∃ d ∈ G.ds p, G.nx p d ∈ Fr.take s ∧ mx p = rk (G.nx p d) + 1
  r0 : ∀ p ∈ Fr.take s, 0 ≤ rk p ∧ (∀ d ∈ G.ds p, G.nx p d ∈ Fr.take a ∧ rk (G.nx p d) + 1 ≤ rk p) ∧ (rk p = 0 ∨ ∃ d ∈ G.ds p, rk p = rk (G.nx p d) + 1)
theorem RN.begin (h : RN G L Fr a a f [] cn mx rk) {q : D} (hq : Fr[a]? = some q) : RN G L Fr a (a + 1) q [] cn mx (updF rk q (mx q)) := by
  have la := (List.getElem?_eq_some_iff.mp hq).1
  have tk : Fr.take (a + 1) = Fr.take a ++ [q] := by rw [List.take_succ, hq]; rfl
  have nq : q ∉ Fr.take a := fun z => by
    obtain ⟨j, hj⟩ := List.mem_iff_getElem?.mp z
    have lj := (List.getElem?_eq_some_iff.mp hj).1
    rw [List.length_take] at lj
    rw [List.getElem?_take_of_lt (by omega)] at hj
    have := (List.getElem?_inj la h.nd).mp (hq.trans hj.symm)
    omega
  have ne : ∀ x, x ∈ Fr.take a → x ≠ q := fun x hx e => nq (e ▸ hx)
  have mqF := List.mem_of_getElem? hq
  have mq := h.sub q mqF
  have z0 : ∀ d ∈ G.ds q, G.nx q d ∈ Fr.take a := by
    have c := h.c0 q mq
    rw [(h.fr q mq).mp mqF] at c
    have e0 : cntL ([] : List D) q = 0 := rfl
    rw [e0] at c
    exact cnt_zero.mp (by omega)
  refine ⟨h.nd, h.sub, h.c0, h.fr, h.m0, fun p hp d hd hn => ?_, fun p hp => (by cases hp), fun p hp => ?_, fun p hp => ?_⟩
  · rw [updF_ne (ne _ hn)]; exact h.m1 p hp d hd hn
  · rcases h.m2 p hp with e | ⟨d, hd, hn, e⟩
    · exact .inl e
    · exact .inr ⟨d, hd, by rw [tk]; exact List.mem_append_left _ hn, by rw [updF_ne (ne _ hn)]; exact e⟩
  · rw [tk] at hp
    rcases List.mem_append.mp hp with hp | hp
    · obtain ⟨r1, r2, r3⟩ := h.r0 p hp
      rw [updF_ne (ne p hp)]
      refine ⟨r1, fun d hd => ?_, ?_⟩
      · obtain ⟨q1, q2⟩ := r2 d hd
        rw [updF_ne (ne _ q1)]
        exact ⟨q1, q2⟩
      · rcases r3 with r3 | ⟨d, hd, r3⟩
        · exact .inl r3
        · exact .inr ⟨d, hd, by rw [updF_ne (ne _ (r2 d hd).1)]; exact r3⟩
    · cases List.mem_singleton.mp hp
      rw [updF_same]
      refine ⟨h.m0 q mq, fun d hd => ?_, ?_⟩
      · rw [updF_ne (ne _ (z0 d hd))]
        exact ⟨z0 d hd, h.m1 q mq d hd (z0 d hd)⟩
      · rcases h.m2 q mq with e | ⟨d, hd, hn, e⟩
        · exact .inl e
        · exact .inr ⟨d, hd, by rw [updF_ne (ne _ hn)]; exact e⟩
open Classical in
/-- one of those ahead -/
theorem RN.one {q : D} (h : RN G L Fr a (a + 1) q A1 cn mx rk) (nL : L.Nodup) (hq : Fr[a]? = some q) {p : D} {A2 : List D} (hA : aheadL G L q = A1 ++ p :: A2) :
    RN G L (if cn p - 1 = 0 then Fr ++ [p] else Fr) a (a + 1) q (A1 ++ [p]) (updF cn p (cn p - 1)) (updF mx p (if rk q + 1 > mx p then rk q + 1 else mx p)) rk ∧ (if cn p - 1 = 0 then Fr ++ [p] else Fr)[a]? = some q := by
  have la := (List.getElem?_eq_some_iff.mp hq).1
  have mp : p ∈ aheadL G L q := by rw [hA]; simp
  obtain ⟨pL, d0, hd0, e0⟩ := mem_ahead mp
  have tot := (cnt_ahead (G := G) (p := p) (f := q) nL).1
  rw [hA] at tot
  have c1 : cntL (A1 ++ p :: A2) p = cntL A1 p + 1 + cntL A2 p := by
    rw [cntL_app]
    have : cntL (p :: A2) p = cntL A2 p + 1 := by unfold cntL; rw [List.countP_cons]; simp
    omega
  rw [c1] at tot
  have nq : q ∉ Fr.take a := fun z => by
    obtain ⟨j, hj⟩ := List.mem_iff_getElem?.mp z
    have lj := (List.getElem?_eq_some_iff.mp hj).1
    rw [List.length_take] at lj
    rw [List.getElem?_take_of_lt (by omega)] at hj
    have := (List.getElem?_inj la h.nd).mp (hq.trans hj.symm)
    omega
  have sp := cnt_split (G := G) (p := p) nq
  have c2 := h.c0 p pL
  have cp : 1 ≤ cn p := by omega
  have pF : p ∉ Fr := fun z => by have := (h.fr p pL).mp z; omega
  have tk : ∀ n, n ≤ a + 1 → (if cn p - 1 = 0 then Fr ++ [p] else Fr).take n = Fr.take n := fun n hn => by
    split
    · rw [List.take_append_of_le_length (by omega)]
    · rfl
  have memF : ∀ x, x ∈ (if cn p - 1 = 0 then Fr ++ [p] else Fr) ↔ x ∈ Fr ∨ (x = p ∧ cn p - 1 = 0) := fun x => by
    split
    · rename_i c; simp [c]
    · rename_i c; simp [c]
  have cs : ∀ x, cntL (A1 ++ [p]) x = cntL A1 x + (if x = p then 1 else 0) := fun x => by
    rw [cntL_app]
    unfold cntL
    by_cases c : x = p
    · subst c; simp
    · have c' : ¬ p = x := fun z => c z.symm
      simp [c, c']
  refine ⟨⟨?_, fun x hx => ?_, fun x hx => ?_, fun x hx => ?_, fun x hx => ?_, fun x hx d hd hn => ?_, fun x hx => ?_, fun x hx => ?_, fun x hx => ?_⟩, ?_⟩
  · split
    · rw [List.nodup_append]
      exact ⟨h.nd, by simp, fun x hx y hy e => by
        cases List.mem_singleton.mp hy
        exact pF (e ▸ hx)⟩
    · exact h.nd
  · rcases (memF x).mp hx with hx | ⟨rfl, _⟩
    · exact h.sub x hx
    · exact pL
  · rw [tk a (by omega), cs]
    have := h.c0 x hx
    by_cases c : x = p
    · subst c
      rw [updF_same, if_pos rfl]
      omega
    · rw [updF_ne c, if_neg c]
      omega
  · rw [memF]
    by_cases c : x = p
    · subst c
      rw [updF_same]
      exact ⟨fun hh => hh.elim (fun z => absurd z pF) fun z => z.2, fun z => .inr ⟨rfl, z⟩⟩
    · rw [updF_ne c, ← h.fr x hx]
      exact ⟨fun hh => hh.elim id fun z => absurd z.1 c, .inl⟩
  · by_cases c : x = p
    · subst c
      rw [updF_same]
      have := h.m0 x hx
      split <;> omega
    · rw [updF_ne c]; exact h.m0 x hx
  · rw [tk a (by omega)] at hn
    have := h.m1 x hx d hd hn
    by_cases c : x = p
    · subst c
      rw [updF_same]
      split <;> omega
    · rw [updF_ne c]; exact this
  · rcases List.mem_append.mp hx with hx | hx
    · have := h.mf x hx
      by_cases c : x = p
      · subst c
        rw [updF_same]
        split <;> omega
      · rw [updF_ne c]; exact this
    · cases List.mem_singleton.mp hx
      rw [updF_same]
      split <;> omega
  · rw [tk (a + 1) (Nat.le_refl _)]
    by_cases c : x = p
    · subst c
      rw [updF_same]
      split
      · have tk2 : Fr.take (a + 1) = Fr.take a ++ [q] := by rw [List.take_succ, hq]; rfl
        exact .inr ⟨d0, hd0, by rw [e0, tk2]; simp, by rw [e0]⟩
      · exact h.m2 x hx
    · rw [updF_ne c]; exact h.m2 x hx
  · rw [tk (a + 1) (Nat.le_refl _)] at hx
    rw [tk a (by omega)]
    exact h.r0 x hx
  · split
    · rw [List.getElem?_append_left la]; exact hq
    · exact hq
/-- all ahead of it are done -/
theorem RN.done {q : D} (h : RN G L Fr a (a + 1) q (aheadL G L q) cn mx rk) (nL : L.Nodup) (hq : Fr[a]? = some q) (f : D) : RN G L Fr (a + 1) (a + 1) f [] cn mx rk := by
  have la := (List.getElem?_eq_some_iff.mp hq).1
  have tk : Fr.take (a + 1) = Fr.take a ++ [q] := by rw [List.take_succ, hq]; rfl
  have nq : q ∉ Fr.take a := fun z => by
    obtain ⟨j, hj⟩ := List.mem_iff_getElem?.mp z
    have lj := (List.getElem?_eq_some_iff.mp hj).1
    rw [List.length_take] at lj
    rw [List.getElem?_take_of_lt (by omega)] at hj
    have := (List.getElem?_inj la h.nd).mp (hq.trans hj.symm)
    omega
  refine ⟨h.nd, h.sub, fun p hp => ?_, h.fr, h.m0, fun p hp d hd hn => ?_, fun p hp => (by cases hp), h.m2, fun p hp => ?_⟩
  · have c := h.c0 p hp
    rw [(cnt_ahead (G := G) (p := p) (f := q) nL).2.1 hp] at c
    have sp := cnt_split (G := G) (p := p) nq
    rw [tk]
    have e0 : cntL ([] : List D) p = 0 := rfl
    rw [e0]
    omega
  · rw [tk] at hn
    rcases List.mem_append.mp hn with hn | hn
    · exact h.m1 p hp d hd hn
    · have e : G.nx p d = q := List.mem_singleton.mp hn
      rw [e]
      exact h.mf p (by rw [← e]; exact ahead_mem hp hd)
  · obtain ⟨r1, r2, r3⟩ := h.r0 p hp
    exact ⟨r1, fun d hd => ⟨by rw [tk]; exact List.mem_append_left _ (r2 d hd).1, (r2 d hd).2⟩, r3⟩
abbrev envK (l ρ lf ms φ θ κ a : Nat) (e4 : Option D) : TL.Env := [some (.ref l), some (.ref ρ), some (.ref lf), some (.ref ms), e4, some (.ref φ), some (.ref θ), some (.ref κ), some (.int (a : Nat))]
def InvH (G : Gr g) (M0 : Mem) (b : D) (l ρ : Nat) (T F : List (D × Nat)) (φ lf ms θ κ a : Nat) (q : D) (rk : D → Int) (P : List D) : List D → TL.Env → Mem → Prop := fun rest env M => ∃ (e4 : Option D) (A1 Fr : List D) (cn mx : D → Int),
  env = envK l ρ lf ms φ θ κ a e4 ∧ RM G M0 b l ρ T F φ lf ms θ κ cn mx rk Fr P M ∧ RN G (T.map (·.1)) Fr a (a + 1) q A1 cn mx rk ∧ Fr[a]? = some q ∧ P = Fr.take (a + 1) ∧ aheadL G (T.map (·.1)) q = A1 ++ rest
theorem stepH {q : D} {P : List D} {d : D} {rest : List D} {env : TL.Env} (h : InvH G M0 b l ρ T F φ lf ms θ κ a q rk P (d :: rest) env M) : ∃ env1, gOne 4 d env = some env1 ∧ SRet (lp_ranked_1 env1 M) (InvH G M0 b l ρ T F φ lf ms θ κ a q rk P rest) (fun _ _ => False) := by
  obtain ⟨e4, A1, Fr, cn, mx, rfl, R, N, hq, hP, hA⟩ := h
  refine ⟨_, rfl, ?_⟩
  unfold lp_ranked_1
  have w := R.rd.w
  have mp : d ∈ aheadL G (T.map (·.1)) q := by rw [hA]; simp
  obtain ⟨pL, _⟩ := mem_ahead mp
  obtain ⟨k, hk⟩ := G.key (w.pl d pL)
  have qF := List.mem_of_getElem? hq
  have qL := N.sub q qF
  obtain ⟨kq, hkq⟩ := G.key (w.pl q qL)
  have ll := w.toGrow.len
  have sm := G.small
  have la := (List.getElem?_eq_some_iff.mp hq).1
  have lFr := sub_len N.nd N.sub
  obtain ⟨n1, n2⟩ := N.one w.nd hq hA
  -- left
  have g1 : mGet (.ref lf) d M = some (.int (cn d), M) := get_val R.alf hk w.nd pL
  have p1 : putDct (.ref lf) d (.int (cn d - 1)) M = some (M.set lf (.dct (valD (T.map (·.1)) fun p => .int (updF cn d (cn d - 1) p)))) := by rw [put_old R.alf hk w.nd pL (by omega), int_upd]
  have R1 := R.put (n := lf) (.inl ⟨rfl, rfl, rfl, rfl, rfl, rfl⟩ : (lf = lf ∧ MO.dct (valD (T.map (·.1)) fun p => .int (updF cn d (cn d - 1) p)) = .dct (valD (T.map (·.1)) fun p => .int (updF cn d (cn d - 1) p)) ∧ mx = mx ∧ Fr = Fr ∧ rk = rk ∧ P = P) ∨ _)
  generalize M.set lf (.dct (valD (T.map (·.1)) fun p => .int (updF cn d (cn d - 1) p))) = M1 at *
  -- most
  have g2 : mGet (.ref ms) d M1 = some (.int (mx d), M1) := get_val R1.ams hk w.nd pL
  have ix : mIdx (.ref θ) (.int (a : Nat)) M1 = some (q, M1) := CE.idx_of (seqAt_lst R1.aθ) (atI_nat hq)
  have qP : q ∈ P := by rw [hP, List.take_succ, hq]; simp
  have nP : P.Nodup := by rw [hP]; exact N.nd.sublist (List.take_sublist _ _)
  have g3 : mGet (.ref κ) q M1 = some (.int (rk q), M1) := get_val R1.aκ hkq nP qP
  obtain ⟨v, hv⟩ : ∃ v : Int, v = if rk q + 1 > mx d then rk q + 1 else mx d := ⟨_, rfl⟩
  rw [← hv] at n1
  have nm : nMax2 [.int (mx d), .int (rk q + 1)] M1 = some (.int v, M1) := by rw [hv]; rfl
  have p2 : putDct (.ref ms) d (.int v) M1 = some (M1.set ms (.dct (valD (T.map (·.1)) fun p => .int (updF mx d v p)))) := by rw [put_old R1.ams hk w.nd pL (by omega), int_upd]
  have R2 := R1.put (n := ms) (.inr (.inl ⟨rfl, rfl, rfl, rfl, rfl, rfl⟩) : _ ∨ (ms = ms ∧ MO.dct (valD (T.map (·.1)) fun p => .int (updF mx d v p)) = .dct (valD (T.map (·.1)) fun p => .int (updF mx d v p)) ∧ updF cn d (cn d - 1) = updF cn d (cn d - 1) ∧ Fr = Fr ∧ rk = rk ∧ P = P) ∨ _)
  generalize M1.set ms (.dct (valD (T.map (·.1)) fun p => .int (updF mx d v p))) = M2 at *
  have g4 : mGet (.ref lf) d M2 = some (.int (cn d - 1), M2) := by
    have := get_val R2.alf hk w.nd pL
    rw [updF_same] at this
    exact this
  have sθ := seqAt_lst R2.aθ
  obtain ⟨z, hz⟩ : ∃ z : Int, cn d - 1 = z := ⟨_, rfl⟩
  rw [hz] at n1 n2 p1 g4
  rw [hz] at R2
  by_cases c : z = 0
  · rw [if_pos c] at n1 n2
    have ap := mAppend_ok (y := d) R2.aθ (by omega)
    have R3 := R2.put (n := θ) (Fr' := Fr ++ [d]) (.inr (.inr (.inl ⟨rfl, rfl, rfl, rfl, rfl, rfl⟩)))
    generalize M2.set θ (.lst (Fr ++ [d])) = M3 at *
    have ct : (z = 0) = True := eq_true c
    simp [-mIdx_ref, g1, hz, p1, g2, ix, g3, nm, p2, g4, ct, sθ, ap]
    refine SRet.next (N := InvH G M0 b l ρ T F φ lf ms θ κ a q rk P _) ?_
    exact ⟨_, A1 ++ [d], Fr ++ [d], _, _, rfl, R3, n1, n2, by rw [List.take_append_of_le_length (by omega)]; exact hP, by rw [hA]; simp⟩
  · rw [if_neg c] at n1 n2
    simp [-mIdx_ref, g1, hz, p1, g2, ix, g3, nm, p2, g4, c]
    refine SRet.next (N := InvH G M0 b l ρ T F φ lf ms θ κ a q rk P _) ?_
    exact ⟨_, A1 ++ [d], Fr, _, _, rfl, R2, n1, n2, hP, by rw [hA]; simp⟩
def InvR (G : Gr g) (M0 : Mem) (b : D) (l ρ : Nat) (T F : List (D × Nat)) (φ lf ms θ κ : Nat) : Nat → TL.Env → Mem → Prop := fun m env M => ∃ (e4 : Option D) (a : Nat) (Fr : List D) (cn mx rk : D → Int),
  env = envK l ρ lf ms φ θ κ a e4 ∧ RM G M0 b l ρ T F φ lf ms θ κ cn mx rk Fr (Fr.take a) M ∧ RN G (T.map (·.1)) Fr a a b [] cn mx rk ∧ a ≤ Fr.length ∧ m + a = G.size + 1
/-- what ranked tells -/
structure Ranks (G : Gr g) (L Fr : List D) (rk : D → Int) : Prop where
  nd : Fr.Nodup
  sub : ∀ p ∈ Fr, p ∈ L
  r0 : ∀ p ∈ Fr, 0 ≤ rk p
  r1 : ∀ p ∈ Fr, ∀ d ∈ G.ds p, G.nx p d ∈ Fr ∧ rk (G.nx p d) + 1 ≤ rk p
  r2 : ∀ p ∈ Fr, rk p = 0 ∨ ∃ d ∈ G.ds p, rk p = rk (G.nx p d) + 1
  no : ∀ p ∈ L, p ∉ Fr → ∃ d ∈ G.ds p, G.nx p d ∉ Fr
theorem RN.nf {f' : D} (h : RN G L Fr a a f [] cn mx rk) : RN G L Fr a a f' [] cn mx rk := ⟨h.nd, h.sub, h.c0, h.fr, h.m0, h.m1, fun p hp => (by cases hp), h.m2, h.r0⟩
theorem stepR {m : Nat} {env : TL.Env} (h : InvR G M0 b l ρ T F φ lf ms θ κ m env M) :
    Ret (tB (eBin mLt (eVar 8) (eCallO nLen (aCons (eVar 6) aNil))) env M) (fun c M1 => if c = true then SRet (lp_ranked_2 env M1) (fun e M => ∃ m', m' < m ∧ InvR G M0 b l ρ T F φ lf ms θ κ m' e M) (fun _ _ => False)
      else ∃ e4 a Fr rk, env = envK l ρ lf ms φ θ κ a e4 ∧ Keep M0 M1 ∧ M0.length ≤ κ ∧ M1[κ]? = some (.dct (valD Fr fun p => .int (rk p))) ∧ Ranks G (T.map (·.1)) Fr rk) := by
  obtain ⟨e4, a, Fr, cn, mx, rk, rfl, R, N, ha, hm⟩ := h
  have sθ := seqAt_lst R.aθ
  have et : tB (eBin mLt (eVar 8) (eCallO nLen (aCons (eVar 6) aNil))) (envK l ρ lf ms φ θ κ a e4) M = .ok (decide (a < Fr.length)) M := by simp [sθ]
  rw [et]
  refine .ok ?_
  have w := R.rd.w
  have lFr := sub_len N.nd N.sub
  have ll := w.toGrow.len
  have sm := G.small
  by_cases c : a < Fr.length
  · rw [if_pos (by simpa using c)]
    obtain ⟨q, hq⟩ : ∃ q, Fr[a]? = some q := ⟨Fr[a], List.getElem?_eq_getElem c⟩
    have qF := List.mem_of_getElem? hq
    have qL := N.sub q qF
    obtain ⟨k, hk⟩ := G.key (w.pl q qL)
    obtain ⟨_, nkk, _⟩ := keyOf_some hk
    have tk : Fr.take (a + 1) = Fr.take a ++ [q] := by rw [List.take_succ, hq]; rfl
    have nq : q ∉ Fr.take a := fun z => by
      obtain ⟨j, hj⟩ := List.mem_iff_getElem?.mp z
      have lj := (List.getElem?_eq_some_iff.mp hj).1
      rw [List.length_take] at lj
      rw [List.getElem?_take_of_lt (by omega)] at hj
      have := (List.getElem?_inj c N.nd).mp (hq.trans hj.symm)
      omega
    have ix : mIdx (.ref θ) (.int (a : Nat)) M = some (q, M) := CE.idx_of sθ (atI_nat hq)
    have g1 : mGet (.ref ms) q M = some (.int (mx q), M) := get_val R.ams hk w.nd qL
    have p1 : putDct (.ref κ) q (.int (mx q)) M = some (M.set κ (.dct (valD (Fr.take (a + 1)) fun p => .int (updF rk q (mx q) p)))) := by
      rw [put_newV R.aκ hk nq (by rw [List.length_take]; omega), int_upd, tk]
    have R1 := R.put (n := κ) (Rk' := Fr.take (a + 1)) (rk' := updF rk q (mx q)) (.inr (.inr (.inr ⟨rfl, rfl, rfl, rfl, rfl⟩)))
    have N1 := N.begin hq
    generalize M.set κ (.dct (valD (Fr.take (a + 1)) fun p => .int (updF rk q (mx q) p))) = M1 at *
    generalize updF rk q (mx q) = rk1 at *
    have ix1 : mIdx (.ref θ) (.int (a : Nat)) M1 = some (q, M1) := CE.idx_of (seqAt_lst R1.aθ) (atI_nat hq)
    obtain ⟨f, hf, ef⟩ := List.mem_map.mp (by rw [R.ld.nm]; exact qL : q ∈ F.map (·.1))
    have g2 : mGet (.ref φ) q M1 = some (.ref f.2, M1) := mGet_at R1.ld.af hk (find_some nkk (by rw [tabD_names, R.ld.nm]; exact w.nd) (List.mem_map.mpr ⟨f, hf, by rw [ef]⟩))
    have cf : ∀ {M'}, Lead G M' (T.map (·.1)) φ F → seqAt M' f.2 = some (aheadL G (T.map (·.1)) q) := fun h => by
      have := seqAt_lst (h.ct f hf)
      rw [ef] at this
      exact this
    have so := srcOf_ref (cf R1.ld)
    unfold lp_ranked_2
    simp [-mIdx_ref, ix, g1, p1, ix1, g2, so]
    refine SRet.forQ (InvH G M0 b l ρ T F φ lf ms θ κ a q rk1 (Fr.take (a + 1))) ⟨_, [], Fr, cn, mx, rfl, R1, N1, hq, rfl, rfl⟩ (fun rest env M h => by
      obtain ⟨_, _, _, _, _, _, R', _⟩ := h
      exact cf R'.ld) (fun d rest env M h => stepH h) ?_
    rintro env M2 ⟨e4', A1, Fr', cn', mx', rfl, R2, N2, hq', hP, hA⟩
    rw [List.append_nil] at hA
    subst hA
    rw [hP] at R2
    have lFr' := (List.getElem?_eq_some_iff.mp hq').1
    have lFs := sub_len N2.nd N2.sub
    simp
    refine SRet.next (N := fun e M => ∃ m', m' < m ∧ InvR G M0 b l ρ T F φ lf ms θ κ m' e M) ?_
    exact ⟨m - 1, by omega, _, a + 1, Fr', cn', mx', rk1, rfl, R2, N2.done w.nd hq' b, by omega, by omega⟩
  · rw [if_neg (by simpa using c)]
    have e : a = Fr.length := by omega
    subst e
    have ak := R.aκ
    rw [List.take_length] at ak
    have r0 := N.r0
    have c0 := N.c0
    rw [List.take_length] at r0 c0
    refine ⟨_, _, Fr, rk, rfl, R.k, R.nκ, ak, N.nd, N.sub, fun p hp => (r0 p hp).1, fun p hp => (r0 p hp).2.1, fun p hp => (r0 p hp).2.2, fun p hp hn => ?_⟩
    have c1 := c0 p hp
    have e0 : cntL ([] : List D) p = 0 := rfl
    rw [e0] at c1
    have nz : ¬ cn p = 0 := fun z => hn ((N.fr p hp).mpr z)
    have : ¬ ∀ d ∈ G.ds p, G.nx p d ∈ Fr := fun z => nz (by have := cnt_zero.mpr z; omega)
    exact Classical.byContradiction fun z => this fun d hd => Classical.byContradiction fun y => z ⟨d, hd, y⟩
end
end CZ
end
section
set_option maxHeartbeats 4000000
namespace CZ
open PySem PySem.Spec PyProof.Rows L2 TL
open CG (m_deeds_at m_place_of m_played m_first Gm wonD)
open CE (m_l_draws m_l_cell_at asg_step)
open RL RB TLQ RD CP CI
def oD : Option Nat → D
  | none => .non
  | some n => .int (n : Nat)
section
variable {g : Gm} {G : Gr g}
structure EN (G : Gr g) (L Fr : List D) (a : Nat) (f : D) (A1 : List D) (e : D → Option Nat) : Prop where
  nd : Fr.Nodup
  sub : ∀ p ∈ Fr, p ∈ L
  fr : ∀ p ∈ L, (p ∈ Fr ↔ e p ≠ none)
  o0 : ∀ p ∈ L, G.ds p = [] → e p = some 0
  o1 : ∀ p ∈ L, e p = some 0 → G.ds p = []
  es : ∀ p ∈ L, ∀ n, e p = some (n + 1) → ∃ d ∈ G.ds p, e (G.nx p d) = some n
  mo : ∀ (i j : Nat) (p q : D) (n m : Nat), i ≤ j → Fr[i]? = some p → Fr[j]? = some q → e p = some n → e q = some m → n ≤ m
  bd : ∀ (q p : D) (n m : Nat), Fr[a]? = some q → p ∈ Fr → e q = some n → e p = some m → m ≤ n + 1
  lo : ∀ p ∈ L, ∀ d ∈ G.ds p, G.nx p d ∈ Fr.take a → ∀ n, e (G.nx p d) = some n → ∃ m, e p = some m ∧ m ≤ n + 1
  af : ∀ p ∈ A1, ∀ n, e f = some n → ∃ m, e p = some m ∧ m ≤ n + 1
  ix : ∀ (j : Nat) (p : D) (n : Nat), Fr[j]? = some p → e p = some n → n ≤ j
variable {L Fr A1 : List D} {a : Nat} {e : D → Option Nat}
theorem EN.start (nL : L.Nodup) (h : Fr = L.filter fun p => decide ((G.ds p).length = 0)) (he : ∀ p ∈ L, e p = if (G.ds p).length = 0 then some 0 else none) (f : D) : EN G L Fr 0 f [] e := by
  have mF : ∀ p, p ∈ Fr ↔ p ∈ L ∧ (G.ds p).length = 0 := fun p => by rw [h, List.mem_filter]; simp
  have e0 : ∀ p ∈ L, ∀ n, e p = some n → n = 0 := fun p hp n hn => by
    rw [he p hp] at hn
    split at hn
    · cases hn; rfl
    · cases hn
  refine ⟨by rw [h]; exact nL.filter _, fun p hp => ((mF p).mp hp).1, fun p hp => ?_, fun p hp hd => ?_, fun p hp h0 => ?_, fun p hp n hn => ?_, fun i j p q n m _ h1 h2 h3 h4 => ?_, fun q p n m h1 h2 h3 h4 => ?_, fun p hp d hd hn => ?_, fun p hp => (by cases hp), fun j p n h1 h2 => ?_⟩
  · rw [mF, he p hp]
    constructor
    · rintro ⟨_, z⟩; rw [if_pos z]; simp
    · intro z
      refine ⟨hp, ?_⟩
      by_cases c : (G.ds p).length = 0
      · exact c
      · rw [if_neg c] at z; exact absurd rfl z
  · rw [he p hp, hd]; rfl
  · rw [he p hp] at h0
    split at h0
    · rename_i c; exact List.length_eq_zero_iff.mp c
    · cases h0
  · have := e0 p hp _ hn; omega
  · have := e0 p ((mF p).mp (List.mem_of_getElem? h1)).1 n h3; omega
  · have := e0 p ((mF p).mp h2).1 m h4; omega
  · simp at hn
  · have := e0 p ((mF p).mp (List.mem_of_getElem? h1)).1 n h2; omega
theorem EN.new {q p d0 : D} {n : Nat} (h : EN G L Fr a q A1 e) (hq : Fr[a]? = some q) (pL : p ∈ L) (hd0 : d0 ∈ G.ds p) (e0 : G.nx p d0 = q) (hp : e p = none) (hn : e q = some n) :
    EN G L (Fr ++ [p]) a q (A1 ++ [p]) (updF e p (some (n + 1))) ∧ (Fr ++ [p])[a]? = some q := by
  have la := (List.getElem?_eq_some_iff.mp hq).1
  have pF : p ∉ Fr := fun z => (h.fr p pL).mp z hp
  have nF : ∀ x ∈ Fr, x ≠ p := fun x hx z => pF (z ▸ hx)
  have uF : ∀ x ∈ Fr, updF e p (some (n + 1)) x = e x := fun x hx => updF_ne (nF x hx)
  have qF := List.mem_of_getElem? hq
  have ap : (Fr ++ [p])[a]? = some q := by rw [List.getElem?_append_left la]; exact hq
  have at' : ∀ (j : Nat) (x : D), (Fr ++ [p])[j]? = some x → (Fr[j]? = some x ∧ j < Fr.length ∧ x ∈ Fr) ∨ (j = Fr.length ∧ x = p) := fun j x hj => by
    by_cases c : j < Fr.length
    · rw [List.getElem?_append_left c] at hj
      exact .inl ⟨hj, c, List.mem_of_getElem? hj⟩
    · rw [List.getElem?_append_right (by omega)] at hj
      have c2 : j - Fr.length = 0 := by
        have := (List.getElem?_eq_some_iff.mp hj).1
        simp at this
        omega
      rw [c2] at hj
      cases hj
      exact .inr ⟨by omega, rfl⟩
  refine ⟨⟨?_, fun x hx => ?_, fun x hx => ?_, fun x hx hd => ?_, fun x hx h0 => ?_, fun x hx m hm => ?_, fun i j x y m1 m2 hij h1 h2 h3 h4 => ?_, fun q' x m1 m2 h1 h2 h3 h4 => ?_, fun x hx d hd hm m1 h1 => ?_, fun x hx m1 h1 => ?_, fun j x m1 h1 h2 => ?_⟩, ap⟩
  · rw [List.nodup_append]
    exact ⟨h.nd, by simp, fun x hx y hy z => by
      cases List.mem_singleton.mp hy
      exact pF (z ▸ hx)⟩
  · rcases List.mem_append.mp hx with hx | hx
    · exact h.sub x hx
    · cases List.mem_singleton.mp hx; exact pL
  · by_cases c : x = p
    · subst c
      rw [updF_same]
      simp
    · rw [updF_ne c, ← h.fr x hx]
      simp [c]
  · by_cases c : x = p
    · subst c
      rw [hd] at hd0
      cases hd0
    · rw [updF_ne c]; exact h.o0 x hx hd
  · by_cases c : x = p
    · subst c
      rw [updF_same] at h0
      simp at h0
    · rw [updF_ne c] at h0; exact h.o1 x hx h0
  · by_cases c : x = p
    · subst c
      rw [updF_same] at hm
      cases hm
      exact ⟨d0, hd0, by rw [e0, uF q qF]; exact hn⟩
    · rw [updF_ne c] at hm
      obtain ⟨d, hd, hm⟩ := h.es x hx m hm
      refine ⟨d, hd, ?_⟩
      rw [updF_ne (fun z => by rw [z, hp] at hm; cases hm)]
      exact hm
  · rcases at' i x h1 with ⟨g1, l1, x1⟩ | ⟨g1, rfl⟩
    · rw [uF x x1] at h3
      rcases at' j y h2 with ⟨g2, l2, y1⟩ | ⟨g2, rfl⟩
      · rw [uF y y1] at h4
        exact h.mo i j x y m1 m2 hij g1 g2 h3 h4
      · rw [updF_same] at h4
        cases h4
        exact h.bd q x n m1 hq x1 hn h3
    · rw [updF_same] at h3
      cases h3
      rcases at' j y h2 with ⟨g2, l2, y1⟩ | ⟨g2, rfl⟩
      · omega
      · rw [updF_same] at h4
        cases h4
        exact Nat.le_refl _
  · rw [ap] at h1
    cases h1
    rw [uF q qF, hn] at h3
    cases h3
    rcases List.mem_append.mp h2 with h2 | h2
    · rw [uF x h2] at h4
      exact h.bd q x n m2 hq h2 hn h4
    · cases List.mem_singleton.mp h2
      rw [updF_same] at h4
      cases h4
      exact Nat.le_refl _
  · rw [List.take_append_of_le_length (by omega)] at hm
    rw [uF _ (List.mem_of_mem_take hm)] at h1
    obtain ⟨m, g1, g2⟩ := h.lo x hx d hd hm m1 h1
    refine ⟨m, ?_, g2⟩
    rw [updF_ne (fun z => by rw [z, hp] at g1; cases g1)]
    exact g1
  · rw [uF q qF, hn] at h1
    cases h1
    rcases List.mem_append.mp hx with hx | hx
    · obtain ⟨m, g1, g2⟩ := h.af x hx n hn
      refine ⟨m, ?_, g2⟩
      rw [updF_ne (fun z => by rw [z, hp] at g1; cases g1)]
      exact g1
    · cases List.mem_singleton.mp hx
      exact ⟨_, updF_same, Nat.le_refl _⟩
  · rcases at' j x h1 with ⟨g1, l1, x1⟩ | ⟨g1, rfl⟩
    · rw [uF x x1] at h2
      exact h.ix j x m1 g1 h2
    · rw [updF_same] at h2
      cases h2
      have := h.ix a q n hq hn
      omega
theorem EN.done {q : D} (h : EN G L Fr a q (aheadL G L q) e) (hq : Fr[a]? = some q) (qL : q ∈ L) (f : D) : EN G L Fr (a + 1) f [] e := by
  have qF := List.mem_of_getElem? hq
  obtain ⟨n, hn⟩ : ∃ n, e q = some n := Option.ne_none_iff_exists'.mp ((h.fr q qL).mp qF)
  have tk : Fr.take (a + 1) = Fr.take a ++ [q] := by rw [List.take_succ, hq]; rfl
  refine ⟨h.nd, h.sub, h.fr, h.o0, h.o1, h.es, h.mo, fun q' p m1 m2 h1 h2 h3 h4 => ?_, fun p hp d hd hm m1 h1 => ?_, fun p hp => (by cases hp), h.ix⟩
  · have := h.mo a (a + 1) q q' n m1 (by omega) hq h1 hn h3
    have := h.bd q p n m2 hq h2 hn h4
    omega
  · rw [tk] at hm
    rcases List.mem_append.mp hm with hm | hm
    · exact h.lo p hp d hd hm m1 h1
    · have z : G.nx p d = q := List.mem_singleton.mp hm
      rw [z] at h1
      exact h.af p (by rw [← z]; exact ahead_mem hp hd) m1 h1
theorem EN.nf {f f' : D} (h : EN G L Fr a f [] e) : EN G L Fr a f' [] e := ⟨h.nd, h.sub, h.fr, h.o0, h.o1, h.es, h.mo, h.bd, h.lo, fun p hp => (by cases hp), h.ix⟩
/-- what soonest tells -/
structure Ends (G : Gr g) (L : List D) (e : D → Option Nat) : Prop where
  o0 : ∀ p ∈ L, G.ds p = [] → e p = some 0
  o1 : ∀ p ∈ L, e p = some 0 → G.ds p = []
  es : ∀ p ∈ L, ∀ n, e p = some (n + 1) → ∃ d ∈ G.ds p, e (G.nx p d) = some n
  lo : ∀ p ∈ L, ∀ d ∈ G.ds p, ∀ n, e (G.nx p d) = some n → ∃ m, e p = some m ∧ m ≤ n + 1
  sz : ∀ p ∈ L, ∀ n, e p = some n → n < L.length
end
end CZ
end
section
set_option maxHeartbeats 4000000
namespace CZ
open PySem PySem.Spec PyProof.Rows L2 TL
open CG (m_deeds_at m_place_of m_played m_first Gm wonD)
open CE (m_l_draws m_l_cell_at asg_step)
open RL RB TLQ RD CP CI
section
variable {g : Gm} {G : Gr g} {M0 M : Mem} {b : D} {l ρ φ η θ a : Nat} {L Fr A1 : List D} {T F : List (D × Nat)} {e : D → Option Nat}
theorem place_end {p : D} (hp : G.P p) : ∃ w, (∀ M, mIdx p (.int 1) M = some (w, M)) ∧ isNon w = !(decide ((G.ds p).length = 0)) := by
  obtain ⟨x, won, rfl, h⟩ := G.form hp
  refine ⟨wonD won, fun M => rfl, ?_⟩
  cases won with
  | none =>
    have := h.mp rfl
    have : ¬ (G.ds (.tup [x, wonD none])).length = 0 := fun z => this (List.length_eq_zero_iff.mp z)
    simp [this]
    rfl
  | some bs =>
    have : (G.ds (.tup [x, wonD (some bs)])).length = 0 := by
      refine List.length_eq_zero_iff.mpr ?_
      refine Classical.byContradiction fun z => ?_
      have := h.mpr z
      cases this
    simp [this]
    rfl
structure EM (G : Gr g) (M0 : Mem) (b : D) (l ρ : Nat) (T F : List (D × Nat)) (φ η θ : Nat) (e : D → Option Nat) (Fr : List D) (M : Mem) : Prop where
  k : Keep M0 M
  rd : Road G b M l ρ T
  ld : Lead G M (T.map (·.1)) φ F
  nη : M0.length ≤ η
  nθ : M0.length ≤ θ
  aη : M[η]? = some (.dct (valD (T.map (·.1)) fun p => oD (e p)))
  aθ : M[θ]? = some (.lst Fr)
  ap : η ≠ ρ ∧ η ≠ φ ∧ θ ≠ l ∧ (∀ t ∈ T, t.2 ≠ θ) ∧ ∀ f ∈ F, f.2 ≠ θ
theorem EM.keep {M' : Mem} (h : EM G M0 b l ρ T F φ η θ e Fr M) (k : Keep M M') : EM G M0 b l ρ T F φ η θ e Fr M' :=
  ⟨h.k.trans k, h.rd.keep k, h.ld.keep k, h.nη, h.nθ, k.at h.aη, k.at h.aθ, h.ap⟩
abbrev envN (l ρ η : Nat) (e3 : Option D) (φ θ : Nat) (a : Nat) : TL.Env := [some (.ref l), some (.ref ρ), some (.ref η), e3, some (.ref φ), some (.ref θ), some (.int (a : Nat))]
def InvO (G : Gr g) (M0 : Mem) (b : D) (l ρ : Nat) (T F : List (D × Nat)) (φ η θ : Nat) : Nat → TL.Env → Mem → Prop := fun m env M => ∃ (e3 : Option D) (a : Nat) (Fr : List D) (e : D → Option Nat),
  env = envN l ρ η e3 φ θ a ∧ EM G M0 b l ρ T F φ η θ e Fr M ∧ EN G (T.map (·.1)) Fr a b [] e ∧ a ≤ Fr.length ∧ m + a = G.size + 1
end
end CZ
end
section
set_option maxHeartbeats 4000000
namespace CZ
open PySem PySem.Spec PyProof.Rows L2 TL
open CG (m_deeds_at m_place_of m_played m_first Gm)
open CE (m_l_draws m_l_cell_at asg_step)
open RL RB TLQ RD CP CI
section
variable {g : Gm} {G : Gr g}
/-- from p by these deeds to q -/
def Pth (G : Gr g) : D → List D → D → Prop
  | p, [], q => p = q
  | p, d :: ds, q => d ∈ G.ds p ∧ Pth G (G.nx p d) ds q
theorem Pth.snoc : ∀ {ds : List D} {p q d : D}, Pth G p ds q → d ∈ G.ds q → Pth G p (ds ++ [d]) (G.nx q d)
  | [], p, q, d, h, hd => by
    have : p = q := h
    subst this
    exact ⟨hd, rfl⟩
  | x :: ds, p, q, d, ⟨h1, h2⟩, hd => ⟨h1, Pth.snoc h2 hd⟩
theorem Pth.pl : ∀ {ds : List D} {p q : D}, G.P p → Pth G p ds q → G.P q
  | [], p, q, hp, h => by have : p = q := h; subst this; exact hp
  | d :: ds, p, q, hp, ⟨h1, h2⟩ => Pth.pl (G.next hp h1) h2
/-- gone so far: places, deeds, the place that is come to -/
structure Gone (G : Gr g) (b : D) (L Fr Vs ds : List D) (atf : D → Int) (p : D) : Prop where
  nv : Vs.Nodup
  len : Vs.length = ds.length
  sub : ∀ v ∈ Vs, v ∈ L
  pL : p ∈ L
  pF : p ∉ Fr
  pb : Pth G b ds p
  pj : ∀ (j : Nat) (v : D), Vs[j]? = some v → Pth G b (ds.take j) v ∧ Pth G v (ds.drop j) p ∧ atf v = (j : Int)
theorem Gone.more {b p d : D} {L Fr Vs ds : List D} {atf : D → Int} (h : Gone G b L Fr Vs ds atf p) (w : Whole G b L) (hp : p ∉ Vs) (hd : d ∈ G.ds p) (hn : G.nx p d ∉ Fr) : Gone G b L Fr (Vs ++ [p]) (ds ++ [d]) (updF atf p (ds.length : Nat)) (G.nx p d) := by
  refine ⟨?_, by simp [h.len], fun v hv => ?_, w.cl p h.pL d hd, hn, h.pb.snoc hd, fun j v hv => ?_⟩
  · rw [List.nodup_append]
    exact ⟨h.nv, by simp, fun x hx y hy e => by
      cases List.mem_singleton.mp hy
      exact hp (e ▸ hx)⟩
  · rcases List.mem_append.mp hv with hv | hv
    · exact h.sub v hv
    · cases List.mem_singleton.mp hv; exact h.pL
  · by_cases c : j < Vs.length
    · rw [List.getElem?_append_left c] at hv
      obtain ⟨q1, q2, q3⟩ := h.pj j v hv
      have lj : j ≤ ds.length := by rw [← h.len]; omega
      refine ⟨by rw [List.take_append_of_le_length lj]; exact q1, ?_, ?_⟩
      · rw [List.drop_append_of_le_length lj]
        exact q2.snoc hd
      · rw [updF_ne (fun e => hp (by rw [← e]; exact List.mem_of_getElem? hv))]
        exact q3
    · have lj := (List.getElem?_eq_some_iff.mp hv).1
      simp only [List.length_append, List.length_cons, List.length_nil] at lj
      have e : j = Vs.length := by omega
      subst e
      simp only [List.getElem?_concat_length, Option.some.injEq] at hv
      subst hv
      rw [h.len]
      refine ⟨?_, ?_, updF_same⟩
      · rw [List.take_append_of_le_length (Nat.le_refl _), List.take_length]
        exact h.pb
      · rw [List.drop_append_of_le_length (Nat.le_refl _), List.drop_length]
        exact ⟨hd, rfl⟩
variable {M0 M : Mem} {b : D} {l ρ κ α τ : Nat} {L Fr : List D} {T : List (D × Nat)} {rk : D → Int}
structure LM (G : Gr g) (M0 : Mem) (b : D) (l ρ κ : Nat) (T : List (D × Nat)) (Fr : List D) (rk : D → Int) (α τ : Nat) (Vs ds : List D) (atf : D → Int) (M : Mem) : Prop where
  k : Keep M0 M
  rd : Road G b M l ρ T
  aκ : M[κ]? = some (.dct (valD Fr fun p => .int (rk p)))
  nα : M0.length ≤ α
  nτ : M0.length ≤ τ
  aα : M[α]? = some (.dct (valD Vs fun p => .int (atf p)))
  aτ : M[τ]? = some (.lst ds)
  ap : α ≠ ρ ∧ α ≠ κ ∧ τ ≠ l ∧ ∀ t ∈ T, t.2 ≠ τ
theorem LM.keep {Vs ds : List D} {atf : D → Int} {M' : Mem} (h : LM G M0 b l ρ κ T Fr rk α τ Vs ds atf M) (k : Keep M M') : LM G M0 b l ρ κ T Fr rk α τ Vs ds atf M' :=
  ⟨h.k.trans k, h.rd.keep k, k.at h.aκ, h.nα, h.nτ, k.at h.aα, k.at h.aτ, h.ap⟩
theorem asgG_step {gg : MG} {e : ME} {env env' : TL.Env} {M M' : Mem} {v : D} {rest : MS} (h : e env M = .ok v M') (hg : gg v env = some env') : (sSeq (sAsg gg e) rest) env M = rest env' M' := by
  show nextS (thenS env (e env M) fun d M1 => match gg d env with | some env' => .next env' M1 | none => .stuck) rest = _
  rw [h]
  show nextS (match gg v env with | some env' => .next env' M' | none => .stuck) rest = _
  rw [hg]
  rfl
/-- all are ranked as soon as the first one is -/
theorem Ranks.all {L : List D} (R : Ranks G L Fr rk) (w : Whole G b L) (hb : b ∈ Fr) : ∀ p ∈ L, p ∈ Fr := by
  have go : ∀ (n c : Nat) (p : D), c < n → L[c]? = some p → p ∈ Fr := by
    intro n
    induction n with
    | zero => intro c p hc; omega
    | succ n ih =>
      intro c p hc hp
      by_cases c0 : c = 0
      · subst c0
        rw [w.hd] at hp
        cases hp
        exact hb
      · obtain ⟨a, q, d, e1, e2, e3, e4⟩ := w.bk c (by omega) (List.getElem?_eq_some_iff.mp hp).1
        rw [hp] at e4
        cases e4
        exact (R.r1 q (ih a q (by omega) e2) d e3).1
  intro p hp
  obtain ⟨c, hc⟩ := List.mem_iff_getElem?.mp hp
  exact go (c + 1) c p (by omega) hc
end
end CZ
end
section
set_option maxHeartbeats 4000000
namespace CZ
open PySem PySem.Spec PyProof.Rows L2 TL
open CG (m_deeds_at m_place_of m_played m_first Gm wonD)
open CE (m_l_draws m_l_cell_at asg_step)
open RL RB TLQ RD CP CI
section
variable {g : Gm} {G : Gr g} {b : D} {L L' : List D} {e e' : D → Option Nat}
theorem Ends.le (E : Ends G L e) (E' : Ends G L' e') (cl : ∀ p ∈ L, ∀ d ∈ G.ds p, G.nx p d ∈ L) (sub : ∀ p ∈ L, p ∈ L') : ∀ (n : Nat) (p : D), p ∈ L → e p = some n → ∃ m, e' p = some m ∧ m ≤ n
  | 0, p, hp, h => ⟨0, E'.o0 p (sub p hp) (E.o1 p hp h), Nat.le_refl _⟩
  | n + 1, p, hp, h => by
    obtain ⟨d, hd, h1⟩ := E.es p hp n h
    obtain ⟨m, h2, h3⟩ := E.le E' cl sub n _ (cl p hp d hd) h1
    obtain ⟨k, h4, h5⟩ := E'.lo p (sub p hp) d hd m h2
    exact ⟨k, h4, by omega⟩
def RowQ (G : Gr g) (M0 : Mem) (b d : D) (M : Mem) : Prop := Keep M0 M ∧ ∃ (L : List D) (e : D → Option Nat), Whole G b L ∧ Ends G L e ∧ ((e b = none ∧ d = .non) ∨ ∃ (n : Nat) (ds : List D) (q : D), d = .ref n ∧ M0.length ≤ n ∧ M[n]? = some (.lst ds) ∧ e b = some ds.length ∧ Pth G b ds q ∧ q ∈ L ∧ G.ds q = [])
structure WM (G : Gr g) (M0 : Mem) (b : D) (l ρ : Nat) (T : List (D × Nat)) (e : D → Option Nat) (η r : Nat) (ds : List D) (M : Mem) : Prop where
  k : Keep M0 M
  rd : Road G b M l ρ T
  nr : M0.length ≤ r
  aη : M[η]? = some (.dct (valD (T.map (·.1)) fun p => oD (e p)))
  ar : M[r]? = some (.lst ds)
  rl : r ≠ l
  rt : ∀ t ∈ T, t.2 ≠ r
theorem WM.keep {M0 M M' : Mem} {l ρ η r : Nat} {T : List (D × Nat)} {ds : List D} (h : WM G M0 b l ρ T e η r ds M) (k : Keep M M') : WM G M0 b l ρ T e η r ds M' :=
  ⟨h.k.trans k, h.rd.keep k, h.nr, k.at h.aη, k.at h.ar, h.rl, h.rt⟩
theorem WM.put {M0 M : Mem} {l ρ η r : Nat} {T : List (D × Nat)} {ds : List D} (h : WM G M0 b l ρ T e η r ds M) (ds' : List D) : WM G M0 b l ρ T e η r ds' (M.set r (.lst ds')) :=
  ⟨h.k.setNew h.nr, ⟨⟨by rw [List.getElem?_set_ne (ne_of_at h.ar h.rd.at_ (by simp))]; exact h.rd.at_, h.rd.w, fun t ht => by rw [List.getElem?_set_ne (Ne.symm (h.rt t ht))]; exact h.rd.rt t ht⟩, by rw [List.getElem?_set_ne h.rl]; exact h.rd.al⟩, h.nr,
    by rw [List.getElem?_set_ne (ne_of_at h.ar h.aη (by simp))]; exact h.aη, List.getElem?_set_self (lt_of_at h.ar), h.rl, h.rt⟩
end
end CZ
end
section
set_option maxHeartbeats 4000000
namespace CZ
open PySem PySem.Spec PyProof.Rows L2 TL
open CE (asg_step)
open CG (m_deeds_at m_place_of m_played Gm wonD deeds_down)
open CM (DSt DStOk thrownS nextS' firstS)
open RL RB TLQ RD CP CI
def opn (c : Int) : D := .tup [(DSt.mk [c] 0 0 c).toD, wonD none]
def wonP : D := .tup [(DSt.mk [0] 0 1 1).toD, wonD (some [0])]
def aD : D := .str (Str.ofString "a")
/-- the place behind -/
def nxt (c : Int) : D := if c = 1 then wonP else opn (c - 1)
/-- what is told is one thing -/
theorem one_thing {f : Mem → Out D} {a c : D} (h1 : ∀ M, Ret (f M) (TL.Gives M a)) (h2 : ∀ M, Ret (f M) (TL.Gives M c)) : a = c := by
  obtain ⟨M1, e1, _⟩ := gives_of (h1 [])
  obtain ⟨M2, e2, _⟩ := gives_of (h2 [])
  rw [e1] at e2
  cases e2
  rfl
theorem one_list {f : Mem → Out D} {xs ys : List D} (h1 : ∀ M, Ret (f M) (DeedsQ M xs)) (h2 : ∀ M, Ret (f M) (DeedsQ M ys)) : xs = ys := by
  obtain ⟨d1, M1, e1, n1, rfl, _, _, s1⟩ := h1 []
  obtain ⟨d2, M2, e2, n2, rfl, _, _, s2⟩ := h2 []
  rw [e1] at e2
  cases e2
  rw [s1] at s2
  exact Option.some.inj s2
end CZ
end
section
set_option maxHeartbeats 4000000
namespace CZ
open PySem PySem.Spec PyProof.Rows L2 TL
open CG (m_deeds_at m_place_of m_played Gm wonD played_rally won_shape)
open CM (cutR cut_step cut_cut open_cut sideD)
open RL RB TLQ RD CP CI
section
variable {g : Gm}
structure At (G : Gr g) (st b : D) : Prop where
  s : G.S st
  p : G.P b
  pl : ∀ M, Ret (m_place_of [g.toD, st] M) (TL.Gives M b)
  f : ∃ x y w, st = .tup [x, w] ∧ b = .tup [y, w]
structure Sim (G : Gr g) : Prop where
  at_ : ∀ {st}, G.S st → ∃ b, At G st b
  ds : ∀ {st b}, At G st b → ∀ M, Ret (m_deeds_at [g.toD, st] M) (DeedsQ M (G.ds b))
  go : ∀ {st b d}, At G st b → d ∈ G.ds b → ∃ st', (∀ M, Ret (m_played [g.toD, st, d] M) (TL.Gives M st')) ∧ At G st' (G.nx b d)
theorem At.refl {G : Gr g} (hS : ∀ {p}, G.P p → G.S p) {p : D} (hp : G.P p) : At G p p := ⟨hS hp, hp, G.pp hp, by obtain ⟨x, won, rfl, _⟩ := G.form hp; exact ⟨_, _, _, rfl, rfl⟩⟩
theorem sim_rally {r : Rule} (h : numR r) (hd : r.depth ≤ 4) {n : Nat} (hn : (openL r).length + 2 * (finL r).length ≤ n) (n5 : n ≤ 30000) : Sim (rallyG h hd n hn n5).gr := by
  have opn : ∀ s : Stand, Open r s → cutR r s ∈ openL r → At (rallyG h hd n hn n5).gr (.tup [s.toD, wonD none]) (.tup [(cutR r s).toD, wonD none]) := fun s ho hc =>
    ⟨.inl ⟨s, rfl, ho, hc⟩, .inl ⟨_, hc, rfl⟩, place_rallyG hd (CM.Open.fits ho) (open_nilR ho), ⟨_, _, _, rfl, rfl⟩⟩
  have ovr : ∀ (s : Stand) (b : Bool), Fits r s → (r = .point ↔ s = .nil) → cutR r s ∈ finL r → At (rallyG h hd n hn n5).gr (.tup [s.toD, wonD (sideW b)]) (.tup [(cutR r s).toD, wonD (sideW b)]) := fun s b f1 f2 f3 =>
    ⟨.inr ⟨s, b, rfl, f1, f2, f3⟩, .inr ⟨_, f3, cut_cut _ _, b, rfl⟩, place_rallyG hd f1 f2, ⟨_, _, _, rfl, rfl⟩⟩
  have dsO : ∀ s : Stand, s ∈ openL r → (rallyG h hd n hn n5).gr.ds (.tup [s.toD, wonD none]) = [.int 0, .int 1] := fun s hs =>
    one_list (f := fun M => m_deeds_at [(Gm.rally r).toD, .tup [s.toD, wonD none]] M) ((rallyG h hd n hn n5).gr.run (.inl ⟨s, hs, rfl⟩)) deeds_open
  have dsW : ∀ (s : Stand) (b : Bool), s ∈ finL r → cutR r s = s → (rallyG h hd n hn n5).gr.ds (.tup [s.toD, wonD (sideW b)]) = [] := fun s b hs hc =>
    one_list (f := fun M => m_deeds_at [(Gm.rally r).toD, .tup [s.toD, wonD (sideW b)]] M) ((rallyG h hd n hn n5).gr.run (.inr ⟨s, hs, hc, b, rfl⟩)) (fun M => deeds_over M)
  have nxO : ∀ (s : Stand) (x : Bool), s ∈ openL r → (rallyG h hd n hn n5).gr.nx (.tup [s.toD, wonD none]) (sideD x) = .tup [(cutR r (ralliedR r s x).1).toD, wonD (rWon (ralliedR r s x) x)] := fun s x hs => by
    obtain ⟨ho, hc⟩ := open_facts h hs
    have hp : (rallyG h hd n hn n5).gr.P (.tup [s.toD, wonD none]) := .inl ⟨s, hs, rfl⟩
    have hm : sideD x ∈ (rallyG h hd n hn n5).gr.ds (.tup [s.toD, wonD none]) := by rw [dsO s hs]; cases x <;> simp [sideD]
    have e1 := one_thing (f := fun M => m_played [(Gm.rally r).toD, .tup [s.toD, wonD none], sideD x] M) ((rallyG h hd n hn n5).gr.play hp hm) (fun M => played_rally (rally_run hd ho x M))
    have e2 := (rallyG h hd n hn n5).gr.place hp hm
    rw [e1] at e2
    obtain ⟨n1, n2⟩ := rally_step h hd ho (by rw [hc]; exact hs) x
    refine one_thing (f := fun M => m_place_of [(Gm.rally r).toD, .tup [(ralliedR r s x).1.toD, wonD (rWon (ralliedR r s x) x)]] M) e2 ?_
    cases hw : (ralliedR r s x).2 with
    | false =>
      obtain ⟨o1, o2⟩ := n1 hw
      exact place_rallyG hd (CM.Open.fits o1) (open_nilR o1)
    | true =>
      obtain ⟨o1, o2, o3⟩ := n2 hw
      exact place_rallyG hd o1 o2
  refine ⟨?_, ?_, ?_⟩
  · rintro st (⟨s, rfl, ho, hc⟩ | ⟨s, b, rfl, h1, h2, h3⟩)
    · exact ⟨_, opn s ho hc⟩
    · exact ⟨_, ovr s b h1 h2 h3⟩
  · rintro st b a M
    obtain ⟨s, rfl, ho, hc⟩ | ⟨s, x, rfl, h1, h2, h3⟩ := a.s
    · have e := one_thing (f := fun M => m_place_of [(Gm.rally r).toD, .tup [s.toD, wonD none]] M) a.pl (opn s ho hc).pl
      rw [e, dsO _ hc]
      exact deeds_open M
    · have e := one_thing (f := fun M => m_place_of [(Gm.rally r).toD, .tup [s.toD, wonD (sideW x)]] M) a.pl (ovr s x h1 h2 h3).pl
      rw [e, dsW _ x h3 (cut_cut _ _)]
      exact deeds_over M
  · rintro st b d a hdd
    obtain ⟨s, rfl, ho, hc⟩ | ⟨s, x, rfl, h1, h2, h3⟩ := a.s
    · have e := one_thing (f := fun M => m_place_of [(Gm.rally r).toD, .tup [s.toD, wonD none]] M) a.pl (opn s ho hc).pl
      rw [e, dsO _ hc] at hdd
      obtain ⟨x, rfl⟩ := two_sides hdd
      rw [e, nxO _ x hc]
      obtain ⟨c1, c2⟩ := cut_step (x := x) (num_good h) ho (open_cut ho) (cut_cut s r).symm
      obtain ⟨n1, n2⟩ := rally_step h hd ho hc x
      refine ⟨_, fun M => played_rally (rally_run hd ho x M), ?_⟩
      have ew : rWon (ralliedR r (cutR r s) x) x = rWon (ralliedR r s x) x := by unfold rWon; rw [c1]
      rw [← c2, ew]
      cases hw : (ralliedR r s x).2 with
      | false =>
        obtain ⟨o1, o2⟩ := n1 hw
        have e3 : rWon (ralliedR r s x) x = none := by unfold rWon; rw [hw]; rfl
        rw [e3]
        exact opn _ o1 o2
      | true =>
        obtain ⟨o1, o2, o3⟩ := n2 hw
        have e3 : rWon (ralliedR r s x) x = sideW x := by unfold rWon; rw [hw]; rfl
        rw [e3]
        exact ovr _ x o1 o2 o3
    · have e := one_thing (f := fun M => m_place_of [(Gm.rally r).toD, .tup [s.toD, wonD (sideW x)]] M) a.pl (ovr s x h1 h2 h3).pl
      rw [e, dsW _ x h3 (cut_cut _ _)] at hdd
      cases hdd
end
end CZ
end
section
set_option maxHeartbeats 4000000
namespace CZ
open PySem PySem.Spec PyProof.Rows L2 TL
open CG (m_deeds_at m_place_of m_played m_first Gm wonD)
open CE (m_l_draws m_l_cell_at asg_step)
open RL RB TLQ RD CP CI
theorem expr_step {e : ME} {rest : MS} {env : TL.Env} {M M' : Mem} {d : D} (h : e env M = .ok d M') : (sSeq (sExpr e) rest) env M = rest env M' := by
  show nextS (thenS env (e env M) fun d M1 => .next env M1) rest = _
  rw [h]
  rfl
section
variable {g : Gm} {G : Gr g}
theorem At.won {st b : D} (a : At G st b) : ∃ w, (∀ M, mIdx st (.int 1) M = some (w, M)) ∧ (∀ M, mIdx b (.int 1) M = some (w, M)) ∧ isNon w = !(decide ((G.ds b).length = 0)) := by
  obtain ⟨x, y, w, rfl, rfl⟩ := a.f
  obtain ⟨w', h1, h2⟩ := place_end a.p
  have e := h1 []
  have e2 : mIdx (.tup [y, w]) (.int 1) [] = some (w, []) := rfl
  rw [e2] at e
  cases e
  exact ⟨w, fun M => rfl, fun M => rfl, h2⟩
/-- a path is played from the stand itself -/
theorem Pth.in_ {L : List D} (cl : ∀ p ∈ L, ∀ d ∈ G.ds p, G.nx p d ∈ L) : ∀ {ds : List D} {p q : D}, p ∈ L → Pth G p ds q → q ∈ L
  | [], p, q, hp, h => by have : p = q := h; subst this; exact hp
  | d :: ds, p, q, hp, ⟨h1, h2⟩ => Pth.in_ cl (cl p hp d h1) h2
end
end CZ
end
section
set_option maxHeartbeats 4000000
namespace CZ
open PySem PySem.Spec PyProof.Rows L2 TL
open CG (m_deeds_at m_place_of m_played m_first Gm)
open CE (m_l_draws m_l_cell_at asg_step)
open RL RB TLQ RD CP CI
def tooMany : Ex := ⟨"TooMany", none⟩
end CZ
end
section
set_option maxHeartbeats 4000000
namespace CZ
open PySem PySem.Spec PyProof.Rows L2 TL
open CG (m_deeds_at m_place_of m_played m_first Gm wonD)
open CE (m_l_draws m_l_cell_at asg_step)
open CI (m_sides_of sidesD sides_of_ok)
noncomputable section
def lp_row_to_0 : MS := (sSeq (sAsg (gTupD [1, 3]) (eBin mGet (eVar 0) (eVar 1)))
    (sExpr (eMeth "list" mAppend (eVar 2) (aCons (eVar 3) aNil))))
def b_row_to : MS := (sSeq (sAsg (gOne 2) (eLst aNil))
    (sSeq (sWhile 100000 (tB (eBin mIsNot (eBin mGet (eVar 0) (eVar 1)) (eC .non))) lp_row_to_0)
    (sSeq (sExpr (eMeth "list" mReverse (eVar 2) aNil))
    (sRet (eVar 2)))))
def m_row_to : Fn := fnD 2 4 b_row_to
end
open RL RB TLQ RD CP
section
variable {g : Gm} {G : Gr g} {M0 M : Mem} {b : D} {κ : Nat} {L C : List D} {f : D → D}
/-- how places were come to -/
structure Came (G : Gr g) (b : D) (L C : List D) (f : D → D) : Prop where
  nd : C.Nodup
  hd : C[0]? = some b
  fb : f b = .non
  sub : ∀ v ∈ C, v ∈ L
  bk : ∀ (j : Nat) (v : D), 0 < j → C[j]? = some v → ∃ (a : Nat) (p d : D), a < j ∧ C[a]? = some p ∧ d ∈ G.ds p ∧ G.nx p d = v ∧ f v = .tup [p, d]
theorem Came.one (hb : b ∈ L) : Came G b L [b] (fun _ => .non) := ⟨by simp, rfl, rfl, fun v hv => by cases List.mem_singleton.mp hv; exact hb, fun j v h0 hv => by
  have := (List.getElem?_eq_some_iff.mp hv).1
  simp at this
  omega⟩
theorem Came.more (h : Came G b L C f) {p d : D} (hp : p ∈ C) (hd : d ∈ G.ds p) (hn : G.nx p d ∉ C) (hL : G.nx p d ∈ L) : Came G b L (C ++ [G.nx p d]) (updF f (G.nx p d) (.tup [p, d])) := by
  have ne : ∀ v ∈ C, v ≠ G.nx p d := fun v hv e => hn (e ▸ hv)
  have l0 := (List.getElem?_eq_some_iff.mp h.hd).1
  obtain ⟨a, ha⟩ := List.mem_iff_getElem?.mp hp
  have la := (List.getElem?_eq_some_iff.mp ha).1
  refine ⟨?_, by rw [List.getElem?_append_left l0]; exact h.hd, by rw [updF_ne (ne b (List.mem_of_getElem? h.hd))]; exact h.fb, fun v hv => ?_, fun j v h0 hv => ?_⟩
  · rw [List.nodup_append]
    exact ⟨h.nd, by simp, fun x hx y hy e => by
      cases List.mem_singleton.mp hy
      exact ne x hx e⟩
  · rcases List.mem_append.mp hv with hv | hv
    · exact h.sub v hv
    · cases List.mem_singleton.mp hv; exact hL
  · by_cases c : j < C.length
    · rw [List.getElem?_append_left c] at hv
      obtain ⟨a, q, x, h1, h2, h3, h4, h5⟩ := h.bk j v h0 hv
      have la := (List.getElem?_eq_some_iff.mp h2).1
      exact ⟨a, q, x, h1, by rw [List.getElem?_append_left la]; exact h2, h3, h4, by rw [updF_ne (ne v (List.mem_of_getElem? hv))]; exact h5⟩
    · rw [List.getElem?_append_right (by omega)] at hv
      have c2 : j - C.length = 0 := by
        have := (List.getElem?_eq_some_iff.mp hv).1
        simp at this
        omega
      rw [c2] at hv
      cases hv
      exact ⟨a, p, d, by omega, by rw [List.getElem?_append_left la]; exact ha, hd, rfl, updF_same⟩
structure CW (G : Gr g) (M0 : Mem) (b : D) (l ρ κ : Nat) (T : List (D × Nat)) (C : List D) (f : D → D) (M : Mem) : Prop where
  k : Keep M0 M
  rd : Road G b M l ρ T
  nl : M0.length ≤ l
  nκ : M0.length ≤ κ
  aκ : M[κ]? = some (.dct (valD C f))
  ap : κ ≠ ρ
  cm : Came G b (T.map (·.1)) C f
theorem CW.put {l ρ : Nat} {T : List (D × Nat)} (h : CW G M0 b l ρ κ T C f M) {C' : List D} {f' : D → D} (cm : Came G b (T.map (·.1)) C' f') : CW G M0 b l ρ κ T C' f' (M.set κ (.dct (valD C' f'))) :=
  ⟨h.k.setNew h.nκ, ⟨⟨by rw [List.getElem?_set_ne h.ap]; exact h.rd.at_, h.rd.w, fun t ht => by rw [List.getElem?_set_ne (ne_of_at h.aκ (h.rd.rt t ht) (by simp))]; exact h.rd.rt t ht⟩, by rw [List.getElem?_set_ne (ne_of_at h.aκ h.rd.al (by simp))]; exact h.rd.al⟩, h.nl, h.nκ, List.getElem?_set_self (lt_of_at h.aκ), h.ap, cm⟩
end
end CZ
end
section
set_option maxHeartbeats 4000000
namespace CAl
open PySem PySem.Spec PyProof.Rows L2 TL
open CG (m_deeds_at m_place_of m_played m_first Gm wonD)
open CE (asg_step)
open CZ (m_row_to)
noncomputable section
def b_over_of : MS := (sRet (eTup (aCons (eBin mIsNot (eBin mIdx (eBin mIdx (eVar 0) (eC (.int 0))) (eC (.int 1))) (eC .non)) (aCons (eBin mIsNot (eBin mIdx (eBin mIdx (eVar 0) (eC (.int 1))) (eC (.int 1))) (eC .non)) aNil))))
def m_over_of : Fn := fnD 1 1 b_over_of
def b_pair_behind : MS := (sSeq (sAsg (gOne 3) (eCall m_place_of (aCons (eBin mIdx (eVar 0) (eC (.int 0))) (aCons (eCall m_played (aCons (eBin mIdx (eVar 0) (eC (.int 0))) (aCons (eBin mIdx (eVar 1) (eC (.int 0))) (aCons (eVar 2) aNil)))) aNil))))
    (sRet (eTup (aCons (eVar 3) (aCons (eCall m_place_of (aCons (eBin mIdx (eVar 0) (eC (.int 1))) (aCons (eCall m_played (aCons (eBin mIdx (eVar 0) (eC (.int 1))) (aCons (eBin mIdx (eVar 1) (eC (.int 1))) (aCons (eVar 2) aNil)))) aNil))) aNil)))))
def m_pair_behind : Fn := fnD 3 4 b_pair_behind
def lp_alike_0 : MS := (sSeq (sAsg (gOne 10) (eCall m_pair_behind (aCons (eVar 3) (aCons (eVar 8) (aCons (eVar 9) aNil)))))
    (sIf (tB (eBin mNotInD (eVar 10) (eVar 6))) (sSeq (sIf (tB (eBin mEq (eCallO nLen (aCons (eVar 5) aNil)) (eVar 2))) (sRaise "TooMany") sNil)
    (sSeq (sPutD (eVar 6) (eVar 10) (eTup (aCons (eVar 8) (aCons (eVar 9) aNil))))
    (sExpr (eMeth "list" mAppend (eVar 5) (aCons (eVar 10) aNil))))) sNil))
def lp_alike_1 : MS := (sSeq (sAsg (gOne 8) (eBin mIdx (eVar 5) (eVar 7)))
    (sSeq (sIf (tB (eBin mEq (eCall m_over_of (aCons (eVar 8) aNil)) (eTup (aCons (eC (.bl false)) (aCons (eC (.bl false)) aNil))))) (sFor (iAny (eTup (aCons (eC (.int 0)) (aCons (eC (.int 1)) aNil)))) (gOne 9) lp_alike_0) sNil)
    (sAsg (gOne 7) (eBin mAdd (eVar 7) (eC (.int 1))))))
def lp_alike_2 : MS := (sIf (tB (eBin mInT (eCall m_over_of (aCons (eVar 8) aNil)) (eTup (aCons (eTup (aCons (eC (.bl true)) (aCons (eC (.bl false)) aNil))) (aCons (eTup (aCons (eC (.bl false)) (aCons (eC (.bl true)) aNil))) aNil))))) (sRet (eTup (aCons (eC (.str "unlike")) (aCons (eCall m_row_to (aCons (eVar 6) (aCons (eVar 8) aNil))) aNil)))) sNil)
def b_alike : MS := (sSeq (sAsg (gOne 3) (eTup (aCons (eTup (aCons (eC (.str "rally")) (aCons (eVar 0) aNil))) (aCons (eTup (aCons (eC (.str "rally")) (aCons (eVar 1) aNil))) aNil))))
    (sSeq (sAsg (gOne 4) (eTup (aCons (eCall m_place_of (aCons (eBin mIdx (eVar 3) (eC (.int 0))) (aCons (eCall m_first (aCons (eBin mIdx (eVar 3) (eC (.int 0))) aNil)) aNil))) (aCons (eCall m_place_of (aCons (eBin mIdx (eVar 3) (eC (.int 1))) (aCons (eCall m_first (aCons (eBin mIdx (eVar 3) (eC (.int 1))) aNil)) aNil))) aNil))))
    (sSeq (sAsg (gOne 5) (eLst (aCons (eVar 4) aNil)))
    (sSeq (sAsg (gOne 6) (eDOne (eVar 4) (eC .non)))
    (sSeq (sAsg (gOne 7) (eC (.int 0)))
    (sSeq (sWhile 100000 (tB (eBin mLt (eVar 7) (eCallO nLen (aCons (eVar 5) aNil)))) lp_alike_1)
    (sSeq (sFor (iAny (eVar 5)) (gOne 8) lp_alike_2)
    (sRet (eTup (aCons (eC (.str "alike")) (aCons (eVar 5) aNil)))))))))))
def m_alike : Fn := fnD 3 11 b_alike
end
open CM (sideD)
open CZ hiding m_row_to
open RL RB TLQ RD CP
def InvR (P : D → List D → Prop) (M0 : Mem) (κ r : Nat) (C : List D) : Nat → TL.Env → Mem → Prop := fun m env M => ∃ (j : Nat) (v : D) (rs : List D) (e3 : Option D), env = [some (.ref κ), some v, some (.ref r), e3] ∧ m = j + 1 ∧ C[j]? = some v ∧ P v rs.reverse ∧ Keep M0 M ∧ M[r]? = some (.lst rs) ∧ rs.length + j ≤ C.length
theorem row_by {C : List D} {f : D → D} {b : D} {κ : Nat} {M0 : Mem} (nd : C.Nodup) (hk : ∀ p ∈ C, ∃ k, TL.keyOf p = some k) (hd : C[0]? = some b) (fb : f b = .non)
    (bk : ∀ (j : Nat) (v : D), 0 < j → C[j]? = some v → ∃ (a : Nat) (p d : D), a < j ∧ C[a]? = some p ∧ f v = .tup [p, d]) (hl : C.length ≤ 30000) (aκ : M0[κ]? = some (.dct (valD C f)))
    (P : D → List D → Prop) {t : D} (ht : t ∈ C) (p0 : P t []) (ps : ∀ v p d ds, v ∈ C → f v = .tup [p, d] → P v ds → P p (d :: ds)) :
    Ret (m_row_to [.ref κ, t] M0) (fun d M => ∃ (r : Nat) (ds : List D), d = .ref r ∧ Keep M0 M ∧ M0.length ≤ r ∧ M[r]? = some (.lst ds) ∧ P b ds ∧ ds.length ≤ C.length) := by
  show Ret (endS (CZ.b_row_to [some (.ref κ), some t, none, none] M0)) _
  unfold CZ.b_row_to
  rw [asg_step (v := .ref M0.length) (M' := M0 ++ [MO.lst []]) (by simp)]
  simp only [List.set]
  have k1 := Keep.more M0 [MO.lst []]
  have a1 := at_len M0 (MO.lst [])
  obtain ⟨r, hr⟩ : ∃ r, r = M0.length := ⟨_, rfl⟩
  rw [← hr] at a1 ⊢
  have lκ := lt_of_at aκ
  generalize M0 ++ [MO.lst []] = M1 at *
  refine Ret.endS ?_
  obtain ⟨j0, hj0⟩ := List.mem_iff_getElem?.mp ht
  have lj0 := (List.getElem?_eq_some_iff.mp hj0).1
  refine SRet.nextS (SRet.imp (N := fun env M => ∃ (rs : List D) (e3 : Option D), env = [some (.ref κ), some b, some (.ref r), e3] ∧ P b rs.reverse ∧ Keep M0 M ∧ M[r]? = some (.lst rs) ∧ rs.length ≤ C.length) (R := fun _ _ => False)
    (SRet.while_ (InvR P M0 κ r C) (m := j0 + 1) ⟨j0, t, [], none, rfl, rfl, hj0, p0, k1, a1, by simp; omega⟩ (by omega) fun m env M hi => ?_) ?_ (fun _ _ h => h.elim))
  · obtain ⟨j, v, rs, e3, rfl, rfl, hj, pp, k, ar, hn⟩ := hi
    have vC := List.mem_of_getElem? hj
    obtain ⟨kv, hkv⟩ := hk v vC
    have g1 := get_val (k.at aκ) hkv nd vC
    by_cases c : j = 0
    · subst c
      rw [hd] at hj
      cases hj
      rw [fb] at g1
      have et : tB (eBin mIsNot (eBin mGet (eVar 0) (eVar 1)) (eC .non)) [some (.ref κ), some b, some (.ref r), e3] M = .ok false M := by simp [g1]
      rw [et]
      refine .ok ?_
      rw [if_neg Bool.false_ne_true]
      exact ⟨rs, e3, rfl, pp, k, ar, by omega⟩
    · obtain ⟨a, p, d, la, h2, h5⟩ := bk j v (by omega) hj
      have g2 := g1
      rw [h5] at g1
      have et : tB (eBin mIsNot (eBin mGet (eVar 0) (eVar 1)) (eC .non)) [some (.ref κ), some v, some (.ref r), e3] M = .ok true M := by simp [g1]
      rw [et]
      refine .ok ?_
      rw [if_pos rfl]
      unfold CZ.lp_row_to_0
      have ap := mAppend_ok (y := d) ar (by omega)
      have sr := seqAt_lst ar
      rw [asgG_step (v := .tup [p, d]) (M' := M) (env' := [some (.ref κ), some p, some (.ref r), some d]) (by simp [g1]) rfl]
      have kk := k.setNew (n := r) (o := .lst (rs ++ [d])) (by omega)
      have ar' : (M.set r (.lst (rs ++ [d])))[r]? = some (.lst (rs ++ [d])) := List.getElem?_set_self (lt_of_at ar)
      generalize M.set r (.lst (rs ++ [d])) = M2 at *
      simp [sr, ap]
      refine SRet.next (N := fun e M => ∃ m', m' < j + 1 ∧ InvR P M0 κ r C m' e M) ?_
      refine ⟨a + 1, by omega, a, p, rs ++ [d], _, rfl, rfl, h2, ?_, kk, ar', by simp; omega⟩
      rw [List.reverse_append]
      exact ps v p d _ vC h5 pp
  · rintro env M ⟨rs, e3, rfl, pp, k, ar, hn⟩
    have rv : mReverse (.ref r) [] M = some (.non, M.set r (.lst rs.reverse)) := by simp only [mReverse, ar]
    have sr := seqAt_lst ar
    have kk := k.setNew (n := r) (o := .lst rs.reverse) (by omega)
    have ar' : (M.set r (.lst rs.reverse))[r]? = some (.lst rs.reverse) := List.getElem?_set_self (lt_of_at ar)
    rw [expr_step (d := .non) (M' := M.set r (.lst rs.reverse)) (by simp [sr, rv])]
    generalize M.set r (.lst rs.reverse) = M2 at *
    simp
    exact SRet.ret ⟨r, rfl, kk, by omega, _, ar', pp, by simpa using hn⟩
def isOpen : D → Bool
  | .tup [_, .non] => true
  | _ => false
def toPD (t : D × D) : D := .tup [t.1, t.2]
theorem toPD_inj {t u : D × D} (h : toPD t = toPD u) : t = u := by
  obtain ⟨a, b⟩ := t
  obtain ⟨c, d⟩ := u
  simp only [toPD, D.tup.injEq, List.cons.injEq, and_true] at h
  exact Prod.ext h.1 h.2
def both (t : D × D) : Bool := isOpen t.1 && isOpen t.2
section
variable {r1 r2 : Rule} (G : Gr (.rally r1)) (H : Gr (.rally r2))
theorem ds_open {r : Rule} {G : Gr (.rally r)} {p : D} (hp : G.P p) : (isOpen p = true ∧ G.ds p = [.int 0, .int 1]) ∨ (isOpen p = false ∧ G.ds p = []) := by
  obtain ⟨x, won, rfl, hw⟩ := G.form hp
  cases won with
  | none => exact .inl ⟨rfl, one_list (f := fun M => m_deeds_at [(Gm.rally r).toD, .tup [x, wonD none]] M) (G.run hp) deeds_open⟩
  | some bs => exact .inr ⟨rfl, one_list (f := fun M => m_deeds_at [(Gm.rally r).toD, .tup [x, wonD (some bs)]] M) (G.run hp) (fun M => deeds_over M)⟩
theorem side_in {r : Rule} {G : Gr (.rally r)} {p : D} (hp : G.P p) (h : isOpen p = true) (x : Bool) : sideD x ∈ G.ds p := by
  rcases ds_open hp with ⟨_, e⟩ | ⟨e, _⟩
  · rw [e]; cases x <;> simp [sideD]
  · rw [h] at e; cases e
def nx2 (t : D × D) (x : Bool) : D × D := (G.nx t.1 (sideD x), H.nx t.2 (sideD x))
def In2 (t : D × D) : Prop := G.P t.1 ∧ H.P t.2
variable {G H}
theorem In2.next {t : D × D} (h : In2 G H t) (ho : both t = true) (x : Bool) : In2 G H (nx2 G H t x) := by
  obtain ⟨o1, o2⟩ := Bool.and_eq_true_iff.mp ho
  exact ⟨G.next h.1 (side_in h.1 o1 x), H.next h.2 (side_in h.2 o2 x)⟩
/-- keys of pairs -/
def Key2 (G : Gr (.rally r1)) (H : Gr (.rally r2)) : Prop := ∀ t, In2 G H t → ∃ k, TL.keyOf (toPD t) = some k
structure Gw (G : Gr (.rally r1)) (H : Gr (.rally r2)) (b : D × D) (L : List (D × D)) : Prop where
  nd : L.Nodup
  pl : ∀ t ∈ L, In2 G H t
  hd : L[0]? = some b
  bk : ∀ c, 0 < c → c < L.length → ∃ a t x, a < c ∧ L[a]? = some t ∧ both t = true ∧ L[c]? = some (nx2 G H t x)
structure Wh (G : Gr (.rally r1)) (H : Gr (.rally r2)) (b : D × D) (L : List (D × D)) : Prop extends Gw G H b L where
  cl : ∀ t ∈ L, both t = true → ∀ x, nx2 G H t x ∈ L
theorem Gw.one {b : D × D} (hb : In2 G H b) : Gw G H b [b] := ⟨by simp, fun p hp => by cases List.mem_singleton.mp hp; exact hb, rfl, fun c h0 h1 => by simp at h1; omega⟩
theorem Gw.more {b : D × D} {L : List (D × D)} (h : Gw G H b L) {a : Nat} {t : D × D} {x : Bool} (ha : L[a]? = some t) (ho : both t = true) (hq : nx2 G H t x ∉ L) : Gw G H b (L ++ [nx2 G H t x]) := by
  have al := (List.getElem?_eq_some_iff.mp ha).1
  have hp := h.pl t (List.mem_of_getElem? ha)
  refine ⟨?_, fun q hq => ?_, ?_, fun c h0 h1 => ?_⟩
  · rw [List.nodup_append]
    exact ⟨h.nd, by simp, fun x hx y hy e => by
      cases List.mem_singleton.mp hy
      exact hq (e ▸ hx)⟩
  · rcases List.mem_append.mp hq with hq | hq
    · exact h.pl q hq
    · cases List.mem_singleton.mp hq
      exact hp.next ho x
  · rw [List.getElem?_append_left (by omega)]; exact h.hd
  · simp only [List.length_append, List.length_cons, List.length_nil] at h1
    by_cases q : c < L.length
    · obtain ⟨a', p', d', e1, e2, e3, e4⟩ := h.bk c h0 q
      exact ⟨a', p', d', e1, by rw [List.getElem?_append_left (by omega)]; exact e2, e3, by rw [List.getElem?_append_left q]; exact e4⟩
    · have e : c = L.length := by omega
      subst e
      exact ⟨a, t, x, al, by rw [List.getElem?_append_left al]; exact ha, ho, by simp⟩
/-- what all pairs met are like -/
theorem Gw.all {b : D × D} {L : List (D × D)} (h : Gw G H b L) (R : D × D → Prop) (h0 : R b) (hs : ∀ t x, In2 G H t → R t → both t = true → R (nx2 G H t x)) : ∀ t ∈ L, R t := by
  have go : ∀ (n c : Nat) (t : D × D), c < n → L[c]? = some t → R t := by
    intro n
    induction n with
    | zero => intro c p hc; omega
    | succ n ih =>
      intro c p hc hp
      by_cases c0 : c = 0
      · subst c0
        rw [h.hd] at hp
        cases hp
        exact h0
      · obtain ⟨a, q, d, e1, e2, e3, e4⟩ := h.bk c (by omega) (List.getElem?_eq_some_iff.mp hp).1
        rw [hp] at e4
        cases e4
        exact hs q d (h.pl q (List.mem_of_getElem? e2)) (ih a q (by omega) e2) e3
  intro p hp
  obtain ⟨c, hc⟩ := List.mem_iff_getElem?.mp hp
  exact go (c + 1) c p (by omega) hc
theorem Gw.sub {b : D × D} {L L' : List (D × D)} (h : Gw G H b L) (w : Wh G H b L') : ∀ p ∈ L, p ∈ L' := h.all (· ∈ L') (List.mem_of_getElem? w.hd) fun t x _ ht ho => w.cl t ht ho x
/-- rallies from pair to pair -/
def Pth2 (G : Gr (.rally r1)) (H : Gr (.rally r2)) : D × D → List D → D × D → Prop
  | t, [], u => t = u
  | t, d :: ds, u => both t = true ∧ ∃ x, d = sideD x ∧ Pth2 G H (nx2 G H t x) ds u
def gmsD (r1 r2 : Rule) : D := .tup [(Gm.rally r1).toD, (Gm.rally r2).toD]
theorem over_ok (t : D × D) (h : In2 G H t) (M : Mem) : m_over_of [toPD t] M = .ok (.tup [.bl (!isOpen t.1), .bl (!isOpen t.2)]) M := by
  obtain ⟨p, q⟩ := t
  obtain ⟨x, w1, e1, _⟩ := G.form h.1
  obtain ⟨y, w2, e2, _⟩ := H.form h.2
  simp only at e1 e2
  subst e1 e2
  show endS (b_over_of [some (toPD (.tup [x, wonD w1], .tup [y, wonD w2]))] M) = _
  unfold b_over_of toPD
  cases w1 <;> cases w2 <;> simp [wonD, isOpen]
theorem behind2_ok {t : D × D} (h : In2 G H t) (ho : both t = true) (x : Bool) (M : Mem) : Ret (m_pair_behind [gmsD r1 r2, toPD t, sideD x] M) (TL.Gives M (toPD (nx2 G H t x))) := by
  obtain ⟨o1, o2⟩ := Bool.and_eq_true_iff.mp ho
  show Ret (endS (b_pair_behind [some (gmsD r1 r2), some (toPD t), some (sideD x), none] M)) _
  unfold b_pair_behind
  obtain ⟨M1, e1, k1⟩ := gives_of (G.play h.1 (side_in h.1 o1 x) M)
  obtain ⟨M2, e2, k2⟩ := gives_of (G.place h.1 (side_in h.1 o1 x) M1)
  obtain ⟨M3, e3, k3⟩ := gives_of (H.play h.2 (side_in h.2 o2 x) M2)
  obtain ⟨M4, e4, k4⟩ := gives_of (H.place h.2 (side_in h.2 o2 x) M3)
  rw [asg_step (v := G.nx t.1 (sideD x)) (M' := M2) (by
    simp only [gmsD, toPD]
    generalize (Gm.rally r1).toD = g1 at *
    generalize (Gm.rally r2).toD = g2 at *
    generalize sideD x = sd at *
    simp [e1, e2])]
  simp only [List.set]
  refine Ret.eq (show _ = Out.ok (toPD (nx2 G H t x)) M4 from ?_) (.ok ⟨rfl, ((k1.trans k2).trans k3).trans k4⟩)
  simp only [gmsD, toPD, nx2]
  generalize (Gm.rally r1).toD = g1 at *
  generalize (Gm.rally r2).toD = g2 at *
  generalize sideD x = sd at *
  simp [e3, e4]
end
end CAl
end
section
set_option maxHeartbeats 4000000
namespace CAl
open PySem PySem.Spec PyProof.Rows L2 TL
open CG (m_deeds_at m_place_of m_played m_first Gm wonD)
open CE (asg_step)
open CM (sideD)
open CZ
open RL RB TLQ RD CP
variable {r1 r2 : Rule} {G : Gr (.rally r1)} {H : Gr (.rally r2)} {M0 M : Mem} {b : D × D} {l κ : Nat} {L : List (D × D)} {f : D → D}
/-- how pairs were come to -/
structure Bk (G : Gr (.rally r1)) (H : Gr (.rally r2)) (b : D × D) (L : List (D × D)) (f : D → D) : Prop where
  fb : f (toPD b) = .non
  bk : ∀ (j : Nat) (v : D × D), 0 < j → L[j]? = some v → ∃ (a : Nat) (t : D × D) (x : Bool), a < j ∧ L[a]? = some t ∧ both t = true ∧ nx2 G H t x = v ∧ f (toPD v) = .tup [toPD t, sideD x]
structure AS (G : Gr (.rally r1)) (H : Gr (.rally r2)) (M0 : Mem) (b : D × D) (l κ : Nat) (L : List (D × D)) (f : D → D) (M : Mem) : Prop where
  k : Keep M0 M
  nl : M0.length ≤ l
  nκ : M0.length ≤ κ
  al : M[l]? = some (.lst (L.map toPD))
  aκ : M[κ]? = some (.dct (valD (L.map toPD) f))
  gw : Gw G H b L
  bk : Bk G H b L f
theorem nd_map {L : List (D × D)} (h : L.Nodup) : (L.map toPD).Nodup := by
  induction L with
  | nil => exact List.nodup_nil
  | cons t L ih =>
    rw [List.nodup_cons] at h
    rw [List.map_cons, List.nodup_cons]
    refine ⟨fun hm => ?_, ih h.2⟩
    obtain ⟨u, hu, e⟩ := List.mem_map.mp hm
    exact h.1 (toPD_inj e ▸ hu)
theorem mem_map {L : List (D × D)} {t : D × D} : toPD t ∈ L.map toPD ↔ t ∈ L := by
  constructor
  · intro h
    obtain ⟨u, hu, e⟩ := List.mem_map.mp h
    exact toPD_inj e ▸ hu
  · exact fun h => List.mem_map.mpr ⟨t, h, rfl⟩
theorem AS.keep {M' : Mem} (h : AS G H M0 b l κ L f M) (k : Keep M M') : AS G H M0 b l κ L f M' := ⟨h.k.trans k, h.nl, h.nκ, k.at h.al, k.at h.aκ, h.gw, h.bk⟩
theorem AS.more (h : AS G H M0 b l κ L f M) {a : Nat} {t : D × D} {x : Bool} (ha : L[a]? = some t) (ho : both t = true) (hq : nx2 G H t x ∉ L) :
    AS G H M0 b l κ (L ++ [nx2 G H t x]) (updF f (toPD (nx2 G H t x)) (.tup [toPD t, sideD x])) ((M.set κ (.dct (valD ((L.map toPD) ++ [toPD (nx2 G H t x)]) (updF f (toPD (nx2 G H t x)) (.tup [toPD t, sideD x]))))).set l (.lst (L.map toPD ++ [toPD (nx2 G H t x)]))) := by
  have lk : κ ≠ l := ne_of_at h.aκ h.al (by simp)
  have ll := lt_of_at h.al
  have lκ := lt_of_at h.aκ
  have al := (List.getElem?_eq_some_iff.mp ha).1
  have ne : ∀ v ∈ L, toPD v ≠ toPD (nx2 G H t x) := fun v hv e => hq (toPD_inj e ▸ hv)
  refine ⟨(h.k.setNew h.nκ).setNew h.nl, h.nl, h.nκ, ?_, ?_, h.gw.more ha ho hq, ?_, fun j v h0 hv => ?_⟩
  · rw [List.getElem?_set_self (by rw [List.length_set]; exact ll)]; simp
  · rw [List.getElem?_set_ne (Ne.symm lk), List.getElem?_set_self lκ]; simp
  · rw [updF_ne (ne b (List.mem_of_getElem? h.gw.hd))]; exact h.bk.fb
  · by_cases c : j < L.length
    · rw [List.getElem?_append_left c] at hv
      obtain ⟨a', s, y, h1, h2, h3, h4, h5⟩ := h.bk.bk j v h0 hv
      exact ⟨a', s, y, h1, by rw [List.getElem?_append_left (by omega)]; exact h2, h3, h4, by rw [updF_ne (ne v (List.mem_of_getElem? hv))]; exact h5⟩
    · rw [List.getElem?_append_right (by omega)] at hv
      have c2 : j - L.length = 0 := by
        have := (List.getElem?_eq_some_iff.mp hv).1
        simp at this
        omega
      rw [c2] at hv
      cases hv
      exact ⟨a, t, x, by omega, by rw [List.getElem?_append_left al]; exact ha, ho, rfl, updF_same⟩
abbrev envA (r1 r2 : Rule) (lim : Int) (b : D × D) (l κ i : Nat) (e8 e9 e10 : Option D) : TL.Env := [some r1.toD, some r2.toD, some (.int lim), some (gmsD r1 r2), some (toPD b), some (.ref l), some (.ref κ), some (.int (i : Nat)), e8, e9, e10]
/-- the limit is passed -/
def XA (G : Gr (.rally r1)) (H : Gr (.rally r2)) (M0 : Mem) (b : D × D) (lim : Int) (x : Ex) (M : Mem) : Prop := x = tooMany ∧ Keep M0 M ∧ ∃ L, Gw G H b L ∧ lim < (L.length : Int)
def InvA (G : Gr (.rally r1)) (H : Gr (.rally r2)) (M0 : Mem) (b : D × D) (lim : Int) (l κ i : Nat) (t : D × D) : List D → TL.Env → Mem → Prop := fun rest env M => ∃ (e9 e10 : Option D) (L : List (D × D)) (f : D → D) (es : List Bool),
  env = envA r1 r2 lim b l κ i (some (toPD t)) e9 e10 ∧ AS G H M0 b l κ L f M ∧ L[i]? = some t ∧ rest = es.map sideD ∧ (∀ x : Bool, x ∈ es ∨ nx2 G H t x ∈ L) ∧ (∀ q ∈ L.take i, both q = true → ∀ x, nx2 G H q x ∈ L) ∧ (L.length : Int) ≤ lim
theorem stepA (hk : Key2 G H) {lim : Int} (hlim : lim ≤ 30000) {i : Nat} {t : D × D} (ho : both t = true) {d : D} {rest : List D} {env : TL.Env} (h : InvA G H M0 b lim l κ i t (d :: rest) env M) : ∃ env1, gOne 9 d env = some env1 ∧ XRet (lp_alike_0 env1 M) (InvA G H M0 b lim l κ i t rest) (fun _ _ => False) (XA G H M0 b lim) := by
  obtain ⟨e9, e10, L, f, es, rfl, R, hi, hr, h2, h3, hl⟩ := h
  cases es with
  | nil => cases hr
  | cons x es =>
    rw [List.map_cons] at hr
    cases hr
    refine ⟨_, rfl, ?_⟩
    unfold lp_alike_0
    have tP := R.gw.pl t (List.mem_of_getElem? hi)
    obtain ⟨M1, e1, k1⟩ := gives_of (behind2_ok tP ho x M)
    rw [asg_step (v := toPD (nx2 G H t x)) (M' := M1) (by simp [e1])]
    simp only [List.set]
    have R1 := R.keep k1
    obtain ⟨k, hkk⟩ := hk _ (tP.next ho x)
    obtain ⟨_, nkk, _⟩ := keyOf_some hkk
    have e2 := mNotInD_at R1.aκ hkk
    by_cases c : nx2 G H t x ∈ L
    · have f1 : (dctFind (valD (L.map toPD) f) k).isSome = true := by rw [val_find nkk (nd_map R.gw.nd) (mem_map.mpr c)]; rfl
      rw [f1] at e2
      simp [e2]
      refine XRet.next (N := InvA G H M0 b lim l κ i t _) ?_
      refine ⟨_, _, L, f, es, rfl, R1, hi, rfl, fun y => ?_, h3, hl⟩
      rcases h2 y with h | h
      · rcases List.mem_cons.mp h with rfl | h
        · exact .inr c
        · exact .inl h
      · exact .inr h
    · have f1 : (dctFind (valD (L.map toPD) f) k).isSome = false := by rw [val_none nkk (fun h => c (mem_map.mp h))]; rfl
      rw [f1] at e2
      have sL := seqAt_lst R1.al
      have gm := R.gw.more hi ho c
      have ll : (L.map toPD).length = L.length := List.length_map ..
      rw [TLP.ifT1 (M' := M1) (by simp [e2])]
      have lnl : nLen [.ref l] M1 = some (.int (L.length : Nat), M1) := by simp [sL, show L.length ≤ 16777216 by omega]
      by_cases cl : (L.length : Int) = lim
      · have hx : sRaise (Str.ofString "TooMany") (envA r1 r2 lim b l κ i (some (toPD t)) (some (sideD x)) (some (toPD (nx2 G H t x)))) M1 = .exc tooMany (envA r1 r2 lim b l κ i (some (toPD t)) (some (sideD x)) (some (toPD (nx2 G H t x)))) M1 := rfl
        rw [TLP.ifT (M' := M1) (by simp [-nLen_ref, lnl, cl])]
        refine cast (congrArg (fun o => XRet o _ _ _) (Eq.symm (TLP.anyX hx))) ?_
        exact XRet.exc ⟨rfl, R1.k, _, gm, by rw [List.length_append, List.length_cons, List.length_nil]; omega⟩
      · have ep := put_newV (v := .tup [toPD t, sideD x]) R1.aκ hkk (fun h => c (mem_map.mp h)) (by omega)
        have Rm := R1.more hi ho c
        have lk : κ ≠ l := ne_of_at R1.aκ R1.al (by simp)
        have al2 : (M1.set κ (.dct (valD (L.map toPD ++ [toPD (nx2 G H t x)]) (updF f (toPD (nx2 G H t x)) (.tup [toPD t, sideD x])))))[l]? = some (.lst (L.map toPD)) := by rw [List.getElem?_set_ne lk]; exact R1.al
        have ap := mAppend_ok (y := toPD (nx2 G H t x)) al2 (by omega)
        have sl2 := seqAt_lst al2
        have il := (List.getElem?_eq_some_iff.mp hi).1
        have fin : XRet (.next (envA r1 r2 lim b l κ i (some (toPD t)) (some (sideD x)) (some (toPD (nx2 G H t x)))) ((M1.set κ (.dct (valD ((L.map toPD) ++ [toPD (nx2 G H t x)]) (updF f (toPD (nx2 G H t x)) (.tup [toPD t, sideD x]))))).set l (.lst (L.map toPD ++ [toPD (nx2 G H t x)])))) (InvA G H M0 b lim l κ i t (es.map sideD)) (fun _ _ => False) (XA G H M0 b lim) := by
          refine XRet.next ?_
          refine ⟨_, _, L ++ [nx2 G H t x], _, es, rfl, Rm, by rw [List.getElem?_append_left il]; exact hi, rfl, fun y => ?_, fun q hq hb y => ?_, by rw [List.length_append, List.length_cons, List.length_nil]; omega⟩
          · rcases h2 y with h | h
            · rcases List.mem_cons.mp h with rfl | h
              · exact .inr (by simp)
              · exact .inl h
            · exact .inr (List.mem_append_left _ h)
          · rw [List.take_append_of_le_length (by omega)] at hq
            exact List.mem_append_left _ (h3 q hq hb y)
        refine cast (congrArg (fun o => XRet o _ _ _) (Eq.symm ?_)) fin
        rw [TLP.ifN (M' := M1) (by simp [-nLen_ref, lnl, cl])]
        clear fin Rm gm e1 e2
        generalize toPD (nx2 G H t x) = np at *
        generalize toPD t = tp at *
        generalize sideD x = sd at *
        simp [ep, ap, sl2]
def InvW (G : Gr (.rally r1)) (H : Gr (.rally r2)) (M0 : Mem) (b : D × D) (lim : Int) (l κ : Nat) : Nat → TL.Env → Mem → Prop := fun m env M => ∃ (e8 e9 e10 : Option D) (L : List (D × D)) (f : D → D) (i : Nat),
  env = envA r1 r2 lim b l κ i e8 e9 e10 ∧ AS G H M0 b l κ L f M ∧ i ≤ L.length ∧ (∀ q ∈ L.take i, both q = true → ∀ x, nx2 G H q x ∈ L) ∧ (L.length : Int) ≤ lim ∧ m + i = lim.toNat + 1
theorem eq_ff (a c : Bool) (M : Mem) : mEq (.tup [.bl (!a), .bl (!c)]) (.tup [.bl false, .bl false]) M = some (.bl (a && c), M) := by
  cases a <;> cases c <;> rfl
theorem in_odd (a c : Bool) (M : Mem) : mInT (.tup [.bl (!a), .bl (!c)]) (.tup [.tup [.bl true, .bl false], .tup [.bl false, .bl true]]) M = some (.bl (a != c), M) := by
  cases a <;> cases c <;> rfl
theorem stepW (hk : Key2 G H) {lim : Int} (hlim : lim ≤ 30000) {m : Nat} {env : TL.Env} (h : InvW G H M0 b lim l κ m env M) :
    Ret (TL.tB (eBin mLt (eVar 7) (eCallO nLen (aCons (eVar 5) aNil))) env M) (fun c M1 => if c = true then XRet (lp_alike_1 env M1) (fun e M => ∃ m', m' < m ∧ InvW G H M0 b lim l κ m' e M) (fun _ _ => False) (XA G H M0 b lim)
      else ∃ e8 e9 e10 L f i, env = envA r1 r2 lim b l κ i e8 e9 e10 ∧ AS G H M0 b l κ L f M1 ∧ Wh G H b L ∧ (L.length : Int) ≤ lim) := by
  obtain ⟨e8, e9, e10, L, f, i, rfl, R, hi, hc, hl, hm⟩ := h
  have sL := seqAt_lst R.al
  have ll : (L.map toPD).length = L.length := List.length_map ..
  have et : TL.tB (eBin mLt (eVar 7) (eCallO nLen (aCons (eVar 5) aNil))) (envA r1 r2 lim b l κ i e8 e9 e10) M = .ok (decide (i < L.length)) M := by simp [sL, show L.length ≤ 16777216 by omega]
  rw [et]
  refine .ok ?_
  by_cases c : i < L.length
  · rw [if_pos (by simpa using c)]
    obtain ⟨t, ht⟩ : ∃ t, L[i]? = some t := ⟨L[i], List.getElem?_eq_getElem c⟩
    have ht' : (L.map toPD)[i]? = some (toPD t) := by rw [List.getElem?_map, ht]; rfl
    have tP := R.gw.pl t (List.mem_of_getElem? ht)
    have ix : mIdx (.ref l) (.int (i : Nat)) M = some (toPD t, M) := CE.idx_of sL (atI_nat ht')
    have ov := over_ok t tP M
    have eq := eq_ff (isOpen t.1) (isOpen t.2) M
    unfold lp_alike_1
    rw [asg_step (v := toPD t) (M' := M) (by simp [-mIdx_ref, ix])]
    simp only [List.set]
    have tst : (TL.tB (eBin mEq (eCall m_over_of (aCons (eVar 8) aNil)) (eTup (aCons (eC (.bl false)) (aCons (eC (.bl false)) aNil))))) (envA r1 r2 lim b l κ i (some (toPD t)) e9 e10) M = .ok (both t) M := by
      generalize toPD t = tp at *
      simp [ov, eq]
      rfl
    have nxt : ∀ (M3 : Mem) (e9 e10 : Option D) (L' : List (D × D)) (f' : D → D), AS G H M0 b l κ L' f' M3 → L'[i]? = some t → (∀ q ∈ L'.take i, both q = true → ∀ x, nx2 G H q x ∈ L') → (both t = true → ∀ x, nx2 G H t x ∈ L') → (L'.length : Int) ≤ lim →
        XRet ((sAsg (gOne 7) (eBin mAdd (eVar 7) (eC (.int 1)))) (envA r1 r2 lim b l κ i (some (toPD t)) e9 e10) M3) (fun e M => ∃ m', m' < m ∧ InvW G H M0 b lim l κ m' e M) (fun _ _ => False) (XA G H M0 b lim) := by
      intro M3 e9 e10 L' f' R' h1 h2 h3 h4
      simp
      have il := (List.getElem?_eq_some_iff.mp h1).1
      refine XRet.next (N := fun e M => ∃ m', m' < m ∧ InvW G H M0 b lim l κ m' e M) ?_
      refine ⟨m - 1, by omega, _, _, _, L', f', i + 1, rfl, R', by omega, fun q hq hb x => ?_, h4, by omega⟩
      rw [List.take_succ, h1] at hq
      rcases List.mem_append.mp hq with hq | hq
      · exact h2 q hq hb x
      · cases (show q = t by simpa using hq)
        exact h3 hb x
    by_cases ho : both t = true
    · rw [ho] at tst
      rw [TLP.ifT tst]
      have z : XRet ((sFor (iAny (eTup (aCons (eC (.int 0)) (aCons (eC (.int 1)) aNil)))) (gOne 9) lp_alike_0) (envA r1 r2 lim b l κ i (some (toPD t)) e9 e10) M) (fun env M3 => InvA G H M0 b lim l κ i t [] env M3) (fun _ _ => False) (XA G H M0 b lim) := by
        have e : (sFor (iAny (eTup (aCons (eC (.int 0)) (aCons (eC (.int 1)) aNil)))) (gOne 9) lp_alike_0) (envA r1 r2 lim b l κ i (some (toPD t)) e9 e10) M = forL (fun _ => True) (gOne 9) lp_alike_0 [.int 0, .int 1] (envA r1 r2 lim b l κ i (some (toPD t)) e9 e10) M := by
          simp
        rw [e]
        exact XRet.for_ (InvA G H M0 b lim l κ i t) ⟨_, _, L, f, [false, true], rfl, R, ht, rfl, fun x => .inl (by cases x <;> simp), hc, hl⟩ (fun _ _ _ _ => trivial) (fun d rest env M h => stepA hk hlim ho h) fun _ _ h => h
      show XRet (nextS _ _) _ _ _
      refine XRet.nextS (z.imp ?_)
      rintro env M3 ⟨e9, e10, L', f', es, rfl, R', h1, h2, h3, h4, h5⟩
      cases es with
      | cons x es => cases h2
      | nil => exact nxt M3 e9 e10 L' f' R' h1 h4 (fun _ x => (h3 x).elim (fun h => nomatch h) id) h5
    · have hb : both t = false := by simpa using ho
      rw [hb] at tst
      rw [TLP.ifN tst]
      exact nxt M e9 e10 L f R ht hc (fun h => absurd h ho) hl
  · rw [if_neg (by simpa using c)]
    have e : i = L.length := by omega
    subst e
    rw [List.take_length] at hc
    exact ⟨_, _, _, L, f, _, rfl, R, ⟨R.gw, hc⟩, hl⟩
end CAl
end
section
set_option maxHeartbeats 4000000
namespace CAl
open PySem PySem.Spec PyProof.Rows L2 TL
open CG (m_deeds_at m_place_of m_played m_first Gm wonD)
open CE (asg_step)
open CM (sideD)
open CZ
open RL RB TLQ RD CP
variable {r1 r2 : Rule} {G : Gr (.rally r1)} {H : Gr (.rally r2)} {M0 M : Mem} {b : D × D}
theorem at_inj {α : Type} {L : List α} (nd : L.Nodup) {i j : Nat} {x : α} (h1 : L[i]? = some x) (h2 : L[j]? = some x) : i = j := by
  obtain ⟨a, h1⟩ := List.getElem?_eq_some_iff.mp h1
  obtain ⟨b, h2⟩ := List.getElem?_eq_some_iff.mp h2
  exact (List.getElem_inj nd).mp (h1.trans h2.symm)
def AlikeQ (G : Gr (.rally r1)) (H : Gr (.rally r2)) (M0 : Mem) (b : D × D) (lim : Int) (d : D) (M : Mem) : Prop := Keep M0 M ∧ ∃ L, Wh G H b L ∧ (L.length : Int) ≤ lim ∧
  ((∃ l, d = .tup [.str (Str.ofString "alike"), .ref l] ∧ M0.length ≤ l ∧ M[l]? = some (.lst (L.map toPD)) ∧ ∀ t ∈ L, isOpen t.1 = isOpen t.2) ∨
   (∃ r ds t, d = .tup [.str (Str.ofString "unlike"), .ref r] ∧ M0.length ≤ r ∧ M[r]? = some (.lst ds) ∧ Pth2 G H b ds t ∧ isOpen t.1 ≠ isOpen t.2 ∧ t ∈ L ∧ ds.length ≤ (L.filter both).length))
theorem XRet.both {o : SOut} {R : D → Mem → Prop} {X : Ex → Mem → Prop} (h : XRet o (fun _ _ => False) R X) : (∃ d M, endS o = .ok d M ∧ R d M) ∨ ∃ x M, endS o = .exc x M ∧ X x M := by
  cases o with
  | next e M => exact h.elim
  | ret d M => exact .inl ⟨d, M, rfl, h⟩
  | exc x e M => exact .inr ⟨x, M, rfl, h⟩
  | stuck => exact h.elim
theorem XRet.noR {o : SOut} {N : TL.Env → Mem → Prop} {R : D → Mem → Prop} {X : Ex → Mem → Prop} (h : XRet o N (fun _ _ => False) X) : XRet o N R X := by
  cases o with
  | next e M => exact h
  | ret d M => exact h.elim
  | exc x e M => exact h
  | stuck => exact h.elim
theorem SRet.toX {o : SOut} {N : TL.Env → Mem → Prop} {R : D → Mem → Prop} {X : Ex → Mem → Prop} (h : SRet o N R) : XRet o N R X := by
  cases o with
  | next e M => exact h
  | ret d M => exact h
  | exc x e M => exact h.elim
  | stuck => exact h.elim
/-- the firsts' places -/
structure First (G : Gr (.rally r1)) (p : D) : Prop where
  pl : G.P p
  f : ∀ M, Ret (m_first [(Gm.rally r1).toD] M) (fun s M' => Keep M M' ∧ ∀ M1, Ret (m_place_of [(Gm.rally r1).toD, s] M1) (TL.Gives M1 p))
def InvO (G : Gr (.rally r1)) (H : Gr (.rally r2)) (M0 : Mem) (b : D × D) (lim : Int) (l κ : Nat) (L : List (D × D)) (f : D → D) : List D → TL.Env → Mem → Prop := fun rest env M => ∃ (e8 e9 e10 : Option D) (i : Nat) (dn rs : List (D × D)), env = envA r1 r2 lim b l κ i e8 e9 e10 ∧ AS G H M0 b l κ L f M ∧ L = dn ++ rs ∧ rest = rs.map toPD ∧ ∀ t ∈ dn, isOpen t.1 = isOpen t.2
theorem alike_all (hk : Key2 G H) {lim : Int} (h1 : 1 ≤ lim) (hlim : lim ≤ 30000) (f1 : First G b.1) (f2 : First H b.2) (M0 : Mem) :
    (∃ d M, m_alike [r1.toD, r2.toD, .int lim] M0 = .ok d M ∧ AlikeQ G H M0 b lim d M) ∨ ∃ x M, m_alike [r1.toD, r2.toD, .int lim] M0 = .exc x M ∧ XA G H M0 b lim x M := by
  refine XRet.both (o := b_alike [some r1.toD, some r2.toD, some (.int lim), none, none, none, none, none, none, none, none] M0) ?_
  have bP : In2 G H b := ⟨f1.pl, f2.pl⟩
  unfold b_alike
  rw [asg_step (v := gmsD r1 r2) (M' := M0) (by simp [gmsD, Gm.toD])]
  simp only [List.set]
  obtain ⟨s1, M1, e1, k1, p1⟩ := f1.f M0
  obtain ⟨M2, e2, k2⟩ := gives_of (p1 M1)
  obtain ⟨s2, M3, e3, k3, p2⟩ := f2.f M2
  obtain ⟨M4, e4, k4⟩ := gives_of (p2 M3)
  rw [asg_step (v := toPD b) (M' := M4) (by
    simp only [gmsD, toPD]
    generalize (Gm.rally r1).toD = g1 at *
    generalize (Gm.rally r2).toD = g2 at *
    simp [e1, e2, e3, e4])]
  simp only [List.set]
  have k04 := ((k1.trans k2).trans k3).trans k4
  obtain ⟨kb, hkb⟩ := hk b bP
  rw [asg_step (v := .ref M4.length) (M' := M4 ++ [MO.lst [toPD b]]) (by simp)]
  simp only [List.set]
  have d1 : dctOne (M4 ++ [MO.lst [toPD b]] ++ [MO.dct []]) (M4.length + 1) (toPD b) .non = .ok (.ref (M4.length + 1)) ((M4 ++ [MO.lst [toPD b]] ++ [MO.dct []]).set (M4.length + 1) (.dct [(toPD b, .non)])) := dctOne_at (by
    have := at_len (M4 ++ [MO.lst [toPD b]]) (MO.dct [])
    rw [List.length_append] at this
    exact this) hkb
  have e5 : (M4 ++ [MO.lst [toPD b]] ++ [MO.dct []]).set (M4.length + 1) (.dct [(toPD b, .non)]) = M4 ++ [MO.lst [toPD b]] ++ [MO.dct (valD [toPD b] fun _ => .non)] := by simp [valD]
  rw [e5] at d1
  rw [asg_step (v := .ref (M4.length + 1)) (M' := M4 ++ [MO.lst [toPD b]] ++ [MO.dct (valD [toPD b] fun _ => .non)]) (by simpa using d1)]
  simp only [List.set]
  rw [asg_step (v := .int (0 : Nat)) (M' := M4 ++ [MO.lst [toPD b]] ++ [MO.dct (valD [toPD b] fun _ => .non)]) (by simp)]
  simp only [List.set]
  have R : AS G H M0 b M4.length (M4.length + 1) [b] (fun _ => .non) (M4 ++ [MO.lst [toPD b]] ++ [MO.dct (valD [toPD b] fun _ => .non)]) := by
    refine ⟨(k04.trans (Keep.more _ _)).trans (Keep.more _ _), k04.1, by have := k04.1; omega, by simp, ?_, Gw.one bP, rfl, fun j v h0 hv => ?_⟩
    · have := at_len (M4 ++ [MO.lst [toPD b]]) (MO.dct (valD [toPD b] fun _ => .non))
      rw [List.length_append] at this
      exact this
    · have := (List.getElem?_eq_some_iff.mp hv).1
      simp at this
      omega
  generalize M4 ++ [MO.lst [toPD b]] ++ [MO.dct (valD [toPD b] fun _ => .non)] = M5 at *
  generalize M4.length = l at *
  refine XRet.nextS (XRet.imp (N := fun e M => ∃ e8 e9 e10 L f i, e = envA r1 r2 lim b l (l + 1) i e8 e9 e10 ∧ AS G H M0 b l (l + 1) L f M ∧ Wh G H b L ∧ (L.length : Int) ≤ lim) (XRet.noR (XRet.while_ (InvW G H M0 b lim l (l + 1)) (m := lim.toNat + 1) ⟨_, _, _, [b], _, 0, rfl, R, by simp, by simp, by simpa using h1, by omega⟩ (by omega) fun m env M h => stepW hk hlim h)) ?_)
  rintro env M ⟨e8, e9, e10, L, f, i, rfl, R, w, hl⟩
  have so := srcOf_ref (seqAt_lst R.al)
  refine SRet.toX ?_
  simp [so]
  refine SRet.forQ (InvO G H M0 b lim l (l + 1) L f) ⟨_, _, _, i, [], L, rfl, R, rfl, rfl, fun t ht => (nomatch ht)⟩ (fun rest env M h => by
    obtain ⟨_, _, _, _, _, _, _, R, _⟩ := h
    exact seqAt_lst R.al) ?_ ?_
  · rintro d rest env M ⟨e8, e9, e10, i, dn, rs, rfl, R, hL, hr, hd⟩
    cases rs with
    | nil => cases hr
    | cons t rs =>
      cases hr
      refine ⟨_, rfl, ?_⟩
      change SRet (lp_alike_2 (envA r1 r2 lim b l (l + 1) i (some (toPD t)) e9 e10) M) _ _
      unfold lp_alike_2
      have tL : t ∈ L := by rw [hL]; simp
      have ov := over_ok t (R.gw.pl t tL) M
      have io := in_odd (isOpen t.1) (isOpen t.2) M
      have tst : (TL.tB (eBin mInT (eCall m_over_of (aCons (eVar 8) aNil)) (eTup (aCons (eTup (aCons (eC (.bl true)) (aCons (eC (.bl false)) aNil))) (aCons (eTup (aCons (eC (.bl false)) (aCons (eC (.bl true)) aNil))) aNil))))) (envA r1 r2 lim b l (l + 1) i (some (toPD t)) e9 e10) M = .ok (isOpen t.1 != isOpen t.2) M := by
        generalize toPD t = tp at *
        simp [ov, io]
      by_cases c : isOpen t.1 = isOpen t.2
      · have cb : (isOpen t.1 != isOpen t.2) = false := by simpa using c
        rw [cb] at tst
        rw [TLP.ifF1 tst]
        exact SRet.next (N := InvO G H M0 b lim l (l + 1) L f _) ⟨_, _, _, i, dn ++ [t], rs, rfl, R, by rw [hL]; simp, rfl, fun u hu => by
          rcases List.mem_append.mp hu with hu | hu
          · exact hd u hu
          · cases List.mem_singleton.mp hu; exact c⟩
      · have cb : (isOpen t.1 != isOpen t.2) = true := by simpa using c
        rw [cb] at tst
        have ll : (L.map toPD).length = L.length := List.length_map ..
        have rt := row_by (C := L.map toPD) (f := f) (b := toPD b) (κ := l + 1) (M0 := M) (nd_map R.gw.nd) (fun p hp => by
          obtain ⟨u, hu, rfl⟩ := List.mem_map.mp hp
          exact hk u (R.gw.pl u hu)) (by rw [List.getElem?_map, R.gw.hd]; rfl) R.bk.fb (fun j v h0 hv => by
          rw [List.getElem?_map] at hv
          obtain ⟨u, hu, rfl⟩ := Option.map_eq_some_iff.mp hv
          obtain ⟨a, s, x, q1, q2, _, _, q5⟩ := R.bk.bk j u h0 hu
          exact ⟨a, toPD s, sideD x, q1, by rw [List.getElem?_map, q2]; rfl, q5⟩) (by omega) R.aκ (fun p ds => ∃ (j : Nat) (u : D × D), L[j]? = some u ∧ p = toPD u ∧ Pth2 G H u ds t ∧ ∃ us : List (D × D), us.length = ds.length ∧ us.Nodup ∧ ∀ q ∈ us, ∃ i, j ≤ i ∧ L[i]? = some q ∧ both q = true) (t := toPD t) (mem_map.mpr tL) (by
          obtain ⟨j, hj⟩ := List.mem_iff_getElem?.mp tL
          exact ⟨j, t, hj, rfl, rfl, [], rfl, .nil, fun q hq => (nomatch hq)⟩) (fun v p d ds hv hf ⟨j, u, hj, hvu, pp, us, ul, un, ua⟩ => by
          subst hvu
          by_cases j0 : j = 0
          · subst j0
            rw [R.gw.hd] at hj
            cases hj
            rw [R.bk.fb] at hf
            cases hf
          · obtain ⟨a, s, x, q1, q2, q3, q4, q5⟩ := R.bk.bk j u (by omega) hj
            rw [q5] at hf
            cases hf
            refine ⟨a, s, q2, rfl, ⟨q3, x, rfl, by rw [q4]; exact pp⟩, s :: us, by simp [ul], List.nodup_cons.mpr ⟨fun hm => ?_, un⟩, fun q hq => ?_⟩
            · obtain ⟨i, i1, i2, _⟩ := ua s hm
              have := at_inj R.gw.nd q2 i2
              omega
            · rcases List.mem_cons.mp hq with rfl | hq
              · exact ⟨a, Nat.le_refl _, q2, q3⟩
              · obtain ⟨i, i1, i2, i3⟩ := ua q hq
                exact ⟨i, by omega, i2, i3⟩)
        obtain ⟨_, M6, e6, r, ds, rfl, k6, lr, ar, ⟨ju, u, hju, eu, pp, us, ul, un, ua⟩, dl⟩ := rt
        have ud : ds.length ≤ (L.filter both).length := by
          rw [← ul]
          exact sub_len un fun q hq => by
            obtain ⟨i, _, i2, i3⟩ := ua q hq
            exact List.mem_filter.mpr ⟨List.mem_of_getElem? i2, i3⟩
        cases toPD_inj eu
        rw [TLP.ifT1 tst, TLP.ret (v := .tup [.str (Str.ofString "unlike"), .ref r]) (M' := M6) (by
          generalize toPD t = tp at *
          simp [e6])]
        exact SRet.ret (R := AlikeQ G H M0 b lim) ⟨R.k.trans k6, L, w, hl, .inr ⟨r, ds, t, rfl, by have := R.k.1; omega, ar, pp, c, tL, ud⟩⟩
  · rintro env M ⟨e8, e9, e10, i, dn, rs, rfl, R, hL, hr, hd⟩
    cases rs with
    | cons t rs => cases hr
    | nil =>
      simp
      exact SRet.ret (R := AlikeQ G H M0 b lim) ⟨R.k, L, w, hl, .inl ⟨l, rfl, R.nl, R.al, fun t ht => hd t (by rw [hL, List.append_nil] at ht; exact ht)⟩⟩
end CAl
end
section
set_option maxHeartbeats 4000000
namespace CAl
open PySem PySem.Spec PyProof.Rows L2 TL
open CG (m_deeds_at m_place_of m_played m_first Gm wonD played_rally)
open CE (asg_step)
open CM (sideD cutR cut_step cut_cut open_cut begun_ok)
open CZ
open RL RB TLQ RD CP
/-- a rule whose places can be told -/
structure Sm (r : Rule) : Prop where
  num : numR r
  deep : r.depth ≤ 4
  many : (openL r).length + 2 * (finL r).length ≤ 30000
noncomputable def RG {r : Rule} (h : Sm r) : Gr (.rally r) := (rallyG h.num h.deep 30000 h.many (Nat.le_refl _)).gr
def opD (s : Stand) : D := .tup [s.toD, wonD none]
section
variable {r : Rule} (h : Sm r)
theorem open_P {s : Stand} (hs : s ∈ openL r) : (RG h).P (opD s) := show PRally r (opD s) from .inl ⟨s, hs, rfl⟩
theorem nx_open {s : Stand} (hs : s ∈ openL r) (x : Bool) : (RG h).nx (opD s) (sideD x) = .tup [(cutR r (ralliedR r s x).1).toD, wonD (rWon (ralliedR r s x) x)] := by
  obtain ⟨ho, hc⟩ := open_facts h.num hs
  have hp := open_P h hs
  have hm : sideD x ∈ (RG h).ds (opD s) := side_in hp rfl x
  have e1 := one_thing (f := fun M => m_played [(Gm.rally r).toD, opD s, sideD x] M) ((RG h).play hp hm) (fun M => played_rally (rally_run h.deep ho x M))
  have e2 := (RG h).place hp hm
  rw [e1] at e2
  obtain ⟨n1, n2⟩ := rally_step h.num h.deep ho (by rw [hc]; exact hs) x
  refine one_thing (f := fun M => m_place_of [(Gm.rally r).toD, .tup [(ralliedR r s x).1.toD, wonD (rWon (ralliedR r s x) x)]] M) e2 ?_
  cases hw : (ralliedR r s x).2 with
  | false =>
    obtain ⟨o1, o2⟩ := n1 hw
    exact place_rallyG h.deep (CM.Open.fits o1) (open_nilR o1)
  | true =>
    obtain ⟨o1, o2, o3⟩ := n2 hw
    exact place_rallyG h.deep o1 o2
theorem isOpen_nx (d : D) (p : Stand × Bool) (x : Bool) : isOpen (.tup [d, wonD (rWon p x)]) = !p.2 := by
  unfold rWon
  cases p.2 <;> rfl
/-- a stand that goes on, and what is cut of it -/
structure Lv (r : Rule) (s : Stand) : Prop where
  o : Open r s
  c : cutR r s ∈ openL r
theorem Lv.first {r : Rule} (h : Sm r) : Lv r (begunR r) := ⟨open_begun _ r (Nat.le_refl _), by obtain ⟨b1, b2⟩ := begun_open _ r (Nat.le_refl _) h.num; rw [b2]; exact b1⟩
theorem lv_nx {s : Stand} (l : Lv r s) (x : Bool) : (RG h).nx (opD (cutR r s)) (sideD x) = .tup [(cutR r (ralliedR r s x).1).toD, wonD (rWon (ralliedR r s x) x)] := by
  obtain ⟨c1, c2⟩ := cut_step (x := x) (num_good h.num) l.o (open_cut l.o) (cut_cut s r).symm
  rw [nx_open h l.c, ← c2]
  unfold rWon
  rw [c1]
theorem lv_next {r : Rule} (h : Sm r) {s : Stand} (l : Lv r s) {x : Bool} (hw : (ralliedR r s x).2 = false) : Lv r (ralliedR r s x).1 := by
  obtain ⟨c1, c2⟩ := cut_step (x := x) (num_good h.num) l.o (open_cut l.o) (cut_cut s r).symm
  refine ⟨open_rallied l.o hw, ?_⟩
  rw [c2]
  exact (open_next x h.num l.c).1 (by rw [← c1]; exact hw)
theorem lv_first : First (RG h) (opD (begunR r)) := by
  obtain ⟨b1, b2⟩ := begun_open _ r (Nat.le_refl _) h.num
  refine ⟨open_P h b1, fun M => ?_⟩
  have e := begun_ok 14 r M (by have := h.deep; omega) (by have := h.deep; omega)
  have e1 : m_first [(Gm.rally r).toD] M = .ok (opD (begunR r)) M := by
    show endS (CG.b_first [some (Gm.rally r).toD] M) = _
    unfold CG.b_first
    simp [Gm.toD, e, opD, wonD]
  rw [e1]
  exact .ok ⟨Keep.refl _, fun M1 => (RG h).pp (open_P h b1) M1⟩
end
/-- when a rule is won by a row -/
def ended (r : Rule) (s : Stand) (xs : List Bool) : Option Nat := if (feed r s xs).1.isSome = true then some (feed r s xs).2.2 else none
theorem ended_nil (r : Rule) (s : Stand) : ended r s [] = none := rfl
theorem ended_cons (r : Rule) (s : Stand) (x : Bool) (xs : List Bool) : ended r s (x :: xs) = if (ralliedR r s x).2 = true then some 1 else (ended r (ralliedR r s x).1 xs).map (· + 1) := by
  unfold ended
  conv => lhs; unfold feed
  cases hw : (ralliedR r s x).2 with
  | true => simp [hw]
  | false =>
    simp only [hw, Bool.false_eq_true, if_false]
    cases (feed r (ralliedR r s x).1 xs).1.isSome <;> simp
section
variable {r1 r2 : Rule} {h1 : Sm r1} {h2 : Sm r2} {b : D × D} {L : List (D × D)}
theorem both_op (s t : Stand) : both (opD s, opD t) = true := rfl
theorem nx2_lv {s1 s2 : Stand} (l1 : Lv r1 s1) (l2 : Lv r2 s2) (x : Bool) : nx2 (RG h1) (RG h2) (opD (cutR r1 s1), opD (cutR r2 s2)) x = (.tup [(cutR r1 (ralliedR r1 s1 x).1).toD, wonD (rWon (ralliedR r1 s1 x) x)], .tup [(cutR r2 (ralliedR r2 s2 x).1).toD, wonD (rWon (ralliedR r2 s2 x) x)]) := by
  unfold nx2
  rw [lv_nx h1 l1, lv_nx h2 l2]
theorem rWon_no {p : Stand × Bool} {x : Bool} (h : p.2 = false) : rWon p x = none := by unfold rWon; rw [h]; rfl
theorem alike_sound (w : Wh (RG h1) (RG h2) b L) (he : ∀ t ∈ L, isOpen t.1 = isOpen t.2) : ∀ (xs : List Bool) (s1 s2 : Stand), Lv r1 s1 → Lv r2 s2 → (opD (cutR r1 s1), opD (cutR r2 s2)) ∈ L → ended r1 s1 xs = ended r2 s2 xs
  | [], s1, s2, l1, l2, hm => rfl
  | x :: xs, s1, s2, l1, l2, hm => by
    have m := w.cl _ hm (both_op _ _) x
    have e := he _ m
    rw [nx2_lv l1 l2] at m e
    simp only at e
    rw [isOpen_nx, isOpen_nx] at e
    rw [ended_cons, ended_cons]
    cases h1' : (ralliedR r1 s1 x).2 with
    | true =>
      rw [h1'] at e
      have h2' : (ralliedR r2 s2 x).2 = true := by cases q : (ralliedR r2 s2 x).2 with | true => rfl | false => rw [q] at e; cases e
      rw [h2']
      rfl
    | false =>
      rw [h1'] at e
      have h2' : (ralliedR r2 s2 x).2 = false := by cases q : (ralliedR r2 s2 x).2 with | false => rfl | true => rw [q] at e; cases e
      rw [h2']
      rw [rWon_no h1', rWon_no h2'] at m
      simp only [Bool.false_eq_true, if_false]
      rw [alike_sound w he xs _ _ (lv_next h1 l1 h1') (lv_next h2 l2 h2') m]
theorem unlike_sound : ∀ (ds : List D) (s1 s2 : Stand) (u : D × D), Lv r1 s1 → Lv r2 s2 → Pth2 (RG h1) (RG h2) (opD (cutR r1 s1), opD (cutR r2 s2)) ds u → isOpen u.1 ≠ isOpen u.2 →
    ∃ xs : List Bool, ds = xs.map sideD ∧ ((ended r1 s1 xs = some xs.length ∧ ended r2 s2 xs = none) ∨ (ended r1 s1 xs = none ∧ ended r2 s2 xs = some xs.length))
  | [], s1, s2, u, l1, l2, hp, hu => by
    have : (opD (cutR r1 s1), opD (cutR r2 s2)) = u := hp
    subst this
    exact absurd rfl hu
  | d :: ds, s1, s2, u, l1, l2, ⟨_, x, hx, hp⟩, hu => by
    rw [nx2_lv l1 l2] at hp
    cases ds with
    | nil =>
      have : _ = u := hp
      subst this
      simp only at hu
      rw [isOpen_nx, isOpen_nx] at hu
      refine ⟨[x], by rw [hx]; rfl, ?_⟩
      rw [ended_cons, ended_cons, ended_nil, ended_nil]
      cases h1' : (ralliedR r1 s1 x).2 <;> cases h2' : (ralliedR r2 s2 x).2 <;> rw [h1', h2'] at hu
      · exact absurd rfl hu
      · exact .inr ⟨rfl, rfl⟩
      · exact .inl ⟨rfl, rfl⟩
      · exact absurd rfl hu
    | cons d2 ds =>
      obtain ⟨ho, _⟩ := id hp
      obtain ⟨o1, o2⟩ := Bool.and_eq_true_iff.mp ho
      rw [isOpen_nx] at o1 o2
      have h1' : (ralliedR r1 s1 x).2 = false := by simpa using o1
      have h2' : (ralliedR r2 s2 x).2 = false := by simpa using o2
      rw [rWon_no h1', rWon_no h2'] at hp
      obtain ⟨xs, e, h⟩ := unlike_sound (d2 :: ds) _ _ u (lv_next h1 l1 h1') (lv_next h2 l2 h2') hp hu
      refine ⟨x :: xs, by rw [hx, e]; rfl, ?_⟩
      rw [ended_cons, ended_cons, h1', h2']
      simp only [Bool.false_eq_true, if_false]
      rcases h with ⟨q1, q2⟩ | ⟨q1, q2⟩
      · exact .inl ⟨by rw [q1]; rfl, by rw [q2]; rfl⟩
      · exact .inr ⟨by rw [q1]; rfl, by rw [q2]; rfl⟩
theorem nk_place {r : Rule} {h : Sm r} {p : D} (hp : (RG h).P p) : ∃ k, nk p = some k ∧ k.depth ≤ 6 := by
  have hd := h.deep
  have pr : ∀ {x y : D} {k j : NestedKey}, nk x = some k → nk y = some j → k.depth ≤ 5 → j.depth ≤ 5 → ∃ k, nk (.tup [x, y]) = some k ∧ k.depth ≤ 6 := fun {x y k j} h1 h2 d1 d2 => by
    refine ⟨.tup [k, j], by simp [nk, nkL, h1, h2], ?_⟩
    simp [NestedKey.depth, NestedKey.depthAll]
    omega
  rcases (show PRally r p from hp) with ⟨s, hs, rfl⟩ | ⟨s, hs, hcc, b, rfl⟩
  · obtain ⟨k, k1, k2⟩ := nk_stand s
    have := open_depth (open_facts h.num hs).1
    exact pr k1 (show nk .non = some .none from rfl) (by omega) (by simp [NestedKey.depth])
  · obtain ⟨k, k1, k2⟩ := nk_stand s
    have := (fin_facts h.num hs).2.2
    exact pr k1 (show nk (wonD (sideW b)) = some (.tup [.num (if b then 1 else 0)]) from by simp [wonD, sideW, nk, nkL]) (by omega) (by simp [NestedKey.depth, NestedKey.depthAll])
theorem key2 : Key2 (RG h1) (RG h2) := fun t ht => by
  obtain ⟨k, k1, k2⟩ := nk_place ht.1
  obtain ⟨j, j1, j2⟩ := nk_place ht.2
  exact key_pair k1 j1 (by omega) (by omega)
/-- how many pairs there are: two and one more for each that goes on -/
theorem Gw.len {G : Gr (.rally r1)} {H : Gr (.rally r2)} (g : Gw G H b L) {N : List (D × D)} (hN : ∀ t ∈ L, both t = true → t ∈ N) : L.length ≤ 2 * N.length + 1 := by
  cases L with
  | nil => simp
  | cons t0 L =>
    have sub : ∀ u ∈ L, u ∈ N.flatMap fun t => [nx2 G H t false, nx2 G H t true] := fun u hu => by
      obtain ⟨c, hc⟩ := List.mem_iff_getElem?.mp hu
      have lc := (List.getElem?_eq_some_iff.mp hc).1
      obtain ⟨a, t, x, _, h2, h3, h4⟩ := g.bk (c + 1) (by omega) (by rw [List.length_cons]; omega)
      rw [List.getElem?_cons_succ, hc] at h4
      cases h4
      refine List.mem_flatMap.mpr ⟨t, hN t (List.mem_of_getElem? h2) h3, by cases x <;> simp⟩
    have := sub_len (List.nodup_cons.mp g.nd).2 sub
    have f := flat_len (f := fun t => [nx2 G H t false, nx2 G H t true]) (n := 2) (xs := N) fun _ _ => by simp
    rw [List.length_cons]
    omega
end
end CAl
end
section
set_option maxHeartbeats 4000000
namespace CZ
open PySem PySem.Spec PyProof.Rows L2 TL
open TN
abbrev AllKey (L : List D) : Prop := ∀ p ∈ L, ∃ k, keyOf p = some k
theorem keys_all : ∀ {L : List D}, AllKey L → ∃ ks, keysOf L = some ks ∧ ks.length = L.length ∧ (∀ k ∈ ks, ∃ p ∈ L, keyOf p = some k) ∧ (L.Nodup → ks.Nodup)
  | [], _ => ⟨[], rfl, rfl, fun k hk => (nomatch hk), fun _ => List.nodup_nil⟩
  | p :: L, h => by
    obtain ⟨k, hk⟩ := h p List.mem_cons_self
    obtain ⟨ks, e, l, m, nd⟩ := keys_all (L := L) fun q hq => h q (List.mem_cons_of_mem _ hq)
    refine ⟨k :: ks, by simp only [keysOf, hk, e], by simp [l], fun x hx => ?_, fun hn => ?_⟩
    · rcases List.mem_cons.mp hx with rfl | hx
      · exact ⟨p, List.mem_cons_self, hk⟩
      · obtain ⟨q, hq, e⟩ := m x hx
        exact ⟨q, List.mem_cons_of_mem _ hq, e⟩
    · obtain ⟨n1, n2⟩ := List.nodup_cons.mp hn
      refine List.nodup_cons.mpr ⟨fun hx => ?_, nd n2⟩
      obtain ⟨q, hq, e⟩ := m k hx
      have := nk_inj (keyOf_some e).2.1 (keyOf_some hk).2.1
      exact n1 (this ▸ hq)
theorem keyed_pure : ∀ {L : List D}, AllKey L → pureL L 8 = true
  | [], _ => by simp [pureL]
  | p :: L, h => by
    obtain ⟨k, hk⟩ := h p List.mem_cons_self
    obtain ⟨_, h1, h2⟩ := keyOf_some hk
    simp [pureL, pure_mono (nk_pure h1) h2, keyed_pure (L := L) fun q hq => h q (List.mem_cons_of_mem _ hq)]
theorem len_set {M : Mem} {n : Nat} {L : List D} (h : seqAt M n = some L) (hk : AllKey L) (nd : L.Nodup) (hl : L.length ≤ 1200) : mLenSetN (.ref n) M = some (.int (L.length : Nat), M) := by
  obtain ⟨ks, e, l, _, nk⟩ := keys_all hk
  exact mLenSetN_ok h e (by omega) (nk nd)
theorem not_out {M : Mem} {n : Nat} {L : List D} (h : seqAt M n = some L) (hk : AllKey L) {p : D} (hp : p ∈ L) : mNotInX p (.ref n) M = some (.bl false, M) := by
  obtain ⟨k, q⟩ := hk p hp
  obtain ⟨⟨xs, rfl⟩, h1, h2⟩ := keyOf_some q
  have pp := pure_mono (nk_pure h1) h2
  have pl := keyed_pure hk
  have e1 : toP 64 M (.ref n) = some (.list (pyL L)) := toP_mono (by decide) (toP_ref h pl)
  have e2 : toP 64 M (.tup xs) = some (pyD (.tup xs)) := toP_mono (by decide) (toP_pure (M := M) _ 8 pp)
  have i0 : inD M (.tup xs) (.ref n) = none := by
    show (match seqAt M n with | some ys => if flatD (.tup xs) = true ∧ ys.all flatD = true then some (inF (.tup xs) ys) else none | none => none) = none
    rw [h]
    simp [flatD]
  have mem : pyD (.tup xs) ∈ pyL L := by
    have go : ∀ {L : List D}, D.tup xs ∈ L → pyD (.tup xs) ∈ pyL L := fun {L} => by
      induction L with
      | nil => intro z; cases z
      | cons y L ih =>
        intro z
        rw [pyL]
        rcases List.mem_cons.mp z with rfl | z
        · exact List.mem_cons_self
        · exact List.mem_cons_of_mem _ (ih z)
    exact go hp
  have any : ((pyL L).any fun z => PyData.eqv z (pyD (.tup xs))) = true := List.any_eq_true.mpr ⟨_, mem, SeqAt.eqv_refl _ (lay_pure _ _ pp).1⟩
  unfold mNotInX inX
  rw [i0, e1, e2]
  simp only [shaped_pure pp (by decide), shaped_list pl (by decide), and_self, if_true, any, Option.map_some, Bool.not_true]
/-- a dict of these, all known -/
theorem pairs_all : ∀ {L : List D} {ks : List NestedKey}, keysOf L = some ks → pairsOf (L.map fun p => .tup [p, .bl true]) = some (setD L, ks)
  | [], ks, h => by simp only [keysOf, Option.some.injEq] at h; subst h; rfl
  | p :: L, ks, h => by
    unfold keysOf at h
    split at h
    · rename_i k ks' e1 e2
      cases h
      have ih := pairs_all e2
      show pairsOf (.tup [p, .bl true] :: L.map fun p => .tup [p, .bl true]) = _
      simp only [TN.pairsOf, e1, ih]
      rfl
    · cases h
theorem dict_of {M : Mem} {n : Nat} {L : List D} (h : seqAt M n = some (L.map fun p => .tup [p, .bl true])) (hk : AllKey L) (nd : L.Nodup) (hl : L.length ≤ 1200) : nDictOf [.ref n] M = some (.ref M.length, M ++ [.dct (setD L)]) := by
  obtain ⟨ks, e, l, _, nk⟩ := keys_all hk
  exact nDictOf_ok h (pairs_all e) (by omega) (nk nd)
theorem known_in {M : Mem} {n : Nat} {L : List D} (h : M[n]? = some (.dct (setD L))) (nd : L.Nodup) {p : D} (hk : ∃ k, keyOf p = some k) (hp : p ∈ L) : mNotInD p (.ref n) M = some (.bl false, M) := by
  obtain ⟨k, q⟩ := hk
  rw [mNotInD_at h q]
  have := (setD_in (keyOf_some q).2.1 nd).mpr hp
  rw [this]
  rfl
end CZ
end
section
set_option maxHeartbeats 4000000
namespace CKA
open PySem PySem.Spec PyProof.Rows L2 TL
open CG (m_deeds_at m_place_of m_played m_first Gm wonD)
open CE (asg_step)
open TN (eLenSetN nDictOf)
noncomputable section
def b_l_turned (r_l_turned : Fn) : MS := (sSeq (sIf (tB (eBin mEq (eVar 0) (eTup (aCons (eC (.str "point")) aNil)))) (sRet (eBin mIdx (eLst (aCons (eVar 0) (aCons (eTup (aCons (eC (.str "unit")) (aCons (eC (.int 1)) (aCons (eC (.int 1)) (aCons (eC .non) (aCons (eVar 0) (aCons (eC .non) aNil))))))) aNil))) (eBin mMod (eBin mIdx (eVar 1) (eC (.int 0))) (eC (.int 2))))) sNil)
    (sSeq (sAsg (gTupD [3, 4, 5, 6, 7]) (eSl (eVar 0) (oSome (eC (.int 1))) oNone))
    (sSeq (sAsg (gOne 2) (eBin mMod (eBin mIdx (eVar 1) (eC (.int 0))) (eC (.int 7))))
    (sSeq (sIf (tB (eBin mEq (eVar 2) (eC (.int 0)))) (sAsg (gOne 3) (eBin mAdd (eC (.int 1)) (eBin mMod (eBin mAdd (eVar 3) (eBin mIdx (eVar 1) (eC (.int 1)))) (eC (.int 4))))) sNil)
    (sSeq (sIf (tB (eBin mEq (eVar 2) (eC (.int 1)))) (sAsg (gOne 4) (eBin mAdd (eC (.int 1)) (eBin mMod (eBin mAdd (eVar 4) (eBin mIdx (eVar 1) (eC (.int 1)))) (eC (.int 3))))) sNil)
    (sSeq (sIf (tB (eBin mEq (eVar 2) (eC (.int 2)))) (sSeq (sAsg (gOne 5) (eC .non))
    (sAsg (gOne 7) (eC .non))) sNil)
    (sSeq (sIf (tB (eBin mEq (eVar 2) (eC (.int 3)))) (sAsg (gOne 5) (eBin mAdd (eVar 3) (eBin mMod (eBin mIdx (eVar 1) (eC (.int 1))) (eC (.int 3))))) sNil)
    (sSeq (sIf (tB (eBin mEq (eVar 2) (eC (.int 4)))) (sRet (eTup (aCons (eC (.str "unit")) (aCons (eVar 3) (aCons (eVar 4) (aCons (eVar 5) (aCons (eCall r_l_turned (aCons (eVar 6) (aCons (eSl (eVar 1) (oSome (eC (.int 2))) oNone) aNil))) (aCons (eVar 7) aNil)))))))) sNil)
    (sSeq (sIf (tAnd (tB (eBin mEq (eVar 2) (eC (.int 5)))) (tB (eBin mIsNot (eVar 7) (eC .non)))) (sRet (eTup (aCons (eC (.str "unit")) (aCons (eVar 3) (aCons (eVar 4) (aCons (eVar 5) (aCons (eVar 6) (aCons (eCall r_l_turned (aCons (eVar 7) (aCons (eSl (eVar 1) (oSome (eC (.int 2))) oNone) aNil))) aNil)))))))) sNil)
    (sSeq (sIf (tAnd (tB (eBin mEq (eVar 2) (eC (.int 6)))) (tB (eBin mIsNot (eVar 5) (eC .non)))) (sAsg (gOne 7) (eVar 6)) sNil)
    (sSeq (sIf (tB (eBin mIsNot (eVar 5) (eC .non))) (sAsg (gOne 5) (eCallO nMax2 (aCons (eVar 5) (aCons (eVar 3) aNil)))) sNil)
    (sRet (eTup (aCons (eC (.str "unit")) (aCons (eVar 3) (aCons (eVar 4) (aCons (eVar 5) (aCons (eVar 6) (aCons (eVar 7) aNil)))))))))))))))))))
def m_l_turned : Nat → Fn
  | 0 => noFn
  | n + 1 => fnD 2 8 (b_l_turned (m_l_turned n))
def lp_l_pairs_0 : MS := (sSeq (sAsg (gOne 8) (eCall m_place_of (aCons (eBin mIdx (eVar 0) (eC (.int 0))) (aCons (eCall m_played (aCons (eBin mIdx (eVar 0) (eC (.int 0))) (aCons (eVar 5) (aCons (eVar 7) aNil)))) aNil))))
    (sSeq (sAsg (gOne 9) (eTup (aCons (eVar 8) (aCons (eCall m_place_of (aCons (eBin mIdx (eVar 0) (eC (.int 1))) (aCons (eCall m_played (aCons (eBin mIdx (eVar 0) (eC (.int 1))) (aCons (eVar 6) (aCons (eVar 7) aNil)))) aNil))) aNil))))
    (sIf (tB (eBin mNotInD (eVar 9) (eVar 3))) (sSeq (sPutD (eVar 3) (eVar 9) (eC (.bl true)))
    (sExpr (eMeth "list" mAppend (eVar 2) (aCons (eVar 9) aNil)))) sNil)))
def lp_l_pairs_1 : MS := (sSeq (sAsg (gTupD [5, 6]) (eBin mIdx (eVar 2) (eVar 4)))
    (sSeq (sIf (tAnd (tB (eBin mIs (eBin mIdx (eVar 5) (eC (.int 1))) (eC .non))) (tB (eBin mIs (eBin mIdx (eVar 6) (eC (.int 1))) (eC .non)))) (sFor (iRange1 (eC (.int 2))) (gOne 7) lp_l_pairs_0) sNil)
    (sAsg (gOne 4) (eBin mAdd (eVar 4) (eC (.int 1))))))
def b_l_pairs : MS := (sSeq (sAsg (gOne 2) (eLst (aCons (eTup (aCons (eCall m_place_of (aCons (eBin mIdx (eVar 0) (eC (.int 0))) (aCons (eCall m_first (aCons (eBin mIdx (eVar 0) (eC (.int 0))) aNil)) aNil))) (aCons (eCall m_place_of (aCons (eBin mIdx (eVar 0) (eC (.int 1))) (aCons (eCall m_first (aCons (eBin mIdx (eVar 0) (eC (.int 1))) aNil)) aNil))) aNil))) aNil)))
    (sSeq (sAsg (gOne 3) (eDOne (eBin mIdx (eVar 2) (eC (.int 0))) (eC (.bl true))))
    (sSeq (sAsg (gOne 4) (eC (.int 0)))
    (sSeq (sWhile 100000 (tAnd (tB (eBin mLt (eVar 4) (eCallO nLen (aCons (eVar 2) aNil)))) (tB (eBin mLe (eCallO nLen (aCons (eVar 2) aNil)) (eVar 1)))) lp_l_pairs_1)
    (sRet (eVar 2))))))
def m_l_pairs : Fn := fnD 2 10 b_l_pairs
def lp_l_row_right_0 : MS := (sSeq (sIf (tOr (tB (eBin mNotIn (eVar 3) (eTup (aCons (eC (.int 0)) (aCons (eC (.int 1)) aNil))))) (tOr (tB (eBin mIsNot (eBin mIdx (eBin mIdx (eVar 2) (eC (.int 0))) (eC (.int 1))) (eC .non))) (tB (eBin mIsNot (eBin mIdx (eBin mIdx (eVar 2) (eC (.int 1))) (eC (.int 1))) (eC .non))))) (sRet (eC (.bl false))) sNil)
    (sAsg (gOne 2) (eLst (aCons (eCall m_played (aCons (eBin mIdx (eVar 0) (eC (.int 0))) (aCons (eBin mIdx (eVar 2) (eC (.int 0))) (aCons (eVar 3) aNil)))) (aCons (eCall m_played (aCons (eBin mIdx (eVar 0) (eC (.int 1))) (aCons (eBin mIdx (eVar 2) (eC (.int 1))) (aCons (eVar 3) aNil)))) aNil)))))
def b_l_row_right : MS := (sSeq (sIf (tNot (tTru (eIsi "list" (eVar 1)))) (sRet (eC (.bl false))) sNil)
    (sSeq (sAsg (gOne 2) (eLst (aCons (eCall m_first (aCons (eBin mIdx (eVar 0) (eC (.int 0))) aNil)) (aCons (eCall m_first (aCons (eBin mIdx (eVar 0) (eC (.int 1))) aNil)) aNil))))
    (sSeq (sFor (iAny (eVar 1)) (gOne 3) lp_l_row_right_0)
    (sRet (eBin mNe (eBin mIs (eBin mIdx (eBin mIdx (eVar 2) (eC (.int 0))) (eC (.int 1))) (eC .non)) (eBin mIs (eBin mIdx (eBin mIdx (eVar 2) (eC (.int 1))) (eC (.int 1))) (eC .non)))))))
def m_l_row_right : Fn := fnD 2 4 b_l_row_right
def lp_l_pairs_right_0 : MS := (sSeq (sAsg (gOne 6) (eCall m_place_of (aCons (eBin mIdx (eVar 0) (eC (.int 0))) (aCons (eCall m_played (aCons (eBin mIdx (eVar 0) (eC (.int 0))) (aCons (eBin mIdx (eVar 4) (eC (.int 0))) (aCons (eVar 5) aNil)))) aNil))))
    (sIf (tB (eBin mNotInD (eTup (aCons (eVar 6) (aCons (eCall m_place_of (aCons (eBin mIdx (eVar 0) (eC (.int 1))) (aCons (eCall m_played (aCons (eBin mIdx (eVar 0) (eC (.int 1))) (aCons (eBin mIdx (eVar 4) (eC (.int 1))) (aCons (eVar 5) aNil)))) aNil))) aNil))) (eVar 3))) (sRet (eC (.bl false))) sNil))
def lp_l_pairs_right_1 : MS := (sSeq (sIf (tOr (tNot (tTru (eIsi "tuple" (eVar 4)))) (tOr (tB (eBin mNe (eCallO nLen (aCons (eVar 4) aNil)) (eC (.int 2)))) (tB (eBin mNe (eBin mIs (eBin mIdx (eBin mIdx (eVar 4) (eC (.int 0))) (eC (.int 1))) (eC .non)) (eBin mIs (eBin mIdx (eBin mIdx (eVar 4) (eC (.int 1))) (eC (.int 1))) (eC .non)))))) (sRet (eC (.bl false))) sNil)
    (sIf (tB (eBin mIs (eBin mIdx (eBin mIdx (eVar 4) (eC (.int 0))) (eC (.int 1))) (eC .non))) (sFor (iRange1 (eC (.int 2))) (gOne 5) lp_l_pairs_right_0) sNil))
def b_l_pairs_right : MS := (sSeq (sIf (tOr (tNot (tTru (eIsi "list" (eVar 1)))) (tOr (tB (eBin mNotInX (eBin mIdx (eVar 2) (eC (.int 0))) (eVar 1))) (tB (eBin mNe (eLenSetN (eVar 1)) (eCallO nLen (aCons (eVar 1) aNil)))))) (sRet (eC (.bl false))) sNil)
    (sSeq (sAsg (gOne 3) (eCallO nDictOf (aCons (eComp 4 (iAny (eVar 1)) tYesD (eTup (aCons (eVar 4) (aCons (eC (.bl true)) aNil)))) aNil)))
    (sSeq (sFor (iAny (eVar 1)) (gOne 4) lp_l_pairs_right_1)
    (sRet (eC (.bl true))))))
def m_l_pairs_right : Fn := fnD 3 7 b_l_pairs_right
def b_l_told_right : MS := (sSeq (sIf (tOr (tNot (tTru (eIsi "tuple" (eVar 1)))) (tB (eBin mNe (eCallO nLen (aCons (eVar 1) aNil)) (eC (.int 2))))) (sRet (eC (.bl false))) sNil)
    (sSeq (sAsg (gOne 3) (eComp 4 (iAny (eVar 2)) (tB (eBin mNe (eBin mIs (eBin mIdx (eBin mIdx (eVar 4) (eC (.int 0))) (eC (.int 1))) (eC .non)) (eBin mIs (eBin mIdx (eBin mIdx (eVar 4) (eC (.int 1))) (eC (.int 1))) (eC .non)))) (eVar 4)))
    (sSeq (sIf (tB (eBin mEq (eBin mIdx (eVar 1) (eC (.int 0))) (eC (.str "unlike")))) (sRet (eAnd (eBin mNe (eVar 3) (eLst aNil)) (eCall m_l_row_right (aCons (eVar 0) (aCons (eBin mIdx (eVar 1) (eC (.int 1))) aNil))))) sNil)
    (sRet (eAnd (eBin mEq (eBin mIdx (eVar 1) (eC (.int 0))) (eC (.str "alike"))) (eAnd (eBin mEq (eVar 3) (eLst aNil)) (eCall m_l_pairs_right (aCons (eVar 0) (aCons (eBin mIdx (eVar 1) (eC (.int 1))) (aCons (eVar 2) aNil))))))))))
def m_l_told_right : Fn := fnD 3 5 b_l_told_right
end
open CM (sideD)
open CZ
open CAl
open RL RB TLQ RD CP
section
variable {r1 r2 : Rule} {G : Gr (.rally r1)} {H : Gr (.rally r2)} {M0 M : Mem} {b : D × D} {l κ : Nat} {L : List (D × D)}
structure PS (G : Gr (.rally r1)) (H : Gr (.rally r2)) (M0 : Mem) (b : D × D) (l κ : Nat) (L : List (D × D)) (M : Mem) : Prop where
  k : Keep M0 M
  nl : M0.length ≤ l
  nκ : M0.length ≤ κ
  al : M[l]? = some (.lst (L.map toPD))
  aκ : M[κ]? = some (.dct (setD (L.map toPD)))
  gw : Gw G H b L
theorem PS.keep {M' : Mem} (h : PS G H M0 b l κ L M) (k : Keep M M') : PS G H M0 b l κ L M' := ⟨h.k.trans k, h.nl, h.nκ, k.at h.al, k.at h.aκ, h.gw⟩
theorem PS.more (h : PS G H M0 b l κ L M) {a : Nat} {t : D × D} {x : Bool} (ha : L[a]? = some t) (ho : both t = true) (hq : nx2 G H t x ∉ L) :
    PS G H M0 b l κ (L ++ [nx2 G H t x]) ((M.set κ (.dct (setD ((L.map toPD) ++ [toPD (nx2 G H t x)])))).set l (.lst (L.map toPD ++ [toPD (nx2 G H t x)]))) := by
  have lk : κ ≠ l := ne_of_at h.aκ h.al (by simp)
  have ll := lt_of_at h.al
  have lκ := lt_of_at h.aκ
  refine ⟨(h.k.setNew h.nκ).setNew h.nl, h.nl, h.nκ, ?_, ?_, h.gw.more ha ho hq⟩
  · rw [List.getElem?_set_self (by rw [List.length_set]; exact ll)]; simp
  · rw [List.getElem?_set_ne (Ne.symm lk), List.getElem?_set_self lκ]; simp
abbrev envP (r1 r2 : Rule) (lim : Int) (l κ i : Nat) (e5 e6 e7 e8 e9 : Option D) : TL.Env := [some (gmsD r1 r2), some (.int lim), some (.ref l), some (.ref κ), some (.int (i : Nat)), e5, e6, e7, e8, e9]
def InvPi (G : Gr (.rally r1)) (H : Gr (.rally r2)) (M0 : Mem) (b : D × D) (lim : Int) (l κ i : Nat) (t : D × D) : List D → TL.Env → Mem → Prop := fun rest env M => ∃ (e7 e8 e9 : Option D) (L : List (D × D)) (es : List Bool),
  env = envP r1 r2 lim l κ i (some t.1) (some t.2) e7 e8 e9 ∧ PS G H M0 b l κ L M ∧ L[i]? = some t ∧ rest = es.map sideD ∧ (∀ x : Bool, x ∈ es ∨ nx2 G H t x ∈ L) ∧ (∀ q ∈ L.take i, both q = true → ∀ x, nx2 G H q x ∈ L) ∧ (L.length : Int) + es.length ≤ lim + 2
theorem stepPi (hk : Key2 G H) {lim : Int} (hlim : lim ≤ 30000) {i : Nat} {t : D × D} (ho : both t = true) {d : D} {rest : List D} {env : TL.Env} {R0 : D → Mem → Prop} (h : InvPi G H M0 b lim l κ i t (d :: rest) env M) : ∃ env1, gOne 7 d env = some env1 ∧ SRet (lp_l_pairs_0 env1 M) (InvPi G H M0 b lim l κ i t rest) R0 := by
  obtain ⟨e7, e8, e9, L, es, rfl, R, hi, hr, h2, h3, hl⟩ := h
  cases es with
  | nil => cases hr
  | cons x es =>
    rw [List.map_cons] at hr
    cases hr
    rw [List.length_cons] at hl
    refine ⟨_, rfl, ?_⟩
    unfold lp_l_pairs_0
    have tP := R.gw.pl t (List.mem_of_getElem? hi)
    obtain ⟨o1, o2⟩ := Bool.and_eq_true_iff.mp ho
    obtain ⟨M1, e1, k1⟩ := gives_of (G.play tP.1 (side_in tP.1 o1 x) M)
    obtain ⟨M2, e2, k2⟩ := gives_of (G.place tP.1 (side_in tP.1 o1 x) M1)
    obtain ⟨M3, e3, k3⟩ := gives_of (H.play tP.2 (side_in tP.2 o2 x) M2)
    obtain ⟨M4, e4, k4⟩ := gives_of (H.place tP.2 (side_in tP.2 o2 x) M3)
    rw [asg_step (v := G.nx t.1 (sideD x)) (M' := M2) (by
      unfold envP gmsD
      generalize (Gm.rally r1).toD = g1 at *
      generalize (Gm.rally r2).toD = g2 at *
      generalize sideD x = sd at *
      simp [e1, e2])]
    simp only [List.set]
    rw [asg_step (v := toPD (nx2 G H t x)) (M' := M4) (by
      unfold gmsD toPD nx2
      generalize (Gm.rally r1).toD = g1 at *
      generalize (Gm.rally r2).toD = g2 at *
      generalize sideD x = sd at *
      simp [e3, e4])]
    simp only [List.set]
    have R1 := R.keep (((k1.trans k2).trans k3).trans k4)
    obtain ⟨k, hkk⟩ := hk _ (tP.next ho x)
    obtain ⟨_, nkk, _⟩ := keyOf_some hkk
    have ndm := nd_map R.gw.nd
    by_cases c : nx2 G H t x ∈ L
    · have e5 := known_in R1.aκ ndm ⟨k, hkk⟩ (CAl.mem_map.mpr c)
      rw [TLP.ifF1 (M' := M4) (by simp [e5])]
      refine SRet.next ⟨_, _, _, L, es, rfl, R1, hi, rfl, fun y => ?_, h3, by omega⟩
      rcases h2 y with h | h
      · rcases List.mem_cons.mp h with rfl | h
        · exact .inr c
        · exact .inl h
      · exact .inr h
    · have c' : toPD (nx2 G H t x) ∉ L.map toPD := fun z => c (CAl.mem_map.mp z)
      have f1 : (dctFind (setD (L.map toPD)) k).isSome = false := by
        cases q : (dctFind (setD (L.map toPD)) k).isSome with
        | false => rfl
        | true => exact absurd ((setD_in nkk ndm).mp q) c'
      have e5 := mNotInD_at R1.aκ hkk
      rw [f1] at e5
      have pn : dctPut (setD (L.map toPD)) (toPD (nx2 G H t x)) k (.bl true) = setD (L.map toPD ++ [toPD (nx2 G H t x)]) := by
        rw [put_new nkk (fun q hq e => by
          obtain ⟨p, hp, rfl⟩ := List.mem_map.mp hq
          exact c' (by rw [← show p = toPD (nx2 G H t x) from e]; exact hp))]
        simp [CZ.setD]
      have ls : (setD (L.map toPD)).length = L.length := by simp [CZ.setD]
      have ep := putDct_at (e := .bl true) R1.aκ hkk (by rw [ls]; omega)
      rw [pn] at ep
      have lk : κ ≠ l := ne_of_at R1.aκ R1.al (by simp)
      have al2 : (M4.set κ (.dct (setD (L.map toPD ++ [toPD (nx2 G H t x)]))))[l]? = some (.lst (L.map toPD)) := by rw [List.getElem?_set_ne lk]; exact R1.al
      have ap := mAppend_ok (y := toPD (nx2 G H t x)) al2 (by rw [List.length_map]; omega)
      have sl2 := seqAt_lst al2
      have Rm := R1.more hi ho c
      have il := (List.getElem?_eq_some_iff.mp hi).1
      rw [TLP.ifT1 (M' := M4) (by simp [e5])]
      have st : (sSeq (sPutD (eVar 3) (eVar 9) (eC (.bl true))) (sExpr (eMeth "list" mAppend (eVar 2) (aCons (eVar 9) aNil)))) (envP r1 r2 lim l κ i (some t.1) (some t.2) (some (sideD x)) (some (G.nx t.1 (sideD x))) (some (toPD (nx2 G H t x)))) M4 = .next (envP r1 r2 lim l κ i (some t.1) (some t.2) (some (sideD x)) (some (G.nx t.1 (sideD x))) (some (toPD (nx2 G H t x)))) ((M4.set κ (.dct (setD ((L.map toPD) ++ [toPD (nx2 G H t x)])))).set l (.lst (L.map toPD ++ [toPD (nx2 G H t x)]))) := by
        clear Rm
        generalize toPD (nx2 G H t x) = np at *
        generalize G.nx t.1 (sideD x) = nn at *
        generalize sideD x = sd at *
        simp [ep, ap, sl2]
      rw [st]
      refine SRet.next ⟨_, _, _, L ++ [nx2 G H t x], es, rfl, Rm, by rw [List.getElem?_append_left il]; exact hi, rfl, fun y => ?_, fun q hq hb y => ?_, by rw [List.length_append, List.length_cons, List.length_nil]; omega⟩
      · rcases h2 y with h | h
        · rcases List.mem_cons.mp h with rfl | h
          · exact .inr (by simp)
          · exact .inl h
        · exact .inr (List.mem_append_left _ h)
      · rw [List.take_append_of_le_length (by omega)] at hq
        exact List.mem_append_left _ (h3 q hq hb y)
def InvPw (G : Gr (.rally r1)) (H : Gr (.rally r2)) (M0 : Mem) (b : D × D) (lim : Int) (l κ : Nat) : Nat → TL.Env → Mem → Prop := fun m env M => ∃ (e5 e6 e7 e8 e9 : Option D) (L : List (D × D)) (i : Nat),
  env = envP r1 r2 lim l κ i e5 e6 e7 e8 e9 ∧ PS G H M0 b l κ L M ∧ i ≤ L.length ∧ (∀ q ∈ L.take i, both q = true → ∀ x, nx2 G H q x ∈ L) ∧ (L.length : Int) ≤ lim + 2 ∧ m + i = lim.toNat + 3
theorem stepPw (hk : Key2 G H) {lim : Int} (h1 : 1 ≤ lim) (hlim : lim ≤ 30000) {m : Nat} {env : TL.Env} (h : InvPw G H M0 b lim l κ m env M) :
    Ret (TL.tAnd (TL.tB (eBin mLt (eVar 4) (eCallO nLen (aCons (eVar 2) aNil)))) (TL.tB (eBin mLe (eCallO nLen (aCons (eVar 2) aNil)) (eVar 1))) env M) (fun c M1 => if c = true then SRet (lp_l_pairs_1 env M1) (fun e M => ∃ m', m' < m ∧ InvPw G H M0 b lim l κ m' e M) (fun _ _ => False)
      else ∃ e5 e6 e7 e8 e9 L i, env = envP r1 r2 lim l κ i e5 e6 e7 e8 e9 ∧ PS G H M0 b l κ L M1 ∧ ((L.length : Int) ≤ lim → Wh G H b L) ∧ (L.length : Int) ≤ lim + 2) := by
  obtain ⟨e5, e6, e7, e8, e9, L, i, rfl, R, hi, hc, hl, hm⟩ := h
  have sL := seqAt_lst R.al
  have ll : (L.map toPD).length = L.length := List.length_map ..
  by_cases c : i < L.length
  · by_cases c2 : (L.length : Int) ≤ lim
    · have et : (TL.tAnd (TL.tB (eBin mLt (eVar 4) (eCallO nLen (aCons (eVar 2) aNil)))) (TL.tB (eBin mLe (eCallO nLen (aCons (eVar 2) aNil)) (eVar 1)))) (envP r1 r2 lim l κ i e5 e6 e7 e8 e9) M = .ok true M := by simp [sL, c, c2]
      rw [et]
      refine .ok ?_
      rw [if_pos rfl]
      obtain ⟨t, ht⟩ : ∃ t, L[i]? = some t := ⟨L[i], List.getElem?_eq_getElem c⟩
      have ht' : (L.map toPD)[i]? = some (toPD t) := by rw [List.getElem?_map, ht]; rfl
      have tP := R.gw.pl t (List.mem_of_getElem? ht)
      have ix : mIdx (.ref l) (.int (i : Nat)) M = some (toPD t, M) := CE.idx_of sL (atI_nat ht')
      unfold lp_l_pairs_1
      rw [asgG_step (v := toPD t) (M' := M) (env' := envP r1 r2 lim l κ i (some t.1) (some t.2) e7 e8 e9) (by simp [-mIdx_ref, ix]) rfl]
      obtain ⟨x, w1, f1, _⟩ := G.form tP.1
      obtain ⟨y, w2, f2, _⟩ := H.form tP.2
      have i1 : ∀ M, mIdx t.1 (.int 1) M = some (wonD w1, M) := fun M => by rw [f1]; rfl
      have i2 : ∀ M, mIdx t.2 (.int 1) M = some (wonD w2, M) := fun M => by rw [f2]; rfl
      have tst : (TL.tAnd (TL.tB (eBin mIs (eBin mIdx (eVar 5) (eC (.int 1))) (eC .non))) (TL.tB (eBin mIs (eBin mIdx (eVar 6) (eC (.int 1))) (eC .non)))) (envP r1 r2 lim l κ i (some t.1) (some t.2) e7 e8 e9) M = .ok (both t) M := by
        have q1 : isNon (wonD w1) = isOpen t.1 := by rw [f1]; cases w1 <;> rfl
        have q2 : isNon (wonD w2) = isOpen t.2 := by rw [f2]; cases w2 <;> rfl
        unfold both
        cases z1 : isOpen t.1 <;> cases z2 : isOpen t.2 <;> rw [z1] at q1 <;> rw [z2] at q2 <;> simp [i1, i2, q1, q2]
      have nxt : ∀ (M3 : Mem) (e7 e8 e9 : Option D) (L' : List (D × D)), PS G H M0 b l κ L' M3 → L'[i]? = some t → (∀ q ∈ L'.take i, both q = true → ∀ x, nx2 G H q x ∈ L') → (both t = true → ∀ x, nx2 G H t x ∈ L') → (L'.length : Int) ≤ lim + 2 →
          SRet ((sAsg (gOne 4) (eBin mAdd (eVar 4) (eC (.int 1)))) (envP r1 r2 lim l κ i (some t.1) (some t.2) e7 e8 e9) M3) (fun e M => ∃ m', m' < m ∧ InvPw G H M0 b lim l κ m' e M) (fun _ _ => False) := by
        intro M3 e7 e8 e9 L' R' h1 h2 h3 h4
        simp
        have il := (List.getElem?_eq_some_iff.mp h1).1
        refine SRet.next (N := fun e M => ∃ m', m' < m ∧ InvPw G H M0 b lim l κ m' e M) ?_
        refine ⟨m - 1, by omega, _, _, _, _, _, L', i + 1, rfl, R', by omega, fun q hq hb x => ?_, h4, by omega⟩
        rw [List.take_succ, h1] at hq
        rcases List.mem_append.mp hq with hq | hq
        · exact h2 q hq hb x
        · cases (show q = t by simpa using hq)
          exact h3 hb x
      by_cases ho : both t = true
      · rw [ho] at tst
        rw [TLP.ifT tst]
        have z : SRet ((sFor (iRange1 (eC (.int 2))) (gOne 7) lp_l_pairs_0) (envP r1 r2 lim l κ i (some t.1) (some t.2) e7 e8 e9) M) (fun env M3 => InvPi G H M0 b lim l κ i t [] env M3) (fun _ _ => False) := by
          have rk := rngOk_nat (show 2 ≤ 1000000 by omega)
          have e : (sFor (iRange1 (eC (.int 2))) (gOne 7) lp_l_pairs_0) (envP r1 r2 lim l κ i (some t.1) (some t.2) e7 e8 e9) M = forL (fun _ => True) (gOne 7) lp_l_pairs_0 (rngItems 0 2) (envP r1 r2 lim l κ i (some t.1) (some t.2) e7 e8 e9) M := by
            rw [sFor_ap]
            have rk' : RngOk (2 : Int) := rk
            simp [rk']
          rw [e]
          exact SRet.for_ (InvPi G H M0 b lim l κ i t) ⟨_, _, _, L, [false, true], rfl, R, ht, rfl, fun x => .inl (by cases x <;> simp), hc, by simp; omega⟩ (fun _ _ _ _ => trivial) (fun d rest env M h => stepPi hk hlim ho h) fun _ _ h => h
        show SRet (nextS _ _) _ _
        refine SRet.nextS (z.imp ?_ fun _ _ h => h.elim)
        rintro env M3 ⟨e7, e8, e9, L', es, rfl, R', h1, h2, h3, h4, h5⟩
        cases es with
        | cons x es => cases h2
        | nil => exact nxt M3 e7 e8 e9 L' R' h1 h4 (fun _ x => (h3 x).elim (fun h => nomatch h) id) (by simpa using h5)
      · have hb : both t = false := by simpa using ho
        rw [hb] at tst
        rw [TLP.ifN tst]
        exact nxt M e7 e8 e9 L R ht hc (fun h => absurd h ho) (by omega)
    · have et : (TL.tAnd (TL.tB (eBin mLt (eVar 4) (eCallO nLen (aCons (eVar 2) aNil)))) (TL.tB (eBin mLe (eCallO nLen (aCons (eVar 2) aNil)) (eVar 1)))) (envP r1 r2 lim l κ i e5 e6 e7 e8 e9) M = .ok false M := by simp [sL, c, c2]
      rw [et]
      refine .ok ?_
      rw [if_neg Bool.false_ne_true]
      exact ⟨_, _, _, _, _, L, i, rfl, R, fun h => absurd h c2, hl⟩
  · have et : (TL.tAnd (TL.tB (eBin mLt (eVar 4) (eCallO nLen (aCons (eVar 2) aNil)))) (TL.tB (eBin mLe (eCallO nLen (aCons (eVar 2) aNil)) (eVar 1)))) (envP r1 r2 lim l κ i e5 e6 e7 e8 e9) M = .ok false M := by simp [sL, c]
    rw [et]
    refine .ok ?_
    rw [if_neg Bool.false_ne_true]
    have e : i = L.length := by omega
    subst e
    rw [List.take_length] at hc
    exact ⟨_, _, _, _, _, L, _, rfl, R, fun _ => ⟨R.gw, hc⟩, hl⟩
def PairsQ (G : Gr (.rally r1)) (H : Gr (.rally r2)) (M0 : Mem) (b : D × D) (lim : Int) (d : D) (M : Mem) : Prop := ∃ (l : Nat) (L : List (D × D)), d = .ref l ∧ Keep M0 M ∧ M0.length ≤ l ∧ M[l]? = some (.lst (L.map toPD)) ∧ Gw G H b L ∧ ((L.length : Int) ≤ lim → Wh G H b L) ∧ (L.length : Int) ≤ lim + 2
/-- the first stands, and their places -/
structure FirstA {r : Rule} (G : Gr (.rally r)) (s p : D) : Prop where
  f : ∀ M, m_first [(Gm.rally r).toD] M = .ok s M
  a : At G s p
theorem pairs_ok (hk : Key2 G H) {lim : Int} (h1 : 1 ≤ lim) (hlim : lim ≤ 30000) {s1 s2 : D} (f1 : FirstA G s1 b.1) (f2 : FirstA H s2 b.2) (M0 : Mem) : Ret (m_l_pairs [gmsD r1 r2, .int lim] M0) (PairsQ G H M0 b lim) := by
  show Ret (endS (b_l_pairs [some (gmsD r1 r2), some (.int lim), none, none, none, none, none, none, none, none] M0)) _
  unfold b_l_pairs
  have bP : In2 G H b := ⟨f1.a.p, f2.a.p⟩
  obtain ⟨M2, e2, k2⟩ := gives_of (f1.a.pl M0)
  obtain ⟨M4, e4, k4⟩ := gives_of (f2.a.pl M2)
  have g1 := f1.f
  have g2 := f2.f
  have k04 := k2.trans k4
  obtain ⟨kb, hkb⟩ := hk b bP
  rw [asg_step (v := .ref M4.length) (M' := M4 ++ [MO.lst [toPD b]]) (by
    simp only [gmsD, toPD]
    generalize (Gm.rally r1).toD = g1' at *
    generalize (Gm.rally r2).toD = g2' at *
    simp [g1, g2, e2, e4])]
  simp only [List.set]
  have ka := Keep.more M4 [MO.lst [toPD b]]
  have aa := at_len M4 (MO.lst [toPD b])
  generalize hM5 : M4 ++ [MO.lst [toPD b]] = M5 at *
  have l5 : M5.length = M4.length + 1 := by rw [← hM5]; simp
  have kd := Keep.more M5 [MO.dct []]
  have ix : mIdx (.ref M4.length) (.int 0) (M5 ++ [MO.dct []]) = some (toPD b, M5 ++ [MO.dct []]) := CE.idx_of (seqAt_lst (kd.at aa)) (atI_nat (j := 0) rfl)
  have d1 : dctOne (M5 ++ [MO.dct []]) M5.length (toPD b) (.bl true) = .ok (.ref M5.length) ((M5 ++ [MO.dct []]).set M5.length (.dct [(toPD b, .bl true)])) := dctOne_at (at_len _ _) hkb
  have e5 : (M5 ++ [MO.dct []]).set M5.length (.dct [(toPD b, .bl true)]) = M5 ++ [MO.dct (setD [toPD b])] := by simp [CZ.setD]
  rw [e5] at d1
  rw [asg_step (v := .ref M5.length) (M' := M5 ++ [MO.dct (setD [toPD b])]) (by simp [-mIdx_ref, ix, d1])]
  simp only [List.set]
  rw [asg_step (v := .int (0 : Nat)) (M' := M5 ++ [MO.dct (setD [toPD b])]) (by simp)]
  simp only [List.set]
  have kx := Keep.more M5 [MO.dct (setD [toPD b])]
  have R : PS G H M0 b M4.length M5.length [b] (M5 ++ [MO.dct (setD [toPD b])]) := ⟨(k04.trans ka).trans kx, k04.1, by have := k04.1; omega, kx.at aa, at_len _ _, Gw.one bP⟩
  generalize M5 ++ [MO.dct (setD [toPD b])] = M6 at *
  generalize M4.length = l at *
  generalize M5.length = κ at *
  refine Ret.endS ?_
  refine SRet.nextS (SRet.imp (N := fun e M => ∃ e5 e6 e7 e8 e9 L i, e = envP r1 r2 lim l κ i e5 e6 e7 e8 e9 ∧ PS G H M0 b l κ L M ∧ ((L.length : Int) ≤ lim → Wh G H b L) ∧ (L.length : Int) ≤ lim + 2) (R := fun _ _ => False)
    (SRet.while_ (InvPw G H M0 b lim l κ) (m := lim.toNat + 3) ⟨_, _, _, _, _, [b], 0, rfl, R, by simp, by simp, by simp; omega, by omega⟩ (by omega) fun m env M h => stepPw hk h1 hlim h) ?_ (fun _ _ h => h.elim))
  rintro env M ⟨e5, e6, e7, e8, e9, L, i, rfl, R, w, hl⟩
  rw [TLP.ret (v := .ref l) (M' := M) (by simp)]
  exact SRet.ret ⟨l, L, rfl, R.k, R.nl, R.al, R.gw, w, hl⟩
end
end CKA
end
section
set_option maxHeartbeats 4000000
namespace LW
open PySem PySem.Spec PyProof.Rows L2 TL
open CM hiding RowQ any_rule b_l_any_rule b_l_down b_l_lane b_l_rule b_l_throws b_l_unit g_l_unit lp_l_throws_0 m_l_any_rule m_l_down m_l_lane m_l_rule m_l_throws m_l_unit pick3 rng_cons rule_ok rule_step unit_ok
open CG hiding GameQ b_l_game b_l_rule b_l_unit m_l_game m_l_rule m_l_unit rule_ok unit_ok
open CE hiding UnitQ b_l_game b_l_unit m_l_game m_l_unit unit_ok
open CZ
open CAl
open CKA
open TN (eLenSetN d_lenSetN nDictOf c_dictOf)
noncomputable section
def b_l_rule : MS := (sRet (eCall (m_l_unit 14) (aCons (eVar 0) (aCons (eC (.int 0)) (aCons (eC (.int 0)) (aCons (eC (.int 1)) aNil))))))
def m_l_rule : Fn := fnD 1 1 b_l_rule
def b_l_other : MS := (sSeq (sAsg (gOne 2) (eCall m_l_draws (aCons (eVar 1) (aCons (eC (.int 34)) aNil))))
    (sSeq (sAsg (gOne 3) (eBin mMod (eBin mIdx (eVar 2) (eC (.int 33))) (eC (.int 6))))
    (sSeq (sIf (tB (eBin mEq (eVar 3) (eC (.int 0)))) (sRet (eCall m_l_rule (aCons (eVar 2) aNil))) sNil)
    (sSeq (sIf (tB (eBin mEq (eVar 3) (eC (.int 1)))) (sRet (eVar 0)) sNil)
    (sSeq (sIf (tB (eBin mEq (eVar 3) (eC (.int 2)))) (sRet (eTup (aCons (eC (.str "unit")) (aCons (eC (.int 1)) (aCons (eC (.int 1)) (aCons (eC .non) (aCons (eVar 0) (aCons (eC .non) aNil)))))))) sNil)
    (sRet (eCall (m_l_turned 14) (aCons (eVar 0) (aCons (eVar 2) aNil)))))))))
def m_l_other : Fn := fnD 2 4 b_l_other
def b_l_told : MS := (sTry ["NoThrow", "NoPins", "NoSide", "Over", "TooMany"] (sRet (eLst (aCons (eCall m_alike (aCons (eVar 0) (aCons (eVar 1) (aCons (eC (.int 200)) aNil)))) aNil))) [⟨"ScoreError", (some 2), (sRet (eLst (aCons (eIsE ["NoThrow", "NoPins", "NoSide", "Over", "TooMany"] "TooMany" (eVar 2)) (aCons (eIsE ["NoThrow", "NoPins", "NoSide", "Over", "TooMany"] "ValueError" (eVar 2)) (aCons (eIsEs ["NoThrow", "NoPins", "NoSide", "Over", "TooMany"] ["NoSide", "Over"] (eVar 2)) aNil)))))⟩])
def m_l_told : Fn := fnD 2 3 b_l_told
def b_l_is_alike : MS := (sSeq (sAsg (gOne 2) (eTup (aCons (eTup (aCons (eC (.str "rally")) (aCons (eVar 0) aNil))) (aCons (eTup (aCons (eC (.str "rally")) (aCons (eVar 1) aNil))) aNil))))
    (sSeq (sAsg (gOne 3) (eCall m_l_pairs (aCons (eVar 2) (aCons (eC (.int 200)) aNil))))
    (sSeq (sAsg (gOne 4) (eCall m_l_told (aCons (eVar 0) (aCons (eVar 1) aNil))))
    (sSeq (sIf (tB (eBin mGt (eCallO nLen (aCons (eVar 3) aNil)) (eC (.int 200)))) (sRet (eBin mEq (eVar 4) (eLst (aCons (eC (.bl true)) (aCons (eC (.bl true)) (aCons (eC (.bl false)) aNil)))))) sNil)
    (sRet (eAnd (eBin mEq (eCallO nLen (aCons (eVar 4) aNil)) (eC (.int 1))) (eAnd (eBin mEq (eBin mIdx (eBin mIdx (eVar 4) (eC (.int 0))) (eC (.int 0))) (eC (.str "alike"))) (eCall m_l_told_right (aCons (eVar 2) (aCons (eBin mIdx (eVar 4) (eC (.int 0))) (aCons (eVar 3) aNil)))))))))))
def m_l_is_alike : Fn := fnD 2 5 b_l_is_alike
def b_law : MS := (sSeq (sAsg (gOne 1) (eCall m_l_rule (aCons (eCall m_l_draws (aCons (eCall m_l_cell_at (aCons (eVar 0) (aCons (eC (.int 0)) aNil))) (aCons (eC (.int 34)) aNil))) aNil)))
    (sSeq (sAsg (gOne 2) (eCall m_l_other (aCons (eVar 1) (aCons (eCall m_l_cell_at (aCons (eVar 0) (aCons (eC (.int 1)) aNil))) aNil))))
    (sSeq (sIf (tOr (tNot (tTru (eCall m_l_is_alike (aCons (eVar 1) (aCons (eVar 1) aNil))))) (tNot (tTru (eCall m_l_is_alike (aCons (eTup (aCons (eC (.str "unit")) (aCons (eC (.int 1)) (aCons (eC (.int 1)) (aCons (eC .non) (aCons (eVar 1) (aCons (eC .non) aNil))))))) (aCons (eVar 1) aNil)))))) (sRet (eC (.bl false))) sNil)
    (sSeq (sAsg (gOne 3) (eTup (aCons (eTup (aCons (eC (.str "rally")) (aCons (eVar 1) aNil))) (aCons (eTup (aCons (eC (.str "rally")) (aCons (eVar 2) aNil))) aNil))))
    (sSeq (sAsg (gOne 4) (eCall m_l_pairs (aCons (eVar 3) (aCons (eC (.int 200)) aNil))))
    (sSeq (sIf (tOr (tB (eBin mGt (eCallO nLen (aCons (eVar 4) aNil)) (eC (.int 200)))) (tB (eBin mNe (eComp 11 (iAny (eVar 4)) (tB (eBin mNe (eBin mIs (eBin mIdx (eBin mIdx (eVar 11) (eC (.int 0))) (eC (.int 1))) (eC .non)) (eBin mIs (eBin mIdx (eBin mIdx (eVar 11) (eC (.int 1))) (eC (.int 1))) (eC .non)))) (eVar 11)) (eLst aNil)))) (sRet (eC (.bl true))) sNil)
    (sSeq (sAsg (gOne 5) (eCall m_l_draws (aCons (eCall m_l_cell_at (aCons (eVar 0) (aCons (eC (.int 2)) aNil))) (aCons (eC (.int 4)) aNil))))
    (sSeq (sAsg (gOne 6) (eBin mAdd (eC (.int 1)) (eBin mMod (eBin mIdx (eVar 5) (eC (.int 0))) (eC (.int 2)))))
    (sSeq (sAsg (gOne 7) (eBin mIdx (eLst (aCons (eC .non) (aCons (eBin mAdd (eVar 6) (eBin mMod (eBin mFdiv (eBin mIdx (eVar 5) (eC (.int 1))) (eC (.int 2))) (eC (.int 3)))) aNil))) (eBin mMod (eBin mIdx (eVar 5) (eC (.int 1))) (eC (.int 2)))))
    (sSeq (sAsg (gOne 8) (eLst (aCons (eC .non) (aCons (eC .non) aNil))))
    (sSeq (sIf (tB (eBin mIsNot (eVar 7) (eC .non))) (sAsg (gOne 8) (eLst (aCons (eBin mIdx (eLst (aCons (eC .non) (aCons (eVar 1) (aCons (eVar 2) (aCons (eTup (aCons (eC (.str "point")) aNil)) aNil))))) (eBin mMod (eBin mIdx (eVar 5) (eC (.int 2))) (eC (.int 4)))) (aCons (eBin mIdx (eLst (aCons (eC .non) (aCons (eVar 2) (aCons (eVar 1) (aCons (eTup (aCons (eC (.str "point")) aNil)) aNil))))) (eBin mMod (eBin mIdx (eVar 5) (eC (.int 2))) (eC (.int 4)))) aNil)))) sNil)
    (sSeq (sAsg (gOne 9) (eTup (aCons (eC (.str "unit")) (aCons (eVar 6) (aCons (eBin mAdd (eC (.int 1)) (eBin mMod (eBin mIdx (eVar 5) (eC (.int 3))) (eC (.int 2)))) (aCons (eVar 7) (aCons (eVar 1) (aCons (eBin mIdx (eVar 8) (eC (.int 0))) aNil))))))))
    (sSeq (sAsg (gOne 10) (eTup (aCons (eC (.str "unit")) (aCons (eVar 6) (aCons (eBin mAdd (eC (.int 1)) (eBin mMod (eBin mIdx (eVar 5) (eC (.int 3))) (eC (.int 2)))) (aCons (eVar 7) (aCons (eVar 2) (aCons (eBin mIdx (eVar 8) (eC (.int 1))) aNil))))))))
    (sRet (eCall m_l_is_alike (aCons (eVar 9) (aCons (eVar 10) aNil)))))))))))))))))
def m_law : Fn := fnD 1 12 b_law
end
structure Facts (K : PySem.W.Frag) (mg : Str → Option Value) : Prop where
  fn_is_between : ∃ fd, FunD K "is_between" "is_between" (defArgs st_is_between) (defBody st_is_between) (defScope st_is_between) [] [] (He.ga K "is_between") fd
  mg_is_between : mg "is_between" = some (.ref (He.ga K "is_between"))
  fn_down_begun : ∃ fd, FunD K "down_begun" "down_begun" (defArgs st_down_begun) (defBody st_down_begun) (defScope st_down_begun) [] [] (He.ga K "down_begun") fd
  mg_down_begun : mg "down_begun" = some (.ref (He.ga K "down_begun"))
  fn_throw_named : ∃ fd, FunD K "throw_named" "throw_named" (defArgs st_throw_named) (defBody st_throw_named) (defScope st_throw_named) [] [] (He.ga K "throw_named") fd
  mg_throw_named : mg "throw_named" = some (.ref (He.ga K "throw_named"))
  fn_with_count : ∃ fd, FunD K "with_count" "with_count" (defArgs st_with_count) (defBody st_with_count) (defScope st_with_count) [] [] (He.ga K "with_count") fd
  mg_with_count : mg "with_count" = some (.ref (He.ga K "with_count"))
  fn_turn_ended : ∃ fd, FunD K "turn_ended" "turn_ended" (defArgs st_turn_ended) (defBody st_turn_ended) (defScope st_turn_ended) [] [] (He.ga K "turn_ended") fd
  mg_turn_ended : mg "turn_ended" = some (.ref (He.ga K "turn_ended"))
  fn_down_thrown : ∃ fd, FunD K "down_thrown" "down_thrown" (defArgs st_down_thrown) (defBody st_down_thrown) (defScope st_down_thrown) [] [] (He.ga K "down_thrown") fd
  mg_down_thrown : mg "down_thrown" = some (.ref (He.ga K "down_thrown"))
  fn_lane_begun : ∃ fd, FunD K "lane_begun" "lane_begun" (defArgs st_lane_begun) (defBody st_lane_begun) (defScope st_lane_begun) [] [] (He.ga K "lane_begun") fd
  mg_lane_begun : mg "lane_begun" = some (.ref (He.ga K "lane_begun"))
  fn_frame_behind : ∃ fd, FunD K "frame_behind" "frame_behind" (defArgs st_frame_behind) (defBody st_frame_behind) (defScope st_frame_behind) [] [] (He.ga K "frame_behind") fd
  mg_frame_behind : mg "frame_behind" = some (.ref (He.ga K "frame_behind"))
  fn_extra_behind : ∃ fd, FunD K "extra_behind" "extra_behind" (defArgs st_extra_behind) (defBody st_extra_behind) (defScope st_extra_behind) [] [] (He.ga K "extra_behind") fd
  mg_extra_behind : mg "extra_behind" = some (.ref (He.ga K "extra_behind"))
  fn_row_behind : ∃ fd, FunD K "row_behind" "row_behind" (defArgs st_row_behind) (defBody st_row_behind) (defScope st_row_behind) [] [] (He.ga K "row_behind") fd
  mg_row_behind : mg "row_behind" = some (.ref (He.ga K "row_behind"))
  fn_lane_bowled : ∃ fd, FunD K "lane_bowled" "lane_bowled" (defArgs st_lane_bowled) (defBody st_lane_bowled) (defScope st_lane_bowled) [] [] (He.ga K "lane_bowled") fd
  mg_lane_bowled : mg "lane_bowled" = some (.ref (He.ga K "lane_bowled"))
  fn_best_of : ∃ fd, FunD K "best_of" "best_of" (defArgs st_best_of) (defBody st_best_of) (defScope st_best_of) [] [] (He.ga K "best_of") fd
  mg_best_of : mg "best_of" = some (.ref (He.ga K "best_of"))
  fn_rule_within : ∃ fd, FunD K "rule_within" "rule_within" (defArgs st_rule_within) (defBody st_rule_within) (defScope st_rule_within) [] [] (He.ga K "rule_within") fd
  mg_rule_within : mg "rule_within" = some (.ref (He.ga K "rule_within"))
  fn_begun : ∃ fd, FunD K "begun" "begun" (defArgs st_begun) (defBody st_begun) (defScope st_begun) [] [] (He.ga K "begun") fd
  mg_begun : mg "begun" = some (.ref (He.ga K "begun"))
  fn_is_won : ∃ fd, FunD K "is_won" "is_won" (defArgs st_is_won) (defBody st_is_won) (defScope st_is_won) [] [] (He.ga K "is_won") fd
  mg_is_won : mg "is_won" = some (.ref (He.ga K "is_won"))
  fn_rallied : ∃ fd, FunD K "rallied" "rallied" (defArgs st_rallied) (defBody st_rallied) (defScope st_rallied) [] [] (He.ga K "rallied") fd
  mg_rallied : mg "rallied" = some (.ref (He.ga K "rallied"))
  fn_cut : ∃ fd, FunD K "cut" "cut" (defArgs st_cut) (defBody st_cut) (defScope st_cut) [] [] (He.ga K "cut") fd
  mg_cut : mg "cut" = some (.ref (He.ga K "cut"))
  fn_first : ∃ fd, FunD K "first" "first" (defArgs st_first) (defBody st_first) (defScope st_first) [] [] (He.ga K "first") fd
  mg_first : mg "first" = some (.ref (He.ga K "first"))
  fn_rally_played : ∃ fd, FunD K "rally_played" "rally_played" (defArgs st_rally_played) (defBody st_rally_played) (defScope st_rally_played) [] [] (He.ga K "rally_played") fd
  mg_rally_played : mg "rally_played" = some (.ref (He.ga K "rally_played"))
  fn_down_played : ∃ fd, FunD K "down_played" "down_played" (defArgs st_down_played) (defBody st_down_played) (defScope st_down_played) [] [] (He.ga K "down_played") fd
  mg_down_played : mg "down_played" = some (.ref (He.ga K "down_played"))
  fn_lane_played : ∃ fd, FunD K "lane_played" "lane_played" (defArgs st_lane_played) (defBody st_lane_played) (defScope st_lane_played) [] [] (He.ga K "lane_played") fd
  mg_lane_played : mg "lane_played" = some (.ref (He.ga K "lane_played"))
  fn_played : ∃ fd, FunD K "played" "played" (defArgs st_played) (defBody st_played) (defScope st_played) [] [] (He.ga K "played") fd
  mg_played : mg "played" = some (.ref (He.ga K "played"))
  fn_place_of : ∃ fd, FunD K "place_of" "place_of" (defArgs st_place_of) (defBody st_place_of) (defScope st_place_of) [] [] (He.ga K "place_of") fd
  mg_place_of : mg "place_of" = some (.ref (He.ga K "place_of"))
  fn_row_to : ∃ fd, FunD K "row_to" "row_to" (defArgs st_row_to) (defBody st_row_to) (defScope st_row_to) [] [] (He.ga K "row_to") fd
  mg_row_to : mg "row_to" = some (.ref (He.ga K "row_to"))
  fn_over_of : ∃ fd, FunD K "over_of" "over_of" (defArgs st_over_of) (defBody st_over_of) (defScope st_over_of) [] [] (He.ga K "over_of") fd
  mg_over_of : mg "over_of" = some (.ref (He.ga K "over_of"))
  fn_pair_behind : ∃ fd, FunD K "pair_behind" "pair_behind" (defArgs st_pair_behind) (defBody st_pair_behind) (defScope st_pair_behind) [] [] (He.ga K "pair_behind") fd
  mg_pair_behind : mg "pair_behind" = some (.ref (He.ga K "pair_behind"))
  fn_alike : ∃ fd, FunD K "alike" "alike" (defArgs st_alike) (defBody st_alike) (defScope st_alike) [(.int 1000)] [] (He.ga K "alike") fd
  mg_alike : mg "alike" = some (.ref (He.ga K "alike"))
  fn_l_cell_at : ∃ fd, FunD K "_law_cell_at" "_law_cell_at" (defArgs st_l_cell_at) (defBody st_l_cell_at) (defScope st_l_cell_at) [] [] (He.ga K "_law_cell_at") fd
  mg_l_cell_at : mg "_law_cell_at" = some (.ref (He.ga K "_law_cell_at"))
  fn_l_draws : ∃ fd, FunD K "_law_draws" "_law_draws" (defArgs st_l_draws) (defBody st_l_draws) (defScope st_l_draws) [] [] (He.ga K "_law_draws") fd
  mg_l_draws : mg "_law_draws" = some (.ref (He.ga K "_law_draws"))
  fn_l_unit : ∃ fd, FunD K "_law_unit" "_law_unit" (defArgs st_l_unit) (defBody st_l_unit) (defScope st_l_unit) [] [] (He.ga K "_law_unit") fd
  mg_l_unit : mg "_law_unit" = some (.ref (He.ga K "_law_unit"))
  fn_l_rule : ∃ fd, FunD K "_law_rule" "_law_rule" (defArgs st_l_rule) (defBody st_l_rule) (defScope st_l_rule) [] [] (He.ga K "_law_rule") fd
  mg_l_rule : mg "_law_rule" = some (.ref (He.ga K "_law_rule"))
  fn_l_turned : ∃ fd, FunD K "_law_turned" "_law_turned" (defArgs st_l_turned) (defBody st_l_turned) (defScope st_l_turned) [] [] (He.ga K "_law_turned") fd
  mg_l_turned : mg "_law_turned" = some (.ref (He.ga K "_law_turned"))
  fn_l_other : ∃ fd, FunD K "_law_other" "_law_other" (defArgs st_l_other) (defBody st_l_other) (defScope st_l_other) [] [] (He.ga K "_law_other") fd
  mg_l_other : mg "_law_other" = some (.ref (He.ga K "_law_other"))
  fn_l_pairs : ∃ fd, FunD K "_law_pairs" "_law_pairs" (defArgs st_l_pairs) (defBody st_l_pairs) (defScope st_l_pairs) [] [] (He.ga K "_law_pairs") fd
  mg_l_pairs : mg "_law_pairs" = some (.ref (He.ga K "_law_pairs"))
  fn_l_row_right : ∃ fd, FunD K "_law_row_right" "_law_row_right" (defArgs st_l_row_right) (defBody st_l_row_right) (defScope st_l_row_right) [] [] (He.ga K "_law_row_right") fd
  mg_l_row_right : mg "_law_row_right" = some (.ref (He.ga K "_law_row_right"))
  fn_l_pairs_right : ∃ fd, FunD K "_law_pairs_right" "_law_pairs_right" (defArgs st_l_pairs_right) (defBody st_l_pairs_right) (defScope st_l_pairs_right) [] [] (He.ga K "_law_pairs_right") fd
  mg_l_pairs_right : mg "_law_pairs_right" = some (.ref (He.ga K "_law_pairs_right"))
  fn_l_told_right : ∃ fd, FunD K "_law_told_right" "_law_told_right" (defArgs st_l_told_right) (defBody st_l_told_right) (defScope st_l_told_right) [] [] (He.ga K "_law_told_right") fd
  mg_l_told_right : mg "_law_told_right" = some (.ref (He.ga K "_law_told_right"))
  fn_l_told : ∃ fd, FunD K "_law_told" "_law_told" (defArgs st_l_told) (defBody st_l_told) (defScope st_l_told) [] [] (He.ga K "_law_told") fd
  mg_l_told : mg "_law_told" = some (.ref (He.ga K "_law_told"))
  fn_l_is_alike : ∃ fd, FunD K "_law_is_alike" "_law_is_alike" (defArgs st_l_is_alike) (defBody st_l_is_alike) (defScope st_l_is_alike) [] [] (He.ga K "_law_is_alike") fd
  mg_l_is_alike : mg "_law_is_alike" = some (.ref (He.ga K "_law_is_alike"))
  fn_law : ∃ fd, FunD K "law" "law" (defArgs st_law) (defBody st_law) (defScope st_law) [] [] (He.ga K "law") fd
  mg_law : mg "law" = some (.ref (He.ga K "law"))
  no_ValueError : mg "ValueError" = none
  no_all : mg "all" = none
  no_bool : mg "bool" = none
  no_dict : mg "dict" = none
  no_int : mg "int" = none
  no_isinstance : mg "isinstance" = none
  no_len : mg "len" = none
  no_list : mg "list" = none
  no_max : mg "max" = none
  no_min : mg "min" = none
  no_range : mg "range" = none
  no_set : mg "set" = none
  no_tuple : mg "tuple" = none
  mc_NoPins : mg "NoPins" = some (.ref (He.ga K "NoPins"))
  mc_NoSide : mg "NoSide" = some (.ref (He.ga K "NoSide"))
  mc_NoThrow : mg "NoThrow" = some (.ref (He.ga K "NoThrow"))
  mc_Over : mg "Over" = some (.ref (He.ga K "Over"))
  mc_ScoreError : mg "ScoreError" = some (.ref (He.ga K "ScoreError"))
  mc_TooMany : mg "TooMany" = some (.ref (He.ga K "TooMany"))
  ex_NoPins : ExF K mg "NoPins"
  ex_NoSide : ExF K mg "NoSide"
  ex_NoThrow : ExF K mg "NoThrow"
  ex_Over : ExF K mg "Over"
  ex_TooMany : ExF K mg "TooMany"
  exsub : ExSub K ["NoThrow", "NoPins", "NoSide", "Over", "TooMany"] hcls
  ist : IsT K ["NoThrow", "NoPins", "NoSide", "Over", "TooMany"] icls
  gl_POINT : Glob K mg "POINT" (.tup [(.str "point")])
section
variable {P : Program} {w : World} {K : PySem.W.Frag} {mg : Str → Option Value} {base : Heap}
theorem sc_is_between : FnScope ["thing", "low", "high"] ["thing", "low", "high"] (defScope st_is_between) := ⟨rfl, rfl, rfl, by decide +kernel, rfl, by decide +kernel, by decide +kernel⟩
theorem ok_is_between (Z : Facts K mg) : Callee P w K mg base "is_between" 3 (0 + 1) m_is_between :=
  okD (ps := ["thing", "low", "high"]) (k := 0) Z.fn_is_between sc_is_between Z.mg_is_between (fun _ _ _ _ _ _ us hl => match us, hl with | [_, _, _], _ => rfl) (fun cdv A outer s H E C => ((ds_one (ds_ret (d_and (d_isi (U := "int") rfl Z.no_isinstance rfl Z.no_int boot_int (d_var (i := 0))) (d_and (d_not (d_isi (U := "bool") rfl Z.no_isinstance rfl Z.no_bool boot_bool (d_var (i := 0)))) (d_one (d_chain o_le o_le (d_var (i := 1)) (d_var (i := 0)) (d_var (i := 2))))))))))
theorem sc_down_begun : FnScope ["down"] ["down"] (defScope st_down_begun) := ⟨rfl, rfl, rfl, by decide +kernel, rfl, by decide +kernel, by decide +kernel⟩
theorem ok_down_begun (Z : Facts K mg) : Callee P w K mg base "down_begun" 1 (0 + 1) m_down_begun :=
  okD (ps := ["down"]) (k := 0) Z.fn_down_begun sc_down_begun Z.mg_down_begun (fun _ _ _ _ _ _ us hl => match us, hl with | [_], _ => rfl) (fun cdv A outer s H E C => ((ds_one (ds_ret (d_tup (da_cons (d_bin o_mul (d_tup (da_cons (d_idx (d_var (i := 0)) d_int) da_nil)) (d_idx (d_var (i := 0)) d_int)) (da_cons d_int (da_cons d_int (da_cons (d_idx (d_var (i := 0)) d_int) da_nil)))))))))
theorem sc_throw_named : FnScope ["down", "name", "throw"] ["down", "name"] (defScope st_throw_named) := ⟨rfl, rfl, rfl, by decide +kernel, rfl, by decide +kernel, by decide +kernel⟩
theorem ok_throw_named (Z : Facts K mg) : Callee P w K mg base "throw_named" 2 (0 + 1) m_throw_named :=
  okD (ps := ["down", "name"]) (k := 0) Z.fn_throw_named sc_throw_named Z.mg_throw_named (fun _ _ _ _ _ _ us hl => match us, hl with | [_, _], _ => rfl) (fun cdv A outer s H E C => ((ds_cons (ds_for C (di_any (d_idx (d_var (i := 0)) d_int)) (dg_name (i := 2) C.nd) (ds_one (ds_if (dt_cmp (o_eq C.hu) (d_idx (d_var (i := 2)) d_int) (d_var (i := 1)) (nomark _)) (ds_one (ds_ret (d_var (i := 2)))) ds_nil)))
    (ds_one (ds_raise C Z.ex_NoThrow)))))
theorem sc_with_count : FnScope ["counts", "side", "count"] ["counts", "side", "count"] (defScope st_with_count) := ⟨rfl, rfl, rfl, by decide +kernel, rfl, by decide +kernel, by decide +kernel⟩
theorem ok_with_count (Z : Facts K mg) : Callee P w K mg base "with_count" 3 (0 + 1) m_with_count :=
  okD (ps := ["counts", "side", "count"]) (k := 0) Z.fn_with_count sc_with_count Z.mg_with_count (fun _ _ _ _ _ _ us hl => match us, hl with | [_, _, _], _ => rfl) (fun cdv A outer s H E C => ((ds_one (ds_ret (d_bin o_add (d_bin o_add (d_sl (d_var (i := 0)) do_none (do_some (d_var (i := 1)))) (d_tup (da_cons (d_var (i := 2)) da_nil))) (d_sl (d_var (i := 0)) (do_some (d_bin o_add (d_var (i := 1)) d_int)) do_none))))))
theorem sc_turn_ended : FnScope ["down", "counts", "side", "other"] ["down", "counts", "side"] (defScope st_turn_ended) := ⟨rfl, rfl, rfl, by decide +kernel, rfl, by decide +kernel, by decide +kernel⟩
theorem ok_turn_ended (Z : Facts K mg) : Callee P w K mg base "turn_ended" 3 (0 + 1) m_turn_ended :=
  okD (ps := ["down", "counts", "side"]) (k := 0) Z.fn_turn_ended sc_turn_ended Z.mg_turn_ended (fun _ _ _ _ _ _ us hl => match us, hl with | [_, _, _], _ => rfl) (fun cdv A outer s H E C => ((ds_cons (ds_set (i := 3) C.nd (d_bin o_mod (d_bin o_add (d_var (i := 2)) d_int) (d_idx (d_var (i := 0)) d_int)))
    (ds_one (ds_ret (d_tup (da_cons (d_var (i := 1)) (da_cons (d_var (i := 3)) (da_cons d_int (da_cons (d_idx (d_var (i := 1)) (d_var (i := 3))) da_nil))))))))))
theorem sc_down_thrown : FnScope ["down", "stand", "name", "throw", "left", "counts", "side", "thrown", "held"] ["down", "stand", "name"] (defScope st_down_thrown) := ⟨rfl, rfl, rfl, by decide +kernel, rfl, by decide +kernel, by decide +kernel⟩
theorem ok_down_thrown (Z : Facts K mg) : Callee P w K mg base "down_thrown" 3 (1 + 1) m_down_thrown :=
  okD (ps := ["down", "stand", "name"]) (k := 1) Z.fn_down_thrown sc_down_thrown Z.mg_down_thrown (fun _ _ _ _ _ _ us hl => match us, hl with | [_, _, _], _ => rfl) (fun cdv A outer s H E C => ((ds_cons (ds_asg (d_var (i := 1)) (dg_tup (pg_tup C.calm (pgs_cons (pg_name (i := 5) C.nd rfl (by first | exact .inl rfl | exact .inr rfl)) (pgs_cons (pg_name (i := 6) C.nd rfl (by first | exact .inl rfl | exact .inr rfl)) (pgs_cons (pg_name (i := 7) C.nd rfl (by first | exact .inl rfl | exact .inr rfl)) (pgs_cons (pg_name (i := 8) C.nd rfl (by first | exact .inl rfl | exact .inr rfl)) pgs_nil)))))))
    (ds_cons (ds_set (i := 3) C.nd (d_call C (ok_throw_named Z) (by omega) (da_cons (d_var (i := 0)) (da_cons (d_var (i := 2)) da_nil))))
    (ds_cons (ds_set (i := 4) C.nd (d_bin o_sub (d_idx (d_var (i := 5)) (d_var (i := 6))) (d_idx (d_var (i := 3)) d_int)))
    (ds_cons (ds_if (PW.pt (dt_and (dt_cmp (o_eq C.hu) (d_var (i := 4)) d_int (nomark _)) (dt_and1 (dt_tru (d_idx (d_var (i := 3)) d_int))))) (ds_one (ds_ret (d_tup (da_cons (d_tup (da_cons (d_call C (ok_with_count Z) (by omega) (da_cons (d_var (i := 5)) (da_cons (d_var (i := 6)) (da_cons d_int da_nil)))) (da_cons (d_var (i := 6)) (da_cons (d_bin o_add (d_var (i := 7)) d_int) (da_cons (d_var (i := 8)) da_nil))))) (da_cons d_bl da_nil))))) ds_nil)
    (ds_cons (ds_if (dt_cmp o_le (d_var (i := 4)) d_int (nomark _)) (ds_one (ds_ret (d_tup (da_cons (d_call C (ok_turn_ended Z) (by omega) (da_cons (d_var (i := 0)) (da_cons (d_call C (ok_with_count Z) (by omega) (da_cons (d_var (i := 5)) (da_cons (d_var (i := 6)) (da_cons (d_var (i := 8)) da_nil)))) (da_cons (d_var (i := 6)) da_nil)))) (da_cons d_bl da_nil))))) ds_nil)
    (ds_cons (ds_set (i := 5) C.nd (d_call C (ok_with_count Z) (by omega) (da_cons (d_var (i := 5)) (da_cons (d_var (i := 6)) (da_cons (d_var (i := 4)) da_nil)))))
    (ds_cons (ds_if (dt_cmp (o_eq C.hu) (d_bin o_add (d_var (i := 7)) d_int) (d_idx (d_var (i := 0)) d_int) (nomark _)) (ds_one (ds_ret (d_tup (da_cons (d_call C (ok_turn_ended Z) (by omega) (da_cons (d_var (i := 0)) (da_cons (d_var (i := 5)) (da_cons (d_var (i := 6)) da_nil)))) (da_cons d_bl da_nil))))) ds_nil)
    (ds_one (ds_ret (d_tup (da_cons (d_tup (da_cons (d_var (i := 5)) (da_cons (d_var (i := 6)) (da_cons (d_bin o_add (d_var (i := 7)) d_int) (da_cons (d_var (i := 8)) da_nil))))) (da_cons d_bl da_nil))))))))))))))
theorem sc_lane_begun : FnScope ["lane"] ["lane"] (defScope st_lane_begun) := ⟨rfl, rfl, rfl, by decide +kernel, rfl, by decide +kernel, by decide +kernel⟩
theorem ok_lane_begun (Z : Facts K mg) : Callee P w K mg base "lane_begun" 1 (0 + 1) m_lane_begun :=
  okD (ps := ["lane"]) (k := 0) Z.fn_lane_begun sc_lane_begun Z.mg_lane_begun (fun _ _ _ _ _ _ us hl => match us, hl with | [_], _ => rfl) (fun cdv A outer s H E C => ((ds_one (ds_ret (d_tup (da_cons (d_bin o_mul (d_tup (da_cons (d_tup (da_cons d_int (da_cons d_int (da_cons (d_idx (d_var (i := 0)) d_int) (da_cons d_int (da_cons d_int (da_cons d_int (da_cons d_int da_nil)))))))) da_nil)) (d_idx (d_var (i := 0)) d_int)) (da_cons d_int da_nil)))))))
theorem sc_frame_behind : FnScope ["lane", "row", "near", "far", "earned"] ["lane", "row", "near", "far", "earned"] (defScope st_frame_behind) := ⟨rfl, rfl, rfl, by decide +kernel, rfl, by decide +kernel, by decide +kernel⟩
theorem ok_frame_behind (Z : Facts K mg) : Callee P w K mg base "frame_behind" 5 (0 + 1) m_frame_behind :=
  okD (ps := ["lane", "row", "near", "far", "earned"]) (k := 0) Z.fn_frame_behind sc_frame_behind Z.mg_frame_behind (fun _ _ _ _ _ _ us hl => match us, hl with | [_, _, _, _, _], _ => rfl) (fun cdv A outer s H E C => ((ds_cons (ds_if (PW.pt (dt_and (dt_cmp (o_eq C.hu) (d_idx (d_var (i := 1)) d_int) (d_bin o_sub (d_idx (d_var (i := 0)) d_int) d_int) (nomark _)) (dt_and1 (dt_cmp o_gt (d_var (i := 4)) d_int (nomark _))))) (ds_one (ds_ret (d_tup (da_cons (d_tup (da_cons (d_idx (d_var (i := 1)) d_int) (da_cons d_int (da_cons (d_idx (d_var (i := 0)) d_int) (da_cons (d_var (i := 2)) (da_cons (d_var (i := 3)) (da_cons (d_var (i := 4)) (da_cons (d_idx (d_var (i := 1)) d_int) da_nil)))))))) (da_cons d_bl da_nil))))) ds_nil)
    (ds_one (ds_ret (d_tup (da_cons (d_tup (da_cons (d_bin o_add (d_idx (d_var (i := 1)) d_int) d_int) (da_cons d_int (da_cons (d_idx (d_var (i := 0)) d_int) (da_cons (d_var (i := 2)) (da_cons (d_var (i := 3)) (da_cons d_int (da_cons (d_idx (d_var (i := 1)) d_int) da_nil)))))))) (da_cons d_bl da_nil))))))))
theorem sc_extra_behind : FnScope ["lane", "row", "up"] ["lane", "row"] (defScope st_extra_behind) := ⟨rfl, rfl, rfl, by decide +kernel, rfl, by decide +kernel, by decide +kernel⟩
theorem ok_extra_behind (Z : Facts K mg) : Callee P w K mg base "extra_behind" 2 (0 + 1) m_extra_behind :=
  okD (ps := ["lane", "row"]) (k := 0) Z.fn_extra_behind sc_extra_behind Z.mg_extra_behind (fun _ _ _ _ _ _ us hl => match us, hl with | [_, _], _ => rfl) (fun cdv A outer s H E C => ((ds_cons (ds_if (dt_cmp (o_eq C.hu) (d_idx (d_var (i := 1)) d_int) d_int (nomark _)) (ds_one (ds_ret (d_tup (da_cons (d_tup (da_cons (d_bin o_add (d_idx (d_var (i := 1)) d_int) d_int) (da_cons d_int (da_cons (d_idx (d_var (i := 0)) d_int) (da_cons (d_idx (d_var (i := 1)) d_int) (da_cons (d_idx (d_var (i := 1)) d_int) (da_cons d_int (da_cons (d_idx (d_var (i := 1)) d_int) da_nil)))))))) (da_cons d_bl da_nil))))) ds_nil)
    (ds_cons (ds_set (i := 2) C.nd (d_idx (d_var (i := 1)) d_int))
    (ds_cons (ds_if (dt_cmp (o_eq C.hu) (d_var (i := 2)) d_int (nomark _)) (ds_one (ds_set (i := 2) C.nd (d_idx (d_var (i := 0)) d_int))) ds_nil)
    (ds_one (ds_ret (d_tup (da_cons (d_tup (da_cons (d_idx (d_var (i := 1)) d_int) (da_cons d_int (da_cons (d_var (i := 2)) (da_cons (d_idx (d_var (i := 1)) d_int) (da_cons (d_idx (d_var (i := 1)) d_int) (da_cons (d_bin o_sub (d_idx (d_var (i := 1)) d_int) d_int) (da_cons (d_idx (d_var (i := 1)) d_int) da_nil)))))))) (da_cons d_bl da_nil))))))))))
theorem sc_row_behind : FnScope ["lane", "row", "pins", "total", "felled", "done", "ball", "up", "near", "far", "extra"] ["lane", "row", "pins"] (defScope st_row_behind) := ⟨rfl, rfl, rfl, by decide +kernel, rfl, by decide +kernel, by decide +kernel⟩
theorem ok_row_behind (Z : Facts K mg) : Callee P w K mg base "row_behind" 3 (1 + 1) m_row_behind :=
  okD (ps := ["lane", "row", "pins"]) (k := 1) Z.fn_row_behind sc_row_behind Z.mg_row_behind (fun _ _ _ _ _ _ us hl => match us, hl with | [_, _, _], _ => rfl) (fun cdv A outer s H E C => ((ds_cons (ds_asg (d_var (i := 1)) (dg_tup (pg_tup C.calm (pgs_cons (pg_name (i := 5) C.nd rfl (by first | exact .inl rfl | exact .inr rfl)) (pgs_cons (pg_name (i := 6) C.nd rfl (by first | exact .inl rfl | exact .inr rfl)) (pgs_cons (pg_name (i := 7) C.nd rfl (by first | exact .inl rfl | exact .inr rfl)) (pgs_cons (pg_name (i := 8) C.nd rfl (by first | exact .inl rfl | exact .inr rfl)) (pgs_cons (pg_name (i := 9) C.nd rfl (by first | exact .inl rfl | exact .inr rfl)) (pgs_cons (pg_name (i := 10) C.nd rfl (by first | exact .inl rfl | exact .inr rfl)) (pgs_cons (pg_name (i := 3) C.nd rfl (by first | exact .inl rfl | exact .inr rfl)) pgs_nil))))))))))
    (ds_cons (ds_set (i := 3) C.nd (d_bin o_add (d_var (i := 3)) (d_bin o_mul (d_var (i := 2)) (d_var (i := 8)))))
    (ds_cons (ds_if (dt_cmp o_gt (d_var (i := 10)) d_int (nomark _)) (ds_one (ds_ret (d_call C (ok_extra_behind Z) (by omega) (da_cons (d_var (i := 0)) (da_cons (d_tup (da_cons (d_var (i := 5)) (da_cons d_int (da_cons (d_bin o_sub (d_var (i := 7)) (d_var (i := 2))) (da_cons (d_var (i := 9)) (da_cons d_int (da_cons (d_var (i := 10)) (da_cons (d_var (i := 3)) da_nil)))))))) da_nil))))) ds_nil)
    (ds_cons (ds_set (i := 4) C.nd (d_tup (da_cons (d_var (i := 5)) (da_cons (d_bin o_add (d_var (i := 6)) d_int) (da_cons (d_bin o_sub (d_var (i := 7)) (d_var (i := 2))) (da_cons (d_var (i := 9)) (da_cons d_int (da_cons d_int (da_cons (d_bin o_add (d_var (i := 3)) (d_var (i := 2))) da_nil)))))))))
    (ds_cons (ds_if (PW.pt (dt_and (dt_cmp (o_eq C.hu) (d_var (i := 7)) (d_var (i := 2)) (nomark _)) (dt_and1 (dt_cmp (o_eq C.hu) (d_var (i := 6)) d_int (nomark _))))) (ds_one (ds_ret (d_call C (ok_frame_behind Z) (by omega) (da_cons (d_var (i := 0)) (da_cons (d_var (i := 4)) (da_cons (d_bin o_add (d_var (i := 9)) d_int) (da_cons d_int (da_cons d_int da_nil)))))))) ds_nil)
    (ds_cons (ds_if (dt_cmp (o_eq C.hu) (d_var (i := 7)) (d_var (i := 2)) (nomark _)) (ds_one (ds_ret (d_call C (ok_frame_behind Z) (by omega) (da_cons (d_var (i := 0)) (da_cons (d_var (i := 4)) (da_cons (d_bin o_add (d_var (i := 9)) d_int) (da_cons d_int (da_cons d_int da_nil)))))))) ds_nil)
    (ds_cons (ds_if (dt_cmp (o_eq C.hu) (d_var (i := 6)) d_int (nomark _)) (ds_one (ds_ret (d_call C (ok_frame_behind Z) (by omega) (da_cons (d_var (i := 0)) (da_cons (d_var (i := 4)) (da_cons (d_var (i := 9)) (da_cons d_int (da_cons d_int da_nil)))))))) ds_nil)
    (ds_one (ds_ret (d_tup (da_cons (d_var (i := 4)) (da_cons d_bl da_nil))))))))))))))
theorem sc_lane_bowled : FnScope ["lane", "stand", "pins", "rows", "side", "row", "ended", "one"] ["lane", "stand", "pins"] (defScope st_lane_bowled) := ⟨rfl, rfl, rfl, by decide +kernel, rfl, by decide +kernel, by decide +kernel⟩
theorem ok_lane_bowled (Z : Facts K mg) : Callee P w K mg base "lane_bowled" 3 (2 + 1) m_lane_bowled :=
  okD (ps := ["lane", "stand", "pins"]) (k := 2) Z.fn_lane_bowled sc_lane_bowled Z.mg_lane_bowled (fun _ _ _ _ _ _ us hl => match us, hl with | [_, _, _], _ => rfl) (fun cdv A outer s H E C => ((ds_cons (ds_asg (d_var (i := 1)) (dg_tup (pg_tup C.calm (pgs_cons (pg_name (i := 3) C.nd rfl (by first | exact .inl rfl | exact .inr rfl)) (pgs_cons (pg_name (i := 4) C.nd rfl (by first | exact .inl rfl | exact .inr rfl)) pgs_nil)))))
    (ds_cons (ds_if (dt_not (dt_tru (d_call C (ok_is_between Z) (by omega) (da_cons (d_var (i := 2)) (da_cons d_int (da_cons (d_idx (d_idx (d_var (i := 3)) (d_var (i := 4))) d_int) da_nil)))))) (ds_one (ds_raise C Z.ex_NoPins)) ds_nil)
    (ds_cons (ds_asg (d_call C (ok_row_behind Z) (by omega) (da_cons (d_var (i := 0)) (da_cons (d_idx (d_var (i := 3)) (d_var (i := 4))) (da_cons (d_var (i := 2)) da_nil)))) (dg_tup (pg_tup C.calm (pgs_cons (pg_name (i := 5) C.nd rfl (by first | exact .inl rfl | exact .inr rfl)) (pgs_cons (pg_name (i := 6) C.nd rfl (by first | exact .inl rfl | exact .inr rfl)) pgs_nil)))))
    (ds_cons (ds_set (i := 3) C.nd (d_bin o_add (d_bin o_add (d_sl (d_var (i := 3)) do_none (do_some (d_var (i := 4)))) (d_tup (da_cons (d_var (i := 5)) da_nil))) (d_sl (d_var (i := 3)) (do_some (d_bin o_add (d_var (i := 4)) d_int)) do_none)))
    (ds_cons (ds_if (dt_tru (d_var (i := 6))) (ds_one (ds_set (i := 4) C.nd (d_bin o_mod (d_bin o_add (d_var (i := 4)) d_int) (d_idx (d_var (i := 0)) d_int)))) ds_nil)
    (ds_one (ds_ret (d_tup (da_cons (d_tup (da_cons (d_var (i := 3)) (da_cons (d_var (i := 4)) da_nil))) (da_cons (d_callB (c_all C.calm) rfl Z.no_all (by decide +kernel) (da_cons (d_comp (i := 7) C (di_any (d_var (i := 3))) (blkOk_by (by kernel_rfl)) (fun _ _ _ _ _ => pg_name (i := 7) C.nd rfl (Or.inl rfl)) (fun _ _ _ _ _ C1 => dts_nil) (fun _ _ _ _ _ C1 => (d_cmp (o_eq C1.hu) (d_idx (d_var (i := 7)) d_int) (d_idx (d_var (i := 0)) d_int) (nomark _)))) da_nil)) da_nil))))))))))))
theorem sc_best_of : FnScope ["stand", "totals", "row", "side"] ["stand"] (defScope st_best_of) := ⟨rfl, rfl, rfl, by decide +kernel, rfl, by decide +kernel, by decide +kernel⟩
theorem ok_best_of (Z : Facts K mg) : Callee P w K mg base "best_of" 1 (0 + 1) m_best_of :=
  okD (ps := ["stand"]) (k := 0) Z.fn_best_of sc_best_of Z.mg_best_of (fun _ _ _ _ _ _ us hl => match us, hl with | [_], _ => rfl) (fun cdv A outer s H E C => ((ds_cons (ds_set (i := 1) C.nd (d_comp (i := 2) C (di_any (d_idx (d_var (i := 0)) d_int)) (blkOk_by (by kernel_rfl)) (fun _ _ _ _ _ => pg_name (i := 2) C.nd rfl (Or.inl rfl)) (fun _ _ _ _ _ C1 => dts_nil) (fun _ _ _ _ _ C1 => (d_idx (d_var (i := 2)) d_int))))
    (ds_one (ds_ret (d_callTy c_tuple rfl Z.no_tuple boot_tuple (da_cons (d_comp (i := 3) C (di_range1 Z.no_range (d_callB c_len rfl Z.no_len boot_len (da_cons (d_var (i := 1)) da_nil))) (blkOk_by (by kernel_rfl)) (fun _ _ _ _ _ => pg_name (i := 3) C.nd rfl (Or.inl rfl)) (fun _ _ _ _ _ C1 => (dts_one (dt_cmp (o_eq C1.hu) (d_idx (d_var (i := 1)) (d_var (i := 3))) (d_callB (c_max C1.calm) rfl Z.no_max boot_max (da_cons (d_var (i := 1)) da_nil)) (nomark _)))) (fun _ _ _ _ _ C1 => (d_var (i := 3)))) da_nil)))))))
theorem sc_rule_within : FnScope ["rule", "zero", "one"] ["rule", "zero", "one"] (defScope st_rule_within) := ⟨rfl, rfl, rfl, by decide +kernel, rfl, by decide +kernel, by decide +kernel⟩
theorem ok_rule_within (Z : Facts K mg) : Callee P w K mg base "rule_within" 3 (0 + 1) m_rule_within :=
  okD (ps := ["rule", "zero", "one"]) (k := 0) Z.fn_rule_within sc_rule_within Z.mg_rule_within (fun _ _ _ _ _ _ us hl => match us, hl with | [_, _, _], _ => rfl) (fun cdv A outer s H E C => ((ds_cons (ds_if (PW.pt (dt_and (dt_cmp o_isNot (d_idx (d_var (i := 0)) d_int) d_non (nomark _)) (dt_and (dt_cmp (o_eq C.hu) (d_var (i := 1)) (d_bin o_sub (d_idx (d_var (i := 0)) d_int) d_int) (nomark _)) (dt_and1 (dt_cmp (o_eq C.hu) (d_var (i := 2)) (d_bin o_sub (d_idx (d_var (i := 0)) d_int) d_int) (nomark _)))))) (ds_one (ds_ret (d_idx (d_var (i := 0)) d_int))) ds_nil)
    (ds_one (ds_ret (d_idx (d_var (i := 0)) d_int))))))
theorem sc_begun : FnScope ["rule"] ["rule"] (defScope st_begun) := ⟨rfl, rfl, rfl, by decide +kernel, rfl, by decide +kernel, by decide +kernel⟩
theorem st1_begun (Z : Facts K mg) (n : Nat) {r_begun : Fn} (R_begun : Callee P w K mg base "begun" 1 (1 + n) r_begun) : Callee P w K mg base "begun" 1 (1 + n + 1) (fnD 1 1 (b_begun r_begun)) :=
  okD (ps := ["rule"]) (k := 1 + n) Z.fn_begun sc_begun Z.mg_begun (fun _ _ _ _ _ _ us hl => match us, hl with | [_], _ => rfl) (fun cdv A outer s H E C => ((ds_cons (ds_if (dt_cmp (o_eq C.hu) (d_var (i := 0)) (d_glob Z.gl_POINT) (nomark _)) (ds_one (ds_ret (d_tup da_nil))) ds_nil)
    (ds_one (ds_ret (d_tup (da_cons d_int (da_cons d_int (da_cons (d_call C R_begun (by omega) (da_cons (d_call C (ok_rule_within Z) (by omega) (da_cons (d_var (i := 0)) (da_cons d_int (da_cons d_int da_nil)))) da_nil)) da_nil)))))))))
theorem ok_begun (Z : Facts K mg) : ∀ n : Nat, Callee P w K mg base "begun" 1 (1 + n) (m_begun n)
  | 0 => noD (ps := ["rule"]) Z.fn_begun Z.mg_begun (fun _ _ _ _ _ _ us hl => match us, hl with | [_], _ => rfl)
  | n + 1 => st1_begun Z n (ok_begun Z n)
theorem sc_is_won : FnScope ["rule", "own", "other"] ["rule", "own", "other"] (defScope st_is_won) := ⟨rfl, rfl, rfl, by decide +kernel, rfl, by decide +kernel, by decide +kernel⟩
theorem ok_is_won (Z : Facts K mg) : Callee P w K mg base "is_won" 3 (0 + 1) m_is_won :=
  okD (ps := ["rule", "own", "other"]) (k := 0) Z.fn_is_won sc_is_won Z.mg_is_won (fun _ _ _ _ _ _ us hl => match us, hl with | [_, _, _], _ => rfl) (fun cdv A outer s H E C => ((ds_cons (ds_if (PW.pt (dt_and (dt_cmp o_isNot (d_idx (d_var (i := 0)) d_int) d_non (nomark _)) (dt_and1 (dt_cmp (o_eq C.hu) (d_var (i := 1)) (d_idx (d_var (i := 0)) d_int) (nomark _))))) (ds_one (ds_ret d_bl)) ds_nil)
    (ds_one (ds_ret (d_and (d_cmp o_ge (d_var (i := 1)) (d_idx (d_var (i := 0)) d_int) (nomark _)) (d_one (d_cmp o_ge (d_bin o_sub (d_var (i := 1)) (d_var (i := 2))) (d_idx (d_var (i := 0)) d_int) (nomark _)))))))))
theorem sc_rallied : FnScope ["rule", "stand", "side", "counts", "within", "won"] ["rule", "stand", "side"] (defScope st_rallied) := ⟨rfl, rfl, rfl, by decide +kernel, rfl, by decide +kernel, by decide +kernel⟩
theorem st1_rallied (Z : Facts K mg) (n : Nat) {r_rallied : Fn} (R_rallied : Callee P w K mg base "rallied" 3 (15 + n) r_rallied) : Callee P w K mg base "rallied" 3 (15 + n + 1) (fnD 3 6 (b_rallied r_rallied)) :=
  okD (ps := ["rule", "stand", "side"]) (k := 15 + n) Z.fn_rallied sc_rallied Z.mg_rallied (fun _ _ _ _ _ _ us hl => match us, hl with | [_, _, _], _ => rfl) (fun cdv A outer s H E C => ((ds_cons (ds_if (dt_cmp (o_eq C.hu) (d_var (i := 0)) (d_glob Z.gl_POINT) (nomark _)) (ds_one (ds_ret (d_tup (da_cons (d_tup da_nil) (da_cons d_bl da_nil))))) ds_nil)
    (ds_cons (ds_set (i := 3) C.nd (d_lst (da_cons (d_idx (d_var (i := 1)) d_int) (da_cons (d_idx (d_var (i := 1)) d_int) da_nil))))
    (ds_cons (ds_asg (d_call C R_rallied (by omega) (da_cons (d_call C (ok_rule_within Z) (by omega) (da_cons (d_var (i := 0)) (da_cons (d_idx (d_var (i := 1)) d_int) (da_cons (d_idx (d_var (i := 1)) d_int) da_nil)))) (da_cons (d_idx (d_var (i := 1)) d_int) (da_cons (d_var (i := 2)) da_nil)))) (dg_tup (pg_tup C.calm (pgs_cons (pg_name (i := 4) C.nd rfl (by first | exact .inl rfl | exact .inr rfl)) (pgs_cons (pg_name (i := 5) C.nd rfl (by first | exact .inl rfl | exact .inr rfl)) pgs_nil)))))
    (ds_cons (ds_if (dt_tru (d_var (i := 5))) (ds_cons (ds_sub (d_var (i := 3)) (d_var (i := 2)) (d_bin o_add (d_idx (d_var (i := 3)) (d_var (i := 2))) d_int))
    (ds_cons (ds_if (dt_tru (d_call C (ok_is_won Z) (by omega) (da_cons (d_var (i := 0)) (da_cons (d_idx (d_var (i := 3)) (d_var (i := 2))) (da_cons (d_idx (d_var (i := 3)) (d_bin o_sub d_int (d_var (i := 2)))) da_nil))))) (ds_one (ds_ret (d_tup (da_cons (d_tup (da_cons (d_idx (d_var (i := 3)) d_int) (da_cons (d_idx (d_var (i := 3)) d_int) (da_cons (d_tup da_nil) da_nil)))) (da_cons d_bl da_nil))))) ds_nil)
    (ds_one (ds_set (i := 4) C.nd (d_call C (ok_begun Z 14) (by omega) (da_cons (d_call C (ok_rule_within Z) (by omega) (da_cons (d_var (i := 0)) (da_cons (d_idx (d_var (i := 3)) d_int) (da_cons (d_idx (d_var (i := 3)) d_int) da_nil)))) da_nil)))))) ds_nil)
    (ds_one (ds_ret (d_tup (da_cons (d_tup (da_cons (d_idx (d_var (i := 3)) d_int) (da_cons (d_idx (d_var (i := 3)) d_int) (da_cons (d_var (i := 4)) da_nil)))) (da_cons d_bl da_nil)))))))))))
theorem ok_rallied (Z : Facts K mg) : ∀ n : Nat, Callee P w K mg base "rallied" 3 (15 + n) (m_rallied n)
  | 0 => noD (ps := ["rule", "stand", "side"]) Z.fn_rallied Z.mg_rallied (fun _ _ _ _ _ _ us hl => match us, hl with | [_, _, _], _ => rfl)
  | n + 1 => st1_rallied Z n (ok_rallied Z n)
theorem sc_cut : FnScope ["rule", "stand", "less", "zero", "one", "within"] ["rule", "stand"] (defScope st_cut) := ⟨rfl, rfl, rfl, by decide +kernel, rfl, by decide +kernel, by decide +kernel⟩
theorem st1_cut (Z : Facts K mg) (n : Nat) {r_cut : Fn} (R_cut : Callee P w K mg base "cut" 2 (1 + n) r_cut) : Callee P w K mg base "cut" 2 (1 + n + 1) (fnD 2 6 (b_cut r_cut)) :=
  okD (ps := ["rule", "stand"]) (k := 1 + n) Z.fn_cut sc_cut Z.mg_cut (fun _ _ _ _ _ _ us hl => match us, hl with | [_, _], _ => rfl) (fun cdv A outer s H E C => ((ds_cons (ds_if (dt_cmp (o_eq C.hu) (d_var (i := 0)) (d_glob Z.gl_POINT) (nomark _)) (ds_one (ds_ret (d_tup da_nil))) ds_nil)
    (ds_cons (ds_asg (d_var (i := 1)) (dg_tup (pg_tup C.calm (pgs_cons (pg_name (i := 3) C.nd rfl (by first | exact .inl rfl | exact .inr rfl)) (pgs_cons (pg_name (i := 4) C.nd rfl (by first | exact .inl rfl | exact .inr rfl)) (pgs_cons (pg_name (i := 5) C.nd rfl (by first | exact .inl rfl | exact .inr rfl)) pgs_nil))))))
    (ds_cons (ds_if (dt_cmp (o_ne C.hu) (d_var (i := 5)) (d_tup da_nil) (nomark _)) (ds_one (ds_set (i := 5) C.nd (d_call C R_cut (by omega) (da_cons (d_call C (ok_rule_within Z) (by omega) (da_cons (d_var (i := 0)) (da_cons (d_var (i := 3)) (da_cons (d_var (i := 4)) da_nil)))) (da_cons (d_var (i := 5)) da_nil))))) ds_nil)
    (ds_cons (ds_set (i := 2) C.nd d_int)
    (ds_cons (ds_if (dt_cmp o_is (d_idx (d_var (i := 0)) d_int) d_non (nomark _)) (ds_one (ds_set (i := 2) C.nd (d_callB (c_max2 C.calm) rfl Z.no_max boot_max (da_cons d_int (da_cons (d_bin o_add (d_bin o_sub (d_callB (c_min2 C.calm) rfl Z.no_min boot_min (da_cons (d_var (i := 3)) (da_cons (d_var (i := 4)) da_nil))) (d_idx (d_var (i := 0)) d_int)) d_int) da_nil))))) ds_nil)
    (ds_one (ds_ret (d_tup (da_cons (d_bin o_sub (d_var (i := 3)) (d_var (i := 2))) (da_cons (d_bin o_sub (d_var (i := 4)) (d_var (i := 2))) (da_cons (d_var (i := 5)) da_nil)))))))))))))
theorem ok_cut (Z : Facts K mg) : ∀ n : Nat, Callee P w K mg base "cut" 2 (1 + n) (m_cut n)
  | 0 => noD (ps := ["rule", "stand"]) Z.fn_cut Z.mg_cut (fun _ _ _ _ _ _ us hl => match us, hl with | [_, _], _ => rfl)
  | n + 1 => st1_cut Z n (ok_cut Z n)
theorem sc_first : FnScope ["game"] ["game"] (defScope st_first) := ⟨rfl, rfl, rfl, by decide +kernel, rfl, by decide +kernel, by decide +kernel⟩
theorem ok_first (Z : Facts K mg) : Callee P w K mg base "first" 1 (15 + 1) m_first :=
  okD (ps := ["game"]) (k := 15) Z.fn_first sc_first Z.mg_first (fun _ _ _ _ _ _ us hl => match us, hl with | [_], _ => rfl) (fun cdv A outer s H E C => ((ds_cons (ds_if (dt_cmp (o_eq C.hu) (d_idx (d_var (i := 0)) d_int) d_str (nomark _)) (ds_one (ds_ret (d_tup (da_cons (d_call C (ok_begun Z 14) (by omega) (da_cons (d_idx (d_var (i := 0)) d_int) da_nil)) (da_cons d_non da_nil))))) ds_nil)
    (ds_cons (ds_if (dt_cmp (o_eq C.hu) (d_idx (d_var (i := 0)) d_int) d_str (nomark _)) (ds_one (ds_ret (d_tup (da_cons (d_call C (ok_down_begun Z) (by omega) (da_cons (d_idx (d_var (i := 0)) d_int) da_nil)) (da_cons d_non da_nil))))) ds_nil)
    (ds_one (ds_ret (d_tup (da_cons (d_call C (ok_lane_begun Z) (by omega) (da_cons (d_idx (d_var (i := 0)) d_int) da_nil)) (da_cons d_non da_nil)))))))))
theorem sc_rally_played : FnScope ["rule", "stand", "deed", "found", "won"] ["rule", "stand", "deed"] (defScope st_rally_played) := ⟨rfl, rfl, rfl, by decide +kernel, rfl, by decide +kernel, by decide +kernel⟩
theorem ok_rally_played (Z : Facts K mg) : Callee P w K mg base "rally_played" 3 (29 + 1) m_rally_played :=
  okD (ps := ["rule", "stand", "deed"]) (k := 29) Z.fn_rally_played sc_rally_played Z.mg_rally_played (fun _ _ _ _ _ _ us hl => match us, hl with | [_, _, _], _ => rfl) (fun cdv A outer s H E C => ((ds_cons (ds_if (dt_not (dt_tru (d_call C (ok_is_between Z) (by omega) (da_cons (d_var (i := 2)) (da_cons d_int (da_cons d_int da_nil)))))) (ds_one (ds_raise C Z.ex_NoSide)) ds_nil)
    (ds_cons (ds_asg (d_call C (ok_rallied Z 14) (by omega) (da_cons (d_var (i := 0)) (da_cons (d_var (i := 1)) (da_cons (d_var (i := 2)) da_nil)))) (dg_tup (pg_tup C.calm (pgs_cons (pg_name (i := 3) C.nd rfl (by first | exact .inl rfl | exact .inr rfl)) (pgs_cons (pg_name (i := 4) C.nd rfl (by first | exact .inl rfl | exact .inr rfl)) pgs_nil)))))
    (ds_cons (ds_if (dt_tru (d_var (i := 4))) (ds_one (ds_ret (d_tup (da_cons (d_var (i := 3)) (da_cons (d_tup (da_cons (d_var (i := 2)) da_nil)) da_nil))))) ds_nil)
    (ds_one (ds_ret (d_tup (da_cons (d_var (i := 3)) (da_cons d_non da_nil))))))))))
theorem sc_down_played : FnScope ["down", "stand", "deed", "found", "won"] ["down", "stand", "deed"] (defScope st_down_played) := ⟨rfl, rfl, rfl, by decide +kernel, rfl, by decide +kernel, by decide +kernel⟩
theorem ok_down_played (Z : Facts K mg) : Callee P w K mg base "down_played" 3 (2 + 1) m_down_played :=
  okD (ps := ["down", "stand", "deed"]) (k := 2) Z.fn_down_played sc_down_played Z.mg_down_played (fun _ _ _ _ _ _ us hl => match us, hl with | [_, _, _], _ => rfl) (fun cdv A outer s H E C => ((ds_cons (ds_asg (d_call C (ok_down_thrown Z) (by omega) (da_cons (d_var (i := 0)) (da_cons (d_var (i := 1)) (da_cons (d_var (i := 2)) da_nil)))) (dg_tup (pg_tup C.calm (pgs_cons (pg_name (i := 3) C.nd rfl (by first | exact .inl rfl | exact .inr rfl)) (pgs_cons (pg_name (i := 4) C.nd rfl (by first | exact .inl rfl | exact .inr rfl)) pgs_nil)))))
    (ds_cons (ds_if (dt_tru (d_var (i := 4))) (ds_one (ds_ret (d_tup (da_cons (d_var (i := 3)) (da_cons (d_tup (da_cons (d_idx (d_var (i := 3)) d_int) da_nil)) da_nil))))) ds_nil)
    (ds_one (ds_ret (d_tup (da_cons (d_var (i := 3)) (da_cons d_non da_nil)))))))))
theorem sc_lane_played : FnScope ["lane", "stand", "deed", "found", "over"] ["lane", "stand", "deed"] (defScope st_lane_played) := ⟨rfl, rfl, rfl, by decide +kernel, rfl, by decide +kernel, by decide +kernel⟩
theorem ok_lane_played (Z : Facts K mg) : Callee P w K mg base "lane_played" 3 (3 + 1) m_lane_played :=
  okD (ps := ["lane", "stand", "deed"]) (k := 3) Z.fn_lane_played sc_lane_played Z.mg_lane_played (fun _ _ _ _ _ _ us hl => match us, hl with | [_, _, _], _ => rfl) (fun cdv A outer s H E C => ((ds_cons (ds_asg (d_call C (ok_lane_bowled Z) (by omega) (da_cons (d_var (i := 0)) (da_cons (d_var (i := 1)) (da_cons (d_var (i := 2)) da_nil)))) (dg_tup (pg_tup C.calm (pgs_cons (pg_name (i := 3) C.nd rfl (by first | exact .inl rfl | exact .inr rfl)) (pgs_cons (pg_name (i := 4) C.nd rfl (by first | exact .inl rfl | exact .inr rfl)) pgs_nil)))))
    (ds_cons (ds_if (dt_tru (d_var (i := 4))) (ds_one (ds_ret (d_tup (da_cons (d_var (i := 3)) (da_cons (d_call C (ok_best_of Z) (by omega) (da_cons (d_var (i := 3)) da_nil)) da_nil))))) ds_nil)
    (ds_one (ds_ret (d_tup (da_cons (d_var (i := 3)) (da_cons d_non da_nil)))))))))
theorem sc_played : FnScope ["game", "stand", "deed"] ["game", "stand", "deed"] (defScope st_played) := ⟨rfl, rfl, rfl, by decide +kernel, rfl, by decide +kernel, by decide +kernel⟩
theorem ok_played (Z : Facts K mg) : Callee P w K mg base "played" 3 (30 + 1) m_played :=
  okD (ps := ["game", "stand", "deed"]) (k := 30) Z.fn_played sc_played Z.mg_played (fun _ _ _ _ _ _ us hl => match us, hl with | [_, _, _], _ => rfl) (fun cdv A outer s H E C => ((ds_cons (ds_if (dt_cmp o_isNot (d_idx (d_var (i := 1)) d_int) d_non (nomark _)) (ds_one (ds_raise C Z.ex_Over)) ds_nil)
    (ds_cons (ds_if (dt_cmp (o_eq C.hu) (d_idx (d_var (i := 0)) d_int) d_str (nomark _)) (ds_one (ds_ret (d_call C (ok_rally_played Z) (by omega) (da_cons (d_idx (d_var (i := 0)) d_int) (da_cons (d_idx (d_var (i := 1)) d_int) (da_cons (d_var (i := 2)) da_nil)))))) ds_nil)
    (ds_cons (ds_if (dt_cmp (o_eq C.hu) (d_idx (d_var (i := 0)) d_int) d_str (nomark _)) (ds_one (ds_ret (d_call C (ok_down_played Z) (by omega) (da_cons (d_idx (d_var (i := 0)) d_int) (da_cons (d_idx (d_var (i := 1)) d_int) (da_cons (d_var (i := 2)) da_nil)))))) ds_nil)
    (ds_one (ds_ret (d_call C (ok_lane_played Z) (by omega) (da_cons (d_idx (d_var (i := 0)) d_int) (da_cons (d_idx (d_var (i := 1)) d_int) (da_cons (d_var (i := 2)) da_nil)))))))))))
theorem sc_place_of : FnScope ["game", "stand"] ["game", "stand"] (defScope st_place_of) := ⟨rfl, rfl, rfl, by decide +kernel, rfl, by decide +kernel, by decide +kernel⟩
theorem ok_place_of (Z : Facts K mg) : Callee P w K mg base "place_of" 2 (15 + 1) m_place_of :=
  okD (ps := ["game", "stand"]) (k := 15) Z.fn_place_of sc_place_of Z.mg_place_of (fun _ _ _ _ _ _ us hl => match us, hl with | [_, _], _ => rfl) (fun cdv A outer s H E C => ((ds_cons (ds_if (dt_cmp (o_eq C.hu) (d_idx (d_var (i := 0)) d_int) d_str (nomark _)) (ds_one (ds_ret (d_tup (da_cons (d_call C (ok_cut Z 14) (by omega) (da_cons (d_idx (d_var (i := 0)) d_int) (da_cons (d_idx (d_var (i := 1)) d_int) da_nil))) (da_cons (d_idx (d_var (i := 1)) d_int) da_nil))))) ds_nil)
    (ds_one (ds_ret (d_var (i := 1)))))))
theorem sc_row_to : FnScope ["came", "place", "row", "deed"] ["came", "place"] (defScope st_row_to) := ⟨rfl, rfl, rfl, by decide +kernel, rfl, by decide +kernel, by decide +kernel⟩
theorem ok_row_to (Z : Facts K mg) : Callee P w K mg base "row_to" 2 (0 + 1) m_row_to :=
  okD (ps := ["came", "place"]) (k := 0) Z.fn_row_to sc_row_to Z.mg_row_to (fun _ _ _ _ _ _ us hl => match us, hl with | [_, _], _ => rfl) (fun cdv A outer s H E C => ((ds_cons (ds_set (i := 2) C.nd (d_lst da_nil))
    (ds_cons (ds_while 100000 C (dt_cmp o_isNot (d_get C.hu9 (d_var (i := 0)) (d_var (i := 1))) d_non (nomark _)) (ds_cons (ds_asg (d_get C.hu9 (d_var (i := 0)) (d_var (i := 1))) (dg_tup (pg_tup C.calm (pgs_cons (pg_name (i := 1) C.nd rfl (by first | exact .inl rfl | exact .inr rfl)) (pgs_cons (pg_name (i := 3) C.nd rfl (by first | exact .inl rfl | exact .inr rfl)) pgs_nil)))))
    (ds_one (ds_expr (d_meth PySem.F.plainAttrs_list PySem.F.slot_list_append PySem.F.type_list_append m_append (d_var (i := 2)) (da_cons (d_var (i := 3)) da_nil))))))
    (ds_cons (ds_expr (d_meth0 PySem.F.plainAttrs_list PySem.F.slot_list_reverse PySem.F.type_list_reverse m_reverse (d_var (i := 2))))
    (ds_one (ds_ret (d_var (i := 2)))))))))
theorem sc_over_of : FnScope ["pair"] ["pair"] (defScope st_over_of) := ⟨rfl, rfl, rfl, by decide +kernel, rfl, by decide +kernel, by decide +kernel⟩
theorem ok_over_of (Z : Facts K mg) : Callee P w K mg base "over_of" 1 (0 + 1) m_over_of :=
  okD (ps := ["pair"]) (k := 0) Z.fn_over_of sc_over_of Z.mg_over_of (fun _ _ _ _ _ _ us hl => match us, hl with | [_], _ => rfl) (fun cdv A outer s H E C => ((ds_one (ds_ret (d_tup (da_cons (d_cmp o_isNot (d_idx (d_idx (d_var (i := 0)) d_int) d_int) d_non (nomark _)) (da_cons (d_cmp o_isNot (d_idx (d_idx (d_var (i := 0)) d_int) d_int) d_non (nomark _)) da_nil)))))))
theorem sc_pair_behind : FnScope ["games", "pair", "side", "one"] ["games", "pair", "side"] (defScope st_pair_behind) := ⟨rfl, rfl, rfl, by decide +kernel, rfl, by decide +kernel, by decide +kernel⟩
theorem ok_pair_behind (Z : Facts K mg) : Callee P w K mg base "pair_behind" 3 (31 + 1) m_pair_behind :=
  okD (ps := ["games", "pair", "side"]) (k := 31) Z.fn_pair_behind sc_pair_behind Z.mg_pair_behind (fun _ _ _ _ _ _ us hl => match us, hl with | [_, _, _], _ => rfl) (fun cdv A outer s H E C => ((ds_cons (ds_set (i := 3) C.nd (d_call C (ok_place_of Z) (by omega) (da_cons (d_idx (d_var (i := 0)) d_int) (da_cons (d_call C (ok_played Z) (by omega) (da_cons (d_idx (d_var (i := 0)) d_int) (da_cons (d_idx (d_var (i := 1)) d_int) (da_cons (d_var (i := 2)) da_nil)))) da_nil))))
    (ds_one (ds_ret (d_tup (da_cons (d_var (i := 3)) (da_cons (d_call C (ok_place_of Z) (by omega) (da_cons (d_idx (d_var (i := 0)) d_int) (da_cons (d_call C (ok_played Z) (by omega) (da_cons (d_idx (d_var (i := 0)) d_int) (da_cons (d_idx (d_var (i := 1)) d_int) (da_cons (d_var (i := 2)) da_nil)))) da_nil))) da_nil))))))))
theorem sc_alike : FnScope ["one", "other", "limit", "games", "begin", "line", "came", "at", "pair", "side", "later"] ["one", "other", "limit"] (defScope st_alike) := ⟨rfl, rfl, rfl, by decide +kernel, rfl, by decide +kernel, by decide +kernel⟩
theorem okp_alike (Z : Facts K mg) : CalleeF P w K mg base "alike" 3 (32 + 1) [(.int 1000)] m_alike ∧ Callee P w K mg base "alike" 3 (32 + 1) m_alike :=
  okDd (ps := ["one", "other", "limit"]) (k := 32) (fun _ _ => .int _) Z.fn_alike sc_alike Z.mg_alike 2 rfl (fun _ _ _ _ _ _ _ us its h1 h2 => match us, its, h1, h2 with | [_, _], [_], _, _ => ⟨_, rfl, rfl⟩) (fun _ _ _ _ _ _ _ us its h1 h2 => match us, its, h1, h2 with | [_, _, _], [_], _, _ => ⟨_, rfl, rfl⟩) (fun cdv A outer s H E C => ((ds_cons (ds_set (i := 3) C.nd (d_tup (da_cons (d_tup (da_cons d_str (da_cons (d_var (i := 0)) da_nil))) (da_cons (d_tup (da_cons d_str (da_cons (d_var (i := 1)) da_nil))) da_nil))))
    (ds_cons (ds_set (i := 4) C.nd (d_tup (da_cons (d_call C (ok_place_of Z) (by omega) (da_cons (d_idx (d_var (i := 3)) d_int) (da_cons (d_call C (ok_first Z) (by omega) (da_cons (d_idx (d_var (i := 3)) d_int) da_nil)) da_nil))) (da_cons (d_call C (ok_place_of Z) (by omega) (da_cons (d_idx (d_var (i := 3)) d_int) (da_cons (d_call C (ok_first Z) (by omega) (da_cons (d_idx (d_var (i := 3)) d_int) da_nil)) da_nil))) da_nil))))
    (ds_cons (ds_set (i := 5) C.nd (d_lst (da_cons (d_var (i := 4)) da_nil)))
    (ds_cons (ds_set (i := 6) C.nd (d_done C.hu9 (d_var (i := 4)) d_non))
    (ds_cons (ds_set (i := 7) C.nd d_int)
    (ds_cons (ds_while 100000 C (dt_cmp o_lt (d_var (i := 7)) (d_callB c_len rfl Z.no_len boot_len (da_cons (d_var (i := 5)) da_nil)) (nomark _)) (ds_cons (ds_set (i := 8) C.nd (d_idx (d_var (i := 5)) (d_var (i := 7))))
    (ds_cons (ds_if (dt_cmp (o_eq C.hu) (d_call C (ok_over_of Z) (by omega) (da_cons (d_var (i := 8)) da_nil)) (d_tup (da_cons d_bl (da_cons d_bl da_nil))) (nomark _)) (ds_one (ds_for C (di_any (d_tup (da_cons d_int (da_cons d_int da_nil)))) (dg_name (i := 9) C.nd) (ds_cons (ds_set (i := 10) C.nd (d_call C (ok_pair_behind Z) (by omega) (da_cons (d_var (i := 3)) (da_cons (d_var (i := 8)) (da_cons (d_var (i := 9)) da_nil)))))
    (ds_one (ds_if (dt_cmp (o_notInD C.hu9) (d_var (i := 10)) (d_var (i := 6)) (by with_unfolding_all rfl)) (ds_cons (ds_if (dt_cmp (o_eq C.hu) (d_callB c_len rfl Z.no_len boot_len (da_cons (d_var (i := 5)) da_nil)) (d_var (i := 2)) (nomark _)) (ds_one (ds_raise C Z.ex_TooMany)) ds_nil)
    (ds_cons (ds_subD C.hu9 (d_var (i := 6)) (d_var (i := 10)) (d_tup (da_cons (d_var (i := 8)) (da_cons (d_var (i := 9)) da_nil))))
    (ds_one (ds_expr (d_meth PySem.F.plainAttrs_list PySem.F.slot_list_append PySem.F.type_list_append m_append (d_var (i := 5)) (da_cons (d_var (i := 10)) da_nil)))))) ds_nil))))) ds_nil)
    (ds_one (ds_set (i := 7) C.nd (d_bin o_add (d_var (i := 7)) d_int))))))
    (ds_cons (ds_for C (di_any (d_var (i := 5))) (dg_name (i := 8) C.nd) (ds_one (ds_if (dt_cmp (o_inT C.hu65) (d_call C (ok_over_of Z) (by omega) (da_cons (d_var (i := 8)) da_nil)) (d_tup (da_cons (d_tup (da_cons d_bl (da_cons d_bl da_nil))) (da_cons (d_tup (da_cons d_bl (da_cons d_bl da_nil))) da_nil))) (by with_unfolding_all rfl)) (ds_one (ds_ret (d_tup (da_cons d_str (da_cons (d_call C (ok_row_to Z) (by omega) (da_cons (d_var (i := 6)) (da_cons (d_var (i := 8)) da_nil))) da_nil))))) ds_nil)))
    (ds_one (ds_ret (d_tup (da_cons d_str (da_cons (d_var (i := 5)) da_nil))))))))))))))
theorem ok_alike (Z : Facts K mg) : Callee P w K mg base "alike" 3 (32 + 1) m_alike := (okp_alike Z).2
theorem sc_l_cell_at : FnScope ["_law_script", "_law_k"] ["_law_script", "_law_k"] (defScope st_l_cell_at) := ⟨rfl, rfl, rfl, by decide +kernel, rfl, by decide +kernel, by decide +kernel⟩
theorem ok_l_cell_at (Z : Facts K mg) : Callee P w K mg base "_law_cell_at" 2 (0 + 1) m_l_cell_at :=
  okD (ps := ["_law_script", "_law_k"]) (k := 0) Z.fn_l_cell_at sc_l_cell_at Z.mg_l_cell_at (fun _ _ _ _ _ _ us hl => match us, hl with | [_, _], _ => rfl) (fun cdv A outer s H E C => ((ds_cons (ds_if (dt_cmp o_lt (d_var (i := 1)) (d_callB c_len rfl Z.no_len boot_len (da_cons (d_var (i := 0)) da_nil)) (nomark _)) (ds_one (ds_ret (d_idx (d_var (i := 0)) (d_var (i := 1))))) ds_nil)
    (ds_one (ds_ret d_int)))))
theorem sc_l_draws : FnScope ["_law_cell", "_law_many", "_law_found", "_law_number", "_law_k"] ["_law_cell", "_law_many"] (defScope st_l_draws) := ⟨rfl, rfl, rfl, by decide +kernel, rfl, by decide +kernel, by decide +kernel⟩
theorem ok_l_draws (Z : Facts K mg) : Callee P w K mg base "_law_draws" 2 (0 + 1) m_l_draws :=
  okD (ps := ["_law_cell", "_law_many"]) (k := 0) Z.fn_l_draws sc_l_draws Z.mg_l_draws (fun _ _ _ _ _ _ us hl => match us, hl with | [_, _], _ => rfl) (fun cdv A outer s H E C => ((ds_cons (ds_set (i := 2) C.nd (d_lst da_nil))
    (ds_cons (ds_if (dt_cmp (o_eq C.hu) (d_bin o_mod (d_var (i := 0)) d_int) d_int (nomark _)) (ds_cons (ds_set (i := 3) C.nd (d_bin o_fdiv (d_var (i := 0)) d_int))
    (ds_cons (ds_for C (di_range1 Z.no_range (d_var (i := 1))) (dg_name (i := 4) C.nd) (ds_cons (ds_expr (d_meth PySem.F.plainAttrs_list PySem.F.slot_list_append PySem.F.type_list_append m_append (d_var (i := 2)) (da_cons (d_bin o_mod (d_var (i := 3)) d_int) da_nil)))
    (ds_one (ds_set (i := 3) C.nd (d_bin o_fdiv (d_var (i := 3)) d_int)))))
    (ds_one (ds_ret (d_var (i := 2)))))) ds_nil)
    (ds_cons (ds_set (i := 3) C.nd (d_bin o_add (d_bin o_mod (d_bin o_fdiv (d_var (i := 0)) d_int) d_int) d_int))
    (ds_cons (ds_for C (di_range1 Z.no_range (d_bin o_add (d_var (i := 1)) d_int)) (dg_name (i := 4) C.nd) (ds_cons (ds_set (i := 3) C.nd (d_bin o_mod (d_bin o_add (d_bin o_add (d_bin o_mul (d_var (i := 3)) (d_var (i := 3))) (d_bin o_mul d_int (d_var (i := 3)))) (d_var (i := 4))) d_int))
    (ds_one (ds_expr (d_meth PySem.F.plainAttrs_list PySem.F.slot_list_append PySem.F.type_list_append m_append (d_var (i := 2)) (da_cons (d_bin o_mod (d_bin o_add (d_bin o_mul (d_var (i := 3)) d_int) (d_bin o_mul d_int (d_var (i := 4)))) d_int) da_nil))))))
    (ds_one (ds_ret (d_sl (d_var (i := 2)) (do_some d_int) do_none)))))))))
theorem sc_l_unit : FnScope ["_law_xs", "_law_at", "_law_level", "_law_levels", "_law_to", "_law_lead", "_law_cap", "_law_last"] ["_law_xs", "_law_at", "_law_level", "_law_levels"] (defScope st_l_unit) := ⟨rfl, rfl, rfl, by decide +kernel, rfl, by decide +kernel, by decide +kernel⟩
theorem st1_l_unit (Z : Facts K mg) (n : Nat) {r_l_unit : Fn} (R_l_unit : Callee P w K mg base "_law_unit" 4 (0 + n) r_l_unit) : Callee P w K mg base "_law_unit" 4 (0 + n + 1) (fnD 4 8 (b_l_unit r_l_unit)) :=
  okD (ps := ["_law_xs", "_law_at", "_law_level", "_law_levels"]) (k := 0 + n) Z.fn_l_unit sc_l_unit Z.mg_l_unit (fun _ _ _ _ _ _ us hl => match us, hl with | [_, _, _, _], _ => rfl) (fun cdv A outer s H E C => ((ds_cons (ds_if (PW.pt (dt_or (dt_cmp (o_eq C.hu) (d_var (i := 2)) (d_var (i := 3)) (nomark _)) (dt_or1 (PW.pt (dt_and (dt_cmp o_gt (d_var (i := 1)) d_int (nomark _)) (dt_and1 (dt_cmp (o_eq C.hu) (d_bin o_mod (d_idx (d_var (i := 0)) (d_bin o_mul d_int (d_var (i := 1)))) d_int) d_int (nomark _)))))))) (ds_one (ds_ret (d_tup (da_cons d_str da_nil)))) ds_nil)
    (ds_cons (ds_set (i := 4) C.nd (d_bin o_add d_int (d_bin o_mod (d_idx (d_var (i := 0)) (d_bin o_add (d_bin o_mul d_int (d_var (i := 1))) d_int)) (d_idx (d_lst (da_cons d_int (da_cons d_int (da_cons d_int (da_cons d_int da_nil))))) (d_bin o_sub (d_var (i := 3)) d_int)))))
    (ds_cons (ds_set (i := 5) C.nd (d_bin o_add d_int (d_bin o_mod (d_idx (d_var (i := 0)) (d_bin o_add (d_bin o_mul d_int (d_var (i := 1))) d_int)) (d_idx (d_lst (da_cons d_int (da_cons d_int (da_cons d_int (da_cons d_int da_nil))))) (d_bin o_sub (d_var (i := 3)) d_int)))))
    (ds_cons (ds_if (PW.pt (dt_and (dt_cmp (o_eq C.hu) (d_var (i := 3)) d_int (nomark _)) (dt_and1 (dt_cmp (o_eq C.hu) (d_var (i := 1)) d_int (nomark _))))) (ds_one (ds_set (i := 5) C.nd (d_bin o_add d_int (d_bin o_mod (d_idx (d_var (i := 0)) d_int) d_int)))) ds_nil)
    (ds_cons (ds_set (i := 6) C.nd d_non)
    (ds_cons (ds_set (i := 7) C.nd d_non)
    (ds_cons (ds_if (dt_cmp (o_eq C.hu) (d_bin o_mod (d_idx (d_var (i := 0)) (d_bin o_add (d_bin o_mul d_int (d_var (i := 1))) d_int)) d_int) d_int (nomark _)) (ds_cons (ds_set (i := 6) C.nd (d_bin o_add (d_var (i := 4)) (d_bin o_mod (d_bin o_fdiv (d_idx (d_var (i := 0)) (d_bin o_add (d_bin o_mul d_int (d_var (i := 1))) d_int)) d_int) (d_idx (d_lst (da_cons d_int (da_cons d_int (da_cons d_int (da_cons d_int da_nil))))) (d_bin o_sub (d_var (i := 3)) d_int)))))
    (ds_one (ds_if (PW.pt (dt_and (dt_cmp (o_eq C.hu) (d_bin o_mod (d_bin o_fdiv (d_idx (d_var (i := 0)) (d_bin o_add (d_bin o_mul d_int (d_var (i := 1))) d_int)) d_int) d_int) d_int (nomark _)) (dt_and1 (dt_cmp o_lt (d_var (i := 3)) d_int (nomark _))))) (ds_one (ds_set (i := 7) C.nd (d_call C R_l_unit (by omega) (da_cons (d_var (i := 0)) (da_cons (d_bin o_add (d_bin o_mul d_int (d_var (i := 1))) d_int) (da_cons (d_bin o_add (d_var (i := 2)) d_int) (da_cons (d_var (i := 3)) da_nil))))))) ds_nil))) ds_nil)
    (ds_one (ds_ret (d_tup (da_cons d_str (da_cons (d_var (i := 4)) (da_cons (d_var (i := 5)) (da_cons (d_var (i := 6)) (da_cons (d_call C R_l_unit (by omega) (da_cons (d_var (i := 0)) (da_cons (d_bin o_add (d_bin o_mul d_int (d_var (i := 1))) d_int) (da_cons (d_bin o_add (d_var (i := 2)) d_int) (da_cons (d_var (i := 3)) da_nil))))) (da_cons (d_var (i := 7)) da_nil))))))))))))))))))
theorem ok_l_unit (Z : Facts K mg) : ∀ n : Nat, Callee P w K mg base "_law_unit" 4 (0 + n) (m_l_unit n)
  | 0 => noD (ps := ["_law_xs", "_law_at", "_law_level", "_law_levels"]) Z.fn_l_unit Z.mg_l_unit (fun _ _ _ _ _ _ us hl => match us, hl with | [_, _, _, _], _ => rfl)
  | n + 1 => st1_l_unit Z n (ok_l_unit Z n)
theorem sc_l_rule : FnScope ["_law_xs"] ["_law_xs"] (defScope st_l_rule) := ⟨rfl, rfl, rfl, by decide +kernel, rfl, by decide +kernel, by decide +kernel⟩
theorem ok_l_rule (Z : Facts K mg) : Callee P w K mg base "_law_rule" 1 (14 + 1) m_l_rule :=
  okD (ps := ["_law_xs"]) (k := 14) Z.fn_l_rule sc_l_rule Z.mg_l_rule (fun _ _ _ _ _ _ us hl => match us, hl with | [_], _ => rfl) (fun cdv A outer s H E C => ((ds_one (ds_ret (d_call C (ok_l_unit Z 14) (by omega) (da_cons (d_var (i := 0)) (da_cons d_int (da_cons d_int (da_cons d_int da_nil)))))))))
theorem sc_l_turned : FnScope ["_law_rule_here", "_law_xs", "_law_way", "_law_to", "_law_lead", "_law_cap", "_law_inner", "_law_last"] ["_law_rule_here", "_law_xs"] (defScope st_l_turned) := ⟨rfl, rfl, rfl, by decide +kernel, rfl, by decide +kernel, by decide +kernel⟩
theorem st1_l_turned (Z : Facts K mg) (n : Nat) {r_l_turned : Fn} (R_l_turned : Callee P w K mg base "_law_turned" 2 (0 + n) r_l_turned) : Callee P w K mg base "_law_turned" 2 (0 + n + 1) (fnD 2 8 (b_l_turned r_l_turned)) :=
  okD (ps := ["_law_rule_here", "_law_xs"]) (k := 0 + n) Z.fn_l_turned sc_l_turned Z.mg_l_turned (fun _ _ _ _ _ _ us hl => match us, hl with | [_, _], _ => rfl) (fun cdv A outer s H E C => ((ds_cons (ds_if (dt_cmp (o_eq C.hu) (d_var (i := 0)) (d_tup (da_cons d_str da_nil)) (nomark _)) (ds_one (ds_ret (d_idx (d_lst (da_cons (d_var (i := 0)) (da_cons (d_tup (da_cons d_str (da_cons d_int (da_cons d_int (da_cons d_non (da_cons (d_var (i := 0)) (da_cons d_non da_nil))))))) da_nil))) (d_bin o_mod (d_idx (d_var (i := 1)) d_int) d_int)))) ds_nil)
    (ds_cons (ds_asg (d_sl (d_var (i := 0)) (do_some d_int) do_none) (dg_tup (pg_tup C.calm (pgs_cons (pg_name (i := 3) C.nd rfl (by first | exact .inl rfl | exact .inr rfl)) (pgs_cons (pg_name (i := 4) C.nd rfl (by first | exact .inl rfl | exact .inr rfl)) (pgs_cons (pg_name (i := 5) C.nd rfl (by first | exact .inl rfl | exact .inr rfl)) (pgs_cons (pg_name (i := 6) C.nd rfl (by first | exact .inl rfl | exact .inr rfl)) (pgs_cons (pg_name (i := 7) C.nd rfl (by first | exact .inl rfl | exact .inr rfl)) pgs_nil))))))))
    (ds_cons (ds_set (i := 2) C.nd (d_bin o_mod (d_idx (d_var (i := 1)) d_int) d_int))
    (ds_cons (ds_if (dt_cmp (o_eq C.hu) (d_var (i := 2)) d_int (nomark _)) (ds_one (ds_set (i := 3) C.nd (d_bin o_add d_int (d_bin o_mod (d_bin o_add (d_var (i := 3)) (d_idx (d_var (i := 1)) d_int)) d_int)))) ds_nil)
    (ds_cons (ds_if (dt_cmp (o_eq C.hu) (d_var (i := 2)) d_int (nomark _)) (ds_one (ds_set (i := 4) C.nd (d_bin o_add d_int (d_bin o_mod (d_bin o_add (d_var (i := 4)) (d_idx (d_var (i := 1)) d_int)) d_int)))) ds_nil)
    (ds_cons (ds_if (dt_cmp (o_eq C.hu) (d_var (i := 2)) d_int (nomark _)) (ds_cons (ds_set (i := 5) C.nd d_non)
    (ds_one (ds_set (i := 7) C.nd d_non))) ds_nil)
    (ds_cons (ds_if (dt_cmp (o_eq C.hu) (d_var (i := 2)) d_int (nomark _)) (ds_one (ds_set (i := 5) C.nd (d_bin o_add (d_var (i := 3)) (d_bin o_mod (d_idx (d_var (i := 1)) d_int) d_int)))) ds_nil)
    (ds_cons (ds_if (dt_cmp (o_eq C.hu) (d_var (i := 2)) d_int (nomark _)) (ds_one (ds_ret (d_tup (da_cons d_str (da_cons (d_var (i := 3)) (da_cons (d_var (i := 4)) (da_cons (d_var (i := 5)) (da_cons (d_call C R_l_turned (by omega) (da_cons (d_var (i := 6)) (da_cons (d_sl (d_var (i := 1)) (do_some d_int) do_none) da_nil))) (da_cons (d_var (i := 7)) da_nil))))))))) ds_nil)
    (ds_cons (ds_if (PW.pt (dt_and (dt_cmp (o_eq C.hu) (d_var (i := 2)) d_int (nomark _)) (dt_and1 (dt_cmp o_isNot (d_var (i := 7)) d_non (nomark _))))) (ds_one (ds_ret (d_tup (da_cons d_str (da_cons (d_var (i := 3)) (da_cons (d_var (i := 4)) (da_cons (d_var (i := 5)) (da_cons (d_var (i := 6)) (da_cons (d_call C R_l_turned (by omega) (da_cons (d_var (i := 7)) (da_cons (d_sl (d_var (i := 1)) (do_some d_int) do_none) da_nil))) da_nil))))))))) ds_nil)
    (ds_cons (ds_if (PW.pt (dt_and (dt_cmp (o_eq C.hu) (d_var (i := 2)) d_int (nomark _)) (dt_and1 (dt_cmp o_isNot (d_var (i := 5)) d_non (nomark _))))) (ds_one (ds_set (i := 7) C.nd (d_var (i := 6)))) ds_nil)
    (ds_cons (ds_if (dt_cmp o_isNot (d_var (i := 5)) d_non (nomark _)) (ds_one (ds_set (i := 5) C.nd (d_callB (c_max2 C.calm) rfl Z.no_max boot_max (da_cons (d_var (i := 5)) (da_cons (d_var (i := 3)) da_nil))))) ds_nil)
    (ds_one (ds_ret (d_tup (da_cons d_str (da_cons (d_var (i := 3)) (da_cons (d_var (i := 4)) (da_cons (d_var (i := 5)) (da_cons (d_var (i := 6)) (da_cons (d_var (i := 7)) da_nil))))))))))))))))))))))
theorem ok_l_turned (Z : Facts K mg) : ∀ n : Nat, Callee P w K mg base "_law_turned" 2 (0 + n) (m_l_turned n)
  | 0 => noD (ps := ["_law_rule_here", "_law_xs"]) Z.fn_l_turned Z.mg_l_turned (fun _ _ _ _ _ _ us hl => match us, hl with | [_, _], _ => rfl)
  | n + 1 => st1_l_turned Z n (ok_l_turned Z n)
theorem sc_l_other : FnScope ["_law_rule_here", "_law_cell", "_law_xs", "_law_way"] ["_law_rule_here", "_law_cell"] (defScope st_l_other) := ⟨rfl, rfl, rfl, by decide +kernel, rfl, by decide +kernel, by decide +kernel⟩
theorem ok_l_other (Z : Facts K mg) : Callee P w K mg base "_law_other" 2 (15 + 1) m_l_other :=
  okD (ps := ["_law_rule_here", "_law_cell"]) (k := 15) Z.fn_l_other sc_l_other Z.mg_l_other (fun _ _ _ _ _ _ us hl => match us, hl with | [_, _], _ => rfl) (fun cdv A outer s H E C => ((ds_cons (ds_set (i := 2) C.nd (d_call C (ok_l_draws Z) (by omega) (da_cons (d_var (i := 1)) (da_cons d_int da_nil))))
    (ds_cons (ds_set (i := 3) C.nd (d_bin o_mod (d_idx (d_var (i := 2)) d_int) d_int))
    (ds_cons (ds_if (dt_cmp (o_eq C.hu) (d_var (i := 3)) d_int (nomark _)) (ds_one (ds_ret (d_call C (ok_l_rule Z) (by omega) (da_cons (d_var (i := 2)) da_nil)))) ds_nil)
    (ds_cons (ds_if (dt_cmp (o_eq C.hu) (d_var (i := 3)) d_int (nomark _)) (ds_one (ds_ret (d_var (i := 0)))) ds_nil)
    (ds_cons (ds_if (dt_cmp (o_eq C.hu) (d_var (i := 3)) d_int (nomark _)) (ds_one (ds_ret (d_tup (da_cons d_str (da_cons d_int (da_cons d_int (da_cons d_non (da_cons (d_var (i := 0)) (da_cons d_non da_nil))))))))) ds_nil)
    (ds_one (ds_ret (d_call C (ok_l_turned Z 14) (by omega) (da_cons (d_var (i := 0)) (da_cons (d_var (i := 2)) da_nil))))))))))))
theorem sc_l_pairs : FnScope ["_law_games", "_law_limit", "_law_line", "_law_known", "_law_at", "_law_one", "_law_other_here", "_law_side", "_law_near", "_law_pair"] ["_law_games", "_law_limit"] (defScope st_l_pairs) := ⟨rfl, rfl, rfl, by decide +kernel, rfl, by decide +kernel, by decide +kernel⟩
theorem ok_l_pairs (Z : Facts K mg) : Callee P w K mg base "_law_pairs" 2 (31 + 1) m_l_pairs :=
  okD (ps := ["_law_games", "_law_limit"]) (k := 31) Z.fn_l_pairs sc_l_pairs Z.mg_l_pairs (fun _ _ _ _ _ _ us hl => match us, hl with | [_, _], _ => rfl) (fun cdv A outer s H E C => ((ds_cons (ds_set (i := 2) C.nd (d_lst (da_cons (d_tup (da_cons (d_call C (ok_place_of Z) (by omega) (da_cons (d_idx (d_var (i := 0)) d_int) (da_cons (d_call C (ok_first Z) (by omega) (da_cons (d_idx (d_var (i := 0)) d_int) da_nil)) da_nil))) (da_cons (d_call C (ok_place_of Z) (by omega) (da_cons (d_idx (d_var (i := 0)) d_int) (da_cons (d_call C (ok_first Z) (by omega) (da_cons (d_idx (d_var (i := 0)) d_int) da_nil)) da_nil))) da_nil))) da_nil)))
    (ds_cons (ds_set (i := 3) C.nd (d_done C.hu9 (d_idx (d_var (i := 2)) d_int) d_bl))
    (ds_cons (ds_set (i := 4) C.nd d_int)
    (ds_cons (ds_while 100000 C (PW.pt (dt_and (dt_cmp o_lt (d_var (i := 4)) (d_callB c_len rfl Z.no_len boot_len (da_cons (d_var (i := 2)) da_nil)) (nomark _)) (dt_and1 (dt_cmp o_le (d_callB c_len rfl Z.no_len boot_len (da_cons (d_var (i := 2)) da_nil)) (d_var (i := 1)) (nomark _))))) (ds_cons (ds_asg (d_idx (d_var (i := 2)) (d_var (i := 4))) (dg_tup (pg_tup C.calm (pgs_cons (pg_name (i := 5) C.nd rfl (by first | exact .inl rfl | exact .inr rfl)) (pgs_cons (pg_name (i := 6) C.nd rfl (by first | exact .inl rfl | exact .inr rfl)) pgs_nil)))))
    (ds_cons (ds_if (PW.pt (dt_and (dt_cmp o_is (d_idx (d_var (i := 5)) d_int) d_non (nomark _)) (dt_and1 (dt_cmp o_is (d_idx (d_var (i := 6)) d_int) d_non (nomark _))))) (ds_one (ds_for C (di_range1 Z.no_range d_int) (dg_name (i := 7) C.nd) (ds_cons (ds_set (i := 8) C.nd (d_call C (ok_place_of Z) (by omega) (da_cons (d_idx (d_var (i := 0)) d_int) (da_cons (d_call C (ok_played Z) (by omega) (da_cons (d_idx (d_var (i := 0)) d_int) (da_cons (d_var (i := 5)) (da_cons (d_var (i := 7)) da_nil)))) da_nil))))
    (ds_cons (ds_set (i := 9) C.nd (d_tup (da_cons (d_var (i := 8)) (da_cons (d_call C (ok_place_of Z) (by omega) (da_cons (d_idx (d_var (i := 0)) d_int) (da_cons (d_call C (ok_played Z) (by omega) (da_cons (d_idx (d_var (i := 0)) d_int) (da_cons (d_var (i := 6)) (da_cons (d_var (i := 7)) da_nil)))) da_nil))) da_nil))))
    (ds_one (ds_if (dt_cmp (o_notInD C.hu9) (d_var (i := 9)) (d_var (i := 3)) (by with_unfolding_all rfl)) (ds_cons (ds_subD C.hu9 (d_var (i := 3)) (d_var (i := 9)) d_bl)
    (ds_one (ds_expr (d_meth PySem.F.plainAttrs_list PySem.F.slot_list_append PySem.F.type_list_append m_append (d_var (i := 2)) (da_cons (d_var (i := 9)) da_nil))))) ds_nil)))))) ds_nil)
    (ds_one (ds_set (i := 4) C.nd (d_bin o_add (d_var (i := 4)) d_int))))))
    (ds_one (ds_ret (d_var (i := 2))))))))))
theorem sc_l_row_right : FnScope ["_law_games", "_law_row", "_law_stands", "_law_side"] ["_law_games", "_law_row"] (defScope st_l_row_right) := ⟨rfl, rfl, rfl, by decide +kernel, rfl, by decide +kernel, by decide +kernel⟩
theorem ok_l_row_right (Z : Facts K mg) : Callee P w K mg base "_law_row_right" 2 (31 + 1) m_l_row_right :=
  okD (ps := ["_law_games", "_law_row"]) (k := 31) Z.fn_l_row_right sc_l_row_right Z.mg_l_row_right (fun _ _ _ _ _ _ us hl => match us, hl with | [_, _], _ => rfl) (fun cdv A outer s H E C => ((ds_cons (ds_if (dt_not (dt_tru (d_isi (U := "list") rfl Z.no_isinstance rfl Z.no_list boot_list (d_var (i := 1))))) (ds_one (ds_ret d_bl)) ds_nil)
    (ds_cons (ds_set (i := 2) C.nd (d_lst (da_cons (d_call C (ok_first Z) (by omega) (da_cons (d_idx (d_var (i := 0)) d_int) da_nil)) (da_cons (d_call C (ok_first Z) (by omega) (da_cons (d_idx (d_var (i := 0)) d_int) da_nil)) da_nil))))
    (ds_cons (ds_for C (di_any (d_var (i := 1))) (dg_name (i := 3) C.nd) (ds_cons (ds_if (PW.pt (dt_or (dt_cmp o_notIn (d_var (i := 3)) (d_tup (da_cons d_int (da_cons d_int da_nil))) (by with_unfolding_all rfl)) (dt_or (dt_cmp o_isNot (d_idx (d_idx (d_var (i := 2)) d_int) d_int) d_non (nomark _)) (dt_or1 (dt_cmp o_isNot (d_idx (d_idx (d_var (i := 2)) d_int) d_int) d_non (nomark _)))))) (ds_one (ds_ret d_bl)) ds_nil)
    (ds_one (ds_set (i := 2) C.nd (d_lst (da_cons (d_call C (ok_played Z) (by omega) (da_cons (d_idx (d_var (i := 0)) d_int) (da_cons (d_idx (d_var (i := 2)) d_int) (da_cons (d_var (i := 3)) da_nil)))) (da_cons (d_call C (ok_played Z) (by omega) (da_cons (d_idx (d_var (i := 0)) d_int) (da_cons (d_idx (d_var (i := 2)) d_int) (da_cons (d_var (i := 3)) da_nil)))) da_nil)))))))
    (ds_one (ds_ret (d_cmp (o_ne C.hu) (d_cmp o_is (d_idx (d_idx (d_var (i := 2)) d_int) d_int) d_non (nomark _)) (d_cmp o_is (d_idx (d_idx (d_var (i := 2)) d_int) d_int) d_non (nomark _)) (nomark _)))))))))
theorem sc_l_pairs_right : FnScope ["_law_games", "_law_found", "_law_line", "_law_known", "_law_pair", "_law_side", "_law_near"] ["_law_games", "_law_found", "_law_line"] (defScope st_l_pairs_right) := ⟨rfl, rfl, rfl, by decide +kernel, rfl, by decide +kernel, by decide +kernel⟩
theorem ok_l_pairs_right (Z : Facts K mg) : Callee P w K mg base "_law_pairs_right" 3 (31 + 1) m_l_pairs_right :=
  okD (ps := ["_law_games", "_law_found", "_law_line"]) (k := 31) Z.fn_l_pairs_right sc_l_pairs_right Z.mg_l_pairs_right (fun _ _ _ _ _ _ us hl => match us, hl with | [_, _, _], _ => rfl) (fun cdv A outer s H E C => ((ds_cons (ds_if (PW.pt (dt_or (dt_not (dt_tru (d_isi (U := "list") rfl Z.no_isinstance rfl Z.no_list boot_list (d_var (i := 1))))) (dt_or (dt_cmp (o_notInX C.hu65) (d_idx (d_var (i := 2)) d_int) (d_var (i := 1)) (by with_unfolding_all rfl)) (dt_or1 (dt_cmp (o_ne C.hu) (d_lenSetN C.calm C.hu65 Z.no_len Z.no_set (d_var (i := 1))) (d_callB c_len rfl Z.no_len boot_len (da_cons (d_var (i := 1)) da_nil)) (nomark _)))))) (ds_one (ds_ret d_bl)) ds_nil)
    (ds_cons (ds_set (i := 3) C.nd (d_callTy (c_dictOf C.calm C.hu65) rfl Z.no_dict boot_dict (da_cons (d_comp (i := 4) C (di_any (d_var (i := 1))) (blkOk_by (by kernel_rfl)) (fun _ _ _ _ _ => pg_name (i := 4) C.nd rfl (Or.inl rfl)) (fun _ _ _ _ _ C1 => dts_nil) (fun _ _ _ _ _ C1 => (d_tup (da_cons (d_var (i := 4)) (da_cons d_bl da_nil))))) da_nil)))
    (ds_cons (ds_for C (di_any (d_var (i := 1))) (dg_name (i := 4) C.nd) (ds_cons (ds_if (PW.pt (dt_or (dt_not (dt_tru (d_isi (U := "tuple") rfl Z.no_isinstance rfl Z.no_tuple boot_tuple (d_var (i := 4))))) (dt_or (dt_cmp (o_ne C.hu) (d_callB c_len rfl Z.no_len boot_len (da_cons (d_var (i := 4)) da_nil)) d_int (nomark _)) (dt_or1 (dt_cmp (o_ne C.hu) (d_cmp o_is (d_idx (d_idx (d_var (i := 4)) d_int) d_int) d_non (nomark _)) (d_cmp o_is (d_idx (d_idx (d_var (i := 4)) d_int) d_int) d_non (nomark _)) (nomark _)))))) (ds_one (ds_ret d_bl)) ds_nil)
    (ds_one (ds_if (dt_cmp o_is (d_idx (d_idx (d_var (i := 4)) d_int) d_int) d_non (nomark _)) (ds_one (ds_for C (di_range1 Z.no_range d_int) (dg_name (i := 5) C.nd) (ds_cons (ds_set (i := 6) C.nd (d_call C (ok_place_of Z) (by omega) (da_cons (d_idx (d_var (i := 0)) d_int) (da_cons (d_call C (ok_played Z) (by omega) (da_cons (d_idx (d_var (i := 0)) d_int) (da_cons (d_idx (d_var (i := 4)) d_int) (da_cons (d_var (i := 5)) da_nil)))) da_nil))))
    (ds_one (ds_if (dt_cmp (o_notInD C.hu9) (d_tup (da_cons (d_var (i := 6)) (da_cons (d_call C (ok_place_of Z) (by omega) (da_cons (d_idx (d_var (i := 0)) d_int) (da_cons (d_call C (ok_played Z) (by omega) (da_cons (d_idx (d_var (i := 0)) d_int) (da_cons (d_idx (d_var (i := 4)) d_int) (da_cons (d_var (i := 5)) da_nil)))) da_nil))) da_nil))) (d_var (i := 3)) (by with_unfolding_all rfl)) (ds_one (ds_ret d_bl)) ds_nil))))) ds_nil))))
    (ds_one (ds_ret d_bl)))))))
theorem sc_l_told_right : FnScope ["_law_games", "_law_told_here", "_law_line", "_law_odd", "_law_pair"] ["_law_games", "_law_told_here", "_law_line"] (defScope st_l_told_right) := ⟨rfl, rfl, rfl, by decide +kernel, rfl, by decide +kernel, by decide +kernel⟩
theorem ok_l_told_right (Z : Facts K mg) : Callee P w K mg base "_law_told_right" 3 (32 + 1) m_l_told_right :=
  okD (ps := ["_law_games", "_law_told_here", "_law_line"]) (k := 32) Z.fn_l_told_right sc_l_told_right Z.mg_l_told_right (fun _ _ _ _ _ _ us hl => match us, hl with | [_, _, _], _ => rfl) (fun cdv A outer s H E C => ((ds_cons (ds_if (PW.pt (dt_or (dt_not (dt_tru (d_isi (U := "tuple") rfl Z.no_isinstance rfl Z.no_tuple boot_tuple (d_var (i := 1))))) (dt_or1 (dt_cmp (o_ne C.hu) (d_callB c_len rfl Z.no_len boot_len (da_cons (d_var (i := 1)) da_nil)) d_int (nomark _))))) (ds_one (ds_ret d_bl)) ds_nil)
    (ds_cons (ds_setComp (i := 4) (j := 3) C (di_any (d_var (i := 2))) (blkOk_by (by kernel_rfl)) (fun _ _ _ _ _ => pg_name (i := 4) C.nd rfl (Or.inl rfl)) (fun _ _ _ _ _ C1 => (dts_one (dt_cmp (o_ne C1.hu) (d_cmp o_is (d_idx (d_idx (d_var (i := 4)) d_int) d_int) d_non (nomark _)) (d_cmp o_is (d_idx (d_idx (d_var (i := 4)) d_int) d_int) d_non (nomark _)) (nomark _)))) (fun _ _ _ _ _ C1 => (d_var (i := 4))))
    (ds_cons (ds_if (dt_cmp (o_eq C.hu) (d_idx (d_var (i := 1)) d_int) d_str (nomark _)) (ds_one (ds_ret (d_and (d_cmp (o_ne C.hu) (d_var (i := 3)) (d_lst da_nil) (nomark _)) (d_one (d_call C (ok_l_row_right Z) (by omega) (da_cons (d_var (i := 0)) (da_cons (d_idx (d_var (i := 1)) d_int) da_nil))))))) ds_nil)
    (ds_one (ds_ret (d_and (d_cmp (o_eq C.hu) (d_idx (d_var (i := 1)) d_int) d_str (nomark _)) (d_and (d_cmp (o_eq C.hu) (d_var (i := 3)) (d_lst da_nil) (nomark _)) (d_one (d_call C (ok_l_pairs_right Z) (by omega) (da_cons (d_var (i := 0)) (da_cons (d_idx (d_var (i := 1)) d_int) (da_cons (d_var (i := 2)) da_nil))))))))))))))
theorem sc_l_told : FnScope ["_law_one", "_law_other_here", "e"] ["_law_one", "_law_other_here"] (defScope st_l_told) := ⟨rfl, rfl, rfl, by decide +kernel, rfl, by decide +kernel, by decide +kernel⟩
theorem ok_l_told (Z : Facts K mg) : Callee P w K mg base "_law_told" 2 (33 + 1) m_l_told :=
  okD (ps := ["_law_one", "_law_other_here"]) (k := 33) Z.fn_l_told sc_l_told Z.mg_l_told (fun _ _ _ _ _ _ us hl => match us, hl with | [_, _], _ => rfl) (fun cdv A outer s H E C => ((ds_one (ds_try C (fun _ _ _ Ct => ((ds_one (ds_ret (d_lst (da_cons (d_call Ct (ok_alike Z) (by omega) (da_cons (d_var (i := 0)) (da_cons (d_var (i := 1)) (da_cons d_int da_nil)))) da_nil)))))) (.as (i := 2) rfl (by decide) Z.mc_ScoreError (Z.exsub.of (by decide +kernel)) rfl rfl (fun a pn => ((ds_one (ds_ret (d_lst (da_cons (d_isE Z.ist (Or.inr (by decide +kernel)) Z.no_isinstance (Or.inr ⟨by decide, Z.mc_TooMany⟩) (d_var (i := 2))) (da_cons (d_isE Z.ist (Or.inl rfl) Z.no_isinstance (Or.inl ⟨rfl, Z.no_ValueError⟩) (d_var (i := 2))) (da_cons (d_isEs Z.ist (by decide +kernel) Z.no_isinstance (.cons rfl (by decide) (Or.inr ⟨by decide, Z.mc_NoSide⟩) rfl (.cons rfl (by decide) (Or.inr ⟨by decide, Z.mc_Over⟩) rfl .nil)) (d_var (i := 2))) da_nil)))))))) .nil)))))
theorem sc_l_is_alike : FnScope ["_law_one", "_law_other_here", "_law_games", "_law_line", "_law_told_here"] ["_law_one", "_law_other_here"] (defScope st_l_is_alike) := ⟨rfl, rfl, rfl, by decide +kernel, rfl, by decide +kernel, by decide +kernel⟩
theorem ok_l_is_alike (Z : Facts K mg) : Callee P w K mg base "_law_is_alike" 2 (34 + 1) m_l_is_alike :=
  okD (ps := ["_law_one", "_law_other_here"]) (k := 34) Z.fn_l_is_alike sc_l_is_alike Z.mg_l_is_alike (fun _ _ _ _ _ _ us hl => match us, hl with | [_, _], _ => rfl) (fun cdv A outer s H E C => ((ds_cons (ds_set (i := 2) C.nd (d_tup (da_cons (d_tup (da_cons d_str (da_cons (d_var (i := 0)) da_nil))) (da_cons (d_tup (da_cons d_str (da_cons (d_var (i := 1)) da_nil))) da_nil))))
    (ds_cons (ds_set (i := 3) C.nd (d_call C (ok_l_pairs Z) (by omega) (da_cons (d_var (i := 2)) (da_cons d_int da_nil))))
    (ds_cons (ds_set (i := 4) C.nd (d_call C (ok_l_told Z) (by omega) (da_cons (d_var (i := 0)) (da_cons (d_var (i := 1)) da_nil))))
    (ds_cons (ds_if (dt_cmp o_gt (d_callB c_len rfl Z.no_len boot_len (da_cons (d_var (i := 3)) da_nil)) d_int (nomark _)) (ds_one (ds_ret (d_cmp (o_eq C.hu) (d_var (i := 4)) (d_lst (da_cons d_bl (da_cons d_bl (da_cons d_bl da_nil)))) (nomark _)))) ds_nil)
    (ds_one (ds_ret (d_and (d_cmp (o_eq C.hu) (d_callB c_len rfl Z.no_len boot_len (da_cons (d_var (i := 4)) da_nil)) d_int (nomark _)) (d_and (d_cmp (o_eq C.hu) (d_idx (d_idx (d_var (i := 4)) d_int) d_int) d_str (nomark _)) (d_one (d_call C (ok_l_told_right Z) (by omega) (da_cons (d_var (i := 2)) (da_cons (d_idx (d_var (i := 4)) d_int) (da_cons (d_var (i := 3)) da_nil)))))))))))))))
theorem sc_law : FnScope ["_law_script", "_law_one", "_law_other_here", "_law_games", "_law_line", "_law_xs", "_law_to", "_law_cap", "_law_lasts", "_law_left", "_law_right", "_law_pair"] ["_law_script"] (defScope st_law) := ⟨rfl, rfl, rfl, by decide +kernel, rfl, by decide +kernel, by decide +kernel⟩
theorem ok_law (Z : Facts K mg) {fd : FuncData} (F : FunD K "law" "law" (defArgs st_law) (defBody st_law) (defScope st_law) [] [] (He.ga K "law") fd) : FnOk P w K mg base (L2N.CX P w) 36 (He.ga K "law") fd ["_law_script"] (spD K 1 m_law) :=
  okF (k := 35) F sc_law (fun cdv A outer s H E C => ((ds_cons (ds_set (i := 1) C.nd (d_call C (ok_l_rule Z) (by omega) (da_cons (d_call C (ok_l_draws Z) (by omega) (da_cons (d_call C (ok_l_cell_at Z) (by omega) (da_cons (d_var (i := 0)) (da_cons d_int da_nil))) (da_cons d_int da_nil))) da_nil)))
    (ds_cons (ds_set (i := 2) C.nd (d_call C (ok_l_other Z) (by omega) (da_cons (d_var (i := 1)) (da_cons (d_call C (ok_l_cell_at Z) (by omega) (da_cons (d_var (i := 0)) (da_cons d_int da_nil))) da_nil))))
    (ds_cons (ds_if (PW.pt (dt_or (dt_not (dt_tru (d_call C (ok_l_is_alike Z) (by omega) (da_cons (d_var (i := 1)) (da_cons (d_var (i := 1)) da_nil))))) (dt_or1 (dt_not (dt_tru (d_call C (ok_l_is_alike Z) (by omega) (da_cons (d_tup (da_cons d_str (da_cons d_int (da_cons d_int (da_cons d_non (da_cons (d_var (i := 1)) (da_cons d_non da_nil))))))) (da_cons (d_var (i := 1)) da_nil)))))))) (ds_one (ds_ret d_bl)) ds_nil)
    (ds_cons (ds_set (i := 3) C.nd (d_tup (da_cons (d_tup (da_cons d_str (da_cons (d_var (i := 1)) da_nil))) (da_cons (d_tup (da_cons d_str (da_cons (d_var (i := 2)) da_nil))) da_nil))))
    (ds_cons (ds_set (i := 4) C.nd (d_call C (ok_l_pairs Z) (by omega) (da_cons (d_var (i := 3)) (da_cons d_int da_nil))))
    (ds_cons (ds_if (PW.pt (dt_or (dt_cmp o_gt (d_callB c_len rfl Z.no_len boot_len (da_cons (d_var (i := 4)) da_nil)) d_int (nomark _)) (dt_or1 (dt_cmp (o_ne C.hu) (d_comp (i := 11) C (di_any (d_var (i := 4))) (blkOk_by (by kernel_rfl)) (fun _ _ _ _ _ => pg_name (i := 11) C.nd rfl (Or.inl rfl)) (fun _ _ _ _ _ C1 => (dts_one (dt_cmp (o_ne C1.hu) (d_cmp o_is (d_idx (d_idx (d_var (i := 11)) d_int) d_int) d_non (nomark _)) (d_cmp o_is (d_idx (d_idx (d_var (i := 11)) d_int) d_int) d_non (nomark _)) (nomark _)))) (fun _ _ _ _ _ C1 => (d_var (i := 11)))) (d_lst da_nil) (nomark _))))) (ds_one (ds_ret d_bl)) ds_nil)
    (ds_cons (ds_set (i := 5) C.nd (d_call C (ok_l_draws Z) (by omega) (da_cons (d_call C (ok_l_cell_at Z) (by omega) (da_cons (d_var (i := 0)) (da_cons d_int da_nil))) (da_cons d_int da_nil))))
    (ds_cons (ds_set (i := 6) C.nd (d_bin o_add d_int (d_bin o_mod (d_idx (d_var (i := 5)) d_int) d_int)))
    (ds_cons (ds_set (i := 7) C.nd (d_idx (d_lst (da_cons d_non (da_cons (d_bin o_add (d_var (i := 6)) (d_bin o_mod (d_bin o_fdiv (d_idx (d_var (i := 5)) d_int) d_int) d_int)) da_nil))) (d_bin o_mod (d_idx (d_var (i := 5)) d_int) d_int)))
    (ds_cons (ds_set (i := 8) C.nd (d_lst (da_cons d_non (da_cons d_non da_nil))))
    (ds_cons (ds_if (dt_cmp o_isNot (d_var (i := 7)) d_non (nomark _)) (ds_one (ds_set (i := 8) C.nd (d_lst (da_cons (d_idx (d_lst (da_cons d_non (da_cons (d_var (i := 1)) (da_cons (d_var (i := 2)) (da_cons (d_tup (da_cons d_str da_nil)) da_nil))))) (d_bin o_mod (d_idx (d_var (i := 5)) d_int) d_int)) (da_cons (d_idx (d_lst (da_cons d_non (da_cons (d_var (i := 2)) (da_cons (d_var (i := 1)) (da_cons (d_tup (da_cons d_str da_nil)) da_nil))))) (d_bin o_mod (d_idx (d_var (i := 5)) d_int) d_int)) da_nil))))) ds_nil)
    (ds_cons (ds_set (i := 9) C.nd (d_tup (da_cons d_str (da_cons (d_var (i := 6)) (da_cons (d_bin o_add d_int (d_bin o_mod (d_idx (d_var (i := 5)) d_int) d_int)) (da_cons (d_var (i := 7)) (da_cons (d_var (i := 1)) (da_cons (d_idx (d_var (i := 8)) d_int) da_nil))))))))
    (ds_cons (ds_set (i := 10) C.nd (d_tup (da_cons d_str (da_cons (d_var (i := 6)) (da_cons (d_bin o_add d_int (d_bin o_mod (d_idx (d_var (i := 5)) d_int) d_int)) (da_cons (d_var (i := 7)) (da_cons (d_var (i := 2)) (da_cons (d_idx (d_var (i := 8)) d_int) da_nil))))))))
    (ds_one (ds_ret (d_call C (ok_l_is_alike Z) (by omega) (da_cons (d_var (i := 9)) (da_cons (d_var (i := 10)) da_nil))))))))))))))))))))
end
end LW
end
section
set_option maxHeartbeats 4000000
namespace LW
open PySem PySem.Spec PyProof.Rows L2 TL
open CM hiding RowQ any_rule b_l_any_rule b_l_down b_l_lane b_l_rule b_l_throws b_l_unit g_l_unit lp_l_throws_0 m_l_any_rule m_l_down m_l_lane m_l_rule m_l_throws m_l_unit pick3 rng_cons rule_ok rule_step unit_ok
open CG hiding GameQ b_l_game b_l_rule b_l_unit m_l_game m_l_rule m_l_unit rule_ok unit_ok
open CE hiding UnitQ b_l_game b_l_unit m_l_game m_l_unit unit_ok
open CZ
open CAl
open CKA
open TN (eLenSetN d_lenSetN nDictOf c_dictOf)
theorem facts {h : Heap} {mg : Str → Option Value} {K : PySem.W.Frag} (X : K.In h) (G : h.Ns mainGlobals mg) (c : SaysB okB fn K) : Facts K mg := by
  have e : okB K = true := c.fact
  unfold okB at e
  obtain ⟨e, t0⟩ := He.ba e
  obtain ⟨e, x_ist⟩ := He.ba e
  obtain ⟨e, x_exsub⟩ := He.ba e
  exact {
    fn_is_between := c.def_ 0
    mg_is_between := He.glo_ok X G (all_at e 0)
    fn_down_begun := c.def_ 1
    mg_down_begun := He.glo_ok X G (all_at e 1)
    fn_throw_named := c.def_ 2
    mg_throw_named := He.glo_ok X G (all_at e 2)
    fn_with_count := c.def_ 3
    mg_with_count := He.glo_ok X G (all_at e 3)
    fn_turn_ended := c.def_ 4
    mg_turn_ended := He.glo_ok X G (all_at e 4)
    fn_down_thrown := c.def_ 5
    mg_down_thrown := He.glo_ok X G (all_at e 5)
    fn_lane_begun := c.def_ 6
    mg_lane_begun := He.glo_ok X G (all_at e 6)
    fn_frame_behind := c.def_ 7
    mg_frame_behind := He.glo_ok X G (all_at e 7)
    fn_extra_behind := c.def_ 8
    mg_extra_behind := He.glo_ok X G (all_at e 8)
    fn_row_behind := c.def_ 9
    mg_row_behind := He.glo_ok X G (all_at e 9)
    fn_lane_bowled := c.def_ 10
    mg_lane_bowled := He.glo_ok X G (all_at e 10)
    fn_best_of := c.def_ 11
    mg_best_of := He.glo_ok X G (all_at e 11)
    fn_rule_within := c.def_ 12
    mg_rule_within := He.glo_ok X G (all_at e 12)
    fn_begun := c.def_ 13
    mg_begun := He.glo_ok X G (all_at e 13)
    fn_is_won := c.def_ 14
    mg_is_won := He.glo_ok X G (all_at e 14)
    fn_rallied := c.def_ 15
    mg_rallied := He.glo_ok X G (all_at e 15)
    fn_cut := c.def_ 16
    mg_cut := He.glo_ok X G (all_at e 16)
    fn_first := c.def_ 17
    mg_first := He.glo_ok X G (all_at e 17)
    fn_rally_played := c.def_ 18
    mg_rally_played := He.glo_ok X G (all_at e 18)
    fn_down_played := c.def_ 19
    mg_down_played := He.glo_ok X G (all_at e 19)
    fn_lane_played := c.def_ 20
    mg_lane_played := He.glo_ok X G (all_at e 20)
    fn_played := c.def_ 21
    mg_played := He.glo_ok X G (all_at e 21)
    fn_place_of := c.def_ 22
    mg_place_of := He.glo_ok X G (all_at e 22)
    fn_row_to := c.def_ 23
    mg_row_to := He.glo_ok X G (all_at e 23)
    fn_over_of := c.def_ 24
    mg_over_of := He.glo_ok X G (all_at e 24)
    fn_pair_behind := c.def_ 25
    mg_pair_behind := He.glo_ok X G (all_at e 25)
    fn_alike := c.def_ 26
    mg_alike := He.glo_ok X G (all_at e 26)
    fn_l_cell_at := c.def_ 27
    mg_l_cell_at := He.glo_ok X G (all_at e 27)
    fn_l_draws := c.def_ 28
    mg_l_draws := He.glo_ok X G (all_at e 28)
    fn_l_unit := c.def_ 29
    mg_l_unit := He.glo_ok X G (all_at e 29)
    fn_l_rule := c.def_ 30
    mg_l_rule := He.glo_ok X G (all_at e 30)
    fn_l_turned := c.def_ 31
    mg_l_turned := He.glo_ok X G (all_at e 31)
    fn_l_other := c.def_ 32
    mg_l_other := He.glo_ok X G (all_at e 32)
    fn_l_pairs := c.def_ 33
    mg_l_pairs := He.glo_ok X G (all_at e 33)
    fn_l_row_right := c.def_ 34
    mg_l_row_right := He.glo_ok X G (all_at e 34)
    fn_l_pairs_right := c.def_ 35
    mg_l_pairs_right := He.glo_ok X G (all_at e 35)
    fn_l_told_right := c.def_ 36
    mg_l_told_right := He.glo_ok X G (all_at e 36)
    fn_l_told := c.def_ 37
    mg_l_told := He.glo_ok X G (all_at e 37)
    fn_l_is_alike := c.def_ 38
    mg_l_is_alike := He.glo_ok X G (all_at e 38)
    fn_law := c.def_ 39
    mg_law := He.glo_ok X G (all_at e 39)
    no_ValueError := He.free_ok X G (all_at e 40)
    no_all := He.free_ok X G (all_at e 41)
    no_bool := He.free_ok X G (all_at e 42)
    no_dict := He.free_ok X G (all_at e 43)
    no_int := He.free_ok X G (all_at e 44)
    no_isinstance := He.free_ok X G (all_at e 45)
    no_len := He.free_ok X G (all_at e 46)
    no_list := He.free_ok X G (all_at e 47)
    no_max := He.free_ok X G (all_at e 48)
    no_min := He.free_ok X G (all_at e 49)
    no_range := He.free_ok X G (all_at e 50)
    no_set := He.free_ok X G (all_at e 51)
    no_tuple := He.free_ok X G (all_at e 52)
    mc_NoPins := He.glo_ok X G (all_at e 53)
    mc_NoSide := He.glo_ok X G (all_at e 54)
    mc_NoThrow := He.glo_ok X G (all_at e 55)
    mc_Over := He.glo_ok X G (all_at e 56)
    mc_ScoreError := He.glo_ok X G (all_at e 57)
    mc_TooMany := He.glo_ok X G (all_at e 58)
    ex_NoPins := exF_of X G (all_at e 53) (all_at e 59)
    ex_NoSide := exF_of X G (all_at e 54) (all_at e 60)
    ex_NoThrow := exF_of X G (all_at e 55) (all_at e 61)
    ex_Over := exF_of X G (all_at e 56) (all_at e 62)
    ex_TooMany := exF_of X G (all_at e 58) (all_at e 63)
    exsub := exSubB_ok x_exsub
    ist := isTB_ok x_ist
    gl_POINT := glob_tup X G (all_at e 64) t0 (fun _ _ => (.cons (.str _) .nil))
  }
end LW
end
section
set_option maxHeartbeats 4000000
namespace CKA
open PySem PySem.Spec PyProof.Rows L2 TL
open CG (m_deeds_at m_place_of m_played m_first Gm wonD)
open CE (asg_step)
open TN (eLenSetN nDictOf)
open CM (sideD)
open CZ
open CAl
open RL RB TLQ RD CP
section
variable {r1 r2 : Rule} {G : Gr (.rally r1)} {H : Gr (.rally r2)} {M0 M : Mem} {b : D × D}
theorem at_form {r : Rule} {G : Gr (.rally r)} {s p : D} (a : At G s p) : ∃ w, (∀ M, mIdx s (.int 1) M = some (w, M)) ∧ isNon w = isOpen p ∧ (isOpen p = true → w = .non) := by
  obtain ⟨x, y, w, rfl, rfl⟩ := a.f
  obtain ⟨y', won, e, _⟩ := G.form a.p
  obtain ⟨rfl, rfl⟩ : y = y' ∧ w = wonD won := by simpa using e
  refine ⟨_, fun M => rfl, ?_, fun h => ?_⟩
  · cases won <;> rfl
  · cases won with
    | none => rfl
    | some bs => cases h
def InvRw (G : Gr (.rally r1)) (H : Gr (.rally r2)) (M0 : Mem) (R : Nat) (u : D × D) : List D → TL.Env → Mem → Prop := fun rest env M => ∃ (S : Nat) (s1 s2 : D) (t : D × D) (e3 : Option D), env = [some (gmsD r1 r2), some (.ref R), some (.ref S), e3] ∧ Keep M0 M ∧ M[S]? = some (.lst [s1, s2]) ∧ At G s1 t.1 ∧ At H s2 t.2 ∧ Pth2 G H t rest u
theorem stepRw (S1 : Sim G) (S2 : Sim H) {R : Nat} {u : D × D} {d : D} {rest : List D} {env : TL.Env} {R0 : D → Mem → Prop} (h : InvRw G H M0 R u (d :: rest) env M) : ∃ env1, gOne 3 d env = some env1 ∧ SRet (lp_l_row_right_0 env1 M) (InvRw G H M0 R u rest) R0 := by
  obtain ⟨S, s1, s2, t, e3, rfl, k, aS, a1, a2, ho, x, rfl, pp⟩ := h
  obtain ⟨o1, o2⟩ := Bool.and_eq_true_iff.mp ho
  refine ⟨_, rfl, ?_⟩
  simp only [List.set]
  unfold lp_l_row_right_0
  obtain ⟨w1, i1, n1, z1⟩ := at_form a1
  obtain ⟨w2, i2, n2, z2⟩ := at_form a2
  rw [o1] at n1
  rw [o2] at n2
  have sS := seqAt_lst aS
  have ix1 : mIdx (.ref S) (.int 0) M = some (s1, M) := CE.idx_of sS (atI_nat (j := 0) rfl)
  have ix2 : mIdx (.ref S) (.int 1) M = some (s2, M) := CE.idx_of sS (atI_nat (j := 1) rfl)
  have ni : mNotIn (sideD x) (.tup [.int 0, .int 1]) M = some (.bl false, M) := by cases x <;> rfl
  rw [TLP.ifN (M' := M) (by
    generalize sideD x = sd at *
    simp [-mIdx_ref, ni, ix1, ix2, i1, i2, n1, n2])]
  obtain ⟨s1', p1, a1'⟩ := S1.go a1 (side_in a1.p o1 x)
  obtain ⟨s2', p2, a2'⟩ := S2.go a2 (side_in a2.p o2 x)
  obtain ⟨M1, e1, k1⟩ := gives_of (p1 M)
  obtain ⟨M2, e2, k2⟩ := gives_of (p2 M1)
  have ix2' : mIdx (.ref S) (.int 1) M1 = some (s2, M1) := CE.idx_of (k1.seq sS) (atI_nat (j := 1) rfl)
  have ev : (sAsg (gOne 2) (eLst (aCons (eCall m_played (aCons (eBin mIdx (eVar 0) (eC (.int 0))) (aCons (eBin mIdx (eVar 2) (eC (.int 0))) (aCons (eVar 3) aNil)))) (aCons (eCall m_played (aCons (eBin mIdx (eVar 0) (eC (.int 1))) (aCons (eBin mIdx (eVar 2) (eC (.int 1))) (aCons (eVar 3) aNil)))) aNil)))) [some (gmsD r1 r2), some (.ref R), some (.ref S), some (sideD x)] M = .next [some (gmsD r1 r2), some (.ref R), some (.ref M2.length), some (sideD x)] (M2 ++ [.lst [s1', s2']]) := by
    unfold gmsD
    generalize (Gm.rally r1).toD = g1 at *
    generalize (Gm.rally r2).toD = g2 at *
    generalize sideD x = sd at *
    simp [-mIdx_ref, ix1, e1, ix2', e2]
  rw [ev]
  exact SRet.next ⟨M2.length, s1', s2', nx2 G H t x, _, rfl, ((k.trans k1).trans k2).trans (Keep.more _ _), at_len _ _, a1', a2', pp⟩
theorem row_right_ok (S1 : Sim G) (S2 : Sim H) {s1 s2 : D} (f1 : FirstA G s1 b.1) (f2 : FirstA H s2 b.2) {R : Nat} {ds : List D} {u : D × D} (aR : M0[R]? = some (.lst ds)) (pp : Pth2 G H b ds u) (hu : isOpen u.1 ≠ isOpen u.2) : Ret (m_l_row_right [gmsD r1 r2, .ref R] M0) (TL.Gives M0 (.bl true)) := by
  show Ret (endS (b_l_row_right [some (gmsD r1 r2), some (.ref R), none, none] M0)) _
  unfold b_l_row_right
  have s0 := seqAt_lst aR
  have isl : mIsi "list" (.ref R) M0 = some (.bl true, M0) := by
    have t : tyName M0 (.ref R) = some "list" := by simp [tyName, s0]
    unfold mIsi
    rw [t]
    rfl
  rw [TLP.ifN (M' := M0) (by simp [isl])]
  have g1 := f1.f
  have g2 := f2.f
  rw [TLP.asg (v := .ref M0.length) (M' := M0 ++ [.lst [s1, s2]]) (by
    unfold gmsD
    generalize (Gm.rally r1).toD = g1' at *
    generalize (Gm.rally r2).toD = g2' at *
    simp [g1, g2])]
  simp only [List.set]
  have k1 := Keep.more M0 [MO.lst [s1, s2]]
  have a1 := at_len M0 (MO.lst [s1, s2])
  have s0' := k1.seq s0
  generalize M0 ++ [MO.lst [s1, s2]] = M1 at *
  refine Ret.endS ?_
  generalize hg : gmsD r1 r2 = gg at *
  simp [srcOf_ref s0']
  subst hg
  refine SRet.forQ (InvRw G H M1 R u) ⟨_, s1, s2, b, none, rfl, Keep.refl _, a1, f1.a, f2.a, pp⟩ (fun rest env M h => by
    obtain ⟨_, _, _, _, _, _, k, _⟩ := h
    exact k.seq s0') (fun d rest env M h => stepRw S1 S2 h) ?_
  rintro env M ⟨S, s1', s2', t, e3, rfl, k, aS, a1', a2', h⟩
  have : t = u := h
  subst this
  obtain ⟨w1, i1, n1, _⟩ := at_form a1'
  obtain ⟨w2, i2, n2, _⟩ := at_form a2'
  have sS := seqAt_lst aS
  have ix1 : mIdx (.ref S) (.int 0) M = some (s1', M) := CE.idx_of sS (atI_nat (j := 0) rfl)
  have ix2 : mIdx (.ref S) (.int 1) M = some (s2', M) := CE.idx_of sS (atI_nat (j := 1) rfl)
  have ne : mNe (.bl (isOpen t.1)) (.bl (isOpen t.2)) M = some (.bl true, M) := by
    cases q1 : isOpen t.1 <;> cases q2 : isOpen t.2
    · exact absurd (q1.trans q2.symm) hu
    · rfl
    · rfl
    · exact absurd (q1.trans q2.symm) hu
  rw [TLP.ret (v := .bl true) (M' := M) (by
    generalize isOpen t.1 = o1 at *
    generalize isOpen t.2 = o2 at *
    simp [-mIdx_ref, ix1, ix2, i1, i2, n1, n2, ne])]
  exact SRet.ret ⟨rfl, k1.trans k⟩
theorem pairs_keyed (hk : Key2 G H) {L : List (D × D)} (hp : ∀ t ∈ L, In2 G H t) : AllKey (L.map toPD) := fun p hpp => by
  obtain ⟨t, ht, rfl⟩ := List.mem_map.mp hpp
  exact hk t (hp t ht)
abbrev envQ (r1 r2 : Rule) (l m κ : Nat) (e4 e5 e6 : Option D) : TL.Env := [some (gmsD r1 r2), some (.ref l), some (.ref m), some (.ref κ), e4, e5, e6]
theorem stepQ0 (hk : Key2 G H) {L : List (D × D)} (w : Wh G H b L) {l m κ : Nat} {t : D × D} (ht : t ∈ L) (ho : both t = true) (aκ : M0[κ]? = some (.dct (setD (L.map toPD)))) {R0 : D → Mem → Prop} {x : Bool} {e5 e6 : Option D} (k : Keep M0 M) :
    SRet (lp_l_pairs_right_0 (envQ r1 r2 l m κ (some (toPD t)) (some (sideD x)) e6) M) (fun env M' => ∃ e5 e6 : Option D, env = envQ r1 r2 l m κ (some (toPD t)) e5 e6 ∧ Keep M0 M') R0 := by
  unfold lp_l_pairs_right_0
  have tP := w.pl t ht
  obtain ⟨o1, o2⟩ := Bool.and_eq_true_iff.mp ho
  obtain ⟨M1, e1, k1⟩ := gives_of (G.play tP.1 (side_in tP.1 o1 x) M)
  obtain ⟨M2, e2, k2⟩ := gives_of (G.place tP.1 (side_in tP.1 o1 x) M1)
  obtain ⟨M3, e3, k3⟩ := gives_of (H.play tP.2 (side_in tP.2 o2 x) M2)
  obtain ⟨M4, e4, k4⟩ := gives_of (H.place tP.2 (side_in tP.2 o2 x) M3)
  have kk := (((k.trans k1).trans k2).trans k3).trans k4
  have nL := w.cl t ht ho x
  have kn := known_in (kk.at aκ) (nd_map w.nd) (hk _ (tP.next ho x)) (CAl.mem_map.mpr nL)
  rw [asg_step (v := G.nx t.1 (sideD x)) (M' := M2) (by
    unfold envQ gmsD toPD
    generalize (Gm.rally r1).toD = g1 at *
    generalize (Gm.rally r2).toD = g2 at *
    generalize sideD x = sd at *
    simp [e1, e2])]
  simp only [List.set]
  rw [TLP.ifF1 (M' := M4) (by
    unfold nx2 at kn
    unfold gmsD toPD
    unfold toPD at kn
    generalize (Gm.rally r1).toD = g1 at *
    generalize (Gm.rally r2).toD = g2 at *
    generalize sideD x = sd at *
    simp [e3, e4, kn])]
  exact SRet.next ⟨_, _, rfl, kk⟩
def InvQ1 (r1 r2 : Rule) (l m κ : Nat) (M0 : Mem) (L : List (D × D)) : List D → TL.Env → Mem → Prop := fun rest env M => ∃ (e4 e5 e6 : Option D) (rs : List (D × D)), env = envQ r1 r2 l m κ e4 e5 e6 ∧ Keep M0 M ∧ rest = rs.map toPD ∧ ∀ t ∈ rs, t ∈ L
theorem stepQ1 (hk : Key2 G H) {L : List (D × D)} (w : Wh G H b L) (ev : ∀ t ∈ L, isOpen t.1 = isOpen t.2) {l m κ : Nat} (aκ : M0[κ]? = some (.dct (setD (L.map toPD)))) {R0 : D → Mem → Prop} {p : D} {rest : List D} {env : TL.Env} (h : InvQ1 r1 r2 l m κ M0 L (p :: rest) env M) :
    ∃ env1, gOne 4 p env = some env1 ∧ SRet (lp_l_pairs_right_1 env1 M) (InvQ1 r1 r2 l m κ M0 L rest) R0 := by
  obtain ⟨e4, e5, e6, rs, rfl, k, hr, hL⟩ := h
  cases rs with
  | nil => cases hr
  | cons t rs =>
    rw [List.map_cons] at hr
    cases hr
    have ht := hL t List.mem_cons_self
    have hrest : ∀ t ∈ rs, t ∈ L := fun t ht => hL t (List.mem_cons_of_mem _ ht)
    refine ⟨_, rfl, ?_⟩
    change SRet (lp_l_pairs_right_1 (envQ r1 r2 l m κ (some (toPD t)) e5 e6) M) _ _
    unfold lp_l_pairs_right_1
    have tP := w.pl t ht
    obtain ⟨x, w1, f1, _⟩ := G.form tP.1
    obtain ⟨y, w2, f2, _⟩ := H.form tP.2
    have i1 : ∀ M, mIdx t.1 (.int 1) M = some (wonD w1, M) := fun M => by rw [f1]; rfl
    have i2 : ∀ M, mIdx t.2 (.int 1) M = some (wonD w2, M) := fun M => by rw [f2]; rfl
    have q1 : isNon (wonD w1) = isOpen t.1 := by rw [f1]; cases w1 <;> rfl
    have q2 : isNon (wonD w2) = isOpen t.2 := by rw [f2]; cases w2 <;> rfl
    have j1 : ∀ M, mIdx (toPD t) (.int 0) M = some (t.1, M) := fun M => rfl
    have j2 : ∀ M, mIdx (toPD t) (.int 1) M = some (t.2, M) := fun M => rfl
    have isT : mIsi "tuple" (toPD t) M = some (.bl true, M) := rfl
    have ln : nLen [toPD t] M = some (.int 2, M) := rfl
    have ee := ev t ht
    have ne : mNe (.bl (isOpen t.1)) (.bl (isOpen t.2)) M = some (.bl false, M) := by rw [ee]; cases isOpen t.2 <;> rfl
    rw [TLP.ifN (M' := M) (by
      generalize toPD t = tp at *
      generalize isOpen t.1 = o1 at *
      generalize isOpen t.2 = o2 at *
      simp [-mIdx_tup, -nLen_tup, isT, ln, j1, j2, i1, i2, q1, q2, ne])]
    cases ho : isOpen t.1 with
    | false =>
      rw [ho] at q1
      rw [TLP.ifF1 (M' := M) (by
        generalize toPD t = tp at *
        simp [-mIdx_tup, j1, i1, q1])]
      exact SRet.next ⟨_, _, _, rs, rfl, k, rfl, hrest⟩
    | true =>
      rw [ho] at q1
      have hb : both t = true := by unfold both; rw [← ee, ho]; rfl
      rw [TLP.ifT1 (M' := M) (by
        generalize toPD t = tp at *
        simp [-mIdx_tup, j1, i1, q1])]
      have rk : RngOk (2 : Int) := rngOk_nat (show 2 ≤ 1000000 by omega)
      have e : (sFor (iRange1 (eC (.int 2))) (gOne 5) lp_l_pairs_right_0) (envQ r1 r2 l m κ (some (toPD t)) e5 e6) M = forL (fun _ => True) (gOne 5) lp_l_pairs_right_0 (rngItems 0 2) (envQ r1 r2 l m κ (some (toPD t)) e5 e6) M := by
        rw [sFor_ap]
        simp [rk]
      rw [e]
      refine SRet.for_ (fun rest env M' => (∃ e5 e6 : Option D, env = envQ r1 r2 l m κ (some (toPD t)) e5 e6 ∧ Keep M0 M') ∧ ∃ es : List Bool, rest = es.map sideD) ⟨⟨_, _, rfl, k⟩, [false, true], rfl⟩ (fun _ _ _ _ => trivial) (fun d rest env M' h => ?_) ?_
      · obtain ⟨⟨e5, e6, rfl, k'⟩, es, he⟩ := h
        cases es with
        | nil => cases he
        | cons x es =>
          rw [List.map_cons] at he
          cases he
          refine ⟨_, rfl, ?_⟩
          exact (stepQ0 hk w ht hb aκ k' (R0 := R0) (e5 := e5)).imp (fun env M h => ⟨h, es, rfl⟩) fun _ _ h => h
      · rintro env M' ⟨⟨e5, e6, rfl, k'⟩, _⟩
        exact ⟨_, _, _, rs, rfl, k', rfl, hrest⟩
theorem pairs_right_ok (hk : Key2 G H) {L : List (D × D)} (w : Wh G H b L) (ev : ∀ t ∈ L, isOpen t.1 = isOpen t.2) (hl : L.length ≤ 1200) {l m : Nat} (al : M0[l]? = some (.lst (L.map toPD))) {L' : List (D × D)} (am : M0[m]? = some (.lst (L'.map toPD))) (hd : L'[0]? = some b) : Ret (m_l_pairs_right [gmsD r1 r2, .ref l, .ref m] M0) (TL.Gives M0 (.bl true)) := by
  show Ret (endS (b_l_pairs_right [some (gmsD r1 r2), some (.ref l), some (.ref m), none, none, none, none] M0)) _
  unfold b_l_pairs_right
  have s0 := seqAt_lst al
  have isl : mIsi "list" (.ref l) M0 = some (.bl true, M0) := by
    have t : tyName M0 (.ref l) = some "list" := by simp [tyName, s0]
    unfold mIsi
    rw [t]
    rfl
  have ky := pairs_keyed hk w.pl
  have ndm := nd_map w.nd
  have no := not_out s0 ky (CAl.mem_map.mpr (List.mem_of_getElem? w.hd))
  have ls := len_set s0 ky ndm (by rw [List.length_map]; exact hl)
  have ix : mIdx (.ref m) (.int 0) M0 = some (toPD b, M0) := CE.idx_of (seqAt_lst am) (atI_nat (j := 0) (by rw [List.getElem?_map, hd]; rfl))
  have nl : nLen [.ref l] M0 = some (.int ((L.map toPD).length : Nat), M0) := by rw [nLen_ref, s0]; rfl
  generalize hgg : gmsD r1 r2 = gg at *
  rw [TLP.ifN (M' := M0) (by
    generalize toPD b = pb at *
    simp [-mIdx_ref, -nLen_ref, -List.length_map, isl, ix, no, ls, nl])]
  have comp : Ret (eComp 4 (iAny (eVar 1)) tYesD (eTup (aCons (eVar 4) (aCons (eC (.bl true)) aNil))) [some gg, some (.ref l), some (.ref m), none, none, none, none] M0) (fun d M2 => d = .ref M0.length ∧ Keep M0 M2 ∧ M2[M0.length]? = some (.lst ((L.map toPD).map fun p => .tup [p, .bl true]))) := by
    have hL0 : (L.map toPD).length ≤ 1200 := by rw [List.length_map]; exact hl
    generalize L.map toPD = L0 at *
    simp [srcOf_ref s0]
    refine Ret.bindQ (P := fun _ M2 => Keep M0 M2 ∧ M2[M0.length]? = some (.lst (L0.map fun p => .tup [p, .bl true]))) (TL.Ret.comp (fun p => .tup [p, .bl true]) (fun M' k' => k'.seq s0) ?_ (fun d hd M' k' => ?_) fun M3 k3 a3 => ⟨k3, a3⟩) ?_
    · omega
    · simp
      exact .ok ⟨rfl, Keep.refl _⟩
    · rintro _ M3 ⟨k3, a3⟩
      exact .ok ⟨rfl, k3, a3⟩
  obtain ⟨_, M1, e1, rfl, k1, a1⟩ := comp
  have dc := dict_of (seqAt_lst a1) ky ndm (by rw [List.length_map]; exact hl)
  have k2 := Keep.more M1 [MO.dct (setD (L.map toPD))]
  have a2 := at_len M1 (MO.dct (setD (L.map toPD)))
  rw [TLP.asg (v := .ref M1.length) (M' := M1 ++ [MO.dct (setD (L.map toPD))]) (by
    show (eCallO nDictOf (aCons (eComp 4 (iAny (eVar 1)) tYesD (eTup (aCons (eVar 4) (aCons (eC (.bl true)) aNil)))) aNil)) _ _ = _
    generalize eComp 4 (iAny (eVar 1)) tYesD (eTup (aCons (eVar 4) (aCons (eC (.bl true)) aNil))) = cc at *
    simp [e1, dc])]
  simp only [List.set]
  have s2 := (k1.trans k2).seq s0
  have k12 := k1.trans k2
  generalize M1 ++ [MO.dct (setD (L.map toPD))] = M2 at *
  generalize M1.length = κ at *
  refine Ret.endS ?_
  have e : (sFor (iAny (eVar 1)) (gOne 4) lp_l_pairs_right_1) [some gg, some (.ref l), some (.ref m), some (.ref κ), none, none, none] M2 = forL (fun M' => seqAt M' l = some (L.map toPD)) (gOne 4) lp_l_pairs_right_1 (L.map toPD) [some gg, some (.ref l), some (.ref m), some (.ref κ), none, none, none] M2 := by
    rw [sFor_ap]
    simp [srcOf_ref s2]
  refine SRet.nextS ?_
  rw [e]
  subst hgg
  refine SRet.for_ (InvQ1 r1 r2 l m κ M2 L) ⟨none, none, none, L, rfl, Keep.refl _, rfl, fun t ht => ht⟩ (fun rest env M h => by
    obtain ⟨_, _, _, _, _, k, _⟩ := h
    exact k.seq s2) (fun d rest env M h => stepQ1 hk w ev a2 h) ?_
  rintro env M ⟨e4, e5, e6, rs, rfl, k, _⟩
  rw [TLP.ret (v := .bl true) (M' := M) (by simp)]
  exact SRet.ret ⟨rfl, k12.trans k⟩
def ToldA (G : Gr (.rally r1)) (H : Gr (.rally r2)) (M : Mem) (b : D × D) (d : D) : Prop := ∃ L, Wh G H b L ∧ L.length ≤ 1200 ∧
  ((∃ l, d = .tup [.str (Str.ofString "alike"), .ref l] ∧ M[l]? = some (.lst (L.map toPD)) ∧ ∀ t ∈ L, isOpen t.1 = isOpen t.2) ∨
   (∃ r ds t, d = .tup [.str (Str.ofString "unlike"), .ref r] ∧ M[r]? = some (.lst ds) ∧ Pth2 G H b ds t ∧ isOpen t.1 ≠ isOpen t.2 ∧ t ∈ L))
/-- the odd ones of a line -/
theorem odd_comp {L : List (D × D)} (hp : ∀ t ∈ L, In2 G H t) (hl : L.length ≤ 100000) {m : Nat} (am : M0[m]? = some (.lst (L.map toPD))) {e0 e1 e3 e4 : Option D} : Ret (eComp 4 (iAny (eVar 2)) (TL.tB (eBin mNe (eBin mIs (eBin mIdx (eBin mIdx (eVar 4) (eC (.int 0))) (eC (.int 1))) (eC .non)) (eBin mIs (eBin mIdx (eBin mIdx (eVar 4) (eC (.int 1))) (eC (.int 1))) (eC .non)))) (eVar 4) [e0, e1, some (.ref m), e3, e4] M0) (fun v M2 => v = .ref M0.length ∧ Keep M0 M2 ∧ M2[M0.length]? = some (.lst ((L.filter fun t => isOpen t.1 != isOpen t.2).map toPD))) := by
  have s0 := seqAt_lst am
  have fm : (L.map toPD).filter (fun p => match p with | .tup [a, c] => isOpen a != isOpen c | _ => false) = (L.filter fun t => isOpen t.1 != isOpen t.2).map toPD := by
    rw [List.filter_map]
    rfl
  rw [← fm]
  simp [srcOf_ref s0]
  refine Ret.bindQ (P := fun _ M2 => Keep M0 M2 ∧ M2[M0.length]? = some (.lst ((L.map toPD).filter (fun p => match p with | .tup [a, c] => isOpen a != isOpen c | _ => false)))) (TL.Ret.compF (fun p => match p with | .tup [a, c] => isOpen a != isOpen c | _ => false) (fun p => p) (fun M' k' => k'.seq s0) (by rw [List.length_map]; omega) (fun p hpp M' k' => ?_) fun M3 k3 a3 => ⟨k3, by simpa using a3⟩) ?_
  · obtain ⟨t, ht, rfl⟩ := List.mem_map.mp hpp
    have tP := hp t ht
    obtain ⟨x, w1, f1, _⟩ := G.form tP.1
    obtain ⟨y, w2, f2, _⟩ := H.form tP.2
    have i1 : ∀ M, mIdx t.1 (.int 1) M = some (wonD w1, M) := fun M => by rw [f1]; rfl
    have i2 : ∀ M, mIdx t.2 (.int 1) M = some (wonD w2, M) := fun M => by rw [f2]; rfl
    have q1 : isNon (wonD w1) = isOpen t.1 := by rw [f1]; cases w1 <;> rfl
    have q2 : isNon (wonD w2) = isOpen t.2 := by rw [f2]; cases w2 <;> rfl
    have j1 : ∀ M, mIdx (toPD t) (.int 0) M = some (t.1, M) := fun M => rfl
    have j2 : ∀ M, mIdx (toPD t) (.int 1) M = some (t.2, M) := fun M => rfl
    have ne : mNe (.bl (isOpen t.1)) (.bl (isOpen t.2)) M' = some (.bl (isOpen t.1 != isOpen t.2), M') := by cases isOpen t.1 <;> cases isOpen t.2 <;> rfl
    have res : (match toPD t with | .tup [a, c] => isOpen a != isOpen c | _ => false) = (isOpen t.1 != isOpen t.2) := rfl
    rw [res]
    generalize toPD t = tp at *
    generalize isOpen t.1 = o1 at *
    generalize isOpen t.2 = o2 at *
    simp [-mIdx_tup, j1, j2, i1, i2, q1, q2, ne]
    exact .ok ⟨rfl, Keep.refl _, fun _ => .ok ⟨rfl, Keep.refl _⟩⟩
  · rintro _ M3 ⟨k3, a3⟩
    exact .ok ⟨rfl, k3, a3⟩
theorem told_right_ok (hk : Key2 G H) (S1 : Sim G) (S2 : Sim H) {s1 s2 : D} (f1 : FirstA G s1 b.1) (f2 : FirstA H s2 b.2) {d : D} (td : ToldA G H M0 b d) {m : Nat} {L' : List (D × D)} (am : M0[m]? = some (.lst (L'.map toPD))) (w' : Wh G H b L') (hl' : L'.length ≤ 100000) : Ret (m_l_told_right [gmsD r1 r2, d, .ref m] M0) (TL.Gives M0 (.bl true)) := by
  show Ret (endS (b_l_told_right [some (gmsD r1 r2), some d, some (.ref m), none, none] M0)) _
  unfold b_l_told_right
  obtain ⟨L, w, hl, td⟩ := td
  have same : ∀ t, t ∈ L' → t ∈ L := w'.toGw.sub w
  have same' : ∀ t, t ∈ L → t ∈ L' := w.toGw.sub w'
  have po : pureL ((L'.filter fun t => isOpen t.1 != isOpen t.2).map toPD) 8 = true := keyed_pure (pairs_keyed hk fun t ht => w'.pl t (List.mem_filter.mp ht).1)
  have isT : ∀ x y, mIsi "tuple" (.tup [x, y]) M0 = some (.bl true, M0) := fun _ _ => rfl
  have ln : ∀ x y, nLen [.tup [x, y]] M0 = some (.int 2, M0) := fun _ _ => rfl
  obtain ⟨k, o, rfl⟩ : ∃ (k : String) (o : Nat), d = .tup [.str (Str.ofString k), .ref o] := by
    rcases td with ⟨l, h, _⟩ | ⟨r, _, _, h, _⟩
    · exact ⟨_, _, h⟩
    · exact ⟨_, _, h⟩
  have ix0 : ∀ M, mIdx (.tup [.str (Str.ofString k), .ref o]) (.int 0) M = some (.str (Str.ofString k), M) := fun M => rfl
  have ix1 : ∀ M, mIdx (.tup [.str (Str.ofString k), .ref o]) (.int 1) M = some (.ref o, M) := fun M => rfl
  have isT1 := isT (.str (Str.ofString k)) (.ref o)
  have ln1 := ln (.str (Str.ofString k)) (.ref o)
  obtain ⟨dd, hdd⟩ : ∃ dd, dd = D.tup [.str (Str.ofString k), .ref o] := ⟨_, rfl⟩
  rw [← hdd] at ix0 ix1 isT1 ln1 td ⊢
  rw [TLP.ifN (M' := M0) (by simp [-mIdx_tup, -nLen_tup, isT1, ln1])]
  obtain ⟨_, M1, e1, rfl, k1, a1⟩ := odd_comp w'.pl hl' am (e0 := some (gmsD r1 r2)) (e1 := some dd) (e3 := none) (e4 := none)
  rw [TLP.asg (v := .ref M0.length) (M' := M1) e1]
  simp only [List.set]
  have k2 := Keep.more M1 [MO.lst []]
  have ne := mNe_nil (k := 8) (seqAt_lst (k2.at a1)) (seqAt_lst (at_len M1 (MO.lst []))) po (by decide)
  have eq := mEq_nil (k := 8) (seqAt_lst (k2.at a1)) (seqAt_lst (at_len M1 (MO.lst []))) po (by decide)
  have k12 := k1.trans k2
  rcases td with ⟨l, h1, al, ev⟩ | ⟨r, ds, t, h1, ar, pp, hu, ht⟩
  · rw [hdd] at h1
    obtain ⟨hk1, rfl⟩ : Str.ofString k = Str.ofString "alike" ∧ o = l := by simpa using h1
    rw [hk1] at ix0
    have ie : ((L'.filter fun t => isOpen t.1 != isOpen t.2).map toPD) = [] := by
      rw [List.map_eq_nil_iff, List.filter_eq_nil_iff]
      intro t ht
      simp [ev t (same t ht)]
    rw [ie] at eq
    have eq' : mEq (.ref M0.length) (.ref M1.length) (M1 ++ [MO.lst []]) = some (.bl true, M1 ++ [MO.lst []]) := eq
    rw [TLP.ifN (M' := M1) (by simp [ix0])]
    have am2 := k12.at am
    have al2 := k12.at al
    generalize hM2 : M1 ++ [MO.lst []] = M2 at *
    obtain ⟨M3, e3, k3⟩ := gives_of (pairs_right_ok hk w ev hl al2 am2 w'.hd)
    rw [TLP.ret (v := .bl true) (M' := M3) (by
      generalize gmsD r1 r2 = gg at *
      simp [ix0, hM2, eq', ix1, e3])]
    exact .ok ⟨rfl, k12.trans k3⟩
  · rw [hdd] at h1
    obtain ⟨hk1, rfl⟩ : Str.ofString k = Str.ofString "unlike" ∧ o = r := by simpa using h1
    rw [hk1] at ix0
    have mem : toPD t ∈ (L'.filter fun t => isOpen t.1 != isOpen t.2).map toPD := List.mem_map.mpr ⟨t, List.mem_filter.mpr ⟨same' t ht, by simpa using hu⟩, rfl⟩
    have ie : ((L'.filter fun t => isOpen t.1 != isOpen t.2).map toPD).isEmpty = false := by
      cases hq : (L'.filter fun t => isOpen t.1 != isOpen t.2).map toPD with
      | nil => rw [hq] at mem; cases mem
      | cons _ _ => rfl
    rw [ie] at ne
    rw [TLP.ifT (M' := M1) (by simp [ix0])]
    have ar2 := k12.at ar
    generalize hM2 : M1 ++ [MO.lst []] = M2 at *
    obtain ⟨M3, e3, k3⟩ := gives_of (row_right_ok S1 S2 f1 f2 ar2 pp hu)
    rw [TLP.ret1 (v := .bl true) (M' := M3) (by
      generalize gmsD r1 r2 = gg at *
      simp [hM2, ne, ix1, e3])]
    exact .ok ⟨rfl, k12.trans k3⟩
end
end CKA
end
section
set_option maxHeartbeats 4000000
namespace CKA
open PySem PySem.Spec PyProof.Rows L2 TL
open CG (m_deeds_at m_place_of m_played m_first Gm wonD)
open CE (asg_step)
open CZ
open CAl
open RL RB TLQ RD CP
inductive Trn : Rule → Rule → Prop
  | pt : Trn .point .point
  | un : Trn .point (.unit 1 1 none .point)
  | here {r r' : Rule} : r ≠ .point → r' ≠ .point → 1 ≤ r'.to → r'.to ≤ 4 → 1 ≤ r'.lead → r'.lead ≤ 3 → (∀ c, r'.cap = some c → r'.to ≤ c ∧ c ≤ 6) → (∀ z o, ∃ z' o', within r' z o = within r z' o') → Trn r r'
  | deep {r r' q q' : Rule} : r ≠ .point → r' ≠ .point → r'.to = r.to → r'.lead = r.lead → r'.cap = r.cap → Trn q q' → (∃ z o, q = within r z o) → (∀ z o, (∃ z' o', within r' z o = within r z' o') ∨ within r' z o = q') → Trn r r'
theorem wideT : widest [1, 2, 3, 4] [1, 2, 3] 6 36 = true := by decide +kernel
theorem here_pairs {r : Rule} (h1 : 1 ≤ r.to) (h2 : r.to ≤ 4) (h3 : 1 ≤ r.lead) (h4 : r.lead ≤ 3) (h5 : ∀ c, r.cap = some c → r.to ≤ c ∧ c ≤ 6) : (pairsL r.to r.lead r.cap).length ≤ 36 :=
  widest_at wideT (by simp; omega) (by simp; omega) (fun c e => by have := h5 c e; exact ⟨this.1, by omega⟩)
theorem one_pairs : (pairsL 1 1 none).length ≤ 1 := by decide +kernel
theorem un_len : (openL (.unit 1 1 none .point)).length ≤ 1 := by decide +kernel
theorem w_pos {lv : Nat} (h1 : 1 ≤ lv) (h4 : lv ≤ 4) (n : Nat) : 1 ≤ [26, 12, 4, 4].getD (lv - 1) 1 ^ n := by
  refine Nat.one_le_pow _ _ ?_
  rcases (show lv = 1 ∨ lv = 2 ∨ lv = 3 ∨ lv = 4 by omega) with rfl | rfl | rfl | rfl <;> decide
theorem trn_len {lv : Nat} (h1 : 1 ≤ lv) (h4 : lv ≤ 4) : ∀ (n : Nat) {r r' : Rule}, Trn r r' → r.depth ≤ n → lvlR lv false r → (openL r').length ≤ 36 * [26, 12, 4, 4].getD (lv - 1) 1 ^ n
  | n, r, r', t, hd, h => by
    have wp := w_pos h1 h4 n
    cases t with
    | pt => simp only [openL, List.length_cons, List.length_nil]; omega
    | un => have := un_len; omega
    | here hp hp' a1 a2 a3 a4 a5 hw =>
      match n with
      | 0 => have := depth_within hp 0 0; omega
      | n + 1 =>
        have wn := w_pos h1 h4 n
        have ww := w_pos h1 h4 1
        rw [Nat.pow_one] at ww
        have := open_len hp' (n := [26, 12, 4, 4].getD (lv - 1) 1 ^ n) (fun z o => by
          obtain ⟨z', o', e⟩ := hw z o
          rw [e]
          exact lvl_len h1 h4 n (by have := depth_within hp z' o'; omega) (lvl_within hp h z' o')) (here_pairs a1 a2 a3 a4 a5)
        refine Nat.le_trans this (Nat.mul_le_mul_left 36 ?_)
        rw [Nat.pow_succ]
        exact Nat.le_mul_of_pos_right _ ww
    | deep hp hp' e1 e2 e3 tq hq hw =>
      match n with
      | 0 => have := depth_within hp 0 0; omega
      | n + 1 =>
        have wn := w_pos h1 h4 n
        have pr := lvl_pairs h1 h4 hp h
        simp only [Bool.false_eq_true, and_false, if_false] at pr
        rw [← e1, ← e2, ← e3] at pr
        have := open_len hp' (n := 36 * [26, 12, 4, 4].getD (lv - 1) 1 ^ n) (fun z o => by
          rcases hw z o with ⟨z', o', e⟩ | e
          · rw [e]
            have := lvl_len h1 h4 n (by have := depth_within hp z' o'; omega) (lvl_within hp h z' o')
            omega
          · rw [e]
            obtain ⟨z', o', rfl⟩ := hq
            exact trn_len h1 h4 n tq (by have := depth_within hp z' o'; omega) (lvl_within hp h z' o')) pr
        refine Nat.le_trans this ?_
        rw [Nat.pow_succ, Nat.mul_comm ([26, 12, 4, 4].getD (lv - 1) 1) (36 * _), Nat.mul_assoc]
        exact Nat.le_refl _
theorem trn_all {lv : Nat} (h1 : 1 ≤ lv) (h3 : lv ≤ 3) {r r' : Rule} (t : Trn r r') (hd : r.depth ≤ lv) (h : lvlR lv true r) : (openL r').length ≤ 6000 ∧ (finL r').length ≤ 73 := by
  have h4 : lv ≤ 4 := by omega
  have pl : r' ≠ .point → (pairsL r'.to r'.lead r'.cap).length ≤ 36 := fun hp' => by
    cases t with
    | pt => exact absurd rfl hp'
    | un => have := one_pairs; exact Nat.le_trans this (by decide)
    | here hp _ a1 a2 a3 a4 a5 hw => exact here_pairs a1 a2 a3 a4 a5
    | deep hp _ e1 e2 e3 _ _ _ =>
      have pr := lvl_pairs h1 h4 hp h
      rw [← e1, ← e2, ← e3] at pr
      refine Nat.le_trans pr ?_
      rcases (show lv = 1 ∨ lv = 2 ∨ lv = 3 by omega) with rfl | rfl | rfl <;> decide
  refine ⟨?_, fin_len pl⟩
  cases t with
  | pt => simp [openL]
  | un => have := un_len; omega
  | here hp hp' a1 a2 a3 a4 a5 hw =>
    have := open_len hp' (n := [26, 12, 4, 4].getD (lv - 1) 1 ^ (lv - 1)) (fun z o => by
      obtain ⟨z', o', e⟩ := hw z o
      rw [e]
      exact lvl_len h1 h4 (lv - 1) (by have := depth_within hp z' o'; omega) (lvl_within hp h z' o')) (here_pairs a1 a2 a3 a4 a5)
    refine Nat.le_trans this ?_
    rcases (show lv = 1 ∨ lv = 2 ∨ lv = 3 by omega) with rfl | rfl | rfl <;> decide
  | deep hp hp' e1 e2 e3 tq hq hw =>
    have pr := lvl_pairs h1 h4 hp h
    rw [← e1, ← e2, ← e3] at pr
    have := open_len hp' (n := 36 * [26, 12, 4, 4].getD (lv - 1) 1 ^ (lv - 1)) (fun z o => by
      rcases hw z o with ⟨z', o', e⟩ | e
      · rw [e]
        have := lvl_len h1 h4 (lv - 1) (by have := depth_within hp z' o'; omega) (lvl_within hp h z' o')
        have wn := w_pos h1 h4 (lv - 1)
        omega
      · rw [e]
        obtain ⟨z', o', rfl⟩ := hq
        exact trn_len h1 h4 (lv - 1) tq (by have := depth_within hp z' o'; omega) (lvl_within hp h z' o')) pr
    refine Nat.le_trans this ?_
    rcases (show lv = 1 ∨ lv = 2 ∨ lv = 3 by omega) with rfl | rfl | rfl <;> decide
end CKA
end
section
set_option maxHeartbeats 4000000
namespace CKA
open PySem PySem.Spec PyProof.Rows L2 TL
open CG (m_deeds_at m_place_of m_played m_first Gm wonD)
open CE (asg_step)
open CZ
open CAl
open RL RB TLQ RD CP
def Nice : Rule → Prop
  | .point => True
  | .unit to lead cap inner => 1 ≤ to ∧ to ≤ 4 ∧ 1 ≤ lead ∧ lead ≤ 3 ∧ (∀ c, cap = some c → to ≤ c ∧ c ≤ 6) ∧ Nice inner
  | .unitL to lead cap inner last => 1 ≤ to ∧ to ≤ 4 ∧ 1 ≤ lead ∧ lead ≤ 3 ∧ to ≤ cap ∧ cap ≤ 6 ∧ Nice inner ∧ Nice last
theorem nice_num : ∀ {r : Rule}, Nice r → numR r
  | .point, _ => trivial
  | .unit to lead cap inner, ⟨h1, h2, h3, h4, h5, h6⟩ => ⟨h1, h2, h3, by omega, h5, nice_num h6⟩
  | .unitL to lead cap inner last, ⟨h1, h2, h3, h4, h5, h6, h7, h8⟩ => ⟨h1, h2, h3, by omega, h5, h6, nice_num h7, nice_num h8⟩
theorem lvl_nice {lv : Nat} (h1 : 1 ≤ lv) (h4 : lv ≤ 4) : ∀ {o : Bool} {r : Rule}, lvlR lv o r → Nice r
  | _, .point, _ => trivial
  | o, .unit to lead cap inner, ⟨a1, a2, a3, a4, a5, a6⟩ => by
    have := lvl_nice h1 h4 a6
    rcases (show lv = 1 ∨ lv = 2 ∨ lv = 3 ∨ lv = 4 by omega) with rfl | rfl | rfl | rfl <;> simp at a2 a4 a5 <;>
      exact ⟨a1, by omega, a3, (by first | omega | (split at a4 <;> omega)), fun c e => ⟨(a5 c e).1, by have := (a5 c e).2; omega⟩, this⟩
  | o, .unitL to lead cap inner last, ⟨a1, a2, a3, a4, a5, a6, a7, a8⟩ => by
    have := lvl_nice h1 h4 a7
    have := lvl_nice h1 h4 a8
    rcases (show lv = 1 ∨ lv = 2 ∨ lv = 3 ∨ lv = 4 by omega) with rfl | rfl | rfl | rfl <;> simp at a2 a4 a6 <;>
      exact ⟨a1, by omega, a3, (by first | omega | (split at a4 <;> omega)), a5, by omega, by assumption, by assumption⟩
def TurnedQ (r : Rule) (M : Mem) (d : D) (M' : Mem) : Prop := ∃ r' : Rule, d = r'.toD ∧ Nice r' ∧ r'.depth ≤ r.depth + 1 ∧ Trn r r' ∧ Keep M M'
theorem xn_drop {M : Mem} {X n : Nat} {xs : List Nat} (h : XN M X xs n) (hn : 2 ≤ n) : mSl (.ref X) (some 2) none M = some (.ref M.length, M ++ [.lst ((xs.drop 2).map fun x => D.int (x : Nat))]) ∧ XN (M ++ [.lst ((xs.drop 2).map fun x => D.int (x : Nat))]) M.length (xs.drop 2) (n - 2) := by
  have l := h.l
  have s := CM.mSl_fr (k := 2) h.s (by rw [List.length_map]; omega)
  rw [← List.map_drop] at s
  exact ⟨s, seqAt_lst (at_len _ _), by rw [List.length_drop]; omega⟩
/-- nothing of it turned but its numbers -/
theorem trn_unit {to lead : Int} {cap : Option Int} {inner : Rule} {to' lead' : Int} {cap' : Option Int} (h1 : 1 ≤ to') (h2 : to' ≤ 4) (h3 : 1 ≤ lead') (h4 : lead' ≤ 3) (h5 : ∀ c, cap' = some c → to' ≤ c ∧ c ≤ 6) : Trn (.unit to lead cap inner) (.unit to' lead' cap' inner) :=
  .here (by simp) (by simp) h1 h2 h3 h4 h5 fun z o => ⟨0, 0, rfl⟩
theorem within_L (to lead cap : Int) (inner last : Rule) (z o : Int) : within (.unitL to lead cap inner last) z o = if z = cap - 1 ∧ o = cap - 1 then last else inner := rfl
theorem L_last (to lead cap : Int) (inner last : Rule) : within (.unitL to lead cap inner last) (cap - 1) (cap - 1) = last := by rw [within_L, if_pos ⟨rfl, rfl⟩]
theorem L_inner (to lead cap : Int) (inner last : Rule) : within (.unitL to lead cap inner last) cap cap = inner := by rw [within_L, if_neg (by omega)]
theorem turned_ok : ∀ (n : Nat) {r : Rule} {X m : Nat} {xs : List Nat} {M : Mem}, Nice r → r.depth < n → n ≤ 40 → XN M X xs m → 2 * r.depth + 2 ≤ m → Ret (m_l_turned n [r.toD, .ref X] M) (TurnedQ r M)
  | 0, r, X, m, xs, M, hr, hd, _, hx, hm => by omega
  | n + 1, r, X, m, xs, M, hr, hd, h40, hx, hm => by
    show Ret (endS (b_l_turned (m_l_turned n) [some r.toD, some (.ref X), none, none, none, none, none, none] M)) _
    unfold b_l_turned
    obtain ⟨v0, x0⟩ := hx.at_ (i := 0) (by omega) (by omega)
    obtain ⟨v1, x1⟩ := hx.at_ (i := 1) (by omega) (by omega)
    have k0 := Keep.refl M
    have mp : ∀ M, mEq r.toD (.tup [.str (Str.ofString "point")]) M = some (.bl (decide (r = .point)), M) := fun M => mEq_point (by omega)
    by_cases hp : r = .point
    · subst hp
      obtain ⟨pp, hpp⟩ : ∃ pp, pp = Rule.point.toD := ⟨_, rfl⟩
      rw [← hpp] at mp ⊢
      have kk := Keep.more M [MO.lst [pp, .tup [.str (Str.ofString "unit"), .int 1, .int 1, .non, pp, .non]]]
      have aa := at_len M (MO.lst [pp, .tup [.str (Str.ofString "unit"), .int 1, .int 1, .non, pp, .non]])
      rw [TLP.ifT (M' := M) (by simp [mp])]
      generalize hMM : M ++ [MO.lst [pp, .tup [.str (Str.ofString "unit"), .int 1, .int 1, .non, pp, .non]]] = MM at *
      have xk := x0 _ kk
      have mm : mMod (.int (v0 : Nat)) (.int 2) MM = some (.int ((v0 : Int) % 2), MM) := by
        simp [mMod, Int.fmod_eq_emod_of_nonneg]
      rcases (show (v0 : Int) % 2 = 0 ∨ (v0 : Int) % 2 = 1 by omega) with h | h
      · rw [h] at mm
        have ix : mIdx (.ref M.length) (.int 0) MM = some (pp, MM) := CE.idx_of (seqAt_lst aa) rfl
        rw [TLP.ret1 (v := pp) (M' := MM) (by simp [-mIdx_ref, hMM, xk, mm, ix])]
        exact .ok ⟨.point, hpp, trivial, by simp [Rule.depth], .pt, kk⟩
      · rw [h] at mm
        have ix : mIdx (.ref M.length) (.int 1) MM = some (.tup [.str (Str.ofString "unit"), .int 1, .int 1, .non, pp, .non], MM) := CE.idx_of (seqAt_lst aa) rfl
        rw [TLP.ret1 (v := .tup [.str (Str.ofString "unit"), .int 1, .int 1, .non, pp, .non]) (M' := MM) (by simp [-mIdx_ref, hMM, xk, mm, ix])]
        exact .ok ⟨.unit 1 1 none .point, by rw [hpp]; rfl, ⟨by decide, by decide, by decide, by decide, fun c h => (nomatch h), trivial⟩, by simp [Rule.depth], .un, kk⟩
    · rw [TLP.ifN (M' := M) (by simp [mp, hp])]
      have xm0 := x0 M k0
      have xm1 := x1 M k0
      have w7 : mMod (.int (v0 : Nat)) (.int 7) M = some (.int ((v0 : Int) % 7), M) := by simp [mMod, Int.fmod_eq_emod_of_nonneg]
      obtain ⟨w, hw, wl⟩ : ∃ w : Nat, (v0 : Int) % 7 = (w : Int) ∧ w < 7 := ⟨v0 % 7, by omega, by omega⟩
      rw [hw] at w7
      obtain ⟨sl, hx2⟩ := xn_drop hx (by omega)
      have kd := Keep.more M [MO.lst ((xs.drop 2).map fun x => D.int (x : Nat))]
      have m4 : ∀ a : Int, 0 ≤ a → mMod (.int a) (.int 4) M = some (.int (a % 4), M) := fun a ha => by simp [mMod, Int.fmod_eq_emod_of_nonneg]
      have m3 : ∀ a : Int, 0 ≤ a → mMod (.int a) (.int 3) M = some (.int (a % 3), M) := fun a ha => by simp [mMod, Int.fmod_eq_emod_of_nonneg]
      have m3v := m3 (v1 : Nat) (by omega)
      cases r with
      | point => exact absurd rfl hp
      | unit to lead cap inner =>
        obtain ⟨h1, h2, h3, h4, h5, h6⟩ := hr
        have dI : inner.depth < n := by have : inner.depth + 1 < n + 1 := hd; omega
        have mI : 2 * inner.depth + 2 ≤ m - 2 := by have : 2 * (inner.depth + 1) + 2 ≤ m := hm; omega
        have s5 : mSl (Rule.unit to lead cap inner).toD (some 1) none M = some (.tup [.int to, .int lead, capD cap, inner.toD, .non], M) := rfl
        have rec_ := turned_ok n h6 dI (by omega) hx2 mI
        rw [asgG_step (v := .tup [.int to, .int lead, capD cap, inner.toD, .non]) (M' := M) (env' := [some (Rule.unit to lead cap inner).toD, some (.ref X), none, some (.int to), some (.int lead), some (capD cap), some inner.toD, some .non]) (by
          generalize (Rule.unit to lead cap inner).toD = rd at *
          simp [s5]) rfl]
        rw [TLP.asg (v := .int (w : Nat)) (M' := M) (by simp [-mIdx_ref, xm0, w7])]
        simp only [List.set]
        have m4t := m4 (to + (v1 : Nat)) (by omega)
        have m3l := m3 (lead + (v1 : Nat)) (by omega)
        have mx : ∀ (a c : Int) (M : Mem), nMax2 [.int a, .int c] M = some (.int (if c > a then c else a), M) := fun a c M => nMax2_int
        generalize (Rule.unit to lead cap inner).toD = rd at *
        have dp : (Rule.unit to lead cap inner).depth = inner.depth + 1 := rfl
        match w, wl with
        | 0, _ =>
          cases cap with
          | none =>
            simp [-mIdx_ref, capD, xm1, m4t]
            exact .ok ⟨.unit (1 + (to + v1) % 4) lead none inner, rfl, ⟨by omega, by omega, h3, h4, fun c h => (nomatch h), h6⟩, by show inner.depth + 1 ≤ _; omega, trn_unit (by omega) (by omega) h3 h4 fun c h => (nomatch h), k0⟩
          | some c =>
            have hc := h5 c rfl
            simp [-mIdx_ref, -nMax2_int, capD, xm1, m4t, mx]
            exact .ok ⟨.unit (1 + (to + v1) % 4) lead (some (if c < 1 + (to + (v1 : Int)) % 4 then 1 + (to + v1) % 4 else c)) inner, rfl, ⟨by omega, by omega, h3, h4, fun e h => by cases h; split <;> omega, h6⟩, by show inner.depth + 1 ≤ _; omega, trn_unit (by omega) (by omega) h3 h4 fun e h => by cases h; split <;> omega, k0⟩
        | 1, _ =>
          cases cap with
          | none =>
            simp [-mIdx_ref, capD, xm1, m3l]
            exact .ok ⟨.unit to (1 + (lead + v1) % 3) none inner, rfl, ⟨h1, h2, by omega, by omega, fun c h => (nomatch h), h6⟩, by show inner.depth + 1 ≤ _; omega, trn_unit h1 h2 (by omega) (by omega) fun c h => (nomatch h), k0⟩
          | some c =>
            have hc := h5 c rfl
            simp [-mIdx_ref, -nMax2_int, capD, xm1, m3l, mx]
            exact .ok ⟨.unit to (1 + (lead + v1) % 3) (some (if c < to then to else c)) inner, rfl, ⟨h1, h2, by omega, by omega, fun e h => by cases h; split <;> omega, h6⟩, by show inner.depth + 1 ≤ _; omega, trn_unit h1 h2 (by omega) (by omega) fun e h => by cases h; split <;> omega, k0⟩
        | 2, _ =>
          simp [-mIdx_ref]
          exact .ok ⟨.unit to lead none inner, rfl, ⟨h1, h2, h3, h4, fun c h => (nomatch h), h6⟩, by show inner.depth + 1 ≤ _; omega, trn_unit h1 h2 h3 h4 fun c h => (nomatch h), k0⟩
        | 3, _ =>
          simp [-mIdx_ref, -nMax2_int, xm1, m3v, mx]
          exact .ok ⟨.unit to lead (some (if to + (v1 : Int) % 3 < to then to else to + (v1 : Int) % 3)) inner, rfl, ⟨h1, h2, h3, h4, fun e h => by cases h; split <;> omega, h6⟩, by show inner.depth + 1 ≤ _; omega, trn_unit h1 h2 h3 h4 fun e h => by cases h; split <;> omega, k0⟩
        | 4, _ =>
          obtain ⟨_, M2, e2, q, rfl, q1, q2, q3, k2⟩ := rec_
          generalize hMd : M ++ [MO.lst ((xs.drop 2).map fun x => D.int (x : Nat))] = Md at *
          simp [-mIdx_ref, -mSl_ref, sl, e2]
          exact .ok ⟨.unit to lead cap q, rfl, ⟨h1, h2, h3, h4, h5, q1⟩, by show q.depth + 1 ≤ _; omega, .deep (by simp) (by simp) rfl rfl rfl q3 ⟨0, 0, rfl⟩ fun z o => .inr rfl, kd.trans k2⟩
        | 5, _ =>
          cases cap with
          | none =>
            simp [-mIdx_ref, capD]
            exact .ok ⟨.unit to lead none inner, rfl, ⟨h1, h2, h3, h4, fun c h => (nomatch h), h6⟩, by show inner.depth + 1 ≤ _; omega, trn_unit h1 h2 h3 h4 fun c h => (nomatch h), k0⟩
          | some c =>
            have hc := h5 c rfl
            simp [-mIdx_ref, -nMax2_int, capD, mx]
            exact .ok ⟨.unit to lead (some (if c < to then to else c)) inner, rfl, ⟨h1, h2, h3, h4, fun e h => by cases h; split <;> omega, h6⟩, by show inner.depth + 1 ≤ _; omega, trn_unit h1 h2 h3 h4 fun e h => by cases h; split <;> omega, k0⟩
        | 6, _ =>
          cases cap with
          | none =>
            simp [-mIdx_ref, capD]
            exact .ok ⟨.unit to lead none inner, rfl, ⟨h1, h2, h3, h4, fun c h => (nomatch h), h6⟩, by show inner.depth + 1 ≤ _; omega, trn_unit h1 h2 h3 h4 fun c h => (nomatch h), k0⟩
          | some c =>
            have hc := h5 c rfl
            simp [-mIdx_ref, -nMax2_int, capD, mx]
            exact .ok ⟨.unitL to lead (if c < to then to else c) inner inner, rfl, ⟨h1, h2, h3, h4, by split <;> omega, by split <;> omega, h6, h6⟩, by show max inner.depth inner.depth + 1 ≤ _; omega, .here (by simp) (by simp) h1 h2 h3 h4 (fun e h => by cases h; show to ≤ _ ∧ _; split <;> omega) fun z o => ⟨0, 0, by rw [within_L, ite_self]; rfl⟩, k0⟩
        | w + 7, hw => omega
      | unitL to lead cap inner last =>
        obtain ⟨h1, h2, h3, h4, h5, h5', h6, h7⟩ := hr
        have dp : (Rule.unitL to lead cap inner last).depth = max inner.depth last.depth + 1 := rfl
        rw [dp] at hd hm
        have s5 : mSl (Rule.unitL to lead cap inner last).toD (some 1) none M = some (.tup [.int to, .int lead, .int cap, inner.toD, last.toD], M) := rfl
        have rec1 := turned_ok n h6 (by omega) (by omega) hx2 (by omega)
        have rec2 := turned_ok n h7 (by omega) (by omega) hx2 (by omega)
        have lN : ∀ M, mIsNot last.toD .non M = some (.bl true, M) := fun M => by cases last <;> rfl
        rw [asgG_step (v := .tup [.int to, .int lead, .int cap, inner.toD, last.toD]) (M' := M) (env' := [some (Rule.unitL to lead cap inner last).toD, some (.ref X), none, some (.int to), some (.int lead), some (.int cap), some inner.toD, some last.toD]) (by
          generalize (Rule.unitL to lead cap inner last).toD = rd at *
          simp [s5]) rfl]
        rw [TLP.asg (v := .int (w : Nat)) (M' := M) (by simp [-mIdx_ref, xm0, w7])]
        simp only [List.set]
        have m4t := m4 (to + (v1 : Nat)) (by omega)
        have m3l := m3 (lead + (v1 : Nat)) (by omega)
        have mx : ∀ (a c : Int) (M : Mem), nMax2 [.int a, .int c] M = some (.int (if c > a then c else a), M) := fun a c M => nMax2_int
        generalize (Rule.unitL to lead cap inner last).toD = rd at *
        have back : ∀ {to' lead' cap' : Int}, ∀ z o, ∃ z' o', within (.unitL to' lead' cap' inner last) z o = within (.unitL to lead cap inner last) z' o' := fun {to' lead' cap'} z o => by
          rw [within_L]
          split
          · exact ⟨cap - 1, cap - 1, (L_last ..).symm⟩
          · exact ⟨cap, cap, (L_inner ..).symm⟩
        match w, wl with
        | 0, _ =>
          simp [-mIdx_ref, -nMax2_int, xm1, m4t, mx, lN]
          exact .ok ⟨.unitL (1 + (to + v1) % 4) lead (if cap < 1 + (to + (v1 : Int)) % 4 then 1 + (to + v1) % 4 else cap) inner last, rfl, ⟨by omega, by omega, h3, h4, by split <;> omega, by split <;> omega, h6, h7⟩, by show max inner.depth last.depth + 1 ≤ _; omega, .here (by simp) (by simp) (show 1 ≤ 1 + (to + (v1 : Int)) % 4 by omega) (show 1 + (to + (v1 : Int)) % 4 ≤ 4 by omega) h3 h4 (fun e h => by cases h; show 1 + (to + (v1 : Int)) % 4 ≤ _ ∧ _; split <;> omega) back, k0⟩
        | 1, _ =>
          simp [-mIdx_ref, -nMax2_int, xm1, m3l, mx, lN]
          exact .ok ⟨.unitL to (1 + (lead + v1) % 3) (if cap < to then to else cap) inner last, rfl, ⟨h1, h2, by omega, by omega, by split <;> omega, by split <;> omega, h6, h7⟩, by show max inner.depth last.depth + 1 ≤ _; omega, .here (by simp) (by simp) h1 h2 (show 1 ≤ 1 + (lead + (v1 : Int)) % 3 by omega) (show 1 + (lead + (v1 : Int)) % 3 ≤ 3 by omega) (fun e h => by cases h; show to ≤ _ ∧ _; split <;> omega) back, k0⟩
        | 2, _ =>
          simp [-mIdx_ref]
          exact .ok ⟨.unit to lead none inner, rfl, ⟨h1, h2, h3, h4, fun c h => (nomatch h), h6⟩, by show inner.depth + 1 ≤ _; omega, .here (by simp) (by simp) h1 h2 h3 h4 (fun e h => nomatch h) fun z o => ⟨cap, cap, (L_inner ..).symm⟩, k0⟩
        | 3, _ =>
          simp [-mIdx_ref, -nMax2_int, xm1, m3v, mx, lN]
          exact .ok ⟨.unitL to lead (if to + (v1 : Int) % 3 < to then to else to + (v1 : Int) % 3) inner last, rfl, ⟨h1, h2, h3, h4, by split <;> omega, by split <;> omega, h6, h7⟩, by show max inner.depth last.depth + 1 ≤ _; omega, .here (by simp) (by simp) h1 h2 h3 h4 (fun e h => by cases h; show to ≤ _ ∧ _; split <;> omega) back, k0⟩
        | 4, _ =>
          obtain ⟨_, M2, e2, q, rfl, q1, q2, q3, k2⟩ := rec1
          generalize hMd : M ++ [MO.lst ((xs.drop 2).map fun x => D.int (x : Nat))] = Md at *
          simp [-mIdx_ref, -mSl_ref, sl, e2]
          refine .ok ⟨.unitL to lead cap q last, rfl, ⟨h1, h2, h3, h4, h5, h5', q1, h7⟩, by show max q.depth last.depth + 1 ≤ _; omega, .deep (by simp) (by simp) rfl rfl rfl q3 ⟨cap, cap, (L_inner ..).symm⟩ fun z o => ?_, kd.trans k2⟩
          rw [within_L]
          split
          · exact .inl ⟨cap - 1, cap - 1, (L_last ..).symm⟩
          · exact .inr rfl
        | 5, _ =>
          obtain ⟨_, M2, e2, q, rfl, q1, q2, q3, k2⟩ := rec2
          generalize hMd : M ++ [MO.lst ((xs.drop 2).map fun x => D.int (x : Nat))] = Md at *
          simp [-mIdx_ref, -mSl_ref, sl, e2, lN]
          refine .ok ⟨.unitL to lead cap inner q, rfl, ⟨h1, h2, h3, h4, h5, h5', h6, q1⟩, by show max inner.depth q.depth + 1 ≤ _; omega, .deep (by simp) (by simp) rfl rfl rfl q3 ⟨cap - 1, cap - 1, (L_last ..).symm⟩ fun z o => ?_, kd.trans k2⟩
          rw [within_L]
          split
          · exact .inr rfl
          · exact .inl ⟨cap, cap, (L_inner ..).symm⟩
        | 6, _ =>
          simp [-mIdx_ref, -nMax2_int, mx, lN]
          refine .ok ⟨.unitL to lead (if cap < to then to else cap) inner inner, rfl, ⟨h1, h2, h3, h4, by split <;> omega, by split <;> omega, h6, h6⟩, by show max inner.depth inner.depth + 1 ≤ _; omega, .here (by simp) (by simp) h1 h2 h3 h4 (fun e h => by cases h; show to ≤ _ ∧ _; split <;> omega) fun z o => ⟨cap, cap, ?_⟩, k0⟩
          rw [within_L, L_inner, ite_self]
        | w + 7, hw => omega
end CKA
end
section
set_option maxHeartbeats 4000000
namespace CKA
open PySem PySem.Spec PyProof.Rows L2 TL
open CG (m_deeds_at m_place_of m_played m_first Gm wonD)
open CE (asg_step)
open CM (begun_ok)
open CZ
open CAl
open RL RB TLQ RD CP
theorem simRG {r : Rule} (h : Sm r) : Sim (RG h) := sim_rally _ _ _ _
theorem firstRG {r : Rule} (h : Sm r) : FirstA (RG h) (opD (begunR r)) (opD (begunR r)) := by
  obtain ⟨b1, b2⟩ := begun_open _ r (Nat.le_refl _) h.num
  refine ⟨fun M => ?_, ⟨.inl ⟨_, rfl, (Lv.first h).o, (Lv.first h).c⟩, open_P h b1, fun M => (RG h).pp (open_P h b1) M, ⟨_, _, _, rfl, rfl⟩⟩⟩
  have e := begun_ok 14 r M (by have := h.deep; omega) (by have := h.deep; omega)
  show endS (CG.b_first [some (Gm.rally r).toD] M) = _
  unfold CG.b_first
  simp [Gm.toD, e, opD, wonD]
theorem smN {r : Rule} (h : Nice r) (hd : r.depth ≤ 4) {a b : Nat} (ha : (openL r).length ≤ a) (hb : (finL r).length ≤ b) (hs : a + 2 * b ≤ 30000) : Sm r := ⟨nice_num h, hd, by omega⟩
theorem around_len (r : Rule) : (openL (.unit 1 1 none r)).length ≤ (openL r).length ∧ (finL (.unit 1 1 none r)).length ≤ 3 := by
  have h1 := open_len (r := .unit 1 1 none r) (by simp) (n := (openL r).length) (m := 1) (fun z o => Nat.le_refl _) one_pairs
  have h2 := fin_len (r := .unit 1 1 none r) (m := 1) fun _ => one_pairs
  exact ⟨by omega, by omega⟩
theorem around_nice {r : Rule} (h : Nice r) : Nice (.unit 1 1 none r) := ⟨by decide, by decide, by decide, by decide, fun c e => (nomatch e), h⟩
/-- the pair of the firsts -/
abbrev bgn (r1 r2 : Rule) : D × D := (opD (begunR r1), opD (begunR r2))
/-- what is told is right, where it is told -/
theorem alikeQ_told {r1 r2 : Rule} {G : Gr (.rally r1)} {H : Gr (.rally r2)} {M0 M : Mem} {b : D × D} {lim : Int} {d : D} (h : AlikeQ G H M0 b lim d M) (hl : lim ≤ 1200) : ToldA G H M b d := by
  obtain ⟨_, L, w, l, h⟩ := h
  refine ⟨L, w, by omega, ?_⟩
  rcases h with ⟨l, e, _, a, ev⟩ | ⟨r, ds, t, e, _, a, pp, hu, ht, _⟩
  · exact .inl ⟨l, e, a, ev⟩
  · exact .inr ⟨r, ds, t, e, a, pp, hu, ht⟩
theorem ToldA.keep {r1 r2 : Rule} {G : Gr (.rally r1)} {H : Gr (.rally r2)} {M M' : Mem} {b : D × D} {d : D} (h : ToldA G H M b d) (k : Keep M M') : ToldA G H M' b d := by
  obtain ⟨L, w, l, h⟩ := h
  refine ⟨L, w, l, ?_⟩
  rcases h with ⟨l, e, a, ev⟩ | ⟨r, ds, t, e, a, pp, hu, ht⟩
  · exact .inl ⟨l, e, k.at a, ev⟩
  · exact .inr ⟨r, ds, t, e, k.at a, pp, hu, ht⟩
/-- a whole walk, and any other -/
theorem walk_le {r1 r2 : Rule} {G : Gr (.rally r1)} {H : Gr (.rally r2)} {b : D × D} {L L' : List (D × D)} (w : Wh G H b L) (g : Gw G H b L') : L'.length ≤ L.length := sub_len g.nd (g.sub w)
/-- the list that a refusal is told by -/
def noL : List D := [.bl true, .bl true, .bl false]
theorem mEq_noL {M : Mem} {n m : Nat} (h1 : seqAt M n = some noL) (h2 : seqAt M m = some noL) : mEq (.ref n) (.ref m) M = some (.bl true, M) := by
  have p : pureL noL 1 = true := rfl
  rw [mEq_eq, eqD_ref h1 h2 p p (by decide) (by decide)]
  rfl
/-- what `told` tells -/
def ToldQ {r1 r2 : Rule} (G : Gr (.rally r1)) (H : Gr (.rally r2)) (M0 : Mem) (b : D × D) (lim : Int) (d : D) (M : Mem) : Prop := ∃ n, d = .ref n ∧ M0.length ≤ n ∧ Keep M0 M ∧
  ((∃ (x : D) (M1 : Mem), M[n]? = some (.lst [x]) ∧ AlikeQ G H M0 b lim x M1 ∧ Keep M1 M) ∨ (M[n]? = some (.lst noL) ∧ ∃ L, Gw G H b L ∧ lim < (L.length : Int)))
end CKA
end
section
set_option maxHeartbeats 4000000
namespace CAl
open PySem PySem.Spec PyProof.Rows L2 TL
open CG (m_deeds_at m_place_of m_played m_first Gm wonD played_rally)
open CE (asg_step)
open CM (sideD cutR lessR less_within cutR_nil cut_step cut_cut open_cut begun_ok)
open CZ
open RL RB TLQ RD CP
structure Tel (r1 r2 : Rule) (φ : Stand → Stand) : Prop where
  b : φ (begunR r1) = begunR r2
  go : ∀ s ∈ openL r1, ∀ x, (ralliedR r2 (φ s) x).2 = (ralliedR r1 s x).2 ∧ ((ralliedR r1 s x).2 = false → cutR r2 (ralliedR r2 (φ s) x).1 = φ (cutR r1 (ralliedR r1 s x).1))
theorem Tel.refl (r : Rule) : Tel r r id := ⟨rfl, fun _ _ _ => ⟨rfl, fun _ => rfl⟩⟩
theorem rallied_st {r : Rule} {z o : Int} {w : Stand} {x : Bool} : ralliedR r (.st z o w) x = if (ralliedR (within r z o) w x).2 = true then (if wonR r (ownC (RL.bump z o x) x) (otherC (RL.bump z o x) x) = true then (.st (RL.bump z o x).1 (RL.bump z o x).2 .nil, true) else (.st (RL.bump z o x).1 (RL.bump z o x).2 (begunR (within r (RL.bump z o x).1 (RL.bump z o x).2)), false)) else (.st z o (ralliedR (within r z o) w x).1, false) := rfl
theorem cut_st {r : Rule} {z o : Int} {w : Stand} : cutR r (.st z o w) = .st (z - lessR r z o) (o - lessR r z o) (cutR (within r z o) w) := rfl
theorem Tel.wrap {r : Rule} (h : numR r) {cap : Option Int} (hc : cap = none ∨ cap = some 1) : Tel r (.unit 1 1 cap r) (.st 0 0) := by
  have wi : ∀ z o, within (.unit 1 1 cap r) z o = r := fun z o => rfl
  refine ⟨by rw [begunR_unit (r := .unit 1 1 cap r) (by simp), wi], fun s hs x => ?_⟩
  rw [rallied_st, wi]
  have wn : wonR (.unit 1 1 cap r) (ownC (RL.bump 0 0 x) x) (otherC (RL.bump 0 0 x) x) = true := by cases x <;> simp [wonR, RL.bump, ownC, otherC, Rule.to, Rule.lead]
  cases hw : (ralliedR r s x).2 with
  | true => simp [wn]
  | false =>
    simp only [Bool.false_eq_true, if_false]
    refine ⟨trivial, fun _ => ?_⟩
    rw [cut_st, wi]
    have : lessR (.unit 1 1 cap r) 0 0 = 0 := by
      unfold lessR
      rcases hc with rfl | rfl <;> rfl
    rw [this]
    rfl
theorem Tel.in_ {r1 r2 : Rule} (n1 : numR r1) (n2 : numR r2) (p1 : r1 ≠ .point) (p2 : r2 ≠ .point) (ht : r2.to = r1.to) (hl : r2.lead = r1.lead) (hc : r2.cap = r1.cap) {ψ : Int → Int → Stand → Stand} (hψ : r1.cap = none → ∀ z o, ψ z o = ψ 0 0) (hT : ∀ z o, Tel (within r1 z o) (within r2 z o) (ψ z o)) :
    Tel r1 r2 (fun s => match s with | .nil => .nil | .st z o w => .st z o (ψ z o w)) := by
  have le : ∀ z o, lessR r2 z o = lessR r1 z o := fun z o => by unfold lessR; rw [hc, ht]
  have wo : ∀ z o, wonR r2 z o = wonR r1 z o := fun z o => by unfold wonR; rw [hc, ht, hl]
  have ps : ∀ z o, ψ (z - lessR r1 z o) (o - lessR r1 z o) = ψ z o := fun z o => by
    cases hc1 : r1.cap with
    | none => rw [hψ hc1, hψ hc1 z o]
    | some c => have : lessR r1 z o = 0 := by unfold lessR; rw [hc1]
                rw [this, Int.sub_zero, Int.sub_zero]
  refine ⟨by rw [begunR_unit p1, begunR_unit p2]; simp only; rw [(hT 0 0).b], fun s hs x => ?_⟩
  obtain ⟨z, o, w, rfl, hz, hw⟩ := (mem_open p1).mp hs
  obtain ⟨g1, g2⟩ := (hT z o).go w hw x
  simp only
  rw [rallied_st, rallied_st (r := r1), g1, wo]
  cases hq : (ralliedR (within r1 z o) w x).2 with
  | true =>
    simp only [if_true]
    cases hn : wonR r1 (ownC (RL.bump z o x) x) (otherC (RL.bump z o x) x) with
    | true => simp
    | false =>
      simp only [Bool.false_eq_true, if_false]
      refine ⟨trivial, fun _ => ?_⟩
      have nb := (num_at n2 p2).2.2.2.2.2 (RL.bump z o x).1 (RL.bump z o x).2
      have nb1 := (num_at n1 p1).2.2.2.2.2 (RL.bump z o x).1 (RL.bump z o x).2
      have b1 := (begun_open _ (within r1 (RL.bump z o x).1 (RL.bump z o x).2) (Nat.le_refl _) nb1).2
      have b2 := (begun_open _ (within r2 (RL.bump z o x).1 (RL.bump z o x).2) (Nat.le_refl _) nb).2
      rw [cut_st, cut_st, le, b1, b2]
      simp only
      rw [ps, ← (hT _ _).b]
  | false =>
    simp only [Bool.false_eq_true, if_false]
    refine ⟨trivial, fun _ => ?_⟩
    rw [cut_st, cut_st, le, g2 hq]
    simp only
    rw [ps]
theorem Tel.cap {to c : Int} {inner : Rule} (n1 : numR (.unit to 1 none inner)) (hc : to ≤ c) : Tel (.unit to 1 none inner) (.unit to 1 (some c) inner) id := by
  have w1 : ∀ z o, within (.unit to 1 none inner) z o = inner := fun z o => rfl
  have w2 : ∀ z o, within (.unit to 1 (some c) inner) z o = inner := fun z o => rfl
  have p1 : Rule.unit to 1 none inner ≠ .point := by simp
  have p2 : Rule.unit to 1 (some c) inner ≠ .point := by simp
  refine ⟨by rw [begunR_unit p1, begunR_unit p2, w1, w2]; rfl, fun s hs x => ?_⟩
  obtain ⟨z, o, w, rfl, hz, hw⟩ := (mem_open p1).mp hs
  have pz := (mem_pairs n1 p1).mp hz
  unfold PairP at pz
  obtain ⟨z0, o0, q⟩ := pz
  have q : z < to ∧ o < to := by
    rcases q with q | ⟨q, _⟩
    · exact q
    · exact absurd (show (2 : Int) ≤ 1 from q) (by decide)
  simp only [id]
  rw [rallied_st, rallied_st, w1, w2, w1, w2]
  have wo : wonR (.unit to 1 (some c) inner) (ownC (RL.bump z o x) x) (otherC (RL.bump z o x) x) = wonR (.unit to 1 none inner) (ownC (RL.bump z o x) x) (otherC (RL.bump z o x) x) := by
    unfold wonR
    cases x <;> simp only [RL.bump, ownC, otherC, Rule.cap, Rule.to, Rule.lead, if_true, Bool.false_eq_true, if_false, Option.some.injEq, reduceCtorEq, decide_false, Bool.false_or]
    · by_cases e : c = z + 1
      · have : to = z + 1 := by omega
        subst e; subst this
        simp; omega
      · simp [e]
    · by_cases e : c = o + 1
      · have : to = o + 1 := by omega
        subst e; subst this
        simp; omega
      · simp [e]
  rw [wo]
  cases hq : (ralliedR inner w x).2 with
  | true =>
    simp only [if_true]
    cases hn : wonR (.unit to 1 none inner) (ownC (RL.bump z o x) x) (otherC (RL.bump z o x) x) with
    | true => simp
    | false =>
      simp only [Bool.false_eq_true, if_false]
      refine ⟨trivial, fun _ => ?_⟩
      rw [cut_st, cut_st, w1, w2]
      have l2 : ∀ z o, lessR (.unit to 1 (some c) inner) z o = 0 := fun _ _ => rfl
      have l1 : lessR (.unit to 1 none inner) (RL.bump z o x).1 (RL.bump z o x).2 = 0 := by
        show max 0 (min (RL.bump z o x).1 (RL.bump z o x).2 - to + 1) = 0
        cases x <;> simp only [RL.bump, if_true, Bool.false_eq_true, if_false] <;> omega
      rw [l1, l2]
  | false =>
    simp only [Bool.false_eq_true, if_false]
    refine ⟨trivial, fun _ => ?_⟩
    rw [cut_st, cut_st, w1, w2]
    have l2 : ∀ z o, lessR (.unit to 1 (some c) inner) z o = 0 := fun _ _ => rfl
    have l1 : lessR (.unit to 1 none inner) z o = 0 := by
      show max 0 (min z o - to + 1) = 0
      omega
    rw [l1, l2]
theorem Tel.last {to lead c : Int} {inner : Rule} (n1 : numR (.unit to lead (some c) inner)) (n2 : numR (.unitL to lead c inner inner)) : ∃ φ, Tel (.unit to lead (some c) inner) (.unitL to lead c inner inner) φ :=
  ⟨_, .in_ n1 n2 (by simp) (by simp) rfl rfl rfl (ψ := fun _ _ => id) (fun _ _ _ => rfl) fun z o => by
    have : within (.unitL to lead c inner inner) z o = inner := by
      show (if z = c - 1 ∧ o = c - 1 then inner else inner) = inner
      split <;> rfl
    rw [this]
    exact .refl _⟩
section
def Rl (r1 r2 : Rule) (φ : Stand → Stand) (a b : D) : Prop := (∃ s ∈ openL r1, φ s ∈ openL r2 ∧ a = opD s ∧ b = opD (φ s)) ∨ (isOpen a = false ∧ isOpen b = false)
theorem Rl.first {r1 r2 : Rule} {φ : Stand → Stand} (T : Tel r1 r2 φ) (h1 : Sm r1) (h2 : Sm r2) : Rl r1 r2 φ (opD (begunR r1)) (opD (begunR r2)) := by
  have b1 := (begun_open _ r1 (Nat.le_refl _) h1.num).1
  have b2 := (begun_open _ r2 (Nat.le_refl _) h2.num).1
  exact .inl ⟨_, b1, by rw [T.b]; exact b2, rfl, by rw [T.b]⟩
theorem Rl.step {r1 r2 : Rule} {φ : Stand → Stand} (T : Tel r1 r2 φ) (h1 : Sm r1) (h2 : Sm r2) {a b : D} (h : Rl r1 r2 φ a b) (ho : isOpen a = true) (x : Bool) : Rl r1 r2 φ ((RG h1).nx a (sideD x)) ((RG h2).nx b (sideD x)) := by
  rcases h with ⟨s, s1, s2, rfl, rfl⟩ | ⟨h, _⟩
  · rw [nx_open h1 s1, nx_open h2 s2]
    obtain ⟨g1, g2⟩ := T.go s s1 x
    cases hw : (ralliedR r1 s x).2 with
    | true =>
      rw [hw] at g1
      exact .inr ⟨by rw [isOpen_nx, hw]; rfl, by rw [isOpen_nx, g1]; rfl⟩
    | false =>
      rw [hw] at g1
      have o1 := (open_next x h1.num s1).1 hw
      have o2 := (open_next x h2.num s2).1 g1
      rw [rWon_no hw, rWon_no g1]
      rw [g2 hw] at o2 ⊢
      exact .inl ⟨_, o1, o2, rfl, rfl⟩
  · rw [h] at ho; cases ho
end
theorem Rl.eq {r1 r2 : Rule} {φ : Stand → Stand} {a b : D} (h : Rl r1 r2 φ a b) : isOpen a = isOpen b := by
  rcases h with ⟨s, s1, s2, rfl, rfl⟩ | ⟨h, h'⟩
  · rfl
  · rw [h, h']
end CAl
end
section
set_option maxHeartbeats 4000000
namespace CKA
open PySem PySem.Spec PyProof.Rows L2 TL
open CG (m_deeds_at m_place_of m_played m_first Gm wonD)
open CE (asg_step)
open CM (begun_ok cutR sideD)
open CZ
open CAl
open RL RB TLQ RD CP
/-- whatever is met of two rules is even -/
def Even (r1 r2 : Rule) (h1 : Sm r1) (h2 : Sm r2) : Prop := ∀ L, Gw (RG h1) (RG h2) (bgn r1 r2) L → ∀ t ∈ L, isOpen t.1 = isOpen t.2
theorem even_tel {r1 r2 : Rule} {φ : Stand → Stand} (T : Tel r1 r2 φ) (h1 : Sm r1) (h2 : Sm r2) : Even r1 r2 h1 h2 := fun L g t ht =>
  (g.all (fun t => Rl r1 r2 φ t.1 t.2) (Rl.first T h1 h2) (fun t x _ ht ho => Rl.step T h1 h2 ht (Bool.and_eq_true_iff.mp ho).1 x) t ht).eq
theorem even_let {r1 r2 : Rule} {φ : Stand → Stand} (T : Tel r1 r2 φ) (h1 : Sm r1) (h2 : Sm r2) : Even r2 r1 h2 h1 := fun L g t ht =>
  (g.all (fun t => Rl r1 r2 φ t.2 t.1) (Rl.first T h1 h2) (fun t x _ ht ho => Rl.step T h1 h2 ht (Bool.and_eq_true_iff.mp ho).2 x) t ht).eq.symm
theorem pth2_one {r1 r2 : Rule} {G : Gr (.rally r1)} {H : Gr (.rally r2)} : ∀ (ds : List D) {t u : D × D} {x : Bool}, Pth2 G H t ds u → both u = true → Pth2 G H t (ds ++ [sideD x]) (nx2 G H u x)
  | [], t, u, x, h, ho => by
    have : t = u := h
    subst this
    exact ⟨ho, x, rfl, rfl⟩
  | d :: ds, t, u, x, ⟨h1, y, h2, h3⟩, ho => ⟨h1, y, h2, pth2_one ds h3 ho⟩
theorem gw_pth {r1 r2 : Rule} {G : Gr (.rally r1)} {H : Gr (.rally r2)} {b : D × D} {L : List (D × D)} (g : Gw G H b L) : ∀ t ∈ L, ∃ ds, Pth2 G H b ds t := g.all _ ⟨[], rfl⟩ fun t x _ ⟨ds, h⟩ ho => ⟨_, pth2_one ds h ho⟩
theorem bgn_eq {r1 r2 : Rule} (h1 : Sm r1) (h2 : Sm r2) : bgn r1 r2 = (opD (cutR r1 (begunR r1)), opD (cutR r2 (begunR r2))) := by
  rw [(begun_open _ r1 (Nat.le_refl _) h1.num).2, (begun_open _ r2 (Nat.le_refl _) h2.num).2]
theorem even_of {r1 r2 : Rule} (h1 : Sm r1) (h2 : Sm r2) (h : ∀ xs, ended r1 (begunR r1) xs = ended r2 (begunR r2) xs) : Even r1 r2 h1 h2 := fun L g t ht => by
  by_cases c : isOpen t.1 = isOpen t.2
  · exact c
  · obtain ⟨ds, pp⟩ := gw_pth g t ht
    rw [bgn_eq h1 h2] at pp
    obtain ⟨xs, _, q⟩ := unlike_sound ds _ _ t (Lv.first h1) (Lv.first h2) pp c
    rw [h xs] at q
    rcases q with ⟨q1, q2⟩ | ⟨q1, q2⟩
    · rw [q1] at q2; cases q2
    · rw [q1] at q2; cases q2
theorem even_ends {r1 r2 : Rule} {h1 : Sm r1} {h2 : Sm r2} {L : List (D × D)} (w : Wh (RG h1) (RG h2) (bgn r1 r2) L) (he : ∀ t ∈ L, isOpen t.1 = isOpen t.2) (xs : List Bool) : ended r1 (begunR r1) xs = ended r2 (begunR r2) xs :=
  alike_sound w he xs _ _ (Lv.first h1) (Lv.first h2) (by rw [← bgn_eq h1 h2]; exact List.mem_of_getElem? w.hd)
def Eqv (r1 : Rule) (s1 : Stand) (r2 : Rule) (s2 : Stand) : Prop := ∀ xs, ended r1 s1 xs = ended r2 s2 xs
theorem Eqv.step {r1 r2 : Rule} {s1 s2 : Stand} (h : Eqv r1 s1 r2 s2) (x : Bool) : (ralliedR r1 s1 x).2 = (ralliedR r2 s2 x).2 ∧ ((ralliedR r1 s1 x).2 = false → Eqv r1 (ralliedR r1 s1 x).1 r2 (ralliedR r2 s2 x).1) := by
  have e := h [x]
  rw [ended_cons, ended_cons, ended_nil, ended_nil] at e
  have q : (ralliedR r1 s1 x).2 = (ralliedR r2 s2 x).2 := by
    cases q1 : (ralliedR r1 s1 x).2 <;> cases q2 : (ralliedR r2 s2 x).2 <;> rw [q1, q2] at e <;> first | rfl | cases e
  refine ⟨q, fun hf xs => ?_⟩
  have e2 := h (x :: xs)
  rw [ended_cons, ended_cons, ← q, hf] at e2
  simp only [Bool.false_eq_true, if_false] at e2
  cases a : ended r1 (ralliedR r1 s1 x).1 xs <;> cases b : ended r2 (ralliedR r2 s2 x).1 xs <;> rw [a, b] at e2
  · cases e2
  · cases e2
  · simpa using e2
theorem ended_in {r1 r2 : Rule} (ht : r2.to = r1.to) (hl : r2.lead = r1.lead) (hc : r2.cap = r1.cap) (hw : ∀ z o, Eqv (within r1 z o) (begunR (within r1 z o)) (within r2 z o) (begunR (within r2 z o))) :
    ∀ (xs : List Bool) (z o : Int) (w w' : Stand), Eqv (within r1 z o) w (within r2 z o) w' → ended r1 (.st z o w) xs = ended r2 (.st z o w') xs
  | [], z, o, w, w', h => rfl
  | x :: xs, z, o, w, w', h => by
    obtain ⟨g1, g2⟩ := h.step x
    have wo : ∀ z o, wonR r2 z o = wonR r1 z o := fun z o => by unfold wonR; rw [hc, ht, hl]
    rw [ended_cons, ended_cons, rallied_st, rallied_st (r := r2), ← g1, wo]
    cases hq : (ralliedR (within r1 z o) w x).2 with
    | true =>
      simp only [if_true]
      cases hn : wonR r1 (ownC (RL.bump z o x) x) (otherC (RL.bump z o x) x) with
      | true => simp
      | false =>
        simp only [Bool.false_eq_true, if_false]
        rw [ended_in ht hl hc hw xs _ _ _ _ (hw _ _)]
    | false =>
      simp only [Bool.false_eq_true, if_false]
      rw [ended_in ht hl hc hw xs _ _ _ _ (g2 hq)]
theorem ended_around {r1 r2 : Rule} (p1 : r1 ≠ .point) (p2 : r2 ≠ .point) (ht : r2.to = r1.to) (hl : r2.lead = r1.lead) (hc : r2.cap = r1.cap) (hw : ∀ z o, Eqv (within r1 z o) (begunR (within r1 z o)) (within r2 z o) (begunR (within r2 z o))) (xs : List Bool) : ended r1 (begunR r1) xs = ended r2 (begunR r2) xs := by
  rw [begunR_unit p1, begunR_unit p2]
  exact ended_in ht hl hc hw xs _ _ _ _ (hw 0 0)
/-- the rules of one unit that k70 draws -/
structure Lit (r : Rule) : Prop where
  n : Nice r
  d : r.depth ≤ 2
  o : (openL r).length ≤ 936
  f : (finL r).length ≤ 73
theorem Lit.sm {r : Rule} (h : Lit r) : Sm r := smN h.n (by have := h.d; omega) h.o h.f (by decide)
theorem lvl1 {r : Rule} (h : lvlR 1 true r) : lvlR 1 false r := by
  cases r with
  | point => trivial
  | unit to lead cap inner => exact h
  | unitL to lead cap inner last => exact h
theorem lit_drawn {r : Rule} (h : lvlR 1 true r) (hd : r.depth ≤ 1) : Lit r := by
  obtain ⟨a, b⟩ := lvl_all (by decide) (by decide) hd h
  exact ⟨lvl_nice (by decide) (by decide) h, by omega, by omega, by omega⟩
theorem lit_around {r : Rule} (h : lvlR 1 true r) (hd : r.depth ≤ 1) : Lit (.unit 1 1 none r) := by
  obtain ⟨a, b⟩ := lvl_all (by decide) (by decide) hd h
  obtain ⟨o1, o2⟩ := around_len r
  exact ⟨around_nice (lvl_nice (by decide) (by decide) h), by show r.depth + 1 ≤ 2; omega, by omega, by omega⟩
theorem lit_turned {r r' : Rule} (h : lvlR 1 true r) (hd : r.depth ≤ 1) (n : Nice r') (d : r'.depth ≤ r.depth + 1) (t : Trn r r') : Lit r' := by
  have a := trn_len (by decide) (by decide) 1 t hd (lvl1 h)
  obtain ⟨_, b⟩ := trn_all (by decide) (by decide) t hd h
  have e : 36 * [26, 12, 4, 4].getD (1 - 1) 1 ^ 1 = 936 := by decide
  exact ⟨n, by omega, by omega, b⟩
theorem lit_point : Lit .point := ⟨trivial, by decide, by simp [openL], by simp [finL]⟩
/-- a unit around two of these -/
theorem wide_sm {q : Rule} (hp : q ≠ .point) (n : Nice q) (hd : q.depth ≤ 3) (h1 : 1 ≤ q.to) (h2 : q.to ≤ 2) (h3 : 1 ≤ q.lead) (h4 : q.lead ≤ 2) (h5 : ∀ c, q.cap = some c → q.to ≤ c ∧ c < q.to + 3) (hw : ∀ z o, Lit (within q z o)) : Sm q := by
  have pl : (pairsL q.to q.lead q.cap).length ≤ 10 := widest_at wide3 (by simp; omega) (by simp; omega) h5
  have a := open_len hp (n := 936) (fun z o => (hw z o).o) pl
  have b := fin_len (r := q) (m := 10) fun _ => pl
  exact smN n (by omega) (show (openL q).length ≤ 9360 by omega) (show (finL q).length ≤ 21 by omega) (by decide)
/-- the last ones drawn -/
inductive Lasts (one other : Rule) : Option Rule → Option Rule → Prop
  | no : Lasts one other none none
  | fwd : Lasts one other (some one) (some other)
  | bwd : Lasts one other (some other) (some one)
  | pt : Lasts one other (some .point) (some .point)
def mkU (to lead : Int) (cap : Option Int) (inner : Rule) (last : Option Rule) : Rule := match cap, last with
  | some c, some l => .unitL to lead c inner l
  | cap, _ => .unit to lead cap inner
theorem mkU_toD {to lead : Int} {cap : Option Int} {inner : Rule} {last : Option Rule} (h : cap = none → last = none) : (mkU to lead cap inner last).toD = .tup [.str (Str.ofString "unit"), .int to, .int lead, capD cap, inner.toD, RL.lastD last] := by
  cases cap with
  | none => rw [h rfl]; rfl
  | some c => cases last <;> rfl
theorem mkU_all (to lead : Int) (cap : Option Int) (inner : Rule) (last : Option Rule) : mkU to lead cap inner last ≠ .point ∧ (mkU to lead cap inner last).to = to ∧ (mkU to lead cap inner last).lead = lead ∧ (mkU to lead cap inner last).cap = cap := by
  cases cap <;> cases last <;> exact ⟨by simp [mkU], rfl, rfl, rfl⟩
theorem mkU_in (to lead : Int) (cap : Option Int) (inner : Rule) (last : Option Rule) (z o : Int) : within (mkU to lead cap inner last) z o = match cap, last with
    | some c, some l => if z = c - 1 ∧ o = c - 1 then l else inner
    | _, _ => inner := by
  cases cap <;> cases last <;> rfl
theorem mkU_sm {to lead : Int} {cap : Option Int} {inner : Rule} {last : Option Rule} (h1 : 1 ≤ to) (h2 : to ≤ 2) (h3 : 1 ≤ lead) (h4 : lead ≤ 2) (h5 : ∀ c, cap = some c → to ≤ c ∧ c < to + 3) (hi : Lit inner) (hl : ∀ l, last = some l → Lit l) : Sm (mkU to lead cap inner last) := by
  obtain ⟨p, e1, e2, e3⟩ := mkU_all to lead cap inner last
  refine wide_sm p ?_ ?_ (by rw [e1]; exact h1) (by rw [e1]; exact h2) (by rw [e2]; exact h3) (by rw [e2]; exact h4) (by rw [e3, e1]; exact h5) fun z o => ?_
  · cases cap with
    | none => cases last <;> exact ⟨h1, by omega, h3, by omega, fun c e => (nomatch e), hi.n⟩
    | some c =>
      have := h5 c rfl
      cases last with
      | none => exact ⟨h1, by omega, h3, by omega, fun c e => by cases e; omega, hi.n⟩
      | some l => exact ⟨h1, by omega, h3, by omega, by omega, by omega, hi.n, (hl l rfl).n⟩
  · have := hi.d
    cases cap with
    | none => cases last <;> (show inner.depth + 1 ≤ 3; omega)
    | some c =>
      cases last with
      | none => show inner.depth + 1 ≤ 3; omega
      | some l =>
        have := (hl l rfl).d
        show max inner.depth l.depth + 1 ≤ 3
        omega
  · rw [mkU_in]
    cases cap with
    | none => cases last <;> exact hi
    | some c =>
      cases last with
      | none => exact hi
      | some l =>
        show Lit (if z = c - 1 ∧ o = c - 1 then l else inner)
        split
        · exact hl l rfl
        · exact hi
theorem mkU_even {one other : Rule} (h : ∀ xs, ended one (begunR one) xs = ended other (begunR other) xs) {to lead : Int} {cap : Option Int} {l1 l2 : Option Rule} (hl : Lasts one other l1 l2) (xs : List Bool) :
    ended (mkU to lead cap one l1) (begunR (mkU to lead cap one l1)) xs = ended (mkU to lead cap other l2) (begunR (mkU to lead cap other l2)) xs := by
  obtain ⟨p, e1, e2, e3⟩ := mkU_all to lead cap one l1
  obtain ⟨p', e1', e2', e3'⟩ := mkU_all to lead cap other l2
  refine ended_around p p' (by rw [e1, e1']) (by rw [e2, e2']) (by rw [e3, e3']) (fun z o => ?_) xs
  rw [mkU_in, mkU_in]
  cases cap with
  | none => cases hl <;> exact h
  | some c =>
    cases hl with
    | no => exact h
    | fwd =>
      show Eqv (if z = c - 1 ∧ o = c - 1 then one else one) (begunR (if z = c - 1 ∧ o = c - 1 then one else one)) (if z = c - 1 ∧ o = c - 1 then other else other) (begunR (if z = c - 1 ∧ o = c - 1 then other else other))
      split
      · exact h
      · exact h
    | bwd =>
      show Eqv (if z = c - 1 ∧ o = c - 1 then other else one) (begunR (if z = c - 1 ∧ o = c - 1 then other else one)) (if z = c - 1 ∧ o = c - 1 then one else other) (begunR (if z = c - 1 ∧ o = c - 1 then one else other))
      split
      · exact fun xs => (h xs).symm
      · exact h
    | pt =>
      show Eqv (if z = c - 1 ∧ o = c - 1 then .point else one) (begunR (if z = c - 1 ∧ o = c - 1 then .point else one)) (if z = c - 1 ∧ o = c - 1 then .point else other) (begunR (if z = c - 1 ∧ o = c - 1 then .point else other))
      split
      · exact fun xs => rfl
      · exact h
end CKA
end
section
set_option maxHeartbeats 4000000
namespace LW
open PySem PySem.Spec PyProof.Rows L2 TL
open CE (asg_step m_l_draws m_l_cell_at draws_ok cell_at_ok)
open CG (Gm m_first m_deeds_at m_played m_place_of wonD)
open CZ
open CAl
open CKA
open RL RB TLQ RD CP
theorem l_rule_ok {X : Nat} {xs : List Nat} {M : Mem} (hx : XN M X xs 34) : Ret (m_l_rule [.ref X] M) (fun d M' => ∃ r : Rule, d = r.toD ∧ lvlR 1 true r ∧ r.depth ≤ 1 ∧ Keep M M') := by
  show Ret (endS (b_l_rule [some (.ref X)] M)) _
  unfold b_l_rule
  obtain ⟨_, M1, e1, r, rfl, lr, dr, k1⟩ := CZ.unit_ok (lv := 1) (by decide) (by decide) 14 (level := 0) (at' := 0) hx (by omega) (by omega) (by unfold spotOk; simp)
  have e1' : m_l_unit 14 [.ref X, .int 0, .int 0, .int 1] M = .ok r.toD M1 := e1
  simp [-mIdx_ref, e1']
  exact .ok ⟨r, rfl, by simpa using lr, by omega, k1⟩
theorem l_other_ok {r : Rule} (h : lvlR 1 true r) (hd : r.depth ≤ 1) {cell : Int} (M : Mem) : Ret (m_l_other [r.toD, .int cell] M) (fun d M' => ∃ r' : Rule, d = r'.toD ∧ Lit r' ∧ Keep M M') := by
  show Ret (endS (b_l_other [some r.toD, some (.int cell), none, none] M)) _
  unfold b_l_other
  obtain ⟨_, M1, e1, X, xs, rfl, lX, k1, aX, lx⟩ := draws_ok (c := cell) (many := 34) (by decide) M
  have e1' : m_l_draws [.int cell, .int 34] M = .ok (.ref X) M1 := e1
  have hx : XN M1 X xs 34 := ⟨seqAt_lst aX, lx⟩
  obtain ⟨v, x⟩ := hx.at_ (i := 33) (by omega) (by omega)
  have x' := x M1 (Keep.refl M1)
  have m6 : mMod (.int (v : Nat)) (.int 6) M1 = some (.int ((v : Int) % 6), M1) := by simp [mMod, Int.fmod_eq_emod_of_nonneg]
  have ni := lvl_nice (by decide) (by decide) h
  have rd : ∃ rd, rd = r.toD := ⟨_, rfl⟩
  obtain ⟨rd, hrd⟩ := rd
  rw [← hrd]
  rw [asg_step (v := .ref X) (M' := M1) (by simp [e1'])]
  simp only [List.set]
  rw [asg_step (v := .int ((v : Int) % 6)) (M' := M1) (by simp [-mIdx_ref, x', m6])]
  simp only [List.set]
  have w0 := Int.emod_nonneg (v : Int) (show (6 : Int) ≠ 0 by decide)
  generalize (v : Int) % 6 = w at *
  by_cases c0 : w = 0
  · obtain ⟨_, M2, e2, r', rfl, b3, b4, k2⟩ := l_rule_ok hx
    simp [c0, e2]
    exact .ok ⟨r', rfl, lit_drawn b3 b4, k1.trans k2⟩
  · by_cases c1 : w = 1
    · simp [c1]
      exact .ok ⟨r, hrd, lit_drawn h hd, k1⟩
    · by_cases c2 : w = 2
      · simp [c2]
        exact .ok ⟨.unit 1 1 none r, by rw [hrd]; rfl, lit_around h hd, k1⟩
      · obtain ⟨_, M2, e2, r', rfl, n', d', t', k2⟩ := turned_ok 14 ni (by omega) (by decide) hx (by omega)
        rw [← hrd] at e2
        simp [c0, c1, c2, e2]
        exact .ok ⟨r', rfl, lit_turned h hd n' d' t', k1.trans k2⟩
section
variable {r1 r2 : Rule} {h1 : Sm r1} {h2 : Sm r2}
theorem l_told_ok (h1 : Sm r1) (h2 : Sm r2) (M0 : Mem) : Ret (m_l_told [r1.toD, r2.toD] M0) (ToldQ (RG h1) (RG h2) M0 (bgn r1 r2) 200) := by
  show Ret (endS (b_l_told [some r1.toD, some r2.toD, none] M0)) _
  unfold b_l_told
  rcases alike_all (b := bgn r1 r2) (key2 (h1 := h1) (h2 := h2)) (lim := 200) (by decide) (by decide) (lv_first h1) (lv_first h2) M0 with ⟨d, M, e, q⟩ | ⟨x, M, e, rfl, k, L, g, hl⟩
  · generalize r1.toD = d1 at *
    generalize r2.toD = d2 at *
    simp [e]
    exact .ok ⟨M.length, rfl, q.1.1, q.1.trans (Keep.more _ _), .inl ⟨d, M, at_len _ _, q, Keep.more _ _⟩⟩
  · generalize r1.toD = d1 at *
    generalize r2.toD = d2 at *
    simp [e, tooMany, subX]
    exact .ok ⟨M.length, rfl, k.1, k.trans (Keep.more _ _), .inr ⟨at_len _ _, L, g, hl⟩⟩
theorem is_alike_ok (h1 : Sm r1) (h2 : Sm r2) (he : Even r1 r2 h1 h2) (M0 : Mem) : Ret (m_l_is_alike [r1.toD, r2.toD] M0) (TL.Gives M0 (.bl true)) := by
  show Ret (endS (b_l_is_alike [some r1.toD, some r2.toD, none, none, none] M0)) _
  unfold b_l_is_alike
  have kk := key2 (h1 := h1) (h2 := h2)
  rw [asg_step (v := gmsD r1 r2) (M' := M0) (by simp [gmsD, Gm.toD])]
  simp only [List.set]
  obtain ⟨_, M1, e1, l, L, rfl, k1, nl, al, g, w, ll⟩ := pairs_ok (b := bgn r1 r2) kk (lim := 200) (by decide) (by decide) (firstRG h1) (firstRG h2) M0
  rw [asg_step (v := .ref l) (M' := M1) (by
    generalize gmsD r1 r2 = gg at *
    simp [e1])]
  simp only [List.set]
  obtain ⟨_, M2, e2, n, rfl, nn, k2, q⟩ := l_told_ok h1 h2 M1
  rw [asg_step (v := .ref n) (M' := M2) (by
    generalize r1.toD = d1 at *
    generalize r2.toD = d2 at *
    simp [e2])]
  simp only [List.set]
  have al2 := k2.at al
  have sl := seqAt_lst al2
  have lm : (L.map toPD).length = L.length := List.length_map ..
  rcases q with ⟨x, M3, an, q, k3⟩ | ⟨an, L2, g2, hl2⟩
  · have td := (alikeQ_told q (by decide)).keep k3
    have hL : (L.length : Int) ≤ 200 := by
      obtain ⟨_, L2, w2, hl2, _⟩ := q
      have := walk_le w2 g
      omega
    have hx : ∃ l, x = .tup [.str (Str.ofString "alike"), .ref l] := by
      obtain ⟨_, L2, w2, _, h⟩ := q
      rcases h with ⟨l, e, _⟩ | ⟨r, ds, t, e, _, _, _, hu, ht, _⟩
      · exact ⟨l, e⟩
      · exact absurd (he L2 w2.toGw t ht) hu
    obtain ⟨l', hx⟩ := hx
    have ix0 : ∀ M, mIdx x (.int 0) M = some (.str (Str.ofString "alike"), M) := fun M => by rw [hx]; rfl
    clear hx
    have c : ¬ (200 < (L.length : Int)) := by omega
    have c' : ¬ (200 < L.length) := by omega
    rw [TLP.ifN (M' := M2) (by simp [sl, c, c'])]
    obtain ⟨M4, e4, k4⟩ := gives_of (told_right_ok (b := bgn r1 r2) kk (simRG h1) (simRG h2) (firstRG h1) (firstRG h2) td al2 (w hL) (by omega))
    have ix : mIdx (.ref n) (.int 0) M2 = some (x, M2) := CE.idx_of (seqAt_lst an) (atI_nat (j := 0) rfl)
    have sn := seqAt_lst an
    rw [TLP.ret (v := .bl true) (M' := M4) (by
      generalize gmsD r1 r2 = gg at *
      simp [-mIdx_ref, ix, sn, ix0, e4])]
    exact .ok ⟨rfl, (k1.trans k2).trans k4⟩
  · have c : (200 : Int) < (L.length : Int) := by
      by_cases c : (200 : Int) < (L.length : Int)
      · exact c
      · have := walk_le (w (by omega)) g2
        omega
    have c' : 200 < L.length := by omega
    rw [TLP.ifT (M' := M2) (by simp [sl, c, c'])]
    have k4 := Keep.more M2 [MO.lst noL]
    have eq := mEq_noL (seqAt_lst (k4.at an)) (seqAt_lst (at_len M2 (MO.lst noL)))
    unfold noL at eq k4
    rw [TLP.ret1 (v := .bl true) (M' := M2 ++ [MO.lst [.bl true, .bl true, .bl false]]) (by simp [eq])]
    exact .ok ⟨rfl, (k1.trans k2).trans k4⟩
end
end LW
end
section
set_option maxHeartbeats 4000000
namespace LW
open PySem PySem.Spec PyProof.Rows L2 TL
open CE (asg_step m_l_draws m_l_cell_at draws_ok cell_at_ok)
open CG (Gm m_first m_deeds_at m_played m_place_of wonD)
open CZ
open CAl
open CKA
open RL RB TLQ RD CP
section
variable {r1 r2 : Rule} {G : Gr (.rally r1)} {H : Gr (.rally r2)} {M0 M : Mem} {b : D × D}
/-- the odd ones of a line -/
theorem odd_law {L : List (D × D)} (hp : ∀ t ∈ L, In2 G H t) (hl : L.length ≤ 100000) {m : Nat} (am : M0[m]? = some (.lst (L.map toPD))) {e0 e1 e2 e3 : Option D} : Ret (eComp 11 (iAny (eVar 4)) (tB (eBin mNe (eBin mIs (eBin mIdx (eBin mIdx (eVar 11) (eC (.int 0))) (eC (.int 1))) (eC .non)) (eBin mIs (eBin mIdx (eBin mIdx (eVar 11) (eC (.int 1))) (eC (.int 1))) (eC .non)))) (eVar 11) [e0, e1, e2, e3, some (.ref m), none, none, none, none, none, none, none] M0) (fun v M2 => v = .ref M0.length ∧ Keep M0 M2 ∧ M2[M0.length]? = some (.lst ((L.filter fun t => isOpen t.1 != isOpen t.2).map toPD))) := by
  have s0 := seqAt_lst am
  have fm : (L.map toPD).filter (fun p => match p with | .tup [a, c] => isOpen a != isOpen c | _ => false) = (L.filter fun t => isOpen t.1 != isOpen t.2).map toPD := by
    rw [List.filter_map]
    rfl
  rw [← fm]
  simp [srcOf_ref s0]
  refine Ret.bindQ (P := fun _ M2 => Keep M0 M2 ∧ M2[M0.length]? = some (.lst ((L.map toPD).filter (fun p => match p with | .tup [a, c] => isOpen a != isOpen c | _ => false)))) (TL.Ret.compF (fun p => match p with | .tup [a, c] => isOpen a != isOpen c | _ => false) (fun p => p) (fun M' k' => k'.seq s0) (by rw [List.length_map]; omega) (fun p hpp M' k' => ?_) fun M3 k3 a3 => ⟨k3, by simpa using a3⟩) ?_
  · obtain ⟨t, ht, rfl⟩ := List.mem_map.mp hpp
    have tP := hp t ht
    obtain ⟨x, w1, f1, _⟩ := G.form tP.1
    obtain ⟨y, w2, f2, _⟩ := H.form tP.2
    have i1 : ∀ M, mIdx t.1 (.int 1) M = some (wonD w1, M) := fun M => by rw [f1]; rfl
    have i2 : ∀ M, mIdx t.2 (.int 1) M = some (wonD w2, M) := fun M => by rw [f2]; rfl
    have q1 : isNon (wonD w1) = isOpen t.1 := by rw [f1]; cases w1 <;> rfl
    have q2 : isNon (wonD w2) = isOpen t.2 := by rw [f2]; cases w2 <;> rfl
    have j1 : ∀ M, mIdx (toPD t) (.int 0) M = some (t.1, M) := fun M => rfl
    have j2 : ∀ M, mIdx (toPD t) (.int 1) M = some (t.2, M) := fun M => rfl
    have ne : mNe (.bl (isOpen t.1)) (.bl (isOpen t.2)) M' = some (.bl (isOpen t.1 != isOpen t.2), M') := by cases isOpen t.1 <;> cases isOpen t.2 <;> rfl
    have res : (match toPD t with | .tup [a, c] => isOpen a != isOpen c | _ => false) = (isOpen t.1 != isOpen t.2) := rfl
    rw [res]
    generalize toPD t = tp at *
    generalize isOpen t.1 = o1 at *
    generalize isOpen t.2 = o2 at *
    simp [-mIdx_tup, j1, j2, i1, i2, q1, q2, ne]
    exact .ok ⟨rfl, Keep.refl _, fun _ => .ok ⟨rfl, Keep.refl _⟩⟩
  · rintro _ M3 ⟨k3, a3⟩
    exact .ok ⟨rfl, k3, a3⟩
end
theorem law_true (ns : List Int) (hl : ns.length ≤ 63) : ∃ M', m_law [.ref 0] [.rol (ns.map D.int)] = .ok (.bl true) M' := by
  suffices h : Ret (m_law [.ref 0] [.rol (ns.map D.int)]) (fun d _ => d = .bl true) by
    obtain ⟨d, M, e, rfl⟩ := h
    exact ⟨M, e⟩
  show Ret (endS (b_law [some (.ref 0), none, none, none, none, none, none, none, none, none, none, none] [.rol (ns.map D.int)])) _
  unfold b_law
  have hs : seqAt ([.rol (ns.map D.int)] : Mem) 0 = some (ns.map D.int) := rfl
  generalize ([.rol (ns.map D.int)] : Mem) = M1 at *
  have c0 : m_l_cell_at [.ref 0, .int 0] M1 = .ok (.int (ns.getD 0 0)) M1 := cell_at_ok (k := 0) hs
  generalize ns.getD 0 0 = ca at *
  obtain ⟨_, M2, e2, X, xs, rfl, lX, k2, aX, lx⟩ := draws_ok (c := ca) (many := 34) (by decide) M1
  have e2' : m_l_draws [.int ca, .int 34] M1 = .ok (.ref X) M2 := e2
  obtain ⟨_, M3, e3, r1, rfl, a3, a4, k3⟩ := l_rule_ok (X := X) (xs := xs) (M := M2) ⟨seqAt_lst aX, lx⟩
  have t1 := lit_drawn a3 a4
  rw [TLP.asg (v := r1.toD) (M' := M3) (by simp [c0, e2', e3])]
  simp only [List.set]
  have k13 := k2.trans k3
  have c1 : m_l_cell_at [.ref 0, .int 1] M3 = .ok (.int (ns.getD 1 0)) M3 := cell_at_ok (k := 1) (k13.seq hs)
  generalize ns.getD 1 0 = cb at *
  obtain ⟨_, M4, e4, r2, rfl, t2, k4⟩ := l_other_ok a3 a4 (cell := cb) M3
  rw [TLP.asg (v := r2.toD) (M' := M4) (by
    generalize r1.toD = d1 at *
    generalize r2.toD = d2 at *
    simp [c1, e4])]
  simp only [List.set]
  have h1 := t1.sm
  have h2 := t2.sm
  have tw := lit_around a3 a4
  obtain ⟨M5, e5, k5⟩ := gives_of (is_alike_ok h1 h1 (even_tel (Tel.refl r1) h1 h1) M4)
  obtain ⟨M6, e6, k6⟩ := gives_of (is_alike_ok tw.sm h1 (even_let (Tel.wrap h1.num (.inl rfl)) h1 tw.sm) M5)
  have ew : (Rule.unit 1 1 none r1).toD = .tup [.str (Str.ofString "unit"), .int 1, .int 1, .non, r1.toD, .non] := rfl
  rw [ew] at e6
  rw [TLP.ifN (M' := M6) (by
    generalize r1.toD = d1 at *
    generalize r2.toD = d2 at *
    simp [e5, e6])]
  rw [asg_step (v := gmsD r1 r2) (M' := M6) (by simp [gmsD, Gm.toD])]
  simp only [List.set]
  have kk := key2 (h1 := h1) (h2 := h2)
  obtain ⟨_, M7, e7, l, L, rfl, k7, nl, al, g, w, ll⟩ := pairs_ok (b := bgn r1 r2) kk (lim := 200) (by decide) (by decide) (firstRG h1) (firstRG h2) M6
  rw [asg_step (v := .ref l) (M' := M7) (by
    generalize gmsD r1 r2 = gg at *
    simp [e7])]
  simp only [List.set]
  have k17 := (((k13.trans k4).trans k5).trans k6).trans k7
  have sl := seqAt_lst al
  have lm : (L.map toPD).length = L.length := List.length_map ..
  by_cases c : 200 < L.length
  · have c' : (200 : Int) < (L.length : Int) := by omega
    rw [TLP.ifT (M' := M7) (by simp [sl, c, c'])]
    simp
    exact .ok rfl
  · have wL := w (by omega)
    have c' : ¬ (200 : Int) < (L.length : Int) := by omega
    obtain ⟨_, M8, e8, rfl, k8, a8⟩ := odd_law g.pl (by omega) al (e0 := some (.ref 0)) (e1 := some r1.toD) (e2 := some r2.toD) (e3 := some (gmsD r1 r2))
    have po : pureL ((L.filter fun t => isOpen t.1 != isOpen t.2).map toPD) 8 = true := keyed_pure (pairs_keyed kk fun t ht => wL.pl t (List.mem_filter.mp ht).1)
    have k9 := Keep.more M8 [MO.lst []]
    have ne := mNe_nil (k := 8) (seqAt_lst (k9.at a8)) (seqAt_lst (at_len M8 (MO.lst []))) po (by decide)
    have tst : (tOr (tB (eBin mGt (eCallO nLen (aCons (eVar 4) aNil)) (eC (.int 200)))) (tB (eBin mNe (eComp 11 (iAny (eVar 4)) (tB (eBin mNe (eBin mIs (eBin mIdx (eBin mIdx (eVar 11) (eC (.int 0))) (eC (.int 1))) (eC .non)) (eBin mIs (eBin mIdx (eBin mIdx (eVar 11) (eC (.int 1))) (eC (.int 1))) (eC .non)))) (eVar 11)) (eLst aNil)))) [some (.ref 0), some r1.toD, some r2.toD, some (gmsD r1 r2), some (.ref l), none, none, none, none, none, none, none] M7 = .ok (!((L.filter fun t => isOpen t.1 != isOpen t.2).map toPD).isEmpty) (M8 ++ [.lst []]) := by
      generalize eComp 11 (iAny (eVar 4)) (tB (eBin mNe (eBin mIs (eBin mIdx (eBin mIdx (eVar 11) (eC (.int 0))) (eC (.int 1))) (eC .non)) (eBin mIs (eBin mIdx (eBin mIdx (eVar 11) (eC (.int 1))) (eC (.int 1))) (eC .non)))) (eVar 11) = cmp at *
      generalize r1.toD = d1 at *
      generalize r2.toD = d2 at *
      generalize gmsD r1 r2 = gg at *
      generalize List.map toPD (L.filter fun t => isOpen t.1 != isOpen t.2) = od at *
      simp [sl, c, c', e8, ne]
    by_cases od : (L.filter fun t => isOpen t.1 != isOpen t.2) = []
    · rw [od] at tst
      rw [TLP.ifN (M' := M8 ++ [.lst []]) tst]
      have ev : ∀ t ∈ L, isOpen t.1 = isOpen t.2 := fun t ht => by
        have := List.filter_eq_nil_iff.mp od t ht
        simpa using this
      have ends := even_ends wL ev
      have k19 := (k17.trans k8).trans k9
      generalize M8 ++ [MO.lst []] = M9 at *
      clear tst e8 ne a8 al sl po
      have c2 : m_l_cell_at [.ref 0, .int 2] M9 = .ok (.int (ns.getD 2 0)) M9 := cell_at_ok (k := 2) (k19.seq hs)
      generalize ns.getD 2 0 = cc at *
      obtain ⟨_, MA, eA, Y, ys, rfl, lY, kA, aY, ly⟩ := draws_ok (c := cc) (many := 4) (by decide) M9
      have eA' : m_l_draws [.int cc, .int 4] M9 = .ok (.ref Y) MA := eA
      have hy : XN MA Y ys 4 := ⟨seqAt_lst aY, ly⟩
      obtain ⟨v0, x0⟩ := hy.at_ (i := 0) (by omega) (by omega)
      obtain ⟨v1, x1⟩ := hy.at_ (i := 1) (by omega) (by omega)
      obtain ⟨v2, x2⟩ := hy.at_ (i := 2) (by omega) (by omega)
      obtain ⟨v3, x3⟩ := hy.at_ (i := 3) (by omega) (by omega)
      generalize hgg : gmsD r1 r2 = gg
      clear hgg
      rw [TLP.asg (v := .ref Y) (M' := MA) (by
        generalize r1.toD = d1 at *
        generalize r2.toD = d2 at *
        simp [c2, eA'])]
      simp only [List.set]
      obtain ⟨to, hto, to1, to2⟩ : ∃ to : Int, 1 + (v0 : Int) % 2 = to ∧ 1 ≤ to ∧ to ≤ 2 := ⟨_, rfl, by omega, by omega⟩
      have md : ∀ (v : Nat) (k : Int) (M : Mem), 0 < k → mMod (.int (v : Nat)) (.int k) M = some (.int ((v : Int) % k), M) := fun v k M hk => by simp [mMod, Int.fmod_eq_emod_of_nonneg, hk, Int.le_of_lt hk]
      have m02 := fun M => md v0 2 M (by decide)
      have m12 := fun M => md v1 2 M (by decide)
      have m24 := fun M => md v2 4 M (by decide)
      have m32 := fun M => md v3 2 M (by decide)
      rw [TLP.asg (v := .int to) (M' := MA) (by
        generalize r1.toD = d1 at *
        generalize r2.toD = d2 at *
        simp [-mIdx_ref, x0 MA (Keep.refl _), m02, hto])]
      simp only [List.set]
      -- the cap
      obtain ⟨w1, hw1⟩ : ∃ w1 : Nat, (v1 : Int) / 2 = (w1 : Int) := ⟨v1 / 2, by omega⟩
      have f12 : ∀ M, mFdiv (.int (v1 : Nat)) (.int 2) M = some (.int (w1 : Nat), M) := fun M => by
        simp [mFdiv, Int.fdiv_eq_ediv_of_nonneg, hw1]
      have m13 := fun M => md w1 3 M (by decide)
      obtain ⟨cap0, hc0⟩ : ∃ c : Int, c = to + (w1 : Int) % 3 := ⟨_, rfl⟩
      have kB := Keep.more MA [MO.lst [.non, .int cap0]]
      have aB := at_len MA (MO.lst [.non, .int cap0])
      generalize hMB : MA ++ [MO.lst [.non, .int cap0]] = MB at *
      obtain ⟨cap, ixc, hcap⟩ : ∃ cap : Option Int, mIdx (.ref MA.length) (.int ((v1 : Int) % 2)) MB = some (capD cap, MB) ∧ ∀ c, cap = some c → to ≤ c ∧ c < to + 3 := by
        rcases (show (v1 : Int) % 2 = 0 ∨ (v1 : Int) % 2 = 1 by omega) with h | h
        · rw [h]; exact ⟨none, CE.idx_of (seqAt_lst aB) rfl, fun c e => nomatch e⟩
        · rw [h]; exact ⟨some cap0, CE.idx_of (seqAt_lst aB) rfl, fun c e => by cases e; omega⟩
      rw [TLP.asg (v := capD cap) (M' := MB) (by
        generalize r1.toD = d1 at *
        generalize r2.toD = d2 at *
        simp [-mIdx_ref, x1 MA (Keep.refl _), f12, m13, ← hc0, hMB, x1 MB kB, m12, ixc])]
      simp only [List.set]
      -- the last ones
      have kC := Keep.more MB [MO.lst [.non, .non]]
      have aC := at_len MB (MO.lst [.non, .non])
      rw [TLP.asg (v := .ref MB.length) (M' := MB ++ [.lst [.non, .non]]) (by
        generalize r1.toD = d1 at *
        generalize r2.toD = d2 at *
        simp)]
      simp only [List.set]
      generalize hMC : MB ++ [MO.lst [.non, .non]] = MC at *
      have kAC := kB.trans kC
      obtain ⟨q, l1, l2, MD, eq, hL, aD, kD, hn⟩ : ∃ (q : Nat) (l1 l2 : Option Rule) (MD : Mem), (∀ rest : MS, (sSeq (sIf (tB (eBin mIsNot (eVar 7) (eC .non))) (sAsg (gOne 8) (eLst (aCons (eBin mIdx (eLst (aCons (eC .non) (aCons (eVar 1) (aCons (eVar 2) (aCons (eTup (aCons (eC (.str "point")) aNil)) aNil))))) (eBin mMod (eBin mIdx (eVar 5) (eC (.int 2))) (eC (.int 4)))) (aCons (eBin mIdx (eLst (aCons (eC .non) (aCons (eVar 2) (aCons (eVar 1) (aCons (eTup (aCons (eC (.str "point")) aNil)) aNil))))) (eBin mMod (eBin mIdx (eVar 5) (eC (.int 2))) (eC (.int 4)))) aNil)))) sNil) rest)
          [some (.ref 0), some r1.toD, some r2.toD, some gg, some (.ref l), some (.ref Y), some (.int to), some (capD cap), some (.ref MB.length), none, none, none] MC =
          rest [some (.ref 0), some r1.toD, some r2.toD, some gg, some (.ref l), some (.ref Y), some (.int to), some (capD cap), some (.ref q), none, none, none] MD) ∧ Lasts r1 r2 l1 l2 ∧ MD[q]? = some (.lst [lastD l1, lastD l2]) ∧ Keep MC MD ∧ (cap = none → l1 = none ∧ l2 = none) := by
        cases cap with
        | none =>
          refine ⟨MB.length, none, none, MC, fun rest => ?_, .no, aC, Keep.refl _, fun _ => ⟨rfl, rfl⟩⟩
          generalize r1.toD = d1 at *
          generalize r2.toD = d2 at *
          rw [TLP.ifF (M' := MC) (by simp [capD])]
          rfl
        | some c =>
          obtain ⟨j, hj, jl⟩ : ∃ j : Nat, (v2 : Int) % 4 = (j : Int) ∧ j < 4 := ⟨v2 % 4, by omega, by omega⟩
          have pd : Rule.point.toD = .tup [.str (Str.ofString "point")] := rfl
          obtain ⟨l1, l2, hL, q1, q2⟩ : ∃ l1 l2, Lasts r1 r2 l1 l2 ∧ [D.non, r1.toD, r2.toD, .tup [.str (Str.ofString "point")]][j]? = some (lastD l1) ∧ [D.non, r2.toD, r1.toD, .tup [.str (Str.ofString "point")]][j]? = some (lastD l2) := by
            rcases (show j = 0 ∨ j = 1 ∨ j = 2 ∨ j = 3 by omega) with rfl | rfl | rfl | rfl
            · exact ⟨_, _, .no, rfl, rfl⟩
            · exact ⟨_, _, .fwd, rfl, rfl⟩
            · exact ⟨_, _, .bwd, rfl, rfl⟩
            · exact ⟨_, _, .pt, rfl, rfl⟩
          generalize r1.toD = d1 at *
          generalize r2.toD = d2 at *
          have k1 := Keep.more MC [MO.lst [.non, d1, d2, .tup [.str (Str.ofString "point")]]]
          have a1 := at_len MC (MO.lst [.non, d1, d2, .tup [.str (Str.ofString "point")]])
          obtain ⟨ME, hME⟩ : ∃ ME, ME = MC ++ [MO.lst [.non, d1, d2, .tup [.str (Str.ofString "point")]]] := ⟨_, rfl⟩
          rw [← hME] at k1 a1
          have k2 := Keep.more ME [MO.lst [.non, d2, d1, .tup [.str (Str.ofString "point")]]]
          have a2 := at_len ME (MO.lst [.non, d2, d1, .tup [.str (Str.ofString "point")]])
          obtain ⟨MF, hMF⟩ : ∃ MF, MF = ME ++ [MO.lst [.non, d2, d1, .tup [.str (Str.ofString "point")]]] := ⟨_, rfl⟩
          rw [← hMF] at k2 a2
          have i1 : mIdx (.ref MC.length) (.int (j : Nat)) ME = some (lastD l1, ME) := CE.idx_of (seqAt_lst a1) (atI_nat q1)
          have i2 : mIdx (.ref ME.length) (.int (j : Nat)) MF = some (lastD l2, MF) := CE.idx_of (seqAt_lst a2) (atI_nat q2)
          have x21 := x2 ME (kAC.trans k1)
          have x22 := x2 MF ((kAC.trans k1).trans k2)
          have m24' := m24
          rw [hj] at m24'
          obtain ⟨ld1, hld1⟩ : ∃ d, d = lastD l1 := ⟨_, rfl⟩
          obtain ⟨ld2, hld2⟩ : ∃ d, d = lastD l2 := ⟨_, rfl⟩
          rw [← hld1] at i1
          rw [← hld2] at i2
          have k3 := Keep.more MF [MO.lst [ld1, ld2]]
          have a3 := at_len MF (MO.lst [ld1, ld2])
          refine ⟨MF.length, l1, l2, MF ++ [.lst [ld1, ld2]], fun rest => ?_, hL, by rw [← hld1, ← hld2]; exact a3, (k1.trans k2).trans k3, fun e => nomatch e⟩
          rw [TLP.ifT (M' := MC) (by simp [capD])]
          rw [TLP.asg (v := .ref MF.length) (M' := MF ++ [.lst [ld1, ld2]]) (by
            simp [-mIdx_ref, ← hME, x21, m24', i1, ← hMF, x22, i2])]
          rfl
      rw [eq]
      clear eq
      have kAD := kAC.trans kD
      have s1 : Sm (mkU to (1 + (v3 : Int) % 2) cap r1 l1) := mkU_sm to1 to2 (by omega) (by omega) hcap t1 fun l e => by
        subst e
        cases hL with
        | fwd => exact t1
        | bwd => exact t2
        | pt => exact lit_point
      have s2 : Sm (mkU to (1 + (v3 : Int) % 2) cap r2 l2) := mkU_sm to1 to2 (by omega) (by omega) hcap t2 fun l e => by
        subst e
        cases hL with
        | fwd => exact t2
        | bwd => exact t1
        | pt => exact lit_point
      have u1 := mkU_toD (to := to) (lead := 1 + (v3 : Int) % 2) (inner := r1) fun e => (hn e).1
      have u2 := mkU_toD (to := to) (lead := 1 + (v3 : Int) % 2) (inner := r2) fun e => (hn e).2
      obtain ⟨ME, eE, kE⟩ := gives_of (is_alike_ok s1 s2 (even_of s1 s2 fun xs => mkU_even ends hL xs) MD)
      rw [u1, u2] at eE
      clear u1 u2
      have x3D := x3 MD kAD
      have i0 : mIdx (.ref q) (.int 0) MD = some (lastD l1, MD) := CE.idx_of (seqAt_lst aD) (atI_nat (j := 0) rfl)
      have i1 : mIdx (.ref q) (.int 1) MD = some (lastD l2, MD) := CE.idx_of (seqAt_lst aD) (atI_nat (j := 1) rfl)
      generalize lastD l1 = ld1 at *
      generalize lastD l2 = ld2 at *
      generalize r1.toD = d1 at *
      generalize r2.toD = d2 at *
      generalize capD cap = cd at *
      rw [TLP.asg (v := .tup [.str (Str.ofString "unit"), .int to, .int (1 + (v3 : Int) % 2), cd, d1, ld1]) (M' := MD) (by simp [-mIdx_ref, x3D, m32, i0])]
      simp only [List.set]
      rw [TLP.asg (v := .tup [.str (Str.ofString "unit"), .int to, .int (1 + (v3 : Int) % 2), cd, d2, ld2]) (M' := MD) (by simp [-mIdx_ref, x3D, m32, i1])]
      simp only [List.set]
      simp [eE]
      exact .ok rfl
    · have : (!((L.filter fun t => isOpen t.1 != isOpen t.2).map toPD).isEmpty) = true := by
        cases hq : (L.filter fun t => isOpen t.1 != isOpen t.2) with
        | nil => exact absurd hq od
        | cons _ _ => rfl
      rw [this] at tst
      rw [TLP.ifT (M' := M8 ++ [.lst []]) tst]
      simp
      exact .ok rfl
end LW
end
set_option maxHeartbeats 0
open PySem PySem.W PySem.Calls PyProof.Rows
theorem PySem.Challenge.cw_tally_k70_whole_alike_within_holds : PySem.Challenge.rw_tally_k70_whole_alike_within.Holds := by
  w_on; o_law
  refine HandSHeadRun.head_any (r := OpenLaw.row PySem.Challenge.rw_tally_k70_whole_alike_within) (q := view (OpenLaw.row PySem.Challenge.rw_tally_k70_whole_alike_within).prog [54]) (H := LW.hk) (ob := LW.ob) (M := 9000) (loose := LW.loose) (d := HandSHeadRun.topDef (OpenLaw.row PySem.Challenge.rw_tally_k70_whole_alike_within).prog 54) (kwd := []) LW.ob_eq
    (by kernel_rfl) (fun s => by kernel_rfl) LW.run (by kernel_rfl) (by kernel_rfl) (by kernel_rfl) (by rfl) (by first | assumption | decide +kernel) (by decide +kernel) ⟨rfl, rfl, rfl, rfl, rfl, by decide +kernel⟩ ?hw ?hc
  case hw => w_witness2
  case hc =>
    refine TL.walk_ofW (l := PySem.Challenge.rw_tally_k70_whole_alike_within) (n := 63) (k := 36) (x := "_law_script") (CX := fun w => L2N.CX (PySem.Challenge.rw_tally_k70_whole_alike_within).prog w) rfl (by decide) (by kernel_rfl) ⟨rfl, by decide, by decide⟩ ?F (fun _ _ _ _ _ z => TL.cx_false z)
    intro w mg fa h Y G hmg0
    obtain ⟨K, KX, c⟩ := Y
    have hmg : mg ("law" : PySem.Str) = some (.ref fa) := by
      have e : (HandSHeadRun.topDef (OpenLaw.row PySem.Challenge.rw_tally_k70_whole_alike_within).prog 54).name = ("law" : PySem.Str) := by kernel_rfl
      rw [← e]
      exact hmg0
    have Z : LW.Facts K mg := LW.facts KX G c
    have hfa : fa = He.ga K "law" := by
      have e := hmg.symm.trans Z.mg_law
      cases e
      rfl
    subst hfa
    obtain ⟨fd, F⟩ := Z.fn_law
    have b := L2.FunD.bindsA (ps := ["_law_script"]) F fun _ _ _ _ _ _ us hl => match us, hl with | [_], _ => rfl
    exact ⟨K, fd, TL.spD K 1 LW.m_law, KX, fun s v => b s [v] rfl, fun H a ns hl hO hS => TL.law_sp hO hS (LW.law_true ns hl), fun base _ _ => LW.ok_law Z F⟩
