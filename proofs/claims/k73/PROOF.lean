import PyProof.Rows.All
import Wide.All
import OpenK.AllK
import Wide.FinOn
import HandS.ForMost
import HandS.ForExc
import HandS.Defaults
import HandS.TupAny
import HandS.HeadHook2
import HandS.IsInst
import HandS.TupLe
import HandS.TupMul
import HandS.Conv
import HandS.StrMore
import HandS.Flow
import HandS.ExcCtx
import Lean
import HandS.Head0
import HandS.Head1
import HandS.Head2
import HandS.HeadEnd
import HandS.ExcIs
import HandS.ExcInit
import HandS.HotCalls
import HandS.ExcField
import KE.KExcIs
import HandS.Text
import HandS.RaiseMore
import HandS.Replace
import HandS.Deep
import PyProof.ReprRoads
import PyProof.ReprLen
import PyProof.FitsInt
import HandS.Strs
import HandS.CallSlots
import HandS.Iter
import PySem.Challenge.RW_tally_k73_units_won
set_option Elab.async false
set_option linter.all false
set_option maxRecDepth 100000
section
/-! the tree layer: data as trees over the abstract heap -/
namespace TL
open PySem PySem.Spec PyProof.Rows L2

/-- an exception of an own class: its class, its field at -/
structure Ex where
  cls : Str
  at_ : Option Int
inductive D where
  | non | bl (b : Bool) | int (i : Int) | str (x : Str) | tup (xs : List D) | ref (n : Nat) | err (x : Ex)
  deriving Inhabited

inductive MO where
  | lst (xs : List D)
  | rol (xs : List D)
  | ins (c : Str) (fs : List (Str × D))

abbrev Mem := List MO
abbrev Env := List (Option D)

inductive Out (α : Type) where
  | ok (a : α) (M : Mem)
  | exc (x : Ex) (M : Mem)
  | stuck

def Out.bind {α β : Type} (o : Out α) (f : α → Mem → Out β) : Out β :=
  match o with
  | .ok a M => f a M
  | .exc x M => .exc x M
  | .stuck => .stuck
@[simp] theorem Out.bind_ok {α β : Type} (a : α) (M : Mem) (f : α → Mem → Out β) : (Out.ok a M).bind f = f a M := rfl
@[simp] theorem Out.bind_exc {α β : Type} (x : Ex) (M : Mem) (f : α → Mem → Out β) : (Out.exc x M : Out α).bind f = .exc x M := rfl
@[simp] theorem Out.bind_stuck {α β : Type} (f : α → Mem → Out β) : (Out.stuck : Out α).bind f = .stuck := rfl

inductive SOut where
  | next (env : Env) (M : Mem)
  | ret (d : D) (M : Mem)
  | exc (x : Ex) (env : Env) (M : Mem)
  | stuck

abbrev ME := Env → Mem → Out D
abbrev MT := Env → Mem → Out Bool
abbrev MA := Env → Mem → Out (List D)
abbrev MS := Env → Mem → SOut

/-! ### what stands for what -/
section
variable (K : PySem.W.Frag)
/-- the field of an exception: its own dict -/
def ErrD (H : Hp) (at_ : Option Int) (dx : Option Addr) : Prop := (at_ = none ∧ dx = none) ∨ ∃ i d, at_ = some i ∧ dx = some d ∧ H d = some (.xd [(("at" : Str), V.int i)])
/-- what is kept of an exception that was caught: its very object -/
def errO (oe : Obj) : HO := .frz oe (.ext fun _ => True)
/-- an exception that was caught -/
def ErrAt (H : Hp) (a : Addr) (x : Ex) : Prop := ∃ (oe : Obj) (vs : Array Value), H a = some (errO oe) ∧ oe.cls = .ref (He.ga K x.cls) ∧ oe.data = .fields vs ∧ vs[2]? = some .none ∧ ErrD H x.at_ oe.dict
mutual
inductive Rp (ι : List Addr) (H : Hp) : D → V → Prop
  | non : Rp ι H .non .non
  | bl (b : Bool) : Rp ι H (.bl b) (.bl b)
  | int (i : Int) : Rp ι H (.int i) (.int i)
  | str (x : Str) : Rp ι H (.str x) (.str x)
  | tup {a : Addr} {xs : List D} {vs : List V} : SqT K H a vs → RpA ι H xs vs → Rp ι H (.tup xs) (.ref a)
  | ref {n : Nat} {a : Addr} : ι[n]? = some a → Rp ι H (.ref n) (.ref a)
  | err {x : Ex} {a : Addr} : ErrAt K H a x → Rp ι H (.err x) (.ref a)
inductive RpA (ι : List Addr) (H : Hp) : List D → List V → Prop
  | nil : RpA ι H [] []
  | cons {d : D} {v : V} {ds : List D} {vs : List V} : Rp ι H d v → RpA ι H ds vs → RpA ι H (d :: ds) (v :: vs)
end
structure Ext (ι : List Addr) (H : Hp) (ι' : List Addr) (H' : Hp) : Prop where
  pre : ∀ (n : Nat) (a : Addr), ι[n]? = some a → ι'[n]? = some a
  tup : ∀ (a : Addr) (vs : List V), SqT K H a vs → SqT K H' a vs
  err : ∀ (a : Addr) (x : Ex), ErrAt K H a x → ErrAt K H' a x
/-- a list that is only read -/
def RoL (H : Hp) (a : Addr) (vs : List V) : Prop := (∃ o, H a = some (.frz o (.lst vs))) ∨
  ∃ (o : Obj) (its : Array Value) (n : Nat), K.lookup a = some o ∧ o.cls = .type "list" ∧ o.dict = none ∧ o.data = .seq its n ∧ its.size ≤ sizeLine ∧ Vals vs its.toList
inductive RpF (ι : List Addr) (H : Hp) : List (Str × D) → List (Str × V) → Prop
  | nil : RpF ι H [] []
  | cons {x : Str} {d : D} {v : V} {ds : List (Str × D)} {vs : List (Str × V)} : Rp K ι H d v → RpF ι H ds vs → RpF ι H ((x, d) :: ds) ((x, v) :: vs)
/-- the class of that name -/
def ClsAt (x : Str) (C : Addr) : Prop := C = He.ga K x
def MOk (ι : List Addr) (H : Hp) (a : Addr) : MO → Prop
  | .lst xs => ∃ vs, H a = some (.lst vs) ∧ RpA K ι H xs vs
  | .rol xs => ∃ vs, RoL K H a vs ∧ RpA K ι H xs vs
  | .ins c fs => ∃ dx vs, H a = some (.ins (He.ga K c) dx vs) ∧ RpF K ι H fs vs
def mutable : MO → Bool
  | .rol _ => false
  | _ => true
structure SR (ι : List Addr) (H : Hp) (M : Mem) : Prop where
  len : ι.length = M.length
  ok : ∀ (n : Nat) (a : Addr) (o : MO), ι[n]? = some a → M[n]? = some o → MOk K ι H a o
  nd : ∀ (n m : Nat) (a : Addr) (o u : MO), ι[n]? = some a → ι[m]? = some a → M[n]? = some o → M[m]? = some u → mutable o = true → mutable u = true → n = m
def RpO (ι : List Addr) (H : Hp) : Option D → Option V → Prop
  | none, _ => True
  | some d, some v => Rp K ι H d v
  | some _, none => False
inductive EnvR (ι : List Addr) (H : Hp) : Env → L2.St → Prop
  | nil : EnvR ι H [] []
  | cons {d : Option D} {v : Option V} {ds : Env} {vs : L2.St} : RpO K ι H d v → EnvR ι H ds vs → EnvR ι H (d :: ds) (v :: vs)
end

section
variable {K : PySem.W.Frag} {ι ι' ι'' : List Addr} {H H' H'' : Hp}
theorem Ext.refl : Ext K ι H ι H := ⟨fun _ _ h => h, fun _ _ h => h, fun _ _ h => h⟩
theorem Ext.trans (a : Ext K ι H ι' H') (b : Ext K ι' H' ι'' H'') : Ext K ι H ι'' H'' :=
  ⟨fun n c h => b.pre n c (a.pre n c h), fun c vs h => b.tup c vs (a.tup c vs h), fun c x h => b.err c x (a.err c x h)⟩
mutual
theorem Rp.ext (e : Ext K ι H ι' H') : ∀ {d : D} {v : V}, Rp K ι H d v → Rp K ι' H' d v
  | _, _, .non => .non
  | _, _, .bl b => .bl b
  | _, _, .int i => .int i
  | _, _, .str x => .str x
  | _, _, .tup h r => .tup (e.tup _ _ h) (RpA.ext e r)
  | _, _, .ref h => .ref (e.pre _ _ h)
  | _, _, .err h => .err (e.err _ _ h)
theorem RpA.ext (e : Ext K ι H ι' H') : ∀ {d : List D} {v : List V}, RpA K ι H d v → RpA K ι' H' d v
  | _, _, .nil => .nil
  | _, _, .cons h r => .cons (Rp.ext e h) (RpA.ext e r)
end
theorem RpF.ext (e : Ext K ι H ι' H') : ∀ {d : List (Str × D)} {v : List (Str × V)}, RpF K ι H d v → RpF K ι' H' d v
  | _, _, .nil => .nil
  | _, _, .cons h r => .cons (h.ext e) (RpF.ext e r)
theorem RpO.ext (e : Ext K ι H ι' H') {d : Option D} {v : Option V} (h : RpO K ι H d v) : RpO K ι' H' d v := by
  cases d <;> cases v <;> first | trivial | exact h.elim | exact Rp.ext e h
theorem EnvR.ext (e : Ext K ι H ι' H') : ∀ {d : Env} {v : L2.St}, EnvR K ι H d v → EnvR K ι' H' d v
  | _, _, .nil => .nil
  | _, _, .cons h r => .cons (h.ext e) (EnvR.ext e r)
theorem EnvR.get : ∀ {env : Env} {σ : L2.St} {i : Nat} {d : D}, EnvR K ι H env σ → env[i]? = some (some d) → ∃ v, σ[i]? = some (some v) ∧ Rp K ι H d v
  | _, _, _, _, .nil, e => by simp at e
  | _, _, 0, d, .cons (d := x) (v := v) h _, e => by
    simp at e; subst e
    cases v with
    | none => exact h.elim
    | some v => exact ⟨v, rfl, h⟩
  | _, _, i + 1, d, .cons _ t, e => by
    obtain ⟨v, h1, h2⟩ := EnvR.get (i := i) (d := d) t (by simpa using e)
    exact ⟨v, by simpa using h1, h2⟩
theorem EnvR.set {d : D} {v : V} (r : Rp K ι H d v) : ∀ {env : Env} {σ : L2.St} (i : Nat), EnvR K ι H env σ → EnvR K ι H (env.set i (some d)) (σ.set i (some v))
  | _, _, _, .nil => .nil
  | _, _, 0, .cons _ t => .cons (show RpO K ι H (some d) (some v) from r) t
  | _, _, i + 1, .cons q t => .cons q (EnvR.set r i t)
theorem EnvR.unset : ∀ {env : Env} {σ : L2.St} (i : Nat), EnvR K ι H env σ → EnvR K ι H (env.set i none) (σ.set i none)
  | _, _, _, .nil => .nil
  | _, _, 0, .cons _ t => .cons trivial t
  | _, _, i + 1, .cons q t => .cons q (EnvR.unset i t)
theorem EnvR.length : ∀ {env : Env} {σ : L2.St}, EnvR K ι H env σ → env.length = σ.length
  | _, _, .nil => rfl
  | _, _, .cons _ t => congrArg (· + 1) t.length
theorem RpA.length : ∀ {ds : List D} {vs : List V}, RpA K ι H ds vs → ds.length = vs.length
  | _, _, .nil => rfl
  | _, _, .cons _ t => congrArg (· + 1) t.length
theorem RpA.get : ∀ {ds : List D} {vs : List V} {i : Nat} {d : D}, RpA K ι H ds vs → ds[i]? = some d → ∃ v, vs[i]? = some v ∧ Rp K ι H d v
  | _, _, _, _, .nil, e => by simp at e
  | _, _, 0, d, .cons h _, e => by simp at e; subst e; exact ⟨_, rfl, h⟩
  | _, _, i + 1, d, .cons _ t, e => by
    obtain ⟨v, h1, h2⟩ := RpA.get (i := i) (d := d) t (by simpa using e)
    exact ⟨v, by simpa using h1, h2⟩
theorem RpA.append : ∀ {ds es : List D} {vs us : List V}, RpA K ι H ds vs → RpA K ι H es us → RpA K ι H (ds ++ es) (vs ++ us)
  | _, _, _, _, .nil, s => s
  | _, _, _, _, .cons r t, s => .cons r (RpA.append t s)
theorem RpA.take : ∀ {ds : List D} {vs : List V} (n : Nat), RpA K ι H ds vs → RpA K ι H (ds.take n) (vs.take n)
  | _, _, 0, _ => .nil
  | _, _, _ + 1, .nil => .nil
  | _, _, n + 1, .cons r t => .cons r (RpA.take n t)
theorem RpA.drop : ∀ {ds : List D} {vs : List V} (n : Nat), RpA K ι H ds vs → RpA K ι H (ds.drop n) (vs.drop n)
  | _, _, 0, r => r
  | _, _, _ + 1, .nil => .nil
  | _, _, n + 1, .cons _ t => RpA.drop n t
theorem RpA.set {d : D} {v : V} (r : Rp K ι H d v) : ∀ {ds : List D} {vs : List V} (i : Nat), RpA K ι H ds vs → RpA K ι H (ds.set i d) (vs.set i v)
  | _, _, _, .nil => .nil
  | _, _, 0, .cons _ t => .cons r t
  | _, _, i + 1, .cons q t => .cons q (RpA.set r i t)
theorem RpA.reverse : ∀ {ds : List D} {vs : List V}, RpA K ι H ds vs → RpA K ι H ds.reverse vs.reverse
  | _, _, .nil => .nil
  | _, _, .cons r t => by
    rw [List.reverse_cons, List.reverse_cons]
    exact (RpA.reverse t).append (.cons r .nil)
theorem RpA.dropLast : ∀ {ds : List D} {vs : List V}, RpA K ι H ds vs → RpA K ι H ds.dropLast vs.dropLast
  | _, _, .nil => .nil
  | _, _, .cons _ .nil => .nil
  | _, _, .cons r (.cons q t) => .cons r (RpA.dropLast (.cons q t))
theorem RpA.rep {ds : List D} {vs : List V} (h : RpA K ι H ds vs) : ∀ k : Nat, RpA K ι H (List.replicate k ds).flatten (List.replicate k vs).flatten
  | 0 => .nil
  | k + 1 => by
    rw [List.replicate_succ, List.replicate_succ, List.flatten_cons, List.flatten_cons]
    exact h.append (RpA.rep h k)

/-! ### heaps -/
theorem upd_tup {a p : Addr} {o : HO} {vs : List V} (hp : H p = none) (h : SqT K H a vs) : SqT K (upd H p o) a vs := by
  rcases h with (h | ⟨u, h⟩) | h
  · exact .inl (.inl (by rw [upd_ne (ne_of_none h hp)]; exact h))
  · exact .inl (.inr ⟨u, by rw [upd_ne (ne_of_none h hp)]; exact h⟩)
  · exact .inr h
def isTupO : Option HO → Prop
  | some (.tup _) => True
  | some (.frz _ _) => True
  | some (.xd _) => True
  | _ => False
theorem upd_tup' {a p : Addr} {o : HO} {vs : List V} (hp : ¬ isTupO (H p)) (h : SqT K H a vs) : SqT K (upd H p o) a vs := by
  rcases h with (h | ⟨u, h⟩) | h
  · exact .inl (.inl (by rw [upd_ne (fun e => by subst e; rw [h] at hp; exact hp trivial)]; exact h))
  · exact .inl (.inr ⟨u, by rw [upd_ne (fun e => by subst e; rw [h] at hp; exact hp trivial)]; exact h⟩)
  · exact .inr h
theorem upd_err {a p : Addr} {o : HO} {x : Ex} (hp : ¬ isTupO (H p)) (h : ErrAt K H a x) : ErrAt K (upd H p o) a x := by
  obtain ⟨oe, vs, h1, h2, h3, h4, h5⟩ := h
  refine ⟨oe, vs, by rw [upd_ne (fun e => by subst e; rw [h1] at hp; exact hp trivial)]; exact h1, h2, h3, h4, ?_⟩
  rcases h5 with h5 | ⟨i, d, e1, e2, e3⟩
  · exact .inl h5
  · exact .inr ⟨i, d, e1, e2, by rw [upd_ne (fun e => by subst e; rw [e3] at hp; exact hp trivial)]; exact e3⟩
theorem Ext.upd {p : Addr} {o : HO} (hp : ¬ isTupO (H p)) : Ext K ι H ι (upd H p o) := ⟨fun _ _ h => h, fun _ _ h => upd_tup' hp h, fun _ _ h => upd_err hp h⟩
theorem Ext.new {p : Addr} {o : HO} (hp : H p = none) : Ext K ι H ι (L2.upd H p o) := Ext.upd (by rw [hp]; exact fun z => z)
theorem Ext.more {p : Addr} {o : HO} (hp : H p = none) : Ext K ι H (ι ++ [p]) (L2.upd H p o) :=
  ⟨fun n a h => by
    obtain ⟨hl, _⟩ := List.getElem?_eq_some_iff.mp h
    rw [List.getElem?_append_left hl]; exact h, fun _ _ h => upd_tup hp h, fun _ _ h => upd_err (by rw [hp]; exact fun z => z) h⟩
theorem RoL.sq {a : Addr} {vs : List V} (h : RoL K H a vs) : SqL K H a vs := by
  rcases h with ⟨o, h⟩ | h
  · exact .inl (.inr ⟨o, h⟩)
  · exact .inr h
theorem RoL.upd {a p : Addr} {o : HO} {vs : List V} (hp : ¬ isTupO (H p)) (h : RoL K H a vs) : RoL K (L2.upd H p o) a vs := by
  rcases h with ⟨u, h⟩ | h
  · exact .inl ⟨u, by rw [upd_ne (fun e => by subst e; rw [h] at hp; exact hp trivial)]; exact h⟩
  · exact .inr h
/-- an object that is there stays what it is where another place is written -/
theorem MOk.upd {a p : Addr} {o : HO} {u : MO} (e : Ext K ι H ι' (L2.upd H p o)) (hne : mutable u = true → a ≠ p) (hp : ¬ isTupO (H p)) (h : MOk K ι H a u) : MOk K ι' (L2.upd H p o) a u := by
  cases u with
  | lst xs => obtain ⟨vs, h1, h2⟩ := h; exact ⟨vs, by rw [upd_ne (hne rfl)]; exact h1, h2.ext e⟩
  | rol xs => obtain ⟨vs, h1, h2⟩ := h; exact ⟨vs, h1.upd hp, h2.ext e⟩
  | ins c fs => obtain ⟨dx, vs, h1, h2⟩ := h; exact ⟨dx, vs, by rw [upd_ne (hne rfl)]; exact h1, h2.ext e⟩
theorem MOk.there {a : Addr} {u : MO} (m : mutable u = true) (h : MOk K ι H a u) : H a ≠ none := by
  cases u with
  | lst xs => obtain ⟨vs, h1, _⟩ := h; rw [h1]; exact fun z => nomatch z
  | rol xs => exact nomatch m
  | ins c fs => obtain ⟨dx, vs, h1, _⟩ := h; rw [h1]; exact fun z => nomatch z
theorem MOk.notTup {a : Addr} {u : MO} (m : mutable u = true) (h : MOk K ι H a u) : ¬ isTupO (H a) := by
  cases u with
  | lst xs => obtain ⟨vs, h1, _⟩ := h; rw [h1]; exact fun z => z
  | rol xs => exact nomatch m
  | ins c fs => obtain ⟨dx, vs, h1, _⟩ := h; rw [h1]; exact fun z => z
variable {M : Mem}
theorem SR.at (S : SR K ι H M) {n : Nat} {o : MO} (h : M[n]? = some o) : ∃ a, ι[n]? = some a ∧ MOk K ι H a o := by
  obtain ⟨hl, _⟩ := List.getElem?_eq_some_iff.mp h
  have hl' : n < ι.length := by rw [S.len]; exact hl
  exact ⟨ι[n], List.getElem?_eq_getElem hl', S.ok n _ o (List.getElem?_eq_getElem hl') h⟩
/-- an untracked place gets a thing that is no memory of ours (a tuple, an instance's dict) -/
theorem SR.new (S : SR K ι H M) {p : Addr} {o : HO} (hp : H p = none) : SR K ι (L2.upd H p o) M where
  len := S.len
  ok := fun n a u h1 h2 => by
    have k := S.ok n a u h1 h2
    refine k.upd (Ext.new hp) (fun m e => ?_) (by rw [hp]; exact fun z => z)
    subst e; exact k.there m hp
  nd := S.nd
/-- a new object of ours -/
theorem SR.alloc (S : SR K ι H M) {p : Addr} {o : HO} {u : MO} (hp : H p = none) (hm : MOk K (ι ++ [p]) (L2.upd H p o) p u) : SR K (ι ++ [p]) (L2.upd H p o) (M ++ [u]) := by
  have hl := S.len
  have split : ∀ {n : Nat} {a : Addr} {v : MO}, (ι ++ [p])[n]? = some a → (M ++ [u])[n]? = some v → (ι[n]? = some a ∧ M[n]? = some v) ∨ (n = ι.length ∧ a = p ∧ v = u) := by
    intro n a v h1 h2
    by_cases q : n < ι.length
    · rw [List.getElem?_append_left q] at h1
      rw [List.getElem?_append_left (by omega)] at h2
      exact .inl ⟨h1, h2⟩
    · have e : n = ι.length := by
        have := (List.getElem?_eq_some_iff.mp h1).1
        simp at this; omega
      subst e
      have a1 : p = a := by simpa using h1
      have a2 : u = v := by rw [hl] at h2; simpa using h2
      exact .inr ⟨rfl, a1.symm, a2.symm⟩
  refine ⟨by simp [hl], fun n a v h1 h2 => ?_, fun n m a v w h1 h2 h3 h4 m1 m2 => ?_⟩
  · rcases split h1 h2 with ⟨g1, g2⟩ | ⟨rfl, rfl, rfl⟩
    · have k := S.ok n a v g1 g2
      refine k.upd (Ext.more hp) (fun m e => ?_) (by rw [hp]; exact fun z => z)
      subst e; exact k.there m hp
    · exact hm
  · rcases split h1 h3 with ⟨g1, g2⟩ | ⟨rfl, rfl, rfl⟩ <;> rcases split h2 h4 with ⟨f1, f2⟩ | ⟨rfl, e, rfl⟩
    · exact S.nd n m a v w g1 f1 g2 f2 m1 m2
    · exact absurd hp (by rw [← e]; exact (S.ok n _ v g1 g2).there m1)
    · exact absurd hp ((S.ok m _ w f1 f2).there m2)
    · rfl
/-- an object of ours is written -/
theorem SR.write (S : SR K ι H M) {n : Nat} {a : Addr} {o u : MO} {x : HO} (ha : ι[n]? = some a) (ho : M[n]? = some o) (mo : mutable o = true) (mu : mutable u = true)
    (hm : MOk K ι (L2.upd H a x) a u) : SR K ι (L2.upd H a x) (M.set n u) := by
  have k0 := S.ok n a o ha ho
  have nt := k0.notTup mo
  obtain ⟨hl, _⟩ := List.getElem?_eq_some_iff.mp ho
  have split : ∀ {m : Nat} {v : MO}, (M.set n u)[m]? = some v → (m = n ∧ v = u) ∨ (m ≠ n ∧ M[m]? = some v) := by
    intro m v h
    by_cases e : m = n
    · subst e
      rw [List.getElem?_set_self hl] at h
      exact .inl ⟨rfl, (Option.some.inj h).symm⟩
    · rw [List.getElem?_set_ne (fun z => e z.symm)] at h
      exact .inr ⟨e, h⟩
  refine ⟨by rw [List.length_set]; exact S.len, fun m b v h1 h2 => ?_, fun m m' b v w h1 h2 h3 h4 m1 m2 => ?_⟩
  · rcases split h2 with ⟨rfl, rfl⟩ | ⟨e, g⟩
    · rw [ha] at h1; cases h1; exact hm
    · refine (S.ok m b v h1 g).upd (Ext.upd nt) (fun mv z => ?_) nt
      subst z; exact e (S.nd m n b v o h1 ha g ho mv mo)
  · rcases split h3 with ⟨rfl, rfl⟩ | ⟨e, g⟩ <;> rcases split h4 with ⟨rfl, rfl⟩ | ⟨e', g'⟩
    · rfl
    · exact (S.nd m' m b w o h2 h1 g' ho m2 mo).symm
    · exact S.nd m m' b v o h1 h2 g ho m1 mo
    · exact S.nd m m' b v w h1 h2 g g' m1 m2
end

/-! ### outcomes and readings -/
/-- an exception: its class, its dict -/
def ExR (K : PySem.W.Frag) (ι : List Addr) (x : Ex) (cls : Value) (dx : Option Addr) (H : Hp) : Prop :=
  cls = .ref (He.ga K x.cls) ∧ ErrD H x.at_ dx
/-- what is wanted of an outcome, from ι and H on -/
def OutP {α : Type} (K : PySem.W.Frag) (W : Value → Option Addr → Hp → Prop) (ι : List Addr) (H : Hp) (o : Out α) (R : α → Mem → List Addr → Hp → Prop) : Prop :=
  match o with
  | .ok a M => ∀ ι' H', Ext K ι H ι' H' → SR K ι' H' M → R a M ι' H'
  | .exc x M => ∀ ι' H' cls dx, Ext K ι H ι' H' → SR K ι' H' M → ExR K ι' x cls dx H' → W cls dx H'
  | .stuck => False
def SOutP (K : PySem.W.Frag) (W : WX) (ι : List Addr) (H : Hp) (o : SOut) (En : Ends) : Prop :=
  match o with
  | .next env M => ∀ ι' σ' H', Ext K ι H ι' H' → SR K ι' H' M → EnvR K ι' H' env σ' → En.nx σ' H'
  | .ret d M => ∀ ι' v H', Ext K ι H ι' H' → SR K ι' H' M → Rp K ι' H' d v → En.rt v H'
  | .exc x env M => ∀ ι' σ' H' cls dx, Ext K ι H ι' H' → SR K ι' H' M → EnvR K ι' H' env σ' → ExR K ι' x cls dx H' → W cls dx σ' H'
  | .stuck => False
abbrev W1 (W : WX) (σ : L2.St) : Value → Option Addr → Hp → Prop := fun c d H => W c d σ H
/-- what is wanted of a value -/
abbrev VR (K : PySem.W.Frag) (Q : VK) : D → Mem → List Addr → Hp → Prop := fun d _ ι H => ∀ v, Rp K ι H d v → Q v H
abbrev AR (K : PySem.W.Frag) (Q : List V → Hp → Prop) : List D → Mem → List Addr → Hp → Prop := fun d _ ι H => ∀ v, RpA K ι H d v → Q v H
abbrev TR (Q : Bool → Hp → Prop) : Bool → Mem → List Addr → Hp → Prop := fun b _ _ H => Q b H
def LE (K : PySem.W.Frag) (W : WX) (m : ME) : TE := fun σ H Q => ∃ ι env M, SR K ι H M ∧ EnvR K ι H env σ ∧ OutP K (W1 W σ) ι H (m env M) (VR K Q)
def LT (K : PySem.W.Frag) (W : WX) (m : MT) : TT := fun σ H Q => ∃ ι env M, SR K ι H M ∧ EnvR K ι H env σ ∧ OutP K (W1 W σ) ι H (m env M) (TR Q)
def LA (K : PySem.W.Frag) (W : WX) (m : MA) : TA := fun σ H Q => ∃ ι env M, SR K ι H M ∧ EnvR K ι H env σ ∧ OutP K (W1 W σ) ι H (m env M) (AR K Q)
def LS (K : PySem.W.Frag) (W : WX) (m : MS) : TS := fun En σ H => ∃ ι env M, SR K ι H M ∧ EnvR K ι H env σ ∧ SOutP K W ι H (m env M) En

section
variable {K : PySem.W.Frag} {W : Value → Option Addr → Hp → Prop} {ι ι' : List Addr} {H H' : Hp} {α β : Type}
theorem OutP.imp {o : Out α} {R R' : α → Mem → List Addr → Hp → Prop} (h : OutP K W ι H o R) (k : ∀ a M ι' H', Ext K ι H ι' H' → SR K ι' H' M → R a M ι' H' → R' a M ι' H') : OutP K W ι H o R' := by
  cases o with
  | ok a M => exact fun ι' H' e s => k a M ι' H' e s (h ι' H' e s)
  | exc x M => exact h
  | stuck => exact h
theorem OutP.ext {o : Out α} {R : α → Mem → List Addr → Hp → Prop} (e : Ext K ι H ι' H') (h : OutP K W ι H o R) : OutP K W ι' H' o R := by
  cases o with
  | ok a M => exact fun ι2 H2 e2 s => h ι2 H2 (e.trans e2) s
  | exc x M => exact fun ι2 H2 c d e2 s x => h ι2 H2 c d (e.trans e2) s x
  | stuck => exact h
theorem OutP.bind {o : Out α} {f : α → Mem → Out β} {R : β → Mem → List Addr → Hp → Prop} (h : OutP K W ι H (o.bind f) R) : OutP K W ι H o (fun a M ι1 H1 => OutP K W ι1 H1 (f a M) R) := by
  cases o with
  | ok a M => exact fun ι' H' e s => OutP.ext e h
  | exc x M => exact h
  | stuck => exact h
end
theorem SOutP.ext {K : PySem.W.Frag} {W : WX} {ι ι' : List Addr} {H H' : Hp} {o : SOut} {En : Ends} (e : Ext K ι H ι' H') (h : SOutP K W ι H o En) : SOutP K W ι' H' o En := by
  cases o with
  | next env M => exact fun ι2 σ2 H2 e2 s r => h ι2 σ2 H2 (e.trans e2) s r
  | ret d M => exact fun ι2 v H2 e2 s r => h ι2 v H2 (e.trans e2) s r
  | exc x env M => exact fun ι2 σ2 H2 c d e2 s r x => h ι2 σ2 H2 c d (e.trans e2) s r x
  | stuck => exact h

/-! ### consequence -/
section
variable {X : Cx}
theorem _root_.L2.PE.imp {e : Expr} {t t' : TE} (h : PE X e t) (k : ∀ σ H Q, t' σ H Q → t σ H Q) : PE X e t' := ⟨fun pins s σ H Q I q => h.run pins s σ H Q I (k σ H Q q)⟩
theorem _root_.L2.PT.imp {e : Expr} {t t' : TT} (h : PT X e t) (k : ∀ σ H Q, t' σ H Q → t σ H Q) : PT X e t' := ⟨fun pins s σ H Q I q => h.run pins s σ H Q I (k σ H Q q)⟩
theorem _root_.L2.PW.imp {e : Expr} {t t' : TT} (h : PW X e t) (k : ∀ σ H Q, t' σ H Q → t σ H Q) : PW X e t' := ⟨fun w pins s σ H Q I q => h.run w pins s σ H Q I (k σ H Q q)⟩
theorem _root_.L2.PA.imp {e : List Expr} {t t' : TA} (h : PA X e t) (k : ∀ σ H Q, t' σ H Q → t σ H Q) : PA X e t' := ⟨fun p pins s σ H Q I q => h.run p pins s σ H Q I (k σ H Q q)⟩
theorem _root_.L2.PS.imp {e : Stmt} {t t' : TS} (h : PS X e t) (k : ∀ En σ H, t' En σ H → t En σ H) : PS X e t' := ⟨fun pins s σ H En I q => h.run pins s σ H En I (k En σ H q)⟩
theorem _root_.L2.PSs.imp {e : List Stmt} {t t' : TS} (h : PSs X e t) (k : ∀ En σ H, t' En σ H → t En σ H) : PSs X e t' := ⟨fun pins s σ H En I q => h.run pins s σ H En I (k En σ H q)⟩
end
end TL
end
section
/-! the tree layer: expressions -/
namespace TL
open PySem PySem.Spec PyProof.Rows L2

/-- the context of a body -/
structure Ctx (X : Cx) (W : WX) (k : Nat) : Prop where
  calm : X.calm = true
  nd : X.N.Nodup
  room : Room k X.A
  tk : L2N.Takes X W
  pass : PassesOwn (model X.prog X.w) X.A X.env X.xe

/-! ### operations on data -/
def liftO {α : Type} (o : Option (α × Mem)) : Out α := match o with
  | some (a, M) => .ok a M
  | none => .stuck
@[simp] theorem liftO_some {α : Type} (a : α) (M : Mem) : liftO (some (a, M)) = .ok a M := rfl
@[simp] theorem liftO_none {α : Type} : liftO (none : Option (α × Mem)) = .stuck := rfl
def OpO {α : Type} (K : PySem.W.Frag) (ι : List Addr) (H : Hp) (o : Option (α × Mem)) (R : α → Mem → List Addr → Hp → Prop) : Prop := match o with
  | some (a, M) => ∀ ι' H', Ext K ι H ι' H' → SR K ι' H' M → R a M ι' H'
  | none => False
theorem OpO.of {α : Type} {K : PySem.W.Frag} {W : Value → Option Addr → Hp → Prop} {ι : List Addr} {H : Hp} {o : Option (α × Mem)} {R : α → Mem → List Addr → Hp → Prop} (h : OutP K W ι H (liftO o) R) : OpO K ι H o R := by
  cases o with
  | none => exact h
  | some p => exact h

abbrev Op2 := D → D → Mem → Option (D × Mem)
abbrev Op1 := D → Mem → Option (D × Mem)
abbrev OpN := List D → Mem → Option (D × Mem)
def rD2 (K : PySem.W.Frag) (f : Op2) : R2 := fun x y H Q => ∃ ι M a b, SR K ι H M ∧ Rp K ι H a x ∧ Rp K ι H b y ∧ OpO K ι H (f a b M) (VR K Q)
def rD1 (K : PySem.W.Frag) (f : Op1) : V → Hp → VK → Prop := fun x H Q => ∃ ι M a, SR K ι H M ∧ Rp K ι H a x ∧ OpO K ι H (f a M) (VR K Q)
def rDN (K : PySem.W.Frag) (f : OpN) : List V → Hp → VK → Prop := fun xs H Q => ∃ ι M ds, SR K ι H M ∧ RpA K ι H ds xs ∧ OpO K ι H (f ds M) (VR K Q)
def rDM (K : PySem.W.Frag) (f : D → OpN) : V → List V → Hp → VK → Prop := fun x xs H Q => ∃ ι M d ds, SR K ι H M ∧ Rp K ι H d x ∧ RpA K ι H ds xs ∧ OpO K ι H (f d ds M) (VR K Q)
def rDSl (K : PySem.W.Frag) (f : D → Option Int → Option Int → Mem → Option (D × Mem)) : V → Option Int → Option Int → Hp → VK → Prop := fun x lo hi H Q => ∃ ι M d, SR K ι H M ∧ Rp K ι H d x ∧ OpO K ι H (f d lo hi M) (VR K Q)

section
variable {X : Cx}
theorem OpR.imp {f : Value → Value → Sem Value} {r r' : R2} (h : OpR X f r) (k : ∀ x y H Q, r' x y H Q → r x y H Q) : OpR X f r' :=
  fun pins s σ H x y v u Q I rx ry q => h pins s σ H x y v u Q I rx ry (k x y H Q q)
theorem CallR.imp {f : Value} {r r' : List V → Hp → VK → Prop} (h : CallR X f r) (k : ∀ xs H Q, r' xs H Q → r xs H Q) : CallR X f r' :=
  fun pins s σ H xs us Q I rx q => h pins s σ H xs us Q I rx (k xs H Q q)
theorem IxR.imp {r r' : R2} (h : IxR X r) (k : ∀ x y H Q, r' x y H Q → r x y H Q) : IxR X r' :=
  fun a b pins s σ H x y v u Q I rx ry q e => h a b pins s σ H x y v u Q I rx ry (k x y H Q q) e
theorem MtR.imp {id : String} {r r' : V → List V → Hp → VK → Prop} (h : MtR X id r) (k : ∀ x xs H Q, r' x xs H Q → r x xs H Q) : MtR X id r' :=
  fun pins s σ H x xs v us Q I rx rxs q => h pins s σ H x xs v us Q I rx rxs (k x xs H Q q)
theorem UnR.imp {f : Value → Sem Value} {r r' : V → Hp → VK → Prop} (h : UnR X f r) (k : ∀ x H Q, r' x H Q → r x H Q) : UnR X f r' :=
  fun pins s σ H x v Q I rx q => h pins s σ H x v Q I rx (k x H Q q)
theorem SlR.imp {r r' : V → Option Int → Option Int → Hp → VK → Prop} (h : SlR X r) (k : ∀ x l u H Q, r' x l u H Q → r x l u H Q) : SlR X r' :=
  fun pins s σ H x v vl vu lo hi sl Q I rx hs pl pu q => h pins s σ H x v vl vu lo hi sl Q I rx hs pl pu (k x lo hi H Q q)
end

section
variable {K : PySem.W.Frag} {ι ι' : List Addr} {H H' : Hp} {M : Mem}
/-- a value is told, the memory as it is -/
theorem OpO.val {d : D} {Q : VK} {v : V} (S : SR K ι H M) (h : OpO K ι H (some (d, M)) (VR K Q)) (r : Rp K ι H d v) : Q v H := h ι H Ext.refl S v r
theorem Rp.bl_inv {b : Bool} {v : V} (r : Rp K ι H (.bl b) v) : v = .bl b := by cases r; rfl
theorem Rp.int_inv {i : Int} {v : V} (r : Rp K ι H (.int i) v) : v = .int i := by cases r; rfl
theorem Rp.str_inv {i : Str} {v : V} (r : Rp K ι H (.str i) v) : v = .str i := by cases r; rfl
theorem Rp.non_inv {v : V} (r : Rp K ι H .non v) : v = .non := by cases r; rfl
theorem Rp.tup_inv {xs : List D} {v : V} (r : Rp K ι H (.tup xs) v) : ∃ a vs, v = .ref a ∧ SqT K H a vs ∧ RpA K ι H xs vs := by cases r with | tup h k => exact ⟨_, _, rfl, h, k⟩
theorem Rp.ref_inv {n : Nat} {v : V} (r : Rp K ι H (.ref n) v) : ∃ a, v = .ref a ∧ ι[n]? = some a := by cases r with | ref h => exact ⟨_, rfl, h⟩
/-- a new tuple -/
theorem OpO.newTup {xs : List D} {vs : List V} {Q : VK} (S : SR K ι H M) (h : OpO K ι H (some (.tup xs, M)) (VR K Q)) (r : RpA K ι H xs vs) : ∀ p, H p = none → Q (.ref p) (upd H p (.tup vs)) := fun p hp =>
  h ι _ (Ext.new hp) (S.new hp) _ (.tup (.inl (.inl upd_same)) (r.ext (Ext.new hp)))
/-- a new list -/
theorem OpO.newLst {xs : List D} {vs : List V} {Q : VK} (S : SR K ι H M) (h : OpO K ι H (some (.ref M.length, M ++ [.lst xs])) (VR K Q)) (r : RpA K ι H xs vs) : ∀ p, H p = none → Q (.ref p) (upd H p (.lst vs)) := fun p hp =>
  h (ι ++ [p]) _ (Ext.more hp) (S.alloc hp ⟨vs, upd_same, r.ext (Ext.more hp)⟩) _ (.ref (by rw [← S.len]; simp))
/-- a list is written, a value told -/
theorem OpO.setLst {n : Nat} {a : Addr} {xs ys : List D} {vs : List V} {d : D} {v : V} {Q : VK} (S : SR K ι H M) (h : OpO K ι H (some (d, M.set n (.lst ys))) (VR K Q)) (ha : ι[n]? = some a) (hm : M[n]? = some (.lst xs)) (r : RpA K ι H ys vs) (rd : Rp K ι H d v) :
    Q v (upd H a (.lst vs)) := by
  have k0 := S.ok n a _ ha hm
  have nt := k0.notTup (u := .lst xs) rfl
  exact h ι _ (Ext.upd nt) (S.write ha hm rfl rfl ⟨vs, upd_same, r.ext (Ext.upd nt)⟩) v (rd.ext (Ext.upd nt))
/-- a list that is there -/
def seqAt (M : Mem) (n : Nat) : Option (List D) := match M[n]? with
  | some (.lst xs) => some xs
  | some (.rol xs) => some xs
  | _ => none
theorem SR.seq (S : SR K ι H M) {n : Nat} {a : Addr} {xs : List D} (ha : ι[n]? = some a) (h : seqAt M n = some xs) : ∃ vs, SqL K H a vs ∧ RpA K ι H xs vs := by
  unfold seqAt at h
  cases q : M[n]? with
  | none => rw [q] at h; cases h
  | some o =>
    rw [q] at h
    cases o with
    | lst ys => cases h; obtain ⟨vs, h1, h2⟩ := S.ok n a _ ha q; exact ⟨vs, SqL.of h1, h2⟩
    | rol ys => cases h; obtain ⟨vs, h1, h2⟩ := S.ok n a _ ha q; exact ⟨vs, h1.sq, h2⟩
    | ins c fs => cases h
theorem SR.lst (S : SR K ι H M) {n : Nat} {a : Addr} {xs : List D} (ha : ι[n]? = some a) (h : M[n]? = some (.lst xs)) : ∃ vs, H a = some (.lst vs) ∧ RpA K ι H xs vs := S.ok n a _ ha h
end

/-! ### + -/
def mAdd : Op2 := fun a b M => match a, b with
  | .int i, .int j => some (.int (i + j), M)
  | .str x, .str y => if x.length + y.length ≤ sizeLine then some (.str (x ++ y), M) else none
  | .tup xs, .tup ys => if xs.length + ys.length ≤ sizeLine then some (.tup (xs ++ ys), M) else none
  | .ref n, .ref m => match M[n]?, M[m]? with
    | some (.lst xs), some (.lst ys) => if xs.length + ys.length ≤ sizeLine then some (.ref M.length, M ++ [.lst (xs ++ ys)]) else none
    | _, _ => none
  | _, _ => none
theorem o_add {X : Cx} : OpR X (binaryOp .Add) (rD2 X.K mAdd) := by
  refine OpR.imp ((op_add.or op_add_str).or (op_catA.or op_cat)) fun x y H Q h => ?_
  obtain ⟨ι, M, a, b, S, ra, rb, h⟩ := h
  unfold mAdd at h
  split at h
  · cases ra.int_inv; cases rb.int_inv
    exact .inl (.inl ⟨_, _, rfl, rfl, h.val S (.int _)⟩)
  · cases ra.str_inv; cases rb.str_inv
    split at h
    · exact .inl (.inr ⟨_, _, rfl, rfl, by assumption, h.val S (.str _)⟩)
    · exact h.elim
  · obtain ⟨p, vs, rfl, t1, r1⟩ := ra.tup_inv
    obtain ⟨q, us, rfl, t2, r2⟩ := rb.tup_inv
    have l1 := r1.length
    have l2 := r2.length
    split at h
    · refine .inr (.inl ⟨_, _, vs, us, rfl, rfl, t1, t2, by omega, fun e => ?_, fun e1 e2 => ?_, fun e1 e2 => ?_⟩)
      · subst e
        cases r1
        exact h.val S (.tup t2 r2)
      · subst e2
        cases r2
        refine h.val S (.tup t1 ?_)
        rw [List.append_nil]; exact r1
      · exact h.newTup S (r1.append r2)
    · exact h.elim
  · obtain ⟨p, rfl, hp⟩ := ra.ref_inv
    obtain ⟨q, rfl, hq⟩ := rb.ref_inv
    split at h
    · rename_i m1 m2
      obtain ⟨vs, h1, r1⟩ := S.lst hp m1
      obtain ⟨us, h2, r2⟩ := S.lst hq m2
      have l1 := r1.length
      have l2 := r2.length
      split at h
      · exact .inr (.inr ⟨_, _, _, _, rfl, rfl, h1, h2, by omega, h.newLst S (r1.append r2)⟩)
      · exact h.elim
    · exact h.elim
  · exact h.elim
/-! ### -, *, //, %, ** -/
def mSub : Op2 := fun a b M => match a, b with
  | .int i, .int j => some (.int (i - j), M)
  | _, _ => none
theorem o_sub {X : Cx} : OpR X (binaryOp .Sub) (rD2 X.K mSub) := by
  refine OpR.imp op_sub fun x y H Q h => ?_
  obtain ⟨ι, M, a, b, S, ra, rb, h⟩ := h
  unfold mSub at h
  split at h
  · cases ra.int_inv; cases rb.int_inv
    exact ⟨_, _, rfl, rfl, h.val S (.int _)⟩
  · exact h.elim
def mMod : Op2 := fun a b M => match a, b with
  | .int i, .int j => if 0 < j then some (.int (i % j), M) else none
  | _, _ => none
theorem o_mod {X : Cx} : OpR X (binaryOp .Mod) (rD2 X.K mMod) := by
  refine OpR.imp op_mod fun x y H Q h => ?_
  obtain ⟨ι, M, a, b, S, ra, rb, h⟩ := h
  unfold mMod at h
  split at h
  · cases ra.int_inv; cases rb.int_inv
    split at h
    · exact ⟨_, _, rfl, rfl, by assumption, h.val S (.int _)⟩
    · exact h.elim
  · exact h.elim
def mFdiv : Op2 := fun a b M => match a, b with
  | .int i, .int j => if 0 < j ∧ j < 1073741824 then some (.int (i / j), M) else none
  | _, _ => none
theorem o_fdiv {X : Cx} : OpR X (binaryOp .FloorDiv) (rD2 X.K mFdiv) := by
  refine OpR.imp op_fdiv fun x y H Q h => ?_
  obtain ⟨ι, M, a, b, S, ra, rb, h⟩ := h
  unfold mFdiv at h
  split at h
  · cases ra.int_inv; cases rb.int_inv
    split at h
    · exact ⟨_, _, rfl, rfl, by assumption, h.val S (.int _)⟩
    · exact h.elim
  · exact h.elim
def mPow : Op2 := fun a b M => match a, b with
  | .int i, .int j => if 0 ≤ j ∧ j ≤ 1000000 ∧ i.natAbs < 2 ^ 64 then some (.int (i ^ j.toNat), M) else none
  | _, _ => none
theorem o_pow {X : Cx} : OpR X (binaryOp .Pow) (rD2 X.K mPow) := by
  refine OpR.imp op_pow fun x y H Q h => ?_
  obtain ⟨ι, M, a, b, S, ra, rb, h⟩ := h
  unfold mPow at h
  split at h
  · cases ra.int_inv; cases rb.int_inv
    split at h
    · exact ⟨_, _, rfl, rfl, by assumption, h.val S (.int _)⟩
    · exact h.elim
  · exact h.elim
end TL
end
section
/-! the tree layer: more operations -/
namespace TL
open PySem PySem.Spec PyProof.Rows L2

/-! ### * -/
theorem tuple_mul1 (l : Addr) (items : Array Value) (n : Nat) (dd : Option Addr) (sl : Array (Option Value)) (u : Tok) :
    Meets (Builtin.«tuple.__mul__» ⟨[.ref l, .int 1 u], []⟩) (fun _ R s => s.heap.get? l = some { cls := .type "tuple", dict := dd, data := .seq items n, slots := sl } ∧
      R (.ok (.ret (Value.ref l))) s) :=
  .of_wp fun prog w A R s h => by
    obtain ⟨hp, g, d, tk, os⟩ := s
    obtain ⟨hl, h⟩ := h
    have f1 := AutoSeq1.idx_int
    have c1 : (items.isEmpty || (1 : Int) == 1) = true := by simp
    wp_walk using wpAny_loadPart' hl
    exact ⟨_, rfl, h⟩
def rRep1 (K : PySem.W.Frag) : R2 := fun x y H Q => ∃ l xs, x = .ref l ∧ y = .int 1 ∧ SqT K H l xs ∧ Q (.ref l) H
theorem op_rep1 {X : Cx} : OpR X (binaryOp .Mult) (rRep1 X.K) := by
  intro pins s σ H x y v u Q I rx ry h
  obtain ⟨l, xs, rfl, rfl, hT, q⟩ := h
  cases rx
  obtain ⟨t, rfl⟩ := ry
  obtain ⟨its, r, ⟨⟨cls, dd, data, sl⟩, ho, hc, n, hd⟩, hs⟩ := I.tuple hT
  simp only at hc hd
  subst hc hd
  refine wpAny_binaryOp_repeat_ref (T := "tuple") (U := "int") (by decide) ⟨_, ho, rfl⟩ (fun s' => typeIs_int s' 1 t) noFill_tuple_mul F.fills_int_mul F.slot_int_rmul repeat_tuple F.slot_int_index.lookup
    (call_meets F.slot_int_rmul (typeIs_int s 1 t) F.entry_int_rmul (F.args_int_rmul_2 _ _) (int_rmul_tuple 1 t l its.toArray n dd sl)
      ⟨ho, rfl, ⟨_, ho, rfl⟩, call_meets F.slot_tuple_mul ⟨_, ho, rfl⟩ F.entry_tuple_mul (F.args_tuple_mul_2 _ _) (tuple_mul1 l its.toArray n dd sl t) ⟨ho, ?_⟩⟩)
  exact ⟨.ref l, _, I.tok s.toks, rfl, q⟩

noncomputable def mMul : Op2 := fun a b M => match a, b with
  | .int i, .int j => @ite _ ((-(2 ^ 64) < i ∧ i < 2 ^ 64) ∨ (-(2 ^ 64) < j ∧ j < 2 ^ 64)) (Classical.propDecidable _) (some (.int (i * j), M)) none
  | .tup xs, .int k => if k = 1 then some (.tup xs, M) else
      if xs ≠ [] ∧ 2 ≤ k ∧ k ≤ 1000 ∧ xs.length ≤ 1000 then some (.tup (List.replicate k.toNat xs).flatten, M) else none
  | .ref n, .int k => match M[n]? with
    | some (.lst xs) => @ite _ (-(2 ^ 63) ≤ k ∧ k < 2 ^ 63 ∧ xs.length * k.toNat ≤ sizeLine) (Classical.propDecidable _) (some (.ref M.length, M ++ [.lst (List.replicate k.toNat xs).flatten])) none
    | _ => none
  | _, _ => none
theorem o_mul {X : Cx} : OpR X (binaryOp .Mult) (rD2 X.K mMul) := by
  refine OpR.imp ((op_mul.or op_rep1).or (op_repT.or op_rep)) fun x y H Q h => ?_
  obtain ⟨ι, M, a, b, S, ra, rb, h⟩ := h
  unfold mMul at h
  split at h
  · cases ra.int_inv; cases rb.int_inv
    split at h
    · exact .inl (.inl ⟨_, _, rfl, rfl, by assumption, h.val S (.int _)⟩)
    · exact h.elim
  · cases rb.int_inv
    obtain ⟨p, vs, rfl, t1, r1⟩ := ra.tup_inv
    have l1 := r1.length
    split at h
    · rename_i e; subst e
      exact .inl (.inr ⟨_, _, rfl, rfl, t1, h.val S (.tup t1 r1)⟩)
    · split at h
      · rename_i c
        refine .inr (.inl ⟨_, _, vs, rfl, rfl, t1, fun e => c.1 ?_, c.2.1, c.2.2.1, by omega, h.newTup S (r1.rep _)⟩)
        subst e; cases r1; rfl
      · exact h.elim
  · cases rb.int_inv
    obtain ⟨p, rfl, hp⟩ := ra.ref_inv
    split at h
    · rename_i m1
      obtain ⟨vs, h1, r1⟩ := S.lst hp m1
      have l1 := r1.length
      split at h
      · rename_i c
        exact .inr (.inr ⟨_, _, vs, rfl, rfl, h1, c.1, c.2.1, by rw [← l1]; exact c.2.2, h.newLst S (r1.rep _)⟩)
      · exact h.elim
    · exact h.elim
  · exact h.elim

/-! ### -x -/
def mNeg : Op1 := fun a M => match a with
  | .int i => some (.int (-i), M)
  | _ => none
theorem o_neg {X : Cx} : UnR X (unaryOp .USub) (rD1 X.K mNeg) := by
  refine UnR.imp un_neg fun x H Q h => ?_
  obtain ⟨ι, M, a, S, ra, h⟩ := h
  unfold mNeg at h
  split at h
  · cases ra.int_inv
    exact ⟨_, rfl, h.val S (.int _)⟩
  · exact h.elim

/-! ### < <= > >= of ints -/
def mCmp (p : Int → Int → Bool) : Op2 := fun a b M => match a, b with
  | .int i, .int j => some (.bl (p i j), M)
  | _, _ => none
theorem o_cmp {X : Cx} {f : Value → Value → Sem Value} {p : Int → Int → Bool} (h : OpR X f (rI0 fun i j => .bl (p i j))) : OpR X f (rD2 X.K (mCmp p)) := by
  refine OpR.imp h fun x y H Q h => ?_
  obtain ⟨ι, M, a, b, S, ra, rb, h⟩ := h
  unfold mCmp at h
  split at h
  · cases ra.int_inv; cases rb.int_inv
    exact ⟨_, _, rfl, rfl, h.val S (.bl _)⟩
  · exact h.elim
abbrev mLt : Op2 := mCmp fun i j => decide (i < j)
abbrev mLe : Op2 := mCmp fun i j => decide (i ≤ j)
abbrev mGt : Op2 := mCmp fun i j => decide (j < i)
abbrev mGe : Op2 := mCmp fun i j => decide (j ≤ i)
theorem o_lt {X : Cx} : OpR X (compareOp .Lt) (rD2 X.K mLt) := o_cmp op_lt
theorem o_le {X : Cx} : OpR X (compareOp .LtE) (rD2 X.K mLe) := o_cmp op_le
theorem o_gt {X : Cx} : OpR X (compareOp .Gt) (rD2 X.K mGt) := o_cmp op_gt
theorem o_ge {X : Cx} : OpR X (compareOp .GtE) (rD2 X.K mGe) := o_cmp op_ge

/-! ### == -/
def optAll {α β : Type} (f : α → Option β) : List α → Option (List β)
  | [] => some []
  | x :: xs => match f x, optAll f xs with
    | some y, some ys => some (y :: ys)
    | _, _ => none
def toP : Nat → Mem → D → Option PyData
  | 0, _, _ => none
  | _ + 1, _, .non => some .none
  | _ + 1, _, .bl b => some (.bool b)
  | _ + 1, _, .int i => some (.int i)
  | _ + 1, _, .str x => some (.str x)
  | n + 1, M, .tup xs => (optAll (toP n M) xs).map .tuple
  | n + 1, M, .ref r => match seqAt M r with
    | some xs => (optAll (toP n M) xs).map .list
    | none => none
  | _ + 1, _, .err _ => none
section
variable {K : PySem.W.Frag} {ι : List Addr} {H : Hp} {M : Mem}
theorem dpAll_of {f : D → Option PyData} (ih : ∀ d v p, Rp K ι H d v → f d = some p → Dp K H v p) : ∀ {ds : List D} {vs : List V} {ps : List PyData}, RpA K ι H ds vs → optAll f ds = some ps → DpAll K H vs ps
  | _, _, _, .nil, e => by cases e; exact .nil
  | d :: ds, v :: vs, ps, .cons r t, e => by
    unfold optAll at e
    split at e
    · rename_i h1 h2
      cases e
      exact .cons (ih _ _ _ r h1) (dpAll_of ih t h2)
    · cases e
theorem dp_of (S : SR K ι H M) : ∀ (n : Nat) (d : D) (v : V) (p : PyData), Rp K ι H d v → toP n M d = some p → Dp K H v p
  | 0, _, _, _, _, e => by cases e
  | n + 1, d, v, p, r, e => by
    cases d with
    | non => cases r.non_inv; cases e; exact .non
    | bl b => cases r.bl_inv; cases e; exact .bl b
    | int i => cases r.int_inv; cases e; exact .int i
    | str x => cases r.str_inv; cases e; exact .str x
    | err x => cases e
    | tup xs =>
      obtain ⟨a, vs, rfl, h1, h2⟩ := r.tup_inv
      have e' : (optAll (toP n M) xs).map PyData.tuple = some p := e
      cases q : optAll (toP n M) xs with
      | none => rw [q] at e'; cases e'
      | some ps => rw [q] at e'; cases e'; exact .tup h1 (dpAll_of (fun d v p => dp_of S n d v p) h2 q)
    | ref m =>
      obtain ⟨a, rfl, ha⟩ := r.ref_inv
      have e' : (match seqAt M m with | some xs => (optAll (toP n M) xs).map PyData.list | none => none) = some p := e
      cases q0 : seqAt M m with
      | none => rw [q0] at e'; cases e'
      | some xs =>
        rw [q0] at e'
        obtain ⟨vs, h1, h2⟩ := S.seq ha q0
        cases q : optAll (toP n M) xs with
        | none => simp only [q] at e'; cases e'
        | some ps => simp only [q] at e'; cases e'; exact .lst h1 (dpAll_of (fun d v p => dp_of S n d v p) h2 q)
end
/-- two texts, whatever their signs -/
def strEq (a b : D) : Option Bool := match a, b with
  | .str x, .str y => some (decide (x = y))
  | _, _ => none
theorem strEq_ok {a b : D} {k : Bool} (h : strEq a b = some k) : ∃ x y, a = .str x ∧ b = .str y ∧ k = decide (x = y) := by
  unfold strEq at h
  split at h
  · exact ⟨_, _, rfl, rfl, (Option.some.inj h).symm⟩
  · cases h
theorem scal_str {x y : Str} : scal (V.str x) (V.str y) = true := rfl
theorem str_dec {x y : Str} : decide (V.str x = V.str y) = decide (x = y) := by
  by_cases h : x = y
  · subst h; simp
  · have : V.str x ≠ V.str y := fun e => h (V.str.inj e)
    simp [h]
/-- a == b -/
def eqD (M : Mem) (a b : D) : Option Bool := match toP 64 M a, toP 64 M b with
  | some p, some q => if SeqAt.shaped p = true ∧ SeqAt.shaped q = true then some (PyData.eqv p q) else strEq a b
  | _, _ => none
def mEq : Op2 := fun a b M => (eqD M a b).map fun k => (.bl k, M)
def mNe : Op2 := fun a b M => (eqD M a b).map fun k => (.bl (!k), M)
theorem o_eq {X : Cx} (hu : X.A.units + 64 < cLine) : OpR X (compareOp .Eq) (rD2 X.K mEq) := by
  refine OpR.imp ((op_eqD hu).or op_eq) fun x y H Q h => ?_
  obtain ⟨ι, M, a, b, S, ra, rb, h⟩ := h
  unfold mEq eqD at h
  split at h
  · rename_i p q h1 h2
    split at h
    · rename_i c
      exact .inl ⟨p, q, dp_of S _ _ _ _ ra h1, dp_of S _ _ _ _ rb h2, c.1, c.2, h.val S (.bl _)⟩
    · cases e : strEq a b with
      | none => rw [e] at h; exact h.elim
      | some k =>
        rw [e] at h
        obtain ⟨x, y, rfl, rfl, rfl⟩ := strEq_ok e
        cases ra.str_inv; cases rb.str_inv
        refine .inr ⟨scal_str, ?_⟩
        rw [str_dec]
        exact OpO.val S h (.bl _)
  · exact h.elim
theorem o_ne {X : Cx} (hu : X.A.units + 64 < cLine) : OpR X (compareOp .NotEq) (rD2 X.K mNe) := by
  refine OpR.imp ((op_neD hu).or op_ne) fun x y H Q h => ?_
  obtain ⟨ι, M, a, b, S, ra, rb, h⟩ := h
  unfold mNe eqD at h
  split at h
  · rename_i p q h1 h2
    split at h
    · rename_i c
      exact .inl ⟨p, q, dp_of S _ _ _ _ ra h1, dp_of S _ _ _ _ rb h2, c.1, c.2, h.val S (.bl _)⟩
    · cases e : strEq a b with
      | none => rw [e] at h; exact h.elim
      | some k =>
        rw [e] at h
        obtain ⟨x, y, rfl, rfl, rfl⟩ := strEq_ok e
        cases ra.str_inv; cases rb.str_inv
        refine .inr ⟨scal_str, ?_⟩
        rw [str_dec]
        exact OpO.val S h (.bl _)
  · exact h.elim
/-! ### is None, is True -/
def isNon : D → Bool
  | .non => true
  | _ => false
def mIs : Op2 := fun a b M => match b with
  | .non => some (.bl (isNon a), M)
  | .bl c => match a with
    | .bl b => some (.bl (b == c), M)
    | _ => none
  | _ => none
def mIsNot : Op2 := fun a b M => match b with
  | .non => some (.bl (!isNon a), M)
  | .bl c => match a with
    | .bl b => some (.bl (!(b == c)), M)
    | _ => none
  | _ => none
theorem isNon_v {K : PySem.W.Frag} {ι : List Addr} {H : Hp} {d : D} {v : V} (r : Rp K ι H d v) : decide (v = .non) = isNon d := by
  cases r <;> simp [isNon]
theorem o_is {X : Cx} : OpR X (compareOp .Is) (rD2 X.K mIs) := by
  refine OpR.imp (op_isN.or op_is_bl) fun x y H Q h => ?_
  obtain ⟨ι, M, a, b, S, ra, rb, h⟩ := h
  unfold mIs at h
  split at h
  · cases rb.non_inv
    exact .inl ⟨rfl, by rw [isNon_v ra]; exact h.val S (.bl _)⟩
  · cases rb.bl_inv
    split at h
    · cases ra.bl_inv
      refine .inr ⟨_, _, rfl, rfl, ?_⟩
      rw [show ∀ a b : Bool, decide (a = b) = (a == b) from by decide]
      exact h.val S (.bl _)
    · exact h.elim
  · exact h.elim
theorem o_isNot {X : Cx} : OpR X (compareOp .IsNot) (rD2 X.K mIsNot) := by
  refine OpR.imp (op_notN.or op_isnot_bl) fun x y H Q h => ?_
  obtain ⟨ι, M, a, b, S, ra, rb, h⟩ := h
  unfold mIsNot at h
  split at h
  · cases rb.non_inv
    exact .inl ⟨rfl, by rw [isNon_v ra]; exact h.val S (.bl _)⟩
  · cases rb.bl_inv
    split at h
    · cases ra.bl_inv
      refine .inr ⟨_, _, rfl, rfl, ?_⟩
      rw [show ∀ a b : Bool, decide (a = b) = (a == b) from by decide]
      exact h.val S (.bl _)
    · exact h.elim
  · exact h.elim
/-! ### in: one sign in a text; flat things in a list or tuple -/
def flatD : D → Bool
  | .non => true
  | .bl _ => true
  | .int _ => true
  | .str _ => true
  | _ => false
def eqF : D → D → Bool
  | .non, .non => true
  | .bl a, .bl b => a == b
  | .bl a, .int b => (if a then 1 else 0) == b
  | .int a, .bl b => a == (if b then 1 else 0)
  | .int a, .int b => a == b
  | .str a, .str b => a == b
  | _, _ => false
def inF (x : D) (xs : List D) : Bool := xs.any fun y => eqF y x
section
variable {K : PySem.W.Frag} {ι : List Addr} {H : Hp} {M : Mem}
theorem flat_v {d : D} {v : V} (r : Rp K ι H d v) : flatV v = flatD d := by cases r <;> rfl
theorem flat_all : ∀ {ds : List D} {vs : List V}, RpA K ι H ds vs → vs.all flatV = ds.all flatD
  | _, _, .nil => rfl
  | _, _, .cons r t => by rw [List.all_cons, List.all_cons, flat_v r, flat_all t]
theorem eqF_v {d e : D} {v u : V} (r : Rp K ι H d v) (q : Rp K ι H e u) : eqV v u = eqF d e := by cases r <;> cases q <;> rfl
theorem inF_v {d : D} {v : V} (r : Rp K ι H d v) : ∀ {ds : List D} {vs : List V}, RpA K ι H ds vs → inV v vs = inF d ds
  | _, _, .nil => rfl
  | _, _, .cons q t => by
    show (eqV _ _ || _) = (eqF _ _ || _)
    rw [eqF_v q r]
    congr 1
    exact inF_v r t
end
def inD (M : Mem) (a b : D) : Option Bool := match a, b with
  | .str x, .str z => if h : x.cps.size = 1 then some (decide (x.cps[0] ∈ z.cps.toList)) else none
  | d, .tup xs => if flatD d = true ∧ xs.all flatD = true then some (inF d xs) else none
  | d, .ref n => match seqAt M n with
    | some xs => if flatD d = true ∧ xs.all flatD = true then some (inF d xs) else none
    | none => none
  | _, _ => none
def mIn : Op2 := fun a b M => (inD M a b).map fun k => (.bl k, M)
def mNotIn : Op2 := fun a b M => (inD M a b).map fun k => (.bl (!k), M)
theorem str1 {x : Str} (h : x.cps.size = 1) : x = ⟨#[x.cps[0]]⟩ := by
  obtain ⟨⟨l⟩⟩ := x
  match l, h with
  | [c], _ => rfl
theorem o_in {X : Cx} : OpR X (compareOp .In) (rD2 X.K mIn) := by
  refine OpR.imp (op_in_sign.or op_in_seq) fun x y H Q h => ?_
  obtain ⟨ι, M, a, b, S, ra, rb, h⟩ := h
  unfold mIn inD at h
  split at h
  · cases ra.str_inv; cases rb.str_inv
    split at h
    · rename_i c
      exact .inl ⟨_, _, congrArg V.str (str1 c), rfl, h.val S (.bl _)⟩
    · exact h.elim
  · obtain ⟨p, vs, rfl, t1, r1⟩ := rb.tup_inv
    split at h
    · rename_i c
      refine .inr ⟨_, vs, rfl, .inr t1, by rw [flat_v ra]; exact c.1, by rw [flat_all r1]; exact c.2, ?_⟩
      rw [inF_v ra r1]
      exact h.val S (.bl _)
    · exact h.elim
  · obtain ⟨p, rfl, hp⟩ := rb.ref_inv
    split at h
    · rename_i m
      obtain ⟨vs, h1, r1⟩ := S.seq hp m
      split at h
      · rename_i c
        refine .inr ⟨_, vs, rfl, .inl h1, by rw [flat_v ra]; exact c.1, by rw [flat_all r1]; exact c.2, ?_⟩
        rw [inF_v ra r1]
        exact h.val S (.bl _)
      · exact h.elim
    · exact h.elim
  · exact h.elim
theorem o_notIn {X : Cx} : OpR X (compareOp .NotIn) (rD2 X.K mNotIn) := by
  refine OpR.imp (op_notIn_sign.or op_notIn_seq) fun x y H Q h => ?_
  obtain ⟨ι, M, a, b, S, ra, rb, h⟩ := h
  unfold mNotIn inD at h
  split at h
  · cases ra.str_inv; cases rb.str_inv
    split at h
    · rename_i c
      exact .inl ⟨_, _, congrArg V.str (str1 c), rfl, h.val S (.bl _)⟩
    · exact h.elim
  · obtain ⟨p, vs, rfl, t1, r1⟩ := rb.tup_inv
    split at h
    · rename_i c
      refine .inr ⟨_, vs, rfl, .inr t1, by rw [flat_v ra]; exact c.1, by rw [flat_all r1]; exact c.2, ?_⟩
      rw [inF_v ra r1]
      exact h.val S (.bl _)
    · exact h.elim
  · obtain ⟨p, rfl, hp⟩ := rb.ref_inv
    split at h
    · rename_i m
      obtain ⟨vs, h1, r1⟩ := S.seq hp m
      split at h
      · rename_i c
        refine .inr ⟨_, vs, rfl, .inl h1, by rw [flat_v ra]; exact c.1, by rw [flat_all r1]; exact c.2, ?_⟩
        rw [inF_v ra r1]
        exact h.val S (.bl _)
      · exact h.elim
    · exact h.elim
  · exact h.elim

/-! ### subscripts, slices -/
def mIdx : Op2 := fun a b M => match a, b with
  | .tup xs, .int i => (atI xs i).map fun d => (d, M)
  | .ref n, .int i => match seqAt M n with
    | some xs => (atI xs i).map fun d => (d, M)
    | none => none
  | .str z, .int i => if z.length ≤ sizeLine then (atI z.cps.toList i).map fun c => (.str ⟨#[c]⟩, M) else none
  | _, _ => none
section
variable {K : PySem.W.Frag} {ι : List Addr} {H : Hp} {M : Mem}
theorem atI_v {ds : List D} {vs : List V} {i : Int} {d : D} (r : RpA K ι H ds vs) (h : atI ds i = some d) : ∃ v, atI vs i = some v ∧ Rp K ι H d v := by
  unfold atI at h ⊢
  rw [← r.length]
  cases q : ixN ds.length i with
  | none => rw [q] at h; cases h
  | some j =>
    rw [q] at h
    exact r.get (i := j) h
end
theorem ix_D {X : Cx} : IxR X (rD2 X.K mIdx) := by
  refine IxR.imp ix_seq fun x y H Q h => ?_
  obtain ⟨ι, M, a, b, S, ra, rb, h⟩ := h
  unfold mIdx at h
  split at h
  · cases rb.int_inv
    obtain ⟨p, vs, rfl, t1, r1⟩ := ra.tup_inv
    rename_i xs i
    cases q : atI xs i with
    | none => rw [q] at h; exact h.elim
    | some d =>
      rw [q] at h
      obtain ⟨v, e, rv⟩ := atI_v r1 q
      exact .inr (.inl ⟨_, _, _, v, rfl, rfl, t1, e, h.val S rv⟩)
  · cases rb.int_inv
    obtain ⟨p, rfl, hp⟩ := ra.ref_inv
    split at h
    · rename_i xs m
      obtain ⟨vs, h1, r1⟩ := S.seq hp m
      rename_i i _
      cases q : atI xs i with
      | none => rw [q] at h; exact h.elim
      | some d =>
        rw [q] at h
        obtain ⟨v, e, rv⟩ := atI_v r1 q
        exact .inl ⟨_, _, _, v, rfl, rfl, h1, e, h.val S rv⟩
    · exact h.elim
  · cases ra.str_inv; cases rb.int_inv
    split at h
    · rename_i z i c
      cases q : atI z.cps.toList i with
      | none => rw [q] at h; exact h.elim
      | some d =>
        rw [q] at h
        exact .inr (.inr ⟨_, _, _, rfl, rfl, c, q, h.val S (.str _)⟩)
    · exact h.elim
  · exact h.elim
/-- the items from lo to hi -/
def cutL {α : Type} (xs : List α) (lo hi : Option Int) : List α := (xs.drop (HT.sIx xs.length 0 lo)).take (HT.sIx xs.length xs.length hi - HT.sIx xs.length 0 lo)
def mSl : D → Option Int → Option Int → Mem → Option (D × Mem) := fun d lo hi M => match d with
  | .tup xs => some (.tup (cutL xs lo hi), M)
  | .ref n => match seqAt M n with
    | some xs => some (.ref M.length, M ++ [.lst (cutL xs lo hi)])
    | none => none
  | .str z => if z.length ≤ sizeLine then some (.str (cutS z lo hi), M) else none
  | _ => none
section
variable {K : PySem.W.Frag} {ι : List Addr} {H : Hp} {M : Mem}
theorem cut_v {ds : List D} {vs : List V} {lo hi : Option Int} (r : RpA K ι H ds vs) : RpA K ι H (cutL ds lo hi) (cutV vs lo hi) := by
  unfold cutL cutV
  rw [← r.length]
  exact (r.drop _).take _
theorem cut_whole {α : Type} {xs : List α} {lo hi : Option Int} (h : HT.sIx xs.length 0 lo = 0 ∧ HT.sIx xs.length xs.length hi = xs.length) : cutL xs lo hi = xs := by
  unfold cutL
  rw [h.1, h.2]
  simp
end
theorem sl_D {X : Cx} : SlR X (rDSl X.K mSl) := by
  refine SlR.imp ((sl_tupA.or sl_list).or sl_str) fun x lo hi H Q h => ?_
  obtain ⟨ι, M, a, S, ra, h⟩ := h
  unfold mSl at h
  split at h
  · obtain ⟨p, vs, rfl, t1, r1⟩ := ra.tup_inv
    refine .inl (.inl ⟨_, vs, rfl, t1, fun e => ?_, fun _ => h.newTup S (cut_v r1)⟩)
    refine h.val S (.tup t1 ?_)
    rw [← r1.length] at e
    rw [cut_whole e]
    exact r1
  · obtain ⟨p, rfl, hp⟩ := ra.ref_inv
    split at h
    · rename_i m
      obtain ⟨vs, h1, r1⟩ := S.seq hp m
      exact .inl (.inr ⟨_, vs, rfl, h1, h.newLst S (cut_v r1)⟩)
    · exact h.elim
  · cases ra.str_inv
    split at h
    · exact .inr ⟨_, rfl, by assumption, h.val S (.str _)⟩
    · exact h.elim
  · exact h.elim
end TL
end
section
/-! the tree layer: the rules for expressions and tests -/
namespace TL
open PySem PySem.Spec PyProof.Rows L2

/-! ### the mirrors' words -/
def eVar (i : Nat) : ME := fun env M => match env[i]? with
  | some (some d) => .ok d M
  | _ => .stuck
def eC (d : D) : ME := fun _ M => .ok d M
def eBin (f : Op2) (a b : ME) : ME := fun env M => (a env M).bind fun x M1 => (b env M1).bind fun y M2 => liftO (f x y M2)
def eUn (f : Op1) (a : ME) : ME := fun env M => (a env M).bind fun x M1 => liftO (f x M1)
def kBl {β : Type} (d : D) (f : Bool → Out β) : Out β := match d with
  | .bl k => f k
  | _ => .stuck
@[simp] theorem kBl_bl {β : Type} (k : Bool) (f : Bool → Out β) : kBl (.bl k) f = f k := rfl
def eChain (f g : Op2) (a b c : ME) : ME := fun env M => (a env M).bind fun x M1 => (b env M1).bind fun y M2 => (liftO (f x y M2)).bind fun z M3 => kBl z fun k =>
  if k = true then (c env M3).bind fun w M4 => liftO (g y w M4) else .ok (.bl false) M3
def eAnd (a b : ME) : ME := fun env M => (a env M).bind fun x M1 => kBl x fun k => if k = true then b env M1 else .ok (.bl false) M1
def eOr (a b : ME) : ME := fun env M => (a env M).bind fun x M1 => kBl x fun k => if k = true then .ok (.bl true) M1 else b env M1
def eNot (a : ME) : ME := fun env M => (a env M).bind fun x M1 => kBl x fun k => .ok (.bl (!k)) M1
def eIf (t : MT) (a b : ME) : ME := fun env M => (t env M).bind fun k M1 => if k = true then a env M1 else b env M1
def truD (M : Mem) (d : D) : Option Bool := match d with
  | .non => some false
  | .bl b => some b
  | .int i => some (i != 0)
  | .str x => if x.length ≤ sizeLine then some ((x.length : Int) != 0) else none
  | .tup xs => some (!xs.isEmpty)
  | .ref n => (seqAt M n).map fun xs => !xs.isEmpty
  | .err _ => none
def tB (e : ME) : MT := fun env M => (e env M).bind fun d M1 => kBl d fun k => .ok k M1
def tTru (e : ME) : MT := fun env M => (e env M).bind fun d M1 => match truD M1 d with
  | some k => .ok k M1
  | none => .stuck
def tAnd (a b : MT) : MT := fun env M => (a env M).bind fun k M1 => if k = true then b env M1 else .ok false M1
def tOr (a b : MT) : MT := fun env M => (a env M).bind fun k M1 => if k = true then .ok true M1 else b env M1
def tNot (a : MT) : MT := fun env M => (a env M).bind fun k M1 => .ok (!k) M1
def aNil : MA := fun _ M => .ok [] M
def aCons (a : ME) (r : MA) : MA := fun env M => (a env M).bind fun x M1 => (r env M1).bind fun xs M2 => .ok (x :: xs) M2
def eTup (a : MA) : ME := fun env M => (a env M).bind fun xs M1 => if xs.length ≤ 1000 then .ok (.tup xs) M1 else .stuck
def eLst (a : MA) : ME := fun env M => (a env M).bind fun xs M1 => if xs.length ≤ 1000 then .ok (.ref M1.length) (M1 ++ [.lst xs]) else .stuck
def eCall (m : List D → Mem → Out D) (a : MA) : ME := fun env M => (a env M).bind m
def eCallO (f : OpN) (a : MA) : ME := fun env M => (a env M).bind fun xs M1 => liftO (f xs M1)
def kInt {β : Type} (d : D) (f : Int → Out β) : Out β := match d with
  | .int k => f k
  | _ => .stuck
@[simp] theorem kInt_int {β : Type} (k : Int) (f : Int → Out β) : kInt (.int k) f = f k := rfl
/-- a slice's part -/
abbrev MO' := Env → Mem → Out (Option Int)
def oNone : MO' := fun _ M => .ok none M
def oSome (a : ME) : MO' := fun env M => (a env M).bind fun x M1 => kInt x fun i => .ok (some i) M1
def eSl (a : ME) (lo hi : MO') : ME := fun env M => (a env M).bind fun x M1 => (lo env M1).bind fun l M2 => (hi env M2).bind fun h M3 => liftO (mSl x l h M3)

section
variable {K : PySem.W.Frag} {W : Value → Option Addr → Hp → Prop} {ι : List Addr} {H : Hp} {M : Mem}
theorem OutP.val {α : Type} {a : α} {R : α → Mem → List Addr → Hp → Prop} (S : SR K ι H M) (h : OutP K W ι H (.ok a M) R) : R a M ι H := h ι H Ext.refl S
theorem kBl_inv {β : Type} {d : D} {f : Bool → Out β} {R : β → Mem → List Addr → Hp → Prop} (h : OutP K W ι H (kBl d f) R) : ∃ k, d = .bl k ∧ OutP K W ι H (f k) R := by
  cases d with
  | bl k => exact ⟨k, rfl, h⟩
  | _ => exact h.elim
theorem kInt_inv {β : Type} {d : D} {f : Int → Out β} {R : β → Mem → List Addr → Hp → Prop} (h : OutP K W ι H (kInt d f) R) : ∃ k, d = .int k ∧ OutP K W ι H (f k) R := by
  cases d with
  | int k => exact ⟨k, rfl, h⟩
  | _ => exact h.elim
end

section
variable {X : Cx} {W : WX} {k : Nat}
variable {a b c e : Expr} {es : List Expr} {ma mb mc me : ME} {mas : MA} {pos : Pos} {mt mu : MT}

theorem d_var {i : Nat} {x : Str} (hN : X.N[i]? = some x := by rfl) (hv : Vis X.env.scope x := by first | exact Or.inl rfl | exact Or.inr (Or.inl rfl) | exact Or.inr (Or.inr rfl)) (hd : (x == ("__debug__" : Str)) = false := by decide)
    (hcd : (x == ("__classdict__" : Str)) = false := by decide) : PE X (.Name x pos) (LE X.K W (eVar i)) := (pe_var hN hv hd hcd).imp fun σ H Q ⟨ι, env, M, S, R, h⟩ => by
  unfold eVar at h
  split at h
  · rename_i d e
    obtain ⟨v, h1, h2⟩ := R.get e
    exact ⟨v, h1, h.val S v h2⟩
  · exact h.elim
theorem d_const {t : TE} {d : D} {v : V} (h : PE X e (tC v)) (r : ∀ ι H, Rp X.K ι H d v) : PE X e (LE X.K W (eC d)) := h.imp fun σ H Q ⟨ι, env, M, S, R, h⟩ => h.val S v (r ι H)
theorem d_int {i : Int} {j : Nat} : PE X (.Constant (.int i) j pos) (LE X.K W (eC (.int i))) := pe_int.imp fun σ H Q ⟨ι, env, M, S, R, h⟩ => h.val S _ (.int i)
theorem d_str {x : Str} {j : Nat} : PE X (.Constant (.str x) j pos) (LE X.K W (eC (.str x))) := pe_str.imp fun σ H Q ⟨ι, env, M, S, R, h⟩ => h.val S _ (.str x)
theorem d_bl {x : Bool} {j : Nat} : PE X (.Constant (.bool x) j pos) (LE X.K W (eC (.bl x))) := pe_bl.imp fun σ H Q ⟨ι, env, M, S, R, h⟩ => h.val S _ (.bl x)
theorem d_non {j : Nat} : PE X (.Constant .none j pos) (LE X.K W (eC .non)) := pe_non.imp fun σ H Q ⟨ι, env, M, S, R, h⟩ => h.val S _ .non
/-- a module's constant -/
structure Glob (K : PySem.W.Frag) (mg : Str → Option Value) (x : Str) (d : D) : Prop where
  ex : ∃ (v : V) (u : Value), mg x = some u ∧ RelV v u ∧ ∀ ι H, Rp K ι H d v
theorem d_glob {x : Str} {d : D} (G : Glob X.K X.mg x d) (hg : Gl X x := by rfl) (hd : (x == ("__debug__" : Str)) = false := by decide) : PE X (.Name x pos) (LE X.K W (eC d)) := by
  obtain ⟨v, u, hm, r, q⟩ := G.ex
  exact (pe_glob hg hm r hd).imp fun σ H Q ⟨ι, env, M, S, R, h⟩ => h.val S v (q ι H)

/-- two in a row -/
theorem le_bin {r : R2} {f : Op2} (hr : ∀ x y H Q, rD2 X.K f x y H Q → r x y H Q) {σ : L2.St} {H : Hp} {Q : VK} (h : LE X.K W (eBin f ma mb) σ H Q) : tOp r (LE X.K W ma) (LE X.K W mb) σ H Q := by
  obtain ⟨ι, env, M, S, R, h⟩ := h
  exact ⟨ι, env, M, S, R, (OutP.bind h).imp fun x M1 ι1 H1 e1 S1 h1 v rv => ⟨ι1, env, M1, S1, R.ext e1, (OutP.bind h1).imp fun y M2 ι2 H2 e2 S2 h2 u ru =>
    hr _ _ _ _ ⟨ι2, M2, x, y, S2, rv.ext e2, ru, OpO.of h2⟩⟩⟩
theorem d_bin {op : Operator} {f : Op2} (ho : OpR X (binaryOp op) (rD2 X.K f)) (ha : PE X a (LE X.K W ma)) (hb : PE X b (LE X.K W mb)) : PE X (.BinOp a op b pos) (LE X.K W (eBin f ma mb)) :=
  (pe_op ho ha hb).imp fun σ H Q h => le_bin (fun _ _ _ _ z => z) h
theorem d_cmp {op : CmpOp} {f : Op2} (ho : OpR X (compareOp op) (rD2 X.K f)) (ha : PE X a (LE X.K W ma)) (hb : PE X b (LE X.K W mb)) (hm : behindInMarks op b = false) : PE X (.Compare a [op] [b] pos) (LE X.K W (eBin f ma mb)) :=
  (pe_cmpR ho ha hb hm).imp fun σ H Q h => le_bin (fun _ _ _ _ z => z) h
theorem d_idx (ha : PE X a (LE X.K W ma)) (hb : PE X b (LE X.K W mb)) (hs : PlainIx b := by exact fun _ _ => rfl) : PE X (.Subscript a b pos) (LE X.K W (eBin mIdx ma mb)) :=
  (pe_ix ix_D ha hb hs).imp fun σ H Q h => le_bin (fun _ _ _ _ z => z) h
theorem d_un {op : UnaryOp} {f : Op1} (ho : UnR X (unaryOp op) (rD1 X.K f)) (ha : PE X a (LE X.K W ma)) : PE X (.UnaryOp op a pos) (LE X.K W (eUn f ma)) :=
  (pe_un ho ha).imp fun σ H Q ⟨ι, env, M, S, R, h⟩ => ⟨ι, env, M, S, R, (OutP.bind h).imp fun x M1 ι1 H1 e1 S1 h1 v rv => ⟨ι1, M1, x, S1, rv, OpO.of h1⟩⟩
/-- a written negative number -/
theorem le_chain {f g : Op2} {σ : L2.St} {H : Hp} {Q : VK} (h : LE X.K W (eChain f g ma mb mc) σ H Q) : tChain (rD2 X.K f) (rD2 X.K g) (LE X.K W ma) (LE X.K W mb) (LE X.K W mc) σ H Q := by
  obtain ⟨ι, env, M, S, R, h⟩ := h
  refine ⟨ι, env, M, S, R, (OutP.bind h).imp fun x M1 ι1 H1 e1 S1 h1 v rv => ⟨ι1, env, M1, S1, R.ext e1, (OutP.bind h1).imp fun y M2 ι2 H2 e2 S2 h2 u ru => ?_⟩⟩
  refine ⟨ι2, M2, x, y, S2, rv.ext e2, ru, OpO.of ((OutP.bind h2).imp fun z M3 ι3 H3 e3 S3 h3 w rw => ?_)⟩
  obtain ⟨kk, rfl, h4⟩ := kBl_inv h3
  cases rw.bl_inv
  refine ⟨kk, rfl, ?_⟩
  cases kk with
  | false =>
    refine iteF ?_
    exact h4.val S3 _ (.bl _)
  | true =>
    refine iteT ?_
    exact ⟨ι3, env, M3, S3, R.ext ((e1.trans e2).trans e3), (OutP.bind h4).imp fun q M4 ι4 H4 e4 S4 h5 p rp => ⟨ι4, M4, y, q, S4, ru.ext (e3.trans e4), rp, OpO.of h5⟩⟩
theorem d_chain {op op' : CmpOp} {f g : Op2} (ho : OpR X (compareOp op) (rD2 X.K f)) (ho' : OpR X (compareOp op') (rD2 X.K g)) (ha : PE X a (LE X.K W ma)) (hb : PE X b (LE X.K W mb)) (hc : PE X c (LE X.K W mc))
    (hm : lastMarks [op, op'] [b, c] = false := by with_unfolding_all rfl) : PE X (.Compare a [op, op'] [b, c] pos) (LE X.K W (eChain f g ma mb mc)) :=
  (pe_chain ho ho' ha hb hc hm).imp fun σ H Q h => le_chain h
/-! and, or, not as values -/
theorem d_one {op : BoolOp} (ha : PE X a (LE X.K W ma)) : PE X (.BoolOp op [a] pos) (LE X.K W ma) := pe_one ha
theorem d_and {rest : List Expr} (ha : PE X a (LE X.K W ma)) (hb : PE X (.BoolOp .And (b :: rest) pos) (LE X.K W mb)) : PE X (.BoolOp .And (a :: b :: rest) pos) (LE X.K W (eAnd ma mb)) :=
  (pe_and ha hb).imp fun σ H Q ⟨ι, env, M, S, R, h⟩ => ⟨ι, env, M, S, R, (OutP.bind h).imp fun x M1 ι1 H1 e1 S1 h1 v rv => by
    obtain ⟨kk, rfl, h4⟩ := kBl_inv h1
    cases rv.bl_inv
    refine ⟨kk, rfl, ?_⟩
    cases kk with
    | false => exact iteF (h4.val S1 _ (.bl _))
    | true => exact iteT ⟨ι1, env, M1, S1, R.ext e1, h4⟩⟩
theorem d_or {rest : List Expr} (ha : PE X a (LE X.K W ma)) (hb : PE X (.BoolOp .Or (b :: rest) pos) (LE X.K W mb)) : PE X (.BoolOp .Or (a :: b :: rest) pos) (LE X.K W (eOr ma mb)) :=
  (pe_or ha hb).imp fun σ H Q ⟨ι, env, M, S, R, h⟩ => ⟨ι, env, M, S, R, (OutP.bind h).imp fun x M1 ι1 H1 e1 S1 h1 v rv => by
    obtain ⟨kk, rfl, h4⟩ := kBl_inv h1
    cases rv.bl_inv
    refine ⟨kk, rfl, ?_⟩
    cases kk with
    | false => exact iteF ⟨ι1, env, M1, S1, R.ext e1, h4⟩
    | true => exact iteT (h4.val S1 _ (.bl _))⟩
theorem d_not (ha : PE X a (LE X.K W ma)) : PE X (.UnaryOp .Not a pos) (LE X.K W (eNot ma)) :=
  (pe_not ha).imp fun σ H Q ⟨ι, env, M, S, R, h⟩ => ⟨ι, env, M, S, R, (OutP.bind h).imp fun x M1 ι1 H1 e1 S1 h1 v rv => by
    obtain ⟨kk, rfl, h4⟩ := kBl_inv h1
    cases rv.bl_inv
    exact ⟨kk, rfl, h4.val S1 _ (.bl _)⟩⟩
theorem d_ifExp (hc : PT X c (LT X.K W mt)) (ha : PE X a (LE X.K W ma)) (hb : PE X b (LE X.K W mb)) : PE X (.IfExp c a b pos) (LE X.K W (eIf mt ma mb)) :=
  (pe_ifExp hc ha hb).imp fun σ H Q ⟨ι, env, M, S, R, h⟩ => ⟨ι, env, M, S, R, (OutP.bind h).imp fun kk M1 ι1 H1 e1 S1 h1 => by
    show if kk = true then _ else _
    cases kk with
    | false => exact iteF ⟨ι1, env, M1, S1, R.ext e1, h1⟩
    | true => exact iteT ⟨ι1, env, M1, S1, R.ext e1, h1⟩⟩
/-! tests -/
theorem lt_tB {t : TE} {σ : L2.St} {H : Hp} {Q : Bool → Hp → Prop} (hk : ∀ Q, LE X.K W me σ H Q → t σ H Q) (h : LT X.K W (tB me) σ H Q) : tTest t σ H Q := by
  obtain ⟨ι, env, M, S, R, h⟩ := h
  refine hk _ ⟨ι, env, M, S, R, (OutP.bind h).imp fun x M1 ι1 H1 e1 S1 h1 v rv => ?_⟩
  obtain ⟨kk, rfl, h4⟩ := kBl_inv h1
  cases rv.bl_inv
  exact ⟨kk, rfl, h4.val S1⟩
theorem dt_cmp {op : CmpOp} {f : Op2} (ho : OpR X (compareOp op) (rD2 X.K f)) (ha : PE X a (LE X.K W ma)) (hb : PE X b (LE X.K W mb)) (hm : behindInMarks op b = false) : PT X (.Compare a [op] [b] pos) (LT X.K W (tB (eBin f ma mb))) :=
  (pt_cmpR ho ha hb hm).imp fun σ H Q h => lt_tB (fun Q h => le_bin (fun _ _ _ _ z => z) h) h
theorem dt_chain {op op' : CmpOp} {f g : Op2} (ho : OpR X (compareOp op) (rD2 X.K f)) (ho' : OpR X (compareOp op') (rD2 X.K g)) (ha : PE X a (LE X.K W ma)) (hb : PE X b (LE X.K W mb)) (hc : PE X c (LE X.K W mc))
    (hm : lastMarks [op, op'] [b, c] = false := by with_unfolding_all rfl) : PT X (.Compare a [op, op'] [b, c] pos) (LT X.K W (tB (eChain f g ma mb mc))) :=
  (pt_chain ho ho' ha hb hc hm).imp fun σ H Q h => lt_tB (fun Q h => le_chain h) h
theorem dt_and1 (ha : PT X a (LT X.K W mt)) : PW X (.BoolOp .And [a] pos) (LT X.K W mt) := pw_and1 ha
theorem dt_or1 (ha : PT X a (LT X.K W mt)) : PW X (.BoolOp .Or [a] pos) (LT X.K W mt) := pw_or1 ha
theorem dt_and {rest : List Expr} (ha : PT X a (LT X.K W mt)) (hb : PW X (.BoolOp .And (b :: rest) pos) (LT X.K W mu)) : PW X (.BoolOp .And (a :: b :: rest) pos) (LT X.K W (tAnd mt mu)) :=
  (pw_and ha hb).imp fun σ H Q ⟨ι, env, M, S, R, h⟩ => ⟨ι, env, M, S, R, (OutP.bind h).imp fun kk M1 ι1 H1 e1 S1 h1 => by
    show if kk = true then _ else _
    cases kk with
    | false => exact iteF (h1.val S1)
    | true => exact iteT ⟨ι1, env, M1, S1, R.ext e1, h1⟩⟩
theorem dt_or {rest : List Expr} (ha : PT X a (LT X.K W mt)) (hb : PW X (.BoolOp .Or (b :: rest) pos) (LT X.K W mu)) : PW X (.BoolOp .Or (a :: b :: rest) pos) (LT X.K W (tOr mt mu)) :=
  (pw_or ha hb).imp fun σ H Q ⟨ι, env, M, S, R, h⟩ => ⟨ι, env, M, S, R, (OutP.bind h).imp fun kk M1 ι1 H1 e1 S1 h1 => by
    show if kk = true then _ else _
    cases kk with
    | false => exact iteF ⟨ι1, env, M1, S1, R.ext e1, h1⟩
    | true => exact iteT (h1.val S1)⟩
theorem dt_not (ha : PT X a (LT X.K W mt)) : PT X (.UnaryOp .Not a pos) (LT X.K W (tNot mt)) :=
  (pt_not ha).imp fun σ H Q ⟨ι, env, M, S, R, h⟩ => ⟨ι, env, M, S, R, (OutP.bind h).imp fun kk M1 ι1 H1 e1 S1 h1 => OutP.val (W := W1 W σ) (R := TR Q) (a := !kk) S1 h1⟩
theorem dt_tru (ha : PE X a (LE X.K W ma)) (he : ∀ whole, isTrue a X.env whole = (do let v ← whole; standAt a.pos; holding [v] (truthy v)) := by exact fun _ => rfl) : PT X a (LT X.K W (tTru ma)) :=
  (pt_truth ha he).imp fun σ H Q ⟨ι, env, M, S, R, h⟩ => ⟨ι, env, M, S, R, (OutP.bind h).imp fun d M1 ι1 H1 e1 S1 h1 v rv => by
    revert h1
    cases q : truD M1 d with
    | none => exact fun h1 => h1.elim
    | some kk =>
      intro h1
      refine ⟨kk, ?_, h1.val S1⟩
      cases d with
      | non => cases rv.non_inv; cases q; rfl
      | bl b => cases rv.bl_inv; cases q; rfl
      | int i => cases rv.int_inv; cases q; rfl
      | err x => cases q
      | str x =>
        cases rv.str_inv
        have q' : (if x.length ≤ sizeLine then some ((x.length : Int) != 0) else none) = some kk := q
        by_cases c : x.length ≤ sizeLine
        · rw [if_pos c] at q'; cases q'; exact ⟨c, rfl⟩
        · rw [if_neg c] at q'; cases q'
      | tup xs =>
        obtain ⟨p, vs, rfl, t1, r1⟩ := rv.tup_inv
        cases q
        refine .inr (.inl ⟨vs, t1, ?_⟩)
        cases r1 <;> rfl
      | ref n =>
        obtain ⟨p, rfl, hp⟩ := rv.ref_inv
        have q' : (seqAt M1 n).map (fun xs => !xs.isEmpty) = some kk := q
        cases q2 : seqAt M1 n with
        | none => rw [q2] at q'; cases q'
        | some xs =>
          rw [q2] at q'
          cases q'
          obtain ⟨vs, h1, r1⟩ := S1.seq hp q2
          refine .inl ⟨vs, h1, ?_⟩
          cases r1 <;> rfl⟩
/-! argument lists, displays -/
theorem da_nil : PA X [] (LA X.K W aNil) := pa_nil.imp fun σ H Q ⟨ι, env, M, S, R, h⟩ => h.val S _ .nil
theorem da_cons (ha : PE X e (LE X.K W me)) (hr : PA X es (LA X.K W mas)) (hs : starEach (e :: es) X.env = (false, eval e X.env) :: starEach es X.env := by rfl) : PA X (e :: es) (LA X.K W (aCons me mas)) :=
  (pa_cons ha hr hs).imp fun σ H Q ⟨ι, env, M, S, R, h⟩ => ⟨ι, env, M, S, R, (OutP.bind h).imp fun x M1 ι1 H1 e1 S1 h1 v rv => ⟨ι1, env, M1, S1, R.ext e1, (OutP.bind h1).imp fun xs M2 ι2 H2 e2 S2 h2 vs rvs => h2.val S2 _ (.cons (rv.ext e2) rvs)⟩⟩
theorem d_tup {x1 : Nat} (h : PA X es (LA X.K W mas)) : PE X (.Tuple es x1 pos) (LE X.K W (eTup mas)) :=
  (pe_tup h).imp fun σ H Q ⟨ι, env, M, S, R, h⟩ => ⟨ι, env, M, S, R, (OutP.bind h).imp fun xs M1 ι1 H1 e1 S1 h1 vs rvs => by
    have hl := rvs.length
    revert h1
    split
    · intro h1
      exact ⟨by rw [← hl, sizeLine_eq]; omega, OpO.newTup S1 (h1 : OutP X.K (W1 W σ) ι1 H1 (.ok _ _) _) rvs⟩
    · exact fun h1 => h1.elim⟩
theorem d_lst (h : PA X es (LA X.K W mas)) : PE X (.List es pos) (LE X.K W (eLst mas)) :=
  (pe_lst h).imp fun σ H Q ⟨ι, env, M, S, R, h⟩ => ⟨ι, env, M, S, R, (OutP.bind h).imp fun xs M1 ι1 H1 e1 S1 h1 vs rvs => by
    have hl := rvs.length
    revert h1
    split
    · intro h1
      exact ⟨by rw [← hl, sizeLine_eq]; omega, OpO.newLst S1 (h1 : OutP X.K (W1 W σ) ι1 H1 (.ok _ _) _) rvs⟩
    · exact fun h1 => h1.elim⟩
/-! slices -/
def LO (K : PySem.W.Frag) (W : WX) (m : MO') : TO := fun σ H Q => ∃ ι env M, SR K ι H M ∧ EnvR K ι H env σ ∧ OutP K (W1 W σ) ι H (m env M) (fun o _ _ H' => Q o H')
theorem _root_.L2.PO.imp {e : Option Expr} {t t' : TO} (h : PO X e t) (k : ∀ σ H Q, t' σ H Q → t σ H Q) : PO X e t' := ⟨fun pins s σ H Q I q => h.run pins s σ H Q I (k σ H Q q)⟩
theorem do_none : PO X none (LO X.K W oNone) := po_none.imp fun σ H Q ⟨ι, env, M, S, R, h⟩ => h.val S
theorem do_some (ha : PE X a (LE X.K W ma)) : PO X (some a) (LO X.K W (oSome ma)) :=
  (po_some ha).imp fun σ H Q ⟨ι, env, M, S, R, h⟩ => ⟨ι, env, M, S, R, (OutP.bind h).imp fun x M1 ι1 H1 e1 S1 h1 v rv => by
    obtain ⟨i, rfl, h2⟩ := kInt_inv h1
    cases rv.int_inv
    exact ⟨i, rfl, h2.val S1⟩⟩
theorem d_sl {lo hi : Option Expr} {ml mh : MO'} {p2 : Pos} (ha : PE X a (LE X.K W ma)) (hl : PO X lo (LO X.K W ml)) (hh : PO X hi (LO X.K W mh)) : PE X (.Subscript a (.Slice lo hi none p2) pos) (LE X.K W (eSl ma ml mh)) :=
  (pe_slice sl_D ha hl hh).imp fun σ H Q ⟨ι, env, M, S, R, h⟩ => ⟨ι, env, M, S, R, (OutP.bind h).imp fun x M1 ι1 H1 e1 S1 h1 v rv =>
    ⟨ι1, env, M1, S1, R.ext e1, (OutP.bind h1).imp fun l M2 ι2 H2 e2 S2 h2 => ⟨ι2, env, M2, S2, R.ext (e1.trans e2), (OutP.bind h2).imp fun h M3 ι3 H3 e3 S3 h3 => ⟨ι3, M3, x, S3, rv.ext (e2.trans e3), OpO.of h3⟩⟩⟩⟩
end
end TL
end
section
/-! the tree layer: calls, statements, loops, comprehensions, defs -/
namespace TL
open PySem PySem.Spec PyProof.Rows L2

/-! ### built-in functions -/
def nLen : OpN := fun ds M => match ds with
  | [.str x] => if x.length ≤ sizeLine then some (.int (x.length : Nat), M) else none
  | [.tup xs] => some (.int (xs.length : Nat), M)
  | [.ref n] => (seqAt M n).map fun xs => (.int (xs.length : Nat), M)
  | _ => none
def nMax2 : OpN := fun ds M => match ds with
  | [.int i, .int j] => some (.int (if j > i then j else i), M)
  | _ => none
def nMin2 : OpN := fun ds M => match ds with
  | [.int i, .int j] => some (.int (if j < i then j else i), M)
  | _ => none
def nList : OpN := fun ds M => match ds with
  | [.tup xs] => some (.ref M.length, M ++ [.lst xs])
  | [.ref n] => (seqAt M n).map fun xs => (.ref M.length, M ++ [.lst xs])
  | _ => none
def nTuple : OpN := fun ds M => match ds with
  | [.tup xs] => some (.tup xs, M)
  | [.ref n] => (seqAt M n).map fun xs => (.tup xs, M)
  | _ => none
section
variable {K : PySem.W.Frag} {ι : List Addr} {H : Hp} {M : Mem}
theorem RpA.one_inv {d : D} {vs : List V} (r : RpA K ι H [d] vs) : ∃ v, vs = [v] ∧ Rp K ι H d v := by
  cases r with | cons h t => cases t; exact ⟨_, rfl, h⟩
theorem RpA.two_inv {d e : D} {vs : List V} (r : RpA K ι H [d, e] vs) : ∃ v u, vs = [v, u] ∧ Rp K ι H d v ∧ Rp K ι H e u := by
  cases r with | cons h t => cases t with | cons h' t => cases t; exact ⟨_, _, rfl, h, h'⟩
end
section
variable {X : Cx}
theorem c_len : CallR X (.builtin "len") (rDN X.K nLen) := by
  refine CallR.imp call_len fun xs H Q h => ?_
  obtain ⟨ι, M, ds, S, r, h⟩ := h
  unfold nLen at h
  split at h
  · obtain ⟨v, rfl, r1⟩ := r.one_inv
    cases r1.str_inv
    split at h
    · exact ⟨_, _, rfl, ⟨by assumption, rfl⟩, h.val S (.int _)⟩
    · exact h.elim
  · obtain ⟨v, rfl, r1⟩ := r.one_inv
    obtain ⟨p, vs, rfl, t1, r2⟩ := r1.tup_inv
    exact ⟨_, _, rfl, .inr ⟨vs, t1, rfl⟩, by rw [← r2.length]; exact h.val S (.int _)⟩
  · rename_i n
    obtain ⟨v, rfl, r1⟩ := r.one_inv
    obtain ⟨p, rfl, hp⟩ := r1.ref_inv
    cases q : seqAt M n with
    | none => rw [q] at h; exact h.elim
    | some xs =>
      rw [q] at h
      obtain ⟨vs, h1, r2⟩ := S.seq hp q
      exact ⟨_, _, rfl, .inl ⟨vs, h1, rfl⟩, by rw [← r2.length]; exact h.val S (.int _)⟩
  · exact h.elim
theorem c_max2 (hc : X.calm = true) : CallR X (.builtin "max") (rDN X.K nMax2) := by
  refine CallR.imp (call_max2 hc) fun xs H Q h => ?_
  obtain ⟨ι, M, ds, S, r, h⟩ := h
  unfold nMax2 at h
  split at h
  · obtain ⟨v, u, rfl, r1, r2⟩ := r.two_inv
    cases r1.int_inv; cases r2.int_inv
    exact ⟨_, _, rfl, h.val S (.int _)⟩
  · exact h.elim
theorem c_min2 (hc : X.calm = true) : CallR X (.builtin "min") (rDN X.K nMin2) := by
  refine CallR.imp (call_min2 hc) fun xs H Q h => ?_
  obtain ⟨ι, M, ds, S, r, h⟩ := h
  unfold nMin2 at h
  split at h
  · obtain ⟨v, u, rfl, r1, r2⟩ := r.two_inv
    cases r1.int_inv; cases r2.int_inv
    exact ⟨_, _, rfl, h.val S (.int _)⟩
  · exact h.elim
theorem c_list : CallR X (.type "list") (rDN X.K nList) := by
  refine CallR.imp call_list_of fun xs H Q h => ?_
  obtain ⟨ι, M, ds, S, r, h⟩ := h
  unfold nList at h
  split at h
  · obtain ⟨v, rfl, r1⟩ := r.one_inv
    obtain ⟨p, vs, rfl, t1, r2⟩ := r1.tup_inv
    exact ⟨_, vs, rfl, .inr t1, h.newLst S r2⟩
  · rename_i n
    obtain ⟨v, rfl, r1⟩ := r.one_inv
    obtain ⟨p, rfl, hp⟩ := r1.ref_inv
    cases q : seqAt M n with
    | none => rw [q] at h; exact h.elim
    | some xs =>
      rw [q] at h
      obtain ⟨vs, h1, r2⟩ := S.seq hp q
      exact ⟨_, vs, rfl, .inl h1, h.newLst S r2⟩
  · exact h.elim
theorem c_tuple : CallR X (.type "tuple") (rDN X.K nTuple) := by
  refine CallR.imp call_tuple_of fun xs H Q h => ?_
  obtain ⟨ι, M, ds, S, r, h⟩ := h
  unfold nTuple at h
  split at h
  · obtain ⟨v, rfl, r1⟩ := r.one_inv
    obtain ⟨p, vs, rfl, t1, r2⟩ := r1.tup_inv
    exact ⟨_, vs, rfl, .inr ⟨t1, h.val S (.tup t1 r2)⟩⟩
  · rename_i n
    obtain ⟨v, rfl, r1⟩ := r.one_inv
    obtain ⟨p, rfl, hp⟩ := r1.ref_inv
    cases q : seqAt M n with
    | none => rw [q] at h; exact h.elim
    | some xs =>
      rw [q] at h
      obtain ⟨vs, h1, r2⟩ := S.seq hp q
      exact ⟨_, vs, rfl, .inl ⟨h1, h.newTup S r2⟩⟩
  · exact h.elim
end
/-! ### isinstance(x, T), T built-in -/
def tyName (M : Mem) : D → Option String
  | .err _ => none
  | .non => some "NoneType"
  | .bl _ => some "bool"
  | .int _ => some "int"
  | .str _ => some "str"
  | .tup _ => some "tuple"
  | .ref n => (seqAt M n).map fun _ => "list"
def mIsi (T : String) : Op1 := fun d M => match tyName M d with
  | some t => (kitB t T).map fun b => (.bl b, M)
  | none => none
def eIsi (T : String) (a : ME) : ME := eUn (mIsi T) a
section
variable {X : Cx} {W : WX} {e : Expr} {me : ME}
theorem tyX_of {ι : List Addr} {H : Hp} {M : Mem} {d : D} {v : V} {t : String} (S : SR X.K ι H M) (r : Rp X.K ι H d v) (h : tyName M d = some t) : TyX X.K H v (.type t) := by
  cases d with
  | non => cases r.non_inv; cases h; exact .base .non
  | bl b => cases r.bl_inv; cases h; exact .base (.bl _)
  | int i => cases r.int_inv; cases h; exact .base (.int _)
  | str x => cases r.str_inv; cases h; exact .base (.str _)
  | err x => cases h
  | tup xs =>
    obtain ⟨p, vs, rfl, t1, r1⟩ := r.tup_inv
    cases h
    rcases t1 with (h | ⟨o, h⟩) | ⟨o, its, n, h1, h2, _⟩
    · exact .base (.tup h)
    · exact .fTuple h
    · exact .kTuple h1 h2
  | ref n =>
    obtain ⟨p, rfl, hp⟩ := r.ref_inv
    have h' : (seqAt M n).map (fun _ => "list") = some t := h
    cases q : seqAt M n with
    | none => rw [q] at h'; cases h'
    | some xs =>
      rw [q] at h'
      cases h'
      obtain ⟨vs, h1, r2⟩ := S.seq hp q
      rcases h1 with (h | ⟨o, h⟩) | ⟨o, its, n, h1, h2, _⟩
      · exact .base (.lst h)
      · exact .base (.frz h)
      · exact .kList h1 h2
theorem d_isi {T : Str} {U : String} {p p2 pos : Pos} (hg : Gl X "isinstance") (hm : X.mg "isinstance" = none) (hg2 : Gl X T) (hm2 : X.mg T = none) (hv : bootBuiltins T = some (.type U)) (he : PE X e (LE X.K W me))
    (hn : T ≠ "__name__" := by decide) (hd : (T == ("__debug__" : Str)) = false := by decide) (h1 : starEach [e, .Name T p2] X.env = (false, eval e X.env) :: starEach [.Name T p2] X.env := by rfl) (h2 : starEach [.Name T p2] X.env = (false, eval (.Name T p2) X.env) :: starEach [] X.env := by rfl)
    (h3 : (backTo pos (starEach [.Name T p2] X.env)).any (·.1) = false := by rfl) :
    PE X (.Call (.Name "isinstance" p) [e, .Name T p2] [] pos) (LE X.K W (eIsi U me)) :=
  (pe_callB call_isi hg hm boot_isinstance (pa_cons he (pa_cons (pe_bltn hg2 hm2 hv (v := .ty U) rfl hn hd) pa_nil h2) h1) (by decide) (by decide) h1 h3).imp fun σ H Q ⟨ι, env, M, S, R, h⟩ =>
    ⟨ι, env, M, S, R, (OutP.bind h).imp fun d M1 ι1 H1 e1 S1 h1 v rv => by
      revert h1
      unfold mIsi
      cases q : tyName M1 d with
      | none => exact fun h1 => h1.elim
      | some t =>
        intro h1
        cases q2 : kitB t U with
        | none => simp only [q2] at h1; exact h1.elim
        | some b =>
          simp only [q2] at h1
          exact ⟨v, .ty U, .type t, .type U, b, rfl, .ty U, tyX_of S1 rv q, kit_ty q2, OutP.val S1 h1 _ (.bl _)⟩⟩
end

/-! ### calls -/
section
variable {X : Cx} {W : WX} {e : Expr} {es : List Expr} {mas : MA} {x : Str} {p pos : Pos}
theorem d_callB {id : String} {f : OpN} (hc : CallR X (.builtin id) (rDN X.K f)) (hg : Gl X x) (hm : X.mg x = none) (hv : bootBuiltins x = some (.builtin id)) (ha : PA X (e :: es) (LA X.K W mas)) (hn : x ≠ "__name__" := by decide)
    (hd : (x == ("__debug__" : Str)) = false := by decide) (hst : starEach (e :: es) X.env = (false, eval e X.env) :: starEach es X.env := by rfl) (hpl : (backTo pos (starEach es X.env)).any (·.1) = false := by rfl) :
    PE X (.Call (.Name x p) (e :: es) [] pos) (LE X.K W (eCallO f mas)) :=
  (pe_callB hc hg hm hv ha hn hd hst hpl).imp fun σ H Q ⟨ι, env, M, S, R, h⟩ => ⟨ι, env, M, S, R, (OutP.bind h).imp fun ds M1 ι1 H1 e1 S1 h1 vs rv => ⟨ι1, M1, ds, S1, rv, OpO.of h1⟩⟩
theorem d_callTy {T : String} {f : OpN} (hc : CallR X (.type T) (rDN X.K f)) (hg : Gl X x) (hm : X.mg x = none) (hv : bootBuiltins x = some (.type T)) (ha : PA X (e :: es) (LA X.K W mas)) (hn : x ≠ "__name__" := by decide)
    (hd : (x == ("__debug__" : Str)) = false := by decide) (hst : starEach (e :: es) X.env = (false, eval e X.env) :: starEach es X.env := by rfl) (hpl : (backTo pos (starEach es X.env)).any (·.1) = false := by rfl) :
    PE X (.Call (.Name x p) (e :: es) [] pos) (LE X.K W (eCallO f mas)) :=
  (pe_callTy hc hg hm hv ha hn hd hst hpl).imp fun σ H Q ⟨ι, env, M, S, R, h⟩ => ⟨ι, env, M, S, R, (OutP.bind h).imp fun ds M1 ι1 H1 e1 S1 h1 vs rv => ⟨ι1, M1, ds, S1, rv, OpO.of h1⟩⟩
end
abbrev Fn := List D → Mem → Out D
/-- what a def of ours promises -/
def spD (K : PySem.W.Frag) (n : Nat) (m : Fn) : Sp := fun vs H Q E => vs.length = n ∧ ∃ ι ds M, SR K ι H M ∧ RpA K ι H ds vs ∧ OutP K E ι H (m ds M) (VR K Q)
structure Callee (P : Program) (w : World) (K : PySem.W.Frag) (mg : Str → Option Value) (base : Heap) (x : Str) (n k : Nat) (m : Fn) : Prop where
  ex : ∃ (f : Addr) (fd : FuncData) (ps : List Str), FnOk P w K mg base (L2N.CX P w) k f fd ps (spD K n m) ∧ mg x = some (.ref f) ∧ PySem.W.keepIn K (.ref f) = true ∧ Binds K fd ps [] ∧ ps.length = n
  len : ∀ ds M, ds.length ≠ n → m ds M = .stuck
theorem Callee.mono {P : Program} {w : World} {K : PySem.W.Frag} {mg : Str → Option Value} {base : Heap} {x : Str} {n j k : Nat} {m : Fn} (C : Callee P w K mg base x n j m) (h : j ≤ k) : Callee P w K mg base x n k m := by
  obtain ⟨f, fd, ps, F, a, b, c, d⟩ := C.ex
  exact ⟨⟨f, fd, ps, F.mono h, a, b, c, d⟩, C.len⟩
section
variable {X : Cx} {W : WX} {e : Expr} {es : List Expr} {mas : MA} {x : Str} {p pos : Pos}
theorem d_call {k k' n : Nat} {m : Fn} (C : Ctx X W k') (F : Callee X.prog X.w X.K X.mg X.base x n k m) (hk : k ≤ k') (ha : PA X (e :: es) (LA X.K W mas)) (hg : Gl X x := by rfl)
    (hdb : (x == ("__debug__" : Str)) = false := by decide) (hst : starEach (e :: es) X.env = (false, eval e X.env) :: starEach es X.env := by rfl) (hpl : (backTo pos (starEach es X.env)).any (·.1) = false := by rfl) :
    PE X (.Call (.Name x p) (e :: es) [] pos) (LE X.K W (eCall m mas)) := by
  have hlen := F.len
  obtain ⟨f, fd, ps, F, hm, kp, hb, _⟩ := F.ex
  refine (pe_callS F (C.room.mono hk) hg hm kp hb (fun σ => L2N.passAt C.tk σ) ha hdb hst hpl).imp fun σ H Q ⟨ι, env, M, S, R, h⟩ => ⟨ι, env, M, S, R, ?_⟩
  refine (OutP.bind h).imp fun ds M1 ι1 H1 e1 S1 h1 vs rv => ⟨?_, ι1, ds, M1, S1, rv, h1⟩
  rw [← rv.length]
  by_cases q : ds.length = n
  · exact q
  · rw [hlen ds M1 q] at h1
    exact h1.elim
end

/-! ### statements -/
def thenS {α : Type} (env : Env) (o : Out α) (f : α → Mem → SOut) : SOut := match o with
  | .ok a M => f a M
  | .exc x M => .exc x env M
  | .stuck => .stuck
@[simp] theorem thenS_ok {α : Type} (env : Env) (a : α) (M : Mem) (f : α → Mem → SOut) : thenS env (.ok a M) f = f a M := rfl
@[simp] theorem thenS_exc {α : Type} (env : Env) (x : Ex) (M : Mem) (f : α → Mem → SOut) : thenS env (.exc x M) f = .exc x env M := rfl
@[simp] theorem thenS_stuck {α : Type} (env : Env) (f : α → Mem → SOut) : thenS env .stuck f = .stuck := rfl
def nextS (o : SOut) (f : Env → Mem → SOut) : SOut := match o with
  | .next env M => f env M
  | o => o
@[simp] theorem nextS_next (env : Env) (M : Mem) (f : Env → Mem → SOut) : nextS (.next env M) f = f env M := rfl
@[simp] theorem nextS_ret (d : D) (M : Mem) (f : Env → Mem → SOut) : nextS (.ret d M) f = .ret d M := rfl
@[simp] theorem nextS_exc (x : Ex) (env : Env) (M : Mem) (f : Env → Mem → SOut) : nextS (.exc x env M) f = .exc x env M := rfl
@[simp] theorem nextS_stuck (f : Env → Mem → SOut) : nextS .stuck f = .stuck := rfl
def sNil : MS := fun env M => .next env M
def sSeq (a b : MS) : MS := fun env M => nextS (a env M) b
def sExpr (e : ME) : MS := fun env M => thenS env (e env M) fun _ M1 => .next env M1
def sRet (e : ME) : MS := fun env M => thenS env (e env M) fun d M1 => .ret d M1
def sRetN : MS := fun _ M => .ret .non M
def sIf (t : MT) (a b : MS) : MS := fun env M => thenS env (t env M) fun k M1 => if k = true then a env M1 else b env M1
/-- a target of names -/
abbrev MG := D → Env → Option Env
def gOne (i : Nat) : MG := fun d env => some (env.set i (some d))
def setAll : Env → List Nat → List D → Env
  | env, i :: is, d :: ds => setAll (env.set i (some d)) is ds
  | env, _, _ => env
def gTupD (is : List Nat) : MG := fun d env => match d with
  | .tup ds => if ds.length = is.length then some (setAll env is ds) else none
  | _ => none
def sAsg (g : MG) (e : ME) : MS := fun env M => thenS env (e env M) fun d M1 => match g d env with
  | some env' => .next env' M1
  | none => .stuck
/-- o[i] = v -/
def setD (o i v : D) (M : Mem) : Option Mem := match o, i with
  | .ref n, .int k => match M[n]? with
    | some (.lst xs) => (ixN xs.length k).map fun j => M.set n (.lst (xs.set j v))
    | _ => none
  | _, _ => none
def sSub (o i e : ME) : MS := fun env M => thenS env (e env M) fun v M1 => thenS env (o env M1) fun x M2 => thenS env (i env M2) fun y M3 => match setD x y v M3 with
  | some M4 => .next env M4
  | none => .stuck
def sWhile : Nat → MT → MS → MS
  | 0, _, _ => fun _ _ => .stuck
  | n + 1, t, b => fun env M => thenS env (t env M) fun k M1 => if k = true then nextS (b env M1) (sWhile n t b) else .next env M1
/-- what a loop walks -/
structure Src where
  items : List D
  good : Mem → Prop
abbrev MI := Env → Mem → Out Src
open Classical in
noncomputable def forL (good : Mem → Prop) (g : MG) (b : MS) : List D → MS
  | [] => fun env M => if good M then .next env M else .stuck
  | d :: ds => fun env M => if good M then match g d env with
      | some env1 => nextS (b env1 M) (forL good g b ds)
      | none => .stuck
    else .stuck
noncomputable def sFor (i : MI) (g : MG) (b : MS) : MS := fun env M => thenS env (i env M) fun s M1 => forL s.good g b s.items env M1

section
variable {K : PySem.W.Frag} {W : WX} {ι : List Addr} {H : Hp} {M : Mem} {σ : L2.St} {env : Env} {En : Ends}
theorem thenS_out {α : Type} {o : Out α} {f : α → Mem → SOut} (R : EnvR K ι H env σ) (h : SOutP K W ι H (thenS env o f) En) : OutP K (W1 W σ) ι H o (fun a M ι1 H1 => SOutP K W ι1 H1 (f a M) En) := by
  cases o with
  | ok a M => exact fun ι1 H1 e1 S1 => SOutP.ext e1 h
  | exc x M => exact fun ι1 H1 cls dx e1 S1 ex => h ι1 σ H1 cls dx e1 S1 (R.ext e1) ex
  | stuck => exact h
theorem nextS_out {o : SOut} {f : Env → Mem → SOut} (h : SOutP K W ι H (nextS o f) En) : SOutP K W ι H o { En with nx := LS K W f En } := by
  cases o with
  | next env M => exact fun ι1 σ1 H1 e1 S1 R1 => ⟨ι1, env, M, S1, R1, SOutP.ext e1 h⟩
  | ret d M => exact h
  | exc x env M => exact h
  | stuck => exact h
theorem SOutP.next_val (S : SR K ι H M) (R : EnvR K ι H env σ) (h : SOutP K W ι H (.next env M) En) : En.nx σ H := h ι σ H Ext.refl S R
theorem SOutP.ret_val {d : D} {v : V} (S : SR K ι H M) (r : Rp K ι H d v) (h : SOutP K W ι H (.ret d M) En) : En.rt v H := h ι v H Ext.refl S r
theorem SOutP.imp {o : SOut} {En' : Ends} (h : SOutP K W ι H o En) (hn : ∀ σ H, En.nx σ H → En'.nx σ H) (hr : ∀ v H, En.rt v H → En'.rt v H) : SOutP K W ι H o En' := by
  cases o with
  | next env M => exact fun ι1 σ1 H1 e1 S1 R1 => hn _ _ (h ι1 σ1 H1 e1 S1 R1)
  | ret d M => exact fun ι1 v H1 e1 S1 R1 => hr _ _ (h ι1 v H1 e1 S1 R1)
  | exc x env M => exact h
  | stuck => exact h
end
/-- targets -/
def LG (K : PySem.W.Frag) (f : MG) : TG := fun v σ H Q => ∃ ι env d env', Rp K ι H d v ∧ EnvR K ι H env σ ∧ f d env = some env' ∧ ∀ σ', EnvR K ι H env' σ' → Q σ' H
theorem _root_.L2.PG.imp {X : Cx} {e : Expr} {t t' : TG} (h : PG X e t) (k : ∀ v σ H Q, t' v σ H Q → t v σ H Q) : PG X e t' := ⟨fun pins s σ H v u Q I r q => h.run pins s σ H v u Q I r (k v σ H Q q)⟩
def gsN : List Nat → TGs
  | [] => gNil
  | i :: is => gCons (gName i) (gsN is)
theorem gsN_ok {K : PySem.W.Frag} {ι : List Addr} {H : Hp} {Q : L2.St → Hp → Prop} : ∀ {is : List Nat} {ds : List D} {vs : List V} {env : Env} {σ : L2.St}, RpA K ι H ds vs → EnvR K ι H env σ → ds.length = is.length →
    (∀ σ', EnvR K ι H (setAll env is ds) σ' → Q σ' H) → gsN is vs σ H Q
  | [], [], _, env, σ, .nil, R, _, h => ⟨rfl, h σ R⟩
  | i :: is, d :: ds, _, env, σ, .cons r t, R, hl, h => ⟨_, _, rfl, gsN_ok (is := is) t (R.set r i) (by simpa using hl) h⟩
section
variable {X : Cx} {W : WX} {k : Nat} {st : Stmt} {rest sts body : List Stmt} {m mb : MS} {e c o i : Expr} {me mo mi : ME} {mt : MT} {pos pos' : Pos} {tgt : Expr} {g : MG}
theorem dg_name {i : Nat} {x : Str} (nd : X.N.Nodup) (hi : X.N[i]? = some x := by rfl) (hx : Loc X.env.scope x := by first | exact .inl rfl | exact .inr rfl) (hf : X.fn x = true ∨ X.env.scope.names.lookup x = some .local := by first | exact .inl rfl | exact .inr rfl) :
    PG X (.Name x pos) (LG X.K (gOne i)) := (pg_name nd hi hx hf).imp fun v σ H Q ⟨ι, env, d, env', r, R, h, q⟩ => by
  cases h
  exact q _ (R.set r i)
theorem dg_tup {is : List Nat} {n : Nat} {g : TGs} (h : PG X tgt (gTup X.K n g)) (hn : n = is.length := by rfl) (hg : g = gsN is := by rfl) : PG X tgt (LG X.K (gTupD is)) := h.imp fun v σ H Q ⟨ι, env, d, env', r, R, h, q⟩ => by
  unfold gTupD at h
  split at h
  · obtain ⟨p, vs, rfl, t1, r1⟩ := r.tup_inv
    split at h
    · rename_i hl
      cases h
      subst hn hg
      exact ⟨p, vs, rfl, t1, by rw [← r1.length]; exact hl, gsN_ok r1 R hl q⟩
    · cases h
  · cases h
theorem ds_nil : PSs X [] (LS X.K W sNil) := pss_nil.imp fun En σ H ⟨ι, env, M, S, R, h⟩ => h.next_val S R
theorem ds_cons (h1 : PS X st (LS X.K W m)) (h2 : PSs X rest (LS X.K W mb)) : PSs X (st :: rest) (LS X.K W (sSeq m mb)) :=
  (pss_cons h1 h2).imp fun En σ H ⟨ι, env, M, S, R, h⟩ => ⟨ι, env, M, S, R, nextS_out h⟩
theorem ds_one (h1 : PS X st (LS X.K W m)) : PSs X [st] (LS X.K W m) := pss_one h1
theorem ds_pass : PS X (.Pass pos) (LS X.K W sNil) := ps_pass.imp fun En σ H ⟨ι, env, M, S, R, h⟩ => h.next_val S R
theorem ds_doc {x : Str} {j : Nat} : PS X (.Expr (.Constant (.str x) j pos) pos') (LS X.K W sNil) := ps_doc.imp fun En σ H ⟨ι, env, M, S, R, h⟩ => h.next_val S R
theorem ds_expr (he : PE X e (LE X.K W me)) (hs : swapsWith e none pos.line X.env = pure false := by rfl) : PS X (.Expr e pos) (LS X.K W (sExpr me)) :=
  (ps_expr he hs).imp fun En σ H ⟨ι, env, M, S, R, h⟩ => ⟨ι, env, M, S, R, (thenS_out R h).imp fun d M1 ι1 H1 e1 S1 h1 v rv => h1.next_val S1 (R.ext e1)⟩
theorem ds_ret (he : PE X e (LE X.K W me)) : PS X (.Return (some e) pos) (LS X.K W (sRet me)) :=
  (ps_ret he).imp fun En σ H ⟨ι, env, M, S, R, h⟩ => ⟨ι, env, M, S, R, (thenS_out R h).imp fun d M1 ι1 H1 e1 S1 h1 v rv => h1.ret_val S1 rv⟩
theorem ds_retN : PS X (.Return none pos) (LS X.K W sRetN) := ps_retN.imp fun En σ H ⟨ι, env, M, S, R, h⟩ => h.ret_val S .non
theorem ds_if {a b : List Stmt} {ma mb : MS} (hc : PT X c (LT X.K W mt)) (ha : PSs X a (LS X.K W ma)) (hb : PSs X b (LS X.K W mb)) : PS X (.If c a b pos) (LS X.K W (sIf mt ma mb)) :=
  (ps_if hc ha hb).imp fun En σ H ⟨ι, env, M, S, R, h⟩ => ⟨ι, env, M, S, R, (thenS_out R h).imp fun kk M1 ι1 H1 e1 S1 h1 => by
    show if kk = true then _ else _
    cases kk with
    | false => exact iteF ⟨ι1, env, M1, S1, R.ext e1, h1⟩
    | true => exact iteT ⟨ι1, env, M1, S1, R.ext e1, h1⟩⟩
theorem le_asg {tg : TG} {te : TE} {En : Ends} {σ : L2.St} {H : Hp} (he : ∀ Q, LE X.K W me σ H Q → te σ H Q) (hg : ∀ v σ H Q, LG X.K g v σ H Q → tg v σ H Q) (h : LS X.K W (sAsg g me) En σ H) : tAsg te tg En σ H := by
  obtain ⟨ι, env, M, S, R, h⟩ := h
  refine he _ ⟨ι, env, M, S, R, (thenS_out R h).imp fun d M1 ι1 H1 e1 S1 h1 v rv => ?_⟩
  revert h1
  cases q : g d env with
  | none => exact fun h1 => h1.elim
  | some env' => exact fun h1 => hg _ _ _ _ ⟨ι1, env, d, env', rv, R.ext e1, q, fun σ' R' => SOutP.next_val S1 R' h1⟩
theorem ds_asg (he : PE X e (LE X.K W me)) (hg : PG X tgt (LG X.K g)) (hs : swapsWithSole [tgt] e pos.line X.env = pure false := by rfl) (h2 : swappedStores [tgt] e X.env = pure none := by rfl) (h1 : (assignEach [tgt] X.env).map (·.2) = [assign tgt X.env] := by rfl) :
    PS X (.Assign [tgt] e pos) (LS X.K W (sAsg g me)) :=
  (ps_asg he hg hs h2 h1).imp fun En σ H h => le_asg (fun _ h => h) (fun _ _ _ _ h => h) h
theorem ds_set {i : Nat} {x : Str} (nd : X.N.Nodup) (he : PE X e (LE X.K W me)) (hi : X.N[i]? = some x := by rfl) (hx : Loc X.env.scope x := by first | exact .inl rfl | exact .inr rfl) (hs : swapsWith e (some (.Name x pos')) pos.line X.env = pure false := by rfl)
    (hf : X.fn x = true ∨ X.env.scope.names.lookup x = some .local := by first | exact .inl rfl | exact .inr rfl) : PS X (.Assign [.Name x pos'] e pos) (LS X.K W (sAsg (gOne i) me)) :=
  (ps_set nd hi hx he hs hf).imp fun En σ H h => le_asg (fun _ h => h) (fun v σ H Q ⟨ι, env, d, env', r, R, h, q⟩ => by cases h; exact q _ (R.set r i)) h
/-- o[i] = e -/
theorem set_D : PSet X (fun o i v H Q => ∃ ι M a b c, SR X.K ι H M ∧ Rp X.K ι H a o ∧ Rp X.K ι H b i ∧ Rp X.K ι H c v ∧ ∃ M', setD a b c M = some M' ∧ ∀ H', Ext X.K ι H ι H' → SR X.K ι H' M' → Q H') := by
  intro pins s σ H o i v ov iv u Q I ro ri rv h
  refine set_list pins s σ H o i v ov iv u Q I ro ri rv ?_
  obtain ⟨ι, M, a, b, c, S, ra, rb, rc, M', h, q⟩ := h
  unfold setD at h
  split at h
  · cases rb.int_inv
    obtain ⟨p, rfl, hp⟩ := ra.ref_inv
    split at h
    · rename_i kk _ xs m1
      obtain ⟨vs, h1, r1⟩ := S.lst hp m1
      cases q2 : ixN xs.length kk with
      | none => rw [q2] at h; cases h
      | some j =>
        rw [q2] at h
        cases h
        have nt : ¬ isTupO (H p) := by rw [h1]; exact fun z => z
        exact ⟨p, vs, kk, j, rfl, rfl, h1, by rw [← r1.length]; exact q2, q _ (Ext.upd nt) (S.write hp m1 rfl rfl ⟨_, upd_same, (r1.set rc j).ext (Ext.upd nt)⟩)⟩
    · cases h
  · cases h
theorem ds_sub (ho : PE X o (LE X.K W mo)) (hi : PE X i (LE X.K W mi)) (he : PE X e (LE X.K W me)) (hs : swapsWithSole [.Subscript o i pos'] e pos.line X.env = pure false := by rfl) (h2 : swappedStores [.Subscript o i pos'] e X.env = pure none := by rfl)
    (h1 : (assignEach [.Subscript o i pos'] X.env).map (·.2) = [assign (.Subscript o i pos') X.env] := by rfl)
    (ha : ∀ v, assign (.Subscript o i pos') X.env v = (do
      let ov ← holding [v] (eval o X.env)
      let iv ← holding [v, ov] (eval i X.env)
      standAt pos'
      holding [v, ov, iv] (setItem ov iv v)
      release [v, ov, iv] []) := by intro _; rfl) : PS X (.Assign [.Subscript o i pos'] e pos) (LS X.K W (sSub mo mi me)) :=
  (ps_asg he (pg_sub ho hi set_D ha) hs h2 h1).imp fun En σ H ⟨ι, env, M, S, R, h⟩ => ⟨ι, env, M, S, R, (thenS_out R h).imp fun v M1 ι1 H1 e1 S1 h1 vv rv =>
    ⟨ι1, env, M1, S1, R.ext e1, (thenS_out (R.ext e1) h1).imp fun x M2 ι2 H2 e2 S2 h2 xv rx => ⟨ι2, env, M2, S2, R.ext (e1.trans e2), (thenS_out (R.ext (e1.trans e2)) h2).imp fun y M3 ι3 H3 e3 S3 h3 yv ry => by
      revert h3
      cases q : setD x y v M3 with
      | none => exact fun h3 => h3.elim
      | some M4 => exact fun h3 => ⟨ι3, M3, x, y, v, S3, rx.ext e3, ry, rv.ext (e2.trans e3), M4, q, fun H' e4 S4 => h3 ι3 σ H' e4 S4 (R.ext (((e1.trans e2).trans e3).trans e4))⟩⟩⟩⟩
theorem ds_while (n : Nat) (C : Ctx X W k) (hc : PT X c (LT X.K W mt)) (hb : PSs X body (LS X.K W mb)) : PS X (.While c body [] pos) (LS X.K W (sWhile n mt mb)) :=
  (ps_while C.pass hc hb).imp fun En σ H h => ⟨fun m σ H => LS X.K W (sWhile m mt mb) En σ H, ⟨n, h⟩, fun m σ H ⟨ι, env, M, S, R, h⟩ => by
    cases m with
    | zero => exact h.elim
    | succ m =>
      refine ⟨ι, env, M, S, R, (thenS_out R h).imp fun kk M1 ι1 H1 e1 S1 h1 => ?_⟩
      show if kk = true then _ else _
      cases kk with
      | false => exact iteF (SOutP.next_val S1 (R.ext e1) h1)
      | true =>
        refine iteT ⟨fun σ' H' => LS X.K W (sWhile m mt mb) En σ' H', fun σ' H' z => ⟨m, Nat.lt_succ_self m, z⟩, ι1, env, M1, S1, R.ext e1, ?_⟩
        exact (nextS_out h1).imp (fun _ _ z => z) fun _ _ z => z⟩
/-- what an iterator does -/
def SrcJ (K : PySem.W.Frag) (ι : List Addr) (H : Hp) (s : Src) (J : It) : Prop :=
  ∀ ι1 H1 M1, Ext K ι H ι1 H1 → SR K ι1 H1 M1 → s.good M1 → ∀ i : Nat, (∀ d, s.items[i]? = some d → J.go i H1 ∧ ∀ x H', J.yld i H1 x H' → Ext K ι1 H1 ι1 H' ∧ SR K ι1 H' M1 ∧ Rp K ι1 H' d x) ∧ (s.items.length ≤ i → J.stop i H1)
def LI (K : PySem.W.Frag) (W : WX) (m : MI) : TI := fun σ H R => ∃ ι env M, SR K ι H M ∧ EnvR K ι H env σ ∧ OutP K (W1 W σ) ι H (m env M) (fun s _ ι' H' => ∀ J, SrcJ K ι' H' s J → R J H')
theorem _root_.L2.PI.imp {X : Cx} {tg e : Expr} {t t' : TI} (h : PI X tg e t) (k : ∀ σ H Q, t' σ H Q → t σ H Q) : PI X tg e t' := ⟨fun pins s σ H Q I q => h.run pins s σ H Q I (k σ H Q q)⟩
theorem drop_at {α : Type} {l : List α} {i : Nat} {d : α} {ds : List α} (h : l.drop i = d :: ds) : l[i]? = some d ∧ l.drop (i + 1) = ds := by
  have h1 : (l.drop i)[0]? = some d := by rw [h]; rfl
  rw [List.getElem?_drop] at h1
  refine ⟨by simpa using h1, ?_⟩
  have h2 := congrArg (List.drop 1) h
  rw [List.drop_drop] at h2
  simpa using h2
theorem ds_for {iter : Expr} {msrc : MI} (C : Ctx X W k) (hi : PI X tgt iter (LI X.K W msrc)) (hg : PG X tgt (LG X.K g)) (hb : PSs X body (LS X.K W mb)) (hs : ∀ x, foldedSetIterable iter X.env x = pure x := by intro _; rfl) :
    PS X (.For tgt iter body [] pos) (LS X.K W (sFor msrc g mb)) :=
  (ps_for C.pass C.calm hi hg hb hs).imp fun En σ H ⟨ι, env, M, S, R, h⟩ => ⟨ι, env, M, S, R, (thenS_out R h).imp fun s M1 ι1 H1 e1 S1 h1 J hJ => by
    refine ⟨fun i m σ2 H2 => ∃ ι2 env2 M2, Ext X.K ι1 H1 ι2 H2 ∧ SR X.K ι2 H2 M2 ∧ EnvR X.K ι2 H2 env2 σ2 ∧ SOutP X.K W ι2 H2 (forL s.good g mb (s.items.drop i) env2 M2) En ∧ m = s.items.length - i,
      ⟨_, ι1, env, M1, Ext.refl, S1, R.ext e1, h1, rfl⟩, ?_⟩
    rintro i m σ2 H2 ⟨ι2, env2, M2, e2, S2, R2, h2, rfl⟩
    cases q : s.items.drop i with
    | nil =>
      rw [q] at h2
      unfold forL at h2
      split at h2
      · rename_i gd
        refine .inl ⟨((hJ ι2 H2 M2 e2 S2 gd i).2 ?_), SOutP.next_val S2 R2 h2⟩
        have := congrArg List.length q
        simp at this
        omega
      · exact h2.elim
    | cons d ds =>
      rw [q] at h2
      unfold forL at h2
      obtain ⟨hd, hds⟩ := drop_at q
      split at h2
      · rename_i gd
        obtain ⟨go, yld⟩ := (hJ ι2 H2 M2 e2 S2 gd i).1 d hd
        split at h2
        · rename_i env3 ge
          refine .inr ⟨go, fun σ' H' => ∃ ι2 env2 M2, Ext X.K ι1 H1 ι2 H' ∧ SR X.K ι2 H' M2 ∧ EnvR X.K ι2 H' env2 σ' ∧ SOutP X.K W ι2 H' (forL s.good g mb (s.items.drop (i + 1)) env2 M2) En, ?_, ?_⟩
          · rintro σ' H' ⟨ι3, env3, M3, e3, S3, R3, h3⟩
            refine ⟨s.items.length - (i + 1), ?_, ι3, env3, M3, e3, S3, R3, h3, rfl⟩
            have := (List.getElem?_eq_some_iff.mp hd).1
            omega
          · intro x H' y
            obtain ⟨e3, S3, r3⟩ := yld x H' y
            refine ⟨ι2, env2, d, env3, r3, R2.ext e3, ge, fun σ3 R3 => ⟨ι2, env3, M2, S3, R3, ?_⟩⟩
            have h3 := SOutP.ext e3 h2
            have e4 := e2.trans e3
            revert h3
            cases mb env3 M2 with
            | next env4 M4 => exact fun h3 ι4 σ4 H4 e5 S4 R4 => ⟨ι4, env4, M4, e4.trans e5, S4, R4, by rw [hds]; exact SOutP.ext e5 h3⟩
            | ret d M4 => exact fun h3 => h3
            | exc x env4 M4 => exact fun h3 => h3
            | stuck => exact fun h3 => h3
        · exact h2.elim
      · exact h2.elim⟩
end
end TL
end
section
/-! the tree layer: what is walked, comprehensions, defs -/
namespace TL
open PySem PySem.Spec PyProof.Rows L2

/-! ### what is walked -/
def strItems (z : Str) : List D := z.cps.toList.map fun c => .str ⟨#[c]⟩
def srcOf (M : Mem) : D → Option Src
  | .tup xs => some ⟨xs, fun _ => True⟩
  | .str z => some ⟨strItems z, fun _ => True⟩
  | .ref n => (seqAt M n).map fun xs => ⟨xs, fun M' => seqAt M' n = some xs⟩
  | _ => none
def iAny (e : ME) : MI := fun env M => (e env M).bind fun d M1 => match srcOf M1 d with
  | some s => .ok s M1
  | none => .stuck
def rngItems (lo : Int) (n : Nat) : List D := (List.range n).map fun i => .int (lo + (i : Nat))
/-- bounds of a range; nothing reckons it -/
def RngOk (j : Int) : Prop := -(2 ^ 62) ≤ j ∧ j < 2 ^ 62
open Classical in
noncomputable def iRange1 (e : ME) : MI := fun env M => (e env M).bind fun d M1 => kInt d fun j => if RngOk j then .ok ⟨rngItems 0 j.toNat, fun _ => True⟩ M1 else .stuck
open Classical in
noncomputable def iRange2 (a b : ME) : MI := fun env M => (a env M).bind fun d M1 => (b env M1).bind fun d2 M2 => kInt d fun i => kInt d2 fun j =>
  if RngOk i ∧ RngOk j then .ok ⟨rngItems i (j - i).toNat, fun _ => True⟩ M2 else .stuck
section
variable {X : Cx} {W : WX} {tg e : Expr} {me : ME}
theorem pi_any {tl : TE} (hl : PE X e tl) : PI X tg e (fun σ H R => tl σ H fun x H1 => (∃ a, x = .ref a ∧ (∃ xs, SqT X.K H1 a xs) ∧ R (Itt X.K a) H1) ∨ (∃ a, x = .ref a ∧ (∃ xs, SqL X.K H1 a xs) ∧ R (Itl X.K a) H1) ∨ (∃ z, x = .str z ∧ R (Its z) H1)) := by
  refine ⟨fun pins s σ H R I h => ?_⟩
  refine thn (hl.run pins s σ H _ I h) fun v s1 ⟨x, H1, I1, r1, q1⟩ => ?_
  rcases q1 with ⟨a, rfl, ⟨xs, hq⟩, q⟩ | ⟨a, rfl, ⟨xs, hq⟩, q⟩ | ⟨z, rfl, q⟩
  · cases r1
    obtain ⟨its, rv, p, hz⟩ := I1.tuple hq
    refine wpAny_pyIter_tuple (show s1.heap.IsTuple a its.toArray from p) ?_
    refine ⟨s1.heap.objs.size, [s1.heap.objs.size], _, _, H1, rfl, I1.kept (t' := s1.toks) fun b o e => Heap.get?_push_of_some _ e, turn_tuple a _, ⟨_, Heap.get?_push_size _ rfl, rfl, rfl⟩, fun b hb => ?_, q⟩
    have e : b = s1.heap.objs.size := by simpa using hb
    subst e
    exact I1.fpOk (Nat.le_refl _) (I1.hok.fresh (Nat.le_refl _))
  · cases r1
    obtain ⟨its, rv, p, hz⟩ := I1.list hq
    refine wpAny_pyIter_list p.isList ?_
    refine ⟨s1.heap.objs.size, [s1.heap.objs.size], _, _, H1, rfl, I1.kept (t' := s1.toks) fun b o e => Heap.get?_push_of_some _ e, turn_list a _, ⟨_, Heap.get?_push_size _ rfl, rfl, rfl⟩, fun b hb => ?_, q⟩
    have e : b = s1.heap.objs.size := by simpa using hb
    subst e
    exact I1.fpOk (Nat.le_refl _) (I1.hok.fresh (Nat.le_refl _))
  · obtain ⟨t, rfl⟩ := r1
    cases ha : z.cps.all (· < 128)
    · exact wpAny_pyIter_wide ha (pi_one (tk := s1.toks) I1 _ (turn_str _ z t "str_iterator" (.inr rfl)) ⟨_, Heap.get?_push_size _ rfl, rfl, rfl⟩ q)
    · exact wpAny_pyIter_ascii ha (pi_one (tk := s1.toks) I1 _ (turn_str _ z t "str_ascii_iterator" (.inl rfl)) ⟨_, Heap.get?_push_size _ rfl, rfl, rfl⟩ q)
theorem srcJ_of {ι : List Addr} {H : Hp} {M : Mem} {d : D} {s : Src} {v : V} (S : SR X.K ι H M) (r : Rp X.K ι H d v) (h : srcOf M d = some s) {R : It → Hp → Prop} (q : ∀ J, SrcJ X.K ι H s J → R J H) :
    (∃ a, v = .ref a ∧ (∃ xs, SqT X.K H a xs) ∧ R (Itt X.K a) H) ∨ (∃ a, v = .ref a ∧ (∃ xs, SqL X.K H a xs) ∧ R (Itl X.K a) H) ∨ (∃ z, v = .str z ∧ R (Its z) H) := by
  cases d with
  | tup xs =>
    cases h
    obtain ⟨p, vs, rfl, t1, r1⟩ := r.tup_inv
    refine .inl ⟨p, rfl, ⟨vs, t1⟩, q _ fun ι1 H1 M1 e1 S1 _ i => ⟨fun d hd => ?_, fun hl => ⟨vs, e1.tup _ _ t1, by rw [← r1.length]; exact hl⟩⟩⟩
    obtain ⟨u, h1, h2⟩ := (r1.ext e1).get hd
    refine ⟨⟨vs, u, e1.tup _ _ t1, h1⟩, fun x H' y => ?_⟩
    obtain ⟨rfl, y2⟩ := y
    have e := y2 vs (e1.tup _ _ t1)
    rw [h1] at e; cases e
    exact ⟨Ext.refl, S1, h2⟩
  | str z =>
    cases h
    cases r.str_inv
    refine .inr (.inr ⟨z, rfl, q _ fun ι1 H1 M1 e1 S1 _ i => ⟨fun d hd => ?_, fun hl => ?_⟩⟩)
    · have hd' : (z.cps.toList.map fun c => D.str ⟨#[c]⟩)[i]? = some d := hd
      rw [List.getElem?_map] at hd'
      cases q2 : z.cps.toList[i]? with
      | none => rw [q2] at hd'; cases hd'
      | some c =>
        rw [q2] at hd'
        cases hd'
        have hi := (List.getElem?_eq_some_iff.mp q2).1
        have q3 : z.cps[i]? = some c := by rw [← Array.getElem?_toList]; exact q2
        refine ⟨by show i < z.cps.size; simpa using hi, fun x H' y => ?_⟩
        obtain ⟨rfl, c', hc, rfl⟩ := y
        rw [q3] at hc; cases hc
        exact ⟨Ext.refl, S1, .str _⟩
    · have hl' : (z.cps.toList.map fun c => D.str ⟨#[c]⟩).length ≤ i := hl
      show z.cps.size ≤ i
      simpa using hl'
  | ref n =>
    obtain ⟨p, rfl, hp⟩ := r.ref_inv
    have h' : (seqAt M n).map (fun xs => (⟨xs, fun M' => seqAt M' n = some xs⟩ : Src)) = some s := h
    cases q2 : seqAt M n with
    | none => rw [q2] at h'; cases h'
    | some xs =>
      rw [q2] at h'
      cases h'
      obtain ⟨vs, h1, r1⟩ := S.seq hp q2
      refine .inr (.inl ⟨p, rfl, ⟨vs, h1⟩, q _ fun ι1 H1 M1 e1 S1 gd i => ?_⟩)
      obtain ⟨us, g1, g2⟩ := S1.seq (e1.pre _ _ hp) gd
      refine ⟨fun d hd => ?_, fun hl => ⟨us, g1, by rw [← g2.length]; exact hl⟩⟩
      obtain ⟨u, h3, h4⟩ := g2.get hd
      refine ⟨⟨us, u, g1, h3⟩, fun x H' y => ?_⟩
      obtain ⟨rfl, y2⟩ := y
      have e := y2 us g1
      rw [h3] at e; cases e
      exact ⟨Ext.refl, S1, h4⟩
  | _ => cases h
theorem di_any (he : PE X e (LE X.K W me)) : PI X tg e (LI X.K W (iAny me)) :=
  (pi_any he).imp fun σ H R0 ⟨ι, env, M, S, R, h⟩ => ⟨ι, env, M, S, R, (OutP.bind h).imp fun d M1 ι1 H1 e1 S1 h1 v rv => by
    revert h1
    cases q : srcOf M1 d with
    | none => exact fun h1 => h1.elim
    | some s => exact fun h1 => srcJ_of S1 rv q (OutP.val S1 h1)⟩
theorem srcJ_rng {K : PySem.W.Frag} {ι : List Addr} {H : Hp} (lo : Int) (n : Nat) : SrcJ K ι H ⟨rngItems lo n, fun _ => True⟩ (Itr lo n) := fun ι1 H1 M1 e1 S1 _ i => by
  refine ⟨fun d hd => ?_, fun hl => ?_⟩
  · have hd' : ((List.range n).map fun i => D.int (lo + (i : Nat)))[i]? = some d := hd
    rw [List.getElem?_map] at hd'
    cases q : (List.range n)[i]? with
    | none => rw [q] at hd'; cases hd'
    | some j =>
      rw [q] at hd'
      cases hd'
      obtain ⟨h1, h2⟩ := List.getElem?_eq_some_iff.mp q
      have h2' : i = j := by simpa using h2
      subst h2'
      refine ⟨by show i < n; simpa using h1, fun x H' y => ?_⟩
      obtain ⟨rfl, rfl⟩ := y
      exact ⟨Ext.refl, S1, .int _⟩
  · have hl' : ((List.range n).map fun i => D.int (lo + (i : Nat))).length ≤ i := hl
    show n ≤ i
    simpa using hl'
theorem di_range1 {a : Expr} {ma : ME} {p pos : Pos} (hm : X.mg "range" = none) (ha : PE X a (LE X.K W ma)) (hg : Gl X "range" := by rfl) (hs : starEach [a] X.env = [(false, eval a X.env)] := by rfl) (hs' : starEach [a] X.env = (false, eval a X.env) :: starEach [] X.env := by rfl) :
    PI X tg (.Call (.Name "range" p) [a] [] pos) (LI X.K W (iRange1 ma)) :=
  (pi_range1 hg hm (pa_cons ha pa_nil hs') hs).imp fun σ H R0 ⟨ι, env, M, S, R, h⟩ => ⟨ι, env, M, S, R, (OutP.bind h).imp fun d M1 ι1 H1 e1 S1 h1 v rv => by
    obtain ⟨j, rfl, h2⟩ := kInt_inv h1
    cases rv.int_inv
    split at h2
    · rename_i c
      exact ⟨j, rfl, c.1, c.2, OutP.val S1 h2 _ (srcJ_rng 0 _)⟩
    · exact h2.elim⟩
theorem di_range2 {a b : Expr} {ma mb : ME} {p pos : Pos} (hm : X.mg "range" = none) (ha : PE X a (LE X.K W ma)) (hb : PE X b (LE X.K W mb)) (hg : Gl X "range" := by rfl) (hs : starEach [a, b] X.env = [(false, eval a X.env), (false, eval b X.env)] := by rfl) (hs2 : starEach [b] X.env = [(false, eval b X.env)] := by rfl)
    (hs' : starEach [a, b] X.env = (false, eval a X.env) :: starEach [b] X.env := by rfl) (hs'' : starEach [b] X.env = (false, eval b X.env) :: starEach [] X.env := by rfl) :
    PI X tg (.Call (.Name "range" p) [a, b] [] pos) (LI X.K W (iRange2 ma mb)) :=
  (pi_range2 hg hm (pa_cons ha (pa_cons hb pa_nil hs'') hs') hs hs2).imp fun σ H R0 ⟨ι, env, M, S, R, h⟩ => ⟨ι, env, M, S, R, (OutP.bind h).imp fun d M1 ι1 H1 e1 S1 h1 v rv => ⟨ι1, env, M1, S1, R.ext e1, (OutP.bind h1).imp fun d2 M2 ι2 H2 e2 S2 h2 u ru => by
    obtain ⟨i, rfl, h3⟩ := kInt_inv h2
    obtain ⟨j, rfl, h4⟩ := kInt_inv h3
    cases rv.int_inv
    cases ru.int_inv
    split at h4
    · rename_i c
      exact ⟨i, j, rfl, ⟨c.1.1, c.1.2, c.2.1, c.2.2⟩, OutP.val S2 h4 _ (srcJ_rng i _)⟩
    · exact h4.elim⟩⟩
end

/-! ### comprehensions -/
def Out.nox {α : Type} (o : Out α) : Out α := match o with
  | .exc _ _ => .stuck
  | o => o
@[simp] theorem Out.nox_ok {α : Type} (a : α) (M : Mem) : (Out.ok a M).nox = .ok a M := rfl
@[simp] theorem Out.nox_stuck {α : Type} : (Out.stuck : Out α).nox = .stuck := rfl
@[simp] theorem Out.bind_assoc {α β γ : Type} (o : Out α) (f : α → Mem → Out β) (g : β → Mem → Out γ) : (o.bind f).bind g = o.bind fun a M => (f a M).bind g := by cases o <;> rfl
theorem OutP.nox {K : PySem.W.Frag} {W W' : Value → Option Addr → Hp → Prop} {ι : List Addr} {H : Hp} {α β : Type} {o : Out α} {f : α → Mem → Out β} {R : β → Mem → List Addr → Hp → Prop} (h : OutP K W ι H (o.nox.bind f) R) :
    OutP K W' ι H o (fun a M ι1 H1 => OutP K W ι1 H1 (f a M) R) := by
  cases o with
  | ok a M => exact fun ι' H' e s => OutP.ext e h
  | exc x M => exact h.elim
  | stuck => exact h
open Classical in
noncomputable def compL (good : Mem → Prop) (i : Nat) (t : MT) (e : ME) (n : Nat) (env : Env) : List D → Mem → Out Unit
  | [], M => if good M then .ok () M else .stuck
  | d :: ds, M => if good M then (t (env.set i (some d)) M).nox.bind fun k M1 => if k = true then (e (env.set i (some d)) M1).nox.bind fun y M2 => match M2[n]? with
        | some (.lst acc) => if acc.length < sizeLine then compL good i t e n env ds (M2.set n (.lst (acc ++ [y]))) else .stuck
        | _ => .stuck
      else compL good i t e n env ds M1
    else .stuck
noncomputable def eComp (i : Nat) (s : MI) (t : MT) (e : ME) : ME := fun env M => (s env M).bind fun s M1 => (compL s.good i t e M1.length env s.items (M1 ++ [.lst []])).bind fun _ M2 => .ok (.ref M1.length) M2
def tYesD : MT := fun _ M => .ok true M
abbrev W0 : WX := fun _ _ _ _ => False
theorem takesN0 {X : Cx} : L2N.Takes X W0 := fun _ _ x => by
  obtain ⟨_, _, _, _, _, _, _, _, _, _, _, _, _, _, _, _, z⟩ := x
  exact z.elim
theorem Ctx.blk {X : Cx} {W : WX} {k : Nat} (C : Ctx X W k) {s : Shared} {H : Hp} {scope : Scope} {cenv : PySem.Env} {fp : List Addr} : Ctx (X.blk s H scope cenv fp) W0 k := ⟨C.calm, C.nd, C.room, takesN0, PassesOwn.never⟩
section
variable {X : Cx} {W : WX} {k : Nat}
theorem dts_nil : PTs X [] (LT X.K W tYesD) := ⟨fun pins s σ H Q I ⟨ι, env, M, S, R, h⟩ => (pts_nil (X := X)).run pins s σ H Q I (OutP.val (W := W1 W σ) (R := TR Q) S h)⟩
theorem dts_one {c : Expr} {mt : MT} (h : PT X c (LT X.K W mt)) : PTs X [c] (LT X.K W mt) := pts_one h
theorem le_comp {i : Nat} {ms : MI} {mt : MT} {me : ME} {σ : L2.St} {H : Hp} {Q : VK} (h : LE X.K W (eComp i ms mt me) σ H Q) :
    tLc (LI X.K W ms) (gName i) (LT X.K W0 mt) (LE X.K W0 me) [i] σ H Q := by
  obtain ⟨ι, env, M, S, R, h⟩ := h
  refine ⟨ι, env, M, S, R, (OutP.bind h).imp fun s M1 ι1 H1 e1 S1 h1 J hJ => fun D hD => ?_⟩
  have S2 := S1.alloc (u := .lst []) hD ⟨[], upd_same, .nil⟩
  have e2 : Ext X.K ι1 H1 (ι1 ++ [D]) (upd H1 D (.lst [])) := Ext.more hD
  have hlen := S1.len
  have hat : (ι1 ++ [D])[M1.length]? = some D := by rw [← hlen]; simp
  have h2 := OutP.ext e2 h1
  generalize hn : M1.length = n at h2 hat
  refine ⟨fun j m H3 => ∃ ι3 M3, Ext X.K (ι1 ++ [D]) (upd H1 D (.lst [])) ι3 H3 ∧ SR X.K ι3 H3 M3 ∧ m = s.items.length - j ∧
    OutP X.K (W1 W σ) ι3 H3 ((compL s.good i mt me n env (s.items.drop j) M3).bind fun _ M4 => .ok (.ref n) M4) (VR X.K Q), ⟨_, _, _, Ext.refl, S2, rfl, by rw [List.drop_zero]; exact h2⟩, ?_⟩
  rintro j m H3 ⟨ι3, M3, e3, S3, rfl, h3⟩
  cases q : s.items.drop j with
  | nil =>
    rw [q] at h3
    unfold compL at h3
    split at h3
    · rename_i gd
      refine .inl ⟨(hJ ι3 H3 M3 (e2.trans e3) S3 gd j).2 ?_, OutP.val (W := W1 W σ) (R := VR X.K Q) (a := .ref n) S3 (show OutP X.K (W1 W σ) ι3 H3 (Out.ok (.ref n) M3) (VR X.K Q) from h3) _ (.ref (e3.pre _ _ hat))⟩
      have := congrArg List.length q
      simp at this
      omega
    · exact h3.elim
  | cons d ds =>
    rw [q] at h3
    unfold compL at h3
    obtain ⟨hd, hds⟩ := drop_at q
    split at h3
    · rename_i gd
      obtain ⟨go, yld⟩ := (hJ ι3 H3 M3 (e2.trans e3) S3 gd j).1 d hd
      refine .inr ⟨go, fun H' => ∃ ι3 M3, Ext X.K (ι1 ++ [D]) (upd H1 D (.lst [])) ι3 H' ∧ SR X.K ι3 H' M3 ∧
        OutP X.K (W1 W σ) ι3 H' ((compL s.good i mt me n env (s.items.drop (j + 1)) M3).bind fun _ M4 => .ok (.ref n) M4) (VR X.K Q), ?_, ?_⟩
      · rintro H' ⟨ι4, M4, e4, S4, h4⟩
        refine ⟨s.items.length - (j + 1), ?_, ι4, M4, e4, S4, rfl, h4⟩
        have := (List.getElem?_eq_some_iff.mp hd).1
        omega
      · intro x H' y
        obtain ⟨e4, S4, r4⟩ := yld x H' y
        have R4 : EnvR X.K ι3 H' (env.set i (some d)) ((wipe σ [i]).set i (some x)) := by
          have r0 := (((R.ext e1).ext (e2.trans e3)).ext e4)
          have r1 := (r0.unset i).set r4 i
          rw [List.set_set] at r1
          exact r1
        have h5 := OutP.ext e4 h3
        refine ⟨by show ((σ.set i none).set i (some x)).set i none = σ.set i none; rw [List.set_set, List.set_set], ι3, env.set i (some d), M3, S4, R4, ?_⟩
        have h6 := h5
        rw [Out.bind_assoc] at h6
        refine (OutP.nox (W' := W1 W0 _) h6).imp fun kk M5 ι5 H5 e5 S5 h7 => ?_
        show if kk = true then _ else _
        cases kk with
        | false =>
          refine iteF ⟨ι5, M5, (e3.trans e4).trans e5, S5, ?_⟩
          rw [hds]
          exact h7
        | true =>
          refine iteT ⟨ι5, _, M5, S5, R4.ext e5, ?_⟩
          have h8 : OutP X.K (W1 W σ) ι5 H5 (((me (env.set i (some d)) M5).nox.bind fun y M2 => match M2[n]? with
            | some (.lst acc) => if acc.length < sizeLine then compL s.good i mt me n env ds (M2.set n (.lst (acc ++ [y]))) else .stuck
            | _ => .stuck).bind fun _ M4 => .ok (.ref n) M4) (VR X.K Q) := h7
          rw [Out.bind_assoc] at h8
          refine (OutP.nox (W' := W1 W0 _) h8).imp fun y M6 ι6 H6 e6 S6 h9 v rv => ?_
          have hD6 : ι6[n]? = some D := e6.pre _ _ (e5.pre _ _ (e3.pre _ _ hat))
          revert h9
          split
          · rename_i acc ma
            split
            · rename_i hsz
              intro h9
              obtain ⟨vs, g1, g2⟩ := S6.lst hD6 ma
              refine ⟨vs, g1, by rw [← g2.length]; exact hsz, ι6, M6.set n (.lst (acc ++ [y])), ?_, ?_, ?_⟩
              · exact (((e3.trans e4).trans e5).trans e6).trans (Ext.upd (by rw [g1]; exact fun z => z))
              · exact S6.write hD6 ma rfl rfl ⟨_, upd_same, (g2.append (.cons rv .nil)).ext (Ext.upd (by rw [g1]; exact fun z => z))⟩
              · rw [hds]
                exact OutP.ext (Ext.upd (by rw [g1]; exact fun z => z)) h9
            · exact fun h9 => h9.elim
          · exact fun h9 => h9.elim
    · exact h3.elim
theorem d_comp {elt iter : Expr} {ifs : List Expr} {scope : Scope} {i : Nat} {x : Str} {px pos : Pos} {ms : MI} {mt : MT} {me : ME} (C : Ctx X W k) (hi : PI X (.Name x px) iter (LI X.K W ms)) (ok : BlkOk X.N X.env.scope scope [(x, i)])
    (hg : ∀ (s : Shared) (H : Hp) (C : Addr) (cl : List (Str × Addr)) (fp : List Addr), PG (X.blk s H scope (compEnvC scope cl C X.env) fp) (.Name x px) (gName i))
    (ht : ∀ (s : Shared) (H : Hp) (C : Addr) (cl : List (Str × Addr)) (fp : List Addr), Ctx (X.blk s H scope (compEnvC scope cl C X.env) fp) W0 k → PTs (X.blk s H scope (compEnvC scope cl C X.env) fp) ifs (LT X.K W0 mt))
    (he : ∀ (s : Shared) (H : Hp) (C : Addr) (cl : List (Str × Addr)) (fp : List Addr), Ctx (X.blk s H scope (compEnvC scope cl C X.env) fp) W0 k → PE (X.blk s H scope (compEnvC scope cl C X.env) fp) elt (LE X.K W0 me))
    (hs : ∀ x, foldedSetIterable iter X.env x = pure x := by intro _; rfl) : PE X (.ListComp elt [⟨.Name x px, iter, ifs, 0⟩] scope pos) (LE X.K W (eComp i ms mt me)) :=
  (pe_lc (own := [(x, i)]) C.calm C.nd hi ok hg (fun s H c cl fp => ht s H c cl fp C.blk) (fun s H c cl fp => he s H c cl fp C.blk) hs).imp fun σ H Q h => le_comp h
theorem ds_setComp {elt iter : Expr} {ifs : List Expr} {scope : Scope} {i j : Nat} {x y : Str} {px py pos spos : Pos} {ms : MI} {mt : MT} {me : ME} (C : Ctx X W k) (hi : PI X (.Name x px) iter (LI X.K W ms)) (ok : BlkOk X.N X.env.scope scope [(x, i)])
    (hg : ∀ (s : Shared) (H : Hp) (C : Addr) (cl : List (Str × Addr)) (fp : List Addr), PG (X.blk s H scope (compEnvC scope cl C X.env) fp) (.Name x px) (gName i))
    (ht : ∀ (s : Shared) (H : Hp) (C : Addr) (cl : List (Str × Addr)) (fp : List Addr), Ctx (X.blk s H scope (compEnvC scope cl C X.env) fp) W0 k → PTs (X.blk s H scope (compEnvC scope cl C X.env) fp) ifs (LT X.K W0 mt))
    (he : ∀ (s : Shared) (H : Hp) (C : Addr) (cl : List (Str × Addr)) (fp : List Addr), Ctx (X.blk s H scope (compEnvC scope cl C X.env) fp) W0 k → PE (X.blk s H scope (compEnvC scope cl C X.env) fp) elt (LE X.K W0 me))
    (hy : X.N[j]? = some y := by rfl) (hyl : X.env.scope.names.lookup y = some .local := by rfl)
    (hsw : swapsWith (.ListComp elt [⟨.Name x px, iter, ifs, 0⟩] scope pos) (some (.Name y py)) spos.line X.env = pure true := by exact sw_true rfl rfl rfl (by decide +kernel))
    (hs : ∀ x, foldedSetIterable iter X.env x = pure x := by intro _; rfl) : PS X (.Assign [.Name y py] (.ListComp elt [⟨.Name x px, iter, ifs, 0⟩] scope pos) spos) (LS X.K W (sAsg (gOne j) (eComp i ms mt me))) :=
  (ps_setLc (own := [(x, i)]) C.calm C.nd hy hyl hsw hi ok hg (fun s H c cl fp => ht s H c cl fp C.blk) (fun s H c cl fp => he s H c cl fp C.blk) hs).imp fun En σ H h => by
    refine le_asg (tg := gName j) (fun Q h => le_comp h) (fun v σ H Q ⟨ι, env, d, env', r, R, h, q⟩ => by cases h; exact q _ (R.set r j)) h
end
end TL
end
section
/-! the tree layer: methods of lists, all, max, min; what a def promises -/
namespace TL
open PySem PySem.Spec PyProof.Rows L2

/-! ### methods of built-in types -/
def tyD (T : String) (M : Mem) : D → Bool
  | .str _ => decide (T = "str")
  | .ref n => decide (T = "list") && (seqAt M n).isSome
  | _ => false
def eMeth (T : String) (f : D → OpN) (o : ME) (a : MA) : ME := fun env M => (o env M).bind fun x M1 => if tyD T M1 x = true then (a env M1).bind fun xs M2 => liftO (f x xs M2) else .stuck
def mAppend : D → OpN := fun d ds M => match d, ds with
  | .ref n, [y] => match M[n]? with
    | some (.lst xs) => if xs.length < sizeLine then some (.non, M.set n (.lst (xs ++ [y]))) else none
    | _ => none
  | _, _ => none
def mExtend : D → OpN := fun d ds M => match d, ds with
  | .ref n, [.ref m] => match M[n]?, M[m]? with
    | some (.lst xs), some (.lst ys) => if xs.length + ys.length ≤ sizeLine then some (.non, M.set n (.lst (xs ++ ys))) else none
    | _, _ => none
  | _, _ => none
def mPop : D → OpN := fun d ds M => match d, ds with
  | .ref n, [] => match M[n]? with
    | some (.lst xs) => (xs[xs.length - 1]?).map fun y => (y, M.set n (.lst xs.dropLast))
    | _ => none
  | _, _ => none
def mReverse : D → OpN := fun d ds M => match d, ds with
  | .ref n, [] => match M[n]? with
    | some (.lst xs) => some (.non, M.set n (.lst xs.reverse))
    | _ => none
  | _, _ => none
def mClear : D → OpN := fun d ds M => match d, ds with
  | .ref n, [] => match M[n]? with
    | some (.lst xs) => some (.non, M.set n (.lst []))
    | _ => none
  | _, _ => none
section
variable {K : PySem.W.Frag} {ι : List Addr} {H : Hp} {M : Mem}
theorem RpA.nil_inv {vs : List V} (r : RpA K ι H [] vs) : vs = [] := by cases r; rfl
theorem tyD_ok {T : String} {d : D} {v : V} (S : SR K ι H M) (r : Rp K ι H d v) (h : tyD T M d = true) : tyV K T v H := by
  cases d with
  | str x => cases r.str_inv; exact of_decide_eq_true (p := T = "str") h
  | ref n =>
    obtain ⟨p, rfl, hp⟩ := r.ref_inv
    obtain ⟨h1, h2⟩ := Bool.and_eq_true_iff.mp h
    cases q : seqAt M n with
    | none => rw [q] at h2; cases h2
    | some xs =>
      obtain ⟨vs, h3, _⟩ := S.seq hp q
      exact .inl ⟨of_decide_eq_true h1, vs, h3⟩
  | _ => cases h
end
section
variable {X : Cx} {W : WX} {k : Nat}
theorem m_append : MtR X "list.append" (rDM X.K mAppend) := by
  refine MtR.imp mt_append fun x xs H Q h => ?_
  obtain ⟨ι, M, d, ds, S, r, rs, h⟩ := h
  unfold mAppend at h
  split at h
  · obtain ⟨p, rfl, hp⟩ := r.ref_inv
    obtain ⟨v, rfl, rv⟩ := rs.one_inv
    split at h
    · rename_i ys m1
      obtain ⟨vs, h1, r1⟩ := S.lst hp m1
      split at h
      · exact ⟨_, vs, _, rfl, rfl, h1, by rw [← r1.length]; assumption, h.setLst S hp m1 (r1.append (.cons rv .nil)) .non⟩
      · exact h.elim
    · exact h.elim
  · exact h.elim
theorem m_extend : MtR X "list.extend" (rDM X.K mExtend) := by
  refine MtR.imp mt_extend fun x xs H Q h => ?_
  obtain ⟨ι, M, d, ds, S, r, rs, h⟩ := h
  unfold mExtend at h
  split at h
  · obtain ⟨p, rfl, hp⟩ := r.ref_inv
    obtain ⟨v, rfl, rv⟩ := rs.one_inv
    obtain ⟨q, rfl, hq⟩ := rv.ref_inv
    split at h
    · rename_i m1 m2
      obtain ⟨vs, h1, r1⟩ := S.lst hp m1
      obtain ⟨us, h2, r2⟩ := S.lst hq m2
      split at h
      · exact ⟨_, _, vs, us, rfl, rfl, h1, h2, by rw [← r1.length, ← r2.length]; assumption, h.setLst S hp m1 (r1.append r2) .non⟩
      · exact h.elim
    · exact h.elim
  · exact h.elim
theorem m_pop : MtR X "list.pop" (rDM X.K mPop) := by
  refine MtR.imp mt_pop fun x xs H Q h => ?_
  obtain ⟨ι, M, d, ds, S, r, rs, h⟩ := h
  unfold mPop at h
  split at h
  · obtain ⟨p, rfl, hp⟩ := r.ref_inv
    cases rs.nil_inv
    split at h
    · rename_i ys m1
      obtain ⟨vs, h1, r1⟩ := S.lst hp m1
      cases q : ys[ys.length - 1]? with
      | none => rw [q] at h; exact h.elim
      | some y =>
        rw [q] at h
        obtain ⟨v, g1, g2⟩ := r1.get q
        exact ⟨_, vs, v, rfl, rfl, h1, by rw [← r1.length]; exact g1, OpO.setLst S h hp m1 r1.dropLast g2⟩
    · exact h.elim
  · exact h.elim
theorem m_reverse : MtR X "list.reverse" (rDM X.K mReverse) := by
  refine MtR.imp mt_reverse fun x xs H Q h => ?_
  obtain ⟨ι, M, d, ds, S, r, rs, h⟩ := h
  unfold mReverse at h
  split at h
  · obtain ⟨p, rfl, hp⟩ := r.ref_inv
    cases rs.nil_inv
    split at h
    · rename_i ys m1
      obtain ⟨vs, h1, r1⟩ := S.lst hp m1
      exact ⟨_, vs, rfl, rfl, h1, h.setLst S hp m1 r1.reverse .non⟩
    · exact h.elim
  · exact h.elim
theorem m_clear : MtR X "list.clear" (rDM X.K mClear) := by
  refine MtR.imp mt_clear fun x xs H Q h => ?_
  obtain ⟨ι, M, d, ds, S, r, rs, h⟩ := h
  unfold mClear at h
  split at h
  · obtain ⟨p, rfl, hp⟩ := r.ref_inv
    cases rs.nil_inv
    split at h
    · rename_i ys m1
      obtain ⟨vs, h1, r1⟩ := S.lst hp m1
      exact ⟨_, vs, rfl, rfl, h1, h.setLst S hp m1 .nil .non⟩
    · exact h.elim
  · exact h.elim
variable {o e : Expr} {es : List Expr} {mo : ME} {mas : MA} {name : Str} {apos cpos : Pos} {T id : String} {f : D → OpN}
theorem d_meth0 (pa : PlainAttrs T) (slot : Slot T name id) (hty : typeOf (.builtin id) = pure (.type "method_descriptor")) (hm : MtR X id (rDM X.K f)) (ho : PE X o (LE X.K W mo))
    (hbase : attributeBase o name X.env (eval o X.env) = eval o X.env := by rfl) (hline : (apos.endLine == cpos.line) = true := by rfl) : PE X (.Call (.Attribute o name apos) [] [] cpos) (LE X.K W (eMeth T f mo aNil)) :=
  (pe_bm0 pa slot hty hm ho hbase hline).imp fun σ H Q ⟨ι, env, M, S, R, h⟩ => ⟨ι, env, M, S, R, (OutP.bind h).imp fun x M1 ι1 H1 e1 S1 h1 v rv => by
    split at h1
    · rename_i ht
      exact ⟨tyD_ok S1 rv ht, ι1, M1, x, [], S1, rv, .nil, OpO.of (W := W1 W σ) h1⟩
    · exact h1.elim⟩
theorem d_meth (pa : PlainAttrs T) (slot : Slot T name id) (hty : typeOf (.builtin id) = pure (.type "method_descriptor")) (hm : MtR X id (rDM X.K f)) (ho : PE X o (LE X.K W mo)) (ha : PA X (e :: es) (LA X.K W mas))
    (hbase : attributeBase o name X.env (eval o X.env) = eval o X.env := by rfl)
    (hfew : ((backTo cpos (starEach (e :: es) X.env)).all (fun x => !x.1) && (backToKw cpos (keywordEach [] X.env)).all (fun x => x.1.isSome)
      && decide ((e :: es).length + ([] : List Keyword).length + (if ([] : List Keyword).isEmpty then 0 else 1) < 30)) = true := by rfl)
    (hline : (apos.endLine == cpos.line) = true := by rfl) (hs : starEach (e :: es) X.env = (false, eval e X.env) :: starEach es X.env := by rfl) (hplain : (backTo cpos (starEach es X.env)).any (·.1) = false := by rfl) :
    PE X (.Call (.Attribute o name apos) (e :: es) [] cpos) (LE X.K W (eMeth T f mo mas)) :=
  (pe_bm pa slot hty hm ho ha hbase hfew hline hs hplain).imp fun σ H Q ⟨ι, env, M, S, R, h⟩ => ⟨ι, env, M, S, R, (OutP.bind h).imp fun x M1 ι1 H1 e1 S1 h1 v rv => by
    split at h1
    · rename_i ht
      exact ⟨tyD_ok S1 rv ht, ι1, env, M1, S1, R.ext e1, (OutP.bind h1).imp fun xs M2 ι2 H2 e2 S2 h2 us ru => ⟨ι2, M2, x, xs, S2, rv.ext e2, ru, OpO.of h2⟩⟩
    · exact h1.elim⟩
end

/-! ### all(bools), max(ints), min(ints), sum(ints) of a list -/
def blsOf : List D → Option (List Bool)
  | [] => some []
  | .bl b :: ds => (blsOf ds).map (b :: ·)
  | _ => none
def intsOf : List D → Option (List Int)
  | [] => some []
  | .int b :: ds => (intsOf ds).map (b :: ·)
  | _ => none
def maxI : List Int → Int
  | [] => 0
  | [a] => a
  | a :: b :: r => max a (maxI (b :: r))
def minI : List Int → Int
  | [] => 0
  | [a] => a
  | a :: b :: r => min a (minI (b :: r))
theorem maxI_mem : ∀ {ns : List Int}, ns ≠ [] → maxI ns ∈ ns ∧ ∀ a ∈ ns, a ≤ maxI ns
  | [], h => absurd rfl h
  | [a], _ => by simp [maxI]
  | a :: b :: r, _ => by
    obtain ⟨h1, h2⟩ := maxI_mem (ns := b :: r) (by simp)
    refine ⟨?_, fun c hc => ?_⟩
    · show max a (maxI (b :: r)) ∈ _
      rcases Int.le_total a (maxI (b :: r)) with q | q
      · rw [Int.max_eq_right q]; exact List.mem_cons_of_mem _ h1
      · rw [Int.max_eq_left q]; exact List.mem_cons_self
    · show c ≤ max a (maxI (b :: r))
      rcases List.mem_cons.mp hc with rfl | hc
      · exact Int.le_max_left _ _
      · exact Int.le_trans (h2 c hc) (Int.le_max_right _ _)
theorem minI_mem : ∀ {ns : List Int}, ns ≠ [] → minI ns ∈ ns ∧ ∀ a ∈ ns, minI ns ≤ a
  | [], h => absurd rfl h
  | [a], _ => by simp [minI]
  | a :: b :: r, _ => by
    obtain ⟨h1, h2⟩ := minI_mem (ns := b :: r) (by simp)
    refine ⟨?_, fun c hc => ?_⟩
    · show min a (minI (b :: r)) ∈ _
      rcases Int.le_total a (minI (b :: r)) with q | q
      · rw [Int.min_eq_left q]; exact List.mem_cons_self
      · rw [Int.min_eq_right q]; exact List.mem_cons_of_mem _ h1
    · show min a (minI (b :: r)) ≤ c
      rcases List.mem_cons.mp hc with rfl | hc
      · exact Int.min_le_left _ _
      · exact Int.le_trans (Int.min_le_right _ _) (h2 c hc)
def nAll : OpN := fun ds M => match ds with
  | [.ref n] => match seqAt M n with
    | some xs => (blsOf xs).map fun bs => (.bl (bs.all id), M)
    | none => none
  | _ => none
def nMax : OpN := fun ds M => match ds with
  | [.ref n] => match seqAt M n with
    | some xs => match intsOf xs with
      | some ns => if ns = [] then none else some (.int (maxI ns), M)
      | none => none
    | none => none
  | _ => none
def nMin : OpN := fun ds M => match ds with
  | [.ref n] => match seqAt M n with
    | some xs => match intsOf xs with
      | some ns => if ns = [] then none else some (.int (minI ns), M)
      | none => none
    | none => none
  | _ => none
def nSum : OpN := fun ds M => match ds with
  | [.ref n] => match seqAt M n with
    | some xs => (intsOf xs).map fun ns => (.int ns.sum, M)
    | none => none
  | _ => none
section
variable {K : PySem.W.Frag} {ι : List Addr} {H : Hp} {M : Mem}
theorem bls_v : ∀ {ds : List D} {vs : List V} {bs : List Bool}, RpA K ι H ds vs → blsOf ds = some bs → vs = bs.map V.bl
  | [], _, _, .nil, e => by cases e; rfl
  | d :: ds, _, bs, .cons r t, e => by
    cases d with
    | bl b =>
      have e' : (blsOf ds).map (b :: ·) = some bs := e
      cases q : blsOf ds with
      | none => rw [q] at e'; cases e'
      | some cs =>
        rw [q] at e'
        cases e'
        cases r.bl_inv
        rw [bls_v t q]
        rfl
    | _ => cases e
theorem ints_v : ∀ {ds : List D} {vs : List V} {bs : List Int}, RpA K ι H ds vs → intsOf ds = some bs → vs = bs.map V.int
  | [], _, _, .nil, e => by cases e; rfl
  | d :: ds, _, bs, .cons r t, e => by
    cases d with
    | int b =>
      have e' : (intsOf ds).map (b :: ·) = some bs := e
      cases q : intsOf ds with
      | none => rw [q] at e'; cases e'
      | some cs =>
        rw [q] at e'
        cases e'
        cases r.int_inv
        rw [ints_v t q]
        rfl
    | _ => cases e
end
section
variable {X : Cx}
theorem c_all (hc : X.calm = true) : CallR X (.builtin "all") (rDN X.K nAll) := by
  refine CallR.imp (cr_all hc) fun xs H Q h => ?_
  obtain ⟨ι, M, ds, S, r, h⟩ := h
  unfold nAll at h
  split at h
  · obtain ⟨v, rfl, rv⟩ := r.one_inv
    obtain ⟨p, rfl, hp⟩ := rv.ref_inv
    split at h
    · rename_i ys m
      obtain ⟨vs, h1, r1⟩ := S.seq hp m
      cases q : blsOf ys with
      | none => rw [q] at h; exact h.elim
      | some bs =>
        rw [q] at h
        cases bls_v r1 q
        exact ⟨p, bs, rfl, h1, OpO.val S h (.bl _)⟩
    · exact h.elim
  · exact h.elim
theorem c_max (hc : X.calm = true) : CallR X (.builtin "max") (rDN X.K nMax) := by
  refine CallR.imp (cr_max hc) fun xs H Q h => ?_
  obtain ⟨ι, M, ds, S, r, h⟩ := h
  unfold nMax at h
  split at h
  · obtain ⟨v, rfl, rv⟩ := r.one_inv
    obtain ⟨p, rfl, hp⟩ := rv.ref_inv
    split at h
    · rename_i ys m
      obtain ⟨vs, h1, r1⟩ := S.seq hp m
      split at h
      · rename_i ns q
        cases ints_v r1 q
        split at h
        · exact h.elim
        · rename_i hne
          refine ⟨p, ns, rfl, h1, List.length_pos_iff.mpr hne, fun m hm hle => ?_⟩
          obtain ⟨k1, k2⟩ := maxI_mem hne
          have : m = maxI ns := Int.le_antisymm (k2 m hm) (hle _ k1)
          subst this
          exact OpO.val S h (.int _)
      · exact h.elim
    · exact h.elim
  · exact h.elim
theorem c_min (hc : X.calm = true) : CallR X (.builtin "min") (rDN X.K nMin) := by
  refine CallR.imp (cr_min hc) fun xs H Q h => ?_
  obtain ⟨ι, M, ds, S, r, h⟩ := h
  unfold nMin at h
  split at h
  · obtain ⟨v, rfl, rv⟩ := r.one_inv
    obtain ⟨p, rfl, hp⟩ := rv.ref_inv
    split at h
    · rename_i ys m
      obtain ⟨vs, h1, r1⟩ := S.seq hp m
      split at h
      · rename_i ns q
        cases ints_v r1 q
        split at h
        · exact h.elim
        · rename_i hne
          refine ⟨p, ns, rfl, h1, List.length_pos_iff.mpr hne, fun m hm hle => ?_⟩
          obtain ⟨k1, k2⟩ := minI_mem hne
          have : m = minI ns := Int.le_antisymm (hle _ k1) (k2 m hm)
          subst this
          exact OpO.val S h (.int _)
      · exact h.elim
    · exact h.elim
  · exact h.elim
theorem c_sum (hc : X.calm = true) : CallR X (.builtin "sum") (rDN X.K nSum) := by
  refine CallR.imp (cr_sum hc) fun xs H Q h => ?_
  obtain ⟨ι, M, ds, S, r, h⟩ := h
  unfold nSum at h
  split at h
  · obtain ⟨v, rfl, rv⟩ := r.one_inv
    obtain ⟨p, rfl, hp⟩ := rv.ref_inv
    split at h
    · rename_i ys m
      obtain ⟨vs, h1, r1⟩ := S.seq hp m
      cases q : intsOf ys with
      | none => rw [q] at h; exact h.elim
      | some ns =>
        rw [q] at h
        cases ints_v r1 q
        exact ⟨p, ns, rfl, h1, OpO.val S h (.int _)⟩
    · exact h.elim
  · exact h.elim
end

/-! ### defs -/
def startE (n : Nat) (ds : List D) : Env := ds.map some ++ List.replicate (n - ds.length) none
def endS : SOut → Out D
  | .next _ M => .ok .non M
  | .ret d M => .ok d M
  | .exc x _ M => .exc x M
  | .stuck => .stuck
@[simp] theorem endS_next (env : Env) (M : Mem) : endS (.next env M) = .ok .non M := rfl
@[simp] theorem endS_ret (d : D) (M : Mem) : endS (.ret d M) = .ok d M := rfl
@[simp] theorem endS_exc (x : Ex) (env : Env) (M : Mem) : endS (.exc x env M) = .exc x M := rfl
@[simp] theorem endS_stuck : endS .stuck = .stuck := rfl
/-- a def of np parameters and n names -/
def fnD (np n : Nat) (b : MS) : Fn := fun ds M => if ds.length = np then endS (b (startE n ds) M) else .stuck
def noFn : Fn := fun _ _ => .stuck
theorem envR_start {K : PySem.W.Frag} {ι : List Addr} {H : Hp} : ∀ {ds : List D} {vs : List V}, RpA K ι H ds vs → ∀ r : Nat, EnvR K ι H (ds.map some ++ List.replicate r none) (vs.map some ++ List.replicate r none)
  | _, _, .nil, r => by
    induction r with
    | zero => exact .nil
    | succ r ih => exact .cons trivial ih
  | _, _, .cons h t, r => .cons h (envR_start t r)
section
variable {P : Program} {w : World} {K : PySem.W.Frag} {mg : Str → Option Value} {base : Heap}
/-- a def by its body -/
theorem okF {x qual : Str} {params : Arguments} {body : List Stmt} {scope : Scope} {f : Addr} {fd : FuncData} {N ps : List Str} {k : Nat} {mb : MS} (F : FunD K x qual params body scope [] [] f fd) (S : FnScope N ps scope)
    (hbody : ∀ (cdv : Value) (A : Around) (outer : List PySem.Env) (s : Shared) (H : Hp) (E : XK), let X := cxOf (L2N.CX P w) P w K mg base N qual scope f cdv A outer s H E
      Ctx X (fun cls d _ H => E cls d H) k → PSs X body (LS K (fun cls d _ H => E cls d H) mb)) :
    FnOk P w K mg base (L2N.CX P w) (k + 1) f fd ps (spD K ps.length (fnD ps.length N.length mb)) := by
  refine F.ok S (fun vs H Q E h => h.1) ?_
  rintro cdv A outer s H vs Q E hr ⟨hl, ι, ds, M, SS, rs, h⟩
  have C : Ctx (cxOf (L2N.CX P w) P w K mg base N qual scope f cdv A outer s H E) (fun cls d _ H => E cls d H) k := ⟨rfl, S.nd, hr, L2N.takes_of rfl rfl rfl rfl, passes_of rfl⟩
  refine ⟨_, hbody cdv A outer s H E C, ι, startE N.length ds, M, SS, ?_, ?_⟩
  · unfold startE L2.start
    rw [rs.length]
    exact envR_start rs _
  · unfold fnD at h
    rw [if_pos (by rw [rs.length]; exact hl)] at h
    revert h
    cases mb (startE N.length ds) M with
    | next env M1 => exact fun h ι1 σ1 H1 e1 S1 _ => h ι1 H1 e1 S1 _ .non
    | ret d M1 => exact fun h ι1 v H1 e1 S1 r => h ι1 H1 e1 S1 v r
    | exc y env M1 => exact fun h ι1 σ1 H1 cls dx e1 S1 _ ex => h ι1 H1 cls dx e1 S1 ex
    | stuck => exact fun h => h
theorem okD {x qual : Str} {params : Arguments} {body : List Stmt} {scope : Scope} {f : Addr} {N ps : List Str} {k : Nat} {mb : MS} (F : ∃ fd, FunD K x qual params body scope [] [] f fd) (S : FnScope N ps scope) (hm : mg x = some (.ref f))
    (hbind : ∀ (kV doc pm : Value) (an : Option Addr) (cdv ct : Value) (us : List Value), us.length = ps.length → bindArgs (PySem.W.fnOf x qual params body scope .none kV doc pm an cdv ct) ⟨us, []⟩ = pure (ps.zip us))
    (hbody : ∀ (cdv : Value) (A : Around) (outer : List PySem.Env) (s : Shared) (H : Hp) (E : XK), let X := cxOf (L2N.CX P w) P w K mg base N qual scope f cdv A outer s H E
      Ctx X (fun cls d _ H => E cls d H) k → PSs X body (LS K (fun cls d _ H => E cls d H) mb)) :
    Callee P w K mg base x ps.length (k + 1) (fnD ps.length N.length mb) := by
  obtain ⟨fd, F⟩ := F
  exact ⟨⟨f, fd, ps, okF F S hbody, hm, F.kp, F.bindsN hbind, rfl⟩, fun ds M h => if_neg h⟩
/-- nothing is promised -/
theorem noD {x qual : Str} {params : Arguments} {body : List Stmt} {scope : Scope} {f : Addr} {ps : List Str} {k : Nat} (F : ∃ fd, FunD K x qual params body scope [] [] f fd) (hm : mg x = some (.ref f))
    (hbind : ∀ (kV doc pm : Value) (an : Option Addr) (cdv ct : Value) (us : List Value), us.length = ps.length → bindArgs (PySem.W.fnOf x qual params body scope .none kV doc pm an cdv ct) ⟨us, []⟩ = pure (ps.zip us)) :
    Callee P w K mg base x ps.length k noFn := by
  obtain ⟨fd, F⟩ := F
  exact ⟨⟨f, fd, ps, ⟨fun vs H Q E h => h.1, fun A outer s H args us vs Q E _ _ _ _ h => by obtain ⟨_, ι, ds, M, _, _, z⟩ := h; exact z.elim⟩, hm, F.kp, F.bindsN hbind, rfl⟩, fun _ _ _ => rfl⟩
end
end TL
end
section
set_option maxHeartbeats 2000000
/-! the tree layer: the head and the end -/
namespace TL
open PySem PySem.Spec PyProof.Rows L2

/-! ### the head's facts: a Bool and the defs -/
abbrev AlB : Type := Bool × List He.FnW
def obsB (ok : PySem.W.Frag → Bool) (fn : List He.DefD) (K : PySem.W.Frag) : AlB := (ok K && fn.all (fun d => d.ok K), fn.map fun d => He.fnW K d.at_)
def valB (fn : List He.DefD) : AlB := (true, fn.map He.DefD.val)
def SaysB (ok : PySem.W.Frag → Bool) (fn : List He.DefD) (K : PySem.W.Frag) : Prop := obsB ok fn K = valB fn
def obsBG (n : Nat) (ok : PySem.W.Frag → Bool) (fn : List He.DefD) (g : Addr → Option Obj) : AlB := obsB ok fn (He.frG g (He.asD g n))
def hookB (n : Nat) (ok : PySem.W.Frag → Bool) (fn : List He.DefD) : PySem.W.Hook where
  α := AlB
  obs := fun s => obsBG n ok fn s.heap.get?
  val := fun _ => valB fn
  says := fun _ h => ∃ K : PySem.W.Frag, K.In h ∧ SaysB ok fn K
  of := fun _ _ e => ⟨_, He.frG_in, e⟩
  keeps := fun _ _ _ ⟨K, hK, c⟩ k => ⟨K, PySem.W.Frag.In.keeps hK k, c⟩
theorem obsBG_eq {n : Nat} {ok : PySem.W.Frag → Bool} {fn : List He.DefD} {g : Addr → Option Obj} {s : Shared} (h : ∀ a, g a = s.heap.get? a) : obsBG n ok fn g = (hookB n ok fn).obs s := by
  have e : g = s.heap.get? := funext h
  rw [e] <;> rfl
section
variable {ok : PySem.W.Frag → Bool} {fn : List He.DefD} {K : PySem.W.Frag}
theorem SaysB.fact (c : SaysB ok fn K) : ok K = true := (He.ba (show (ok K && fn.all fun d => d.ok K) = true from congrArg (fun z : AlB => z.1) c)).1
theorem SaysB.def_ (c : SaysB ok fn K) (i : Nat) {d : He.DefD} (h : fn[i]? = some d := by rfl) : ∃ fd, FunD K d.name d.qual d.params d.body d.scope (d.dvs K) (d.kws K) (He.fAd K d.at_) fd := by
  have c2 := (He.ba (show (ok K && fn.all fun d => d.ok K) = true from congrArg (fun z : AlB => z.1) c)).2
  have e : fn.map (fun d => He.fnW K d.at_) = fn.map He.DefD.val := congrArg (fun z : AlB => z.2) c
  have e2 : (fn.map fun d => He.fnW K d.at_)[i]? = (fn.map He.DefD.val)[i]? := by rw [e]
  rw [List.getElem?_map, List.getElem?_map, h] at e2
  exact He.DefD.funD (Option.some.inj e2) (List.all_eq_true.mp c2 d (List.mem_of_getElem? h))
/-- all of some -/
theorem all_at {α : Type} {p : α → Bool} {l : List α} (h : l.all p = true) (i : Nat) {a : α} (e : l[i]? = some a := by rfl) : p a = true := List.all_eq_true.mp h a (List.mem_of_getElem? e)
/-- the module's name x is a tuple of these -/
theorem glob_tup {h : Heap} {mg : Str → Option Value} (X : K.In h) (G : h.Ns mainGlobals mg) {x : Str} {vs : List He.Dv} {ds : List D} (c1 : (He.Fa.glo x).ok K = true) (c2 : He.tupB K x vs = true) (r : ∀ ι H, RpA K ι H ds (vs.map (He.Dv.v K))) : Glob K mg x (.tup ds) :=
  ⟨.ref (He.ga K x), _, He.glo_ok X G c1, rfl, fun ι H => .tup (He.tupB_ok c2 H) (r ι H)⟩
theorem glob_int {h : Heap} {mg : Str → Option Value} (X : K.In h) (G : h.Ns mainGlobals mg) {x : Str} {i : Int} (c : (He.Fa.int x i).ok K = true) : Glob K mg x (.int i) := by
  obtain ⟨t, e⟩ := He.int_ok X G c
  exact ⟨.int i, _, e, ⟨t, rfl⟩, fun ι H => .int i⟩
theorem glob_str {h : Heap} {mg : Str → Option Value} (X : K.In h) (G : h.Ns mainGlobals mg) {x z : Str} (c : (He.Fa.str x z).ok K = true) : Glob K mg x (.str z) := by
  obtain ⟨t, e⟩ := He.str_ok X G c
  exact ⟨.str z, _, e, ⟨t, rfl⟩, fun ι H => .str z⟩
end
/-! ### the end -/
theorem walk_ofW {l : PySem.W.OpenLaw} {n k : Nat} {q : Program} {loose : List Str} {XP : (Str → Option Value) → Heap → Prop} {YP : World → Heap → Prop} {d : DefRec} {CX : World → CXT} {x : Str}
    (hn : l.most = some n) (hn2 : n ≤ sizeLine) (hdf : d.params.defaults = []) (hr : Room k callerA)
    (F : ∀ (w : World) (mg : Str → Option Value) (fa : Addr) (h : Heap), YP w h → h.Ns mainGlobals mg → mg d.name = some (.ref fa) →
      ∃ (K : PySem.W.Frag) (fd : FuncData) (sp : Sp), K.In h ∧ (∀ (s : Shared) (u : Value), BindsTo s fd ⟨[u], []⟩ [(x, u)]) ∧
        (∀ (H : Hp) (a : Addr) (ns : List Int), ns.length ≤ n → Only H → SqL K H a (ns.map V.int) → sp [.ref a] H (fun v _ => v = .bl true) fun _ _ _ => False) ∧
        ∀ base : Heap, K.In base → base.Ns mainGlobals mg → FnOk l.prog w K mg base (CX w) k fa fd [x] sp)
    (hCX : ∀ (w : World) (H : Hp) (s : Shared) (e : Value) (s' : Shared), CX w [] H s (fun _ _ _ => False) e s' → False) :
    PySem.W.WalkO q loose XP YP l.row.toRowW d [] (fun f vs => PySem.call f vs) := by
  refine Att.attach_call hn hdf fun w s₀ s₁ mg mb fa o pm cd doc a vs ns G Y ho hd hcd hmg hobj hints hlen hg => ?_
  obtain ⟨K, fd, sp, KX, hb, hsp, hF⟩ := F w mg fa _ Y G.T.g hmg
  exact law_call KX G.T.g G.T.b G.T.builtins G.T.nolimit hg hobj hints (Nat.le_trans hlen hn2) hr hF hb (fun H hO hS => hsp H a ns hlen hO hS) fun H e s' => hCX w H s₁ e s'
theorem cx_false {P : Program} {w : World} {H : Hp} {s : Shared} {e : Value} {s' : Shared} (h : L2N.CX P w [] H s (fun _ _ _ => False) e s') : False := by
  obtain ⟨_, _, _, _, _, _, _, _, _, _, _, _, z⟩ := h
  exact z
theorem ints_rp {K : PySem.W.Frag} {ι : List Addr} {H : Hp} : ∀ ns : List Int, RpA K ι H (ns.map D.int) (ns.map V.int)
  | [] => .nil
  | i :: ns => .cons (.int i) (ints_rp ns)
theorem law_sp {K : PySem.W.Frag} {m : Fn} {H : Hp} {a : Addr} {ns : List Int} (hO : Only H) (hS : SqL K H a (ns.map V.int)) (h : ∃ M', m [.ref 0] [.rol (ns.map D.int)] = .ok (.bl true) M') :
    spD K 1 m [.ref a] H (fun v _ => v = .bl true) fun _ _ _ => False := by
  obtain ⟨M', h⟩ := h
  refine ⟨rfl, [a], [.ref 0], [.rol (ns.map D.int)], ⟨rfl, fun n b o h1 h2 => ?_, fun n m b o u h1 h2 h3 h4 m1 m2 => ?_⟩, .cons (.ref rfl) .nil, ?_⟩
  · match n, h1, h2 with
    | 0, h1, h2 =>
      cases h1; cases h2
      refine ⟨_, ?_, ints_rp ns⟩
      rcases hS with (h | ⟨o, h⟩) | h
      · rcases hO a with q | ⟨o, xs, q⟩ <;> rw [q] at h <;> cases h
      · exact .inl ⟨o, h⟩
      · exact .inr h
    | n + 1, h1, h2 => cases h1
  · match n, h3 with
    | 0, h3 => cases h3; cases m1
    | n + 1, h3 => cases h3
  · rw [h]
    exact fun ι' H' e s v r => r.bl_inv
end TL
end
section
/-! the tree layer: further built-ins -/
namespace TL
open PySem PySem.Spec PyProof.Rows L2
theorem Ctx.hu {X : Cx} {W : WX} {k : Nat} (C : Ctx X W k) : X.A.units + 64 < cLine := C.room.units
def nInt : OpN := fun ds M => match ds with
  | [.int i] => some (.int i, M)
  | [.bl b] => some (.int (if b then 1 else 0), M)
  | _ => none
theorem c_int {X : Cx} : CallR X (.type "int") (rDN X.K nInt) := by
  refine CallR.imp call_int1 fun xs H Q h => ?_
  obtain ⟨ι, M, ds, S, r, h⟩ := h
  unfold nInt at h
  split at h
  · obtain ⟨v, rfl, rv⟩ := r.one_inv
    cases rv.int_inv
    exact .inl ⟨_, rfl, h.val S (.int _)⟩
  · obtain ⟨v, rfl, rv⟩ := r.one_inv
    cases rv.bl_inv
    exact .inr ⟨_, rfl, OpO.val S h (.int _)⟩
  · exact h.elim
end TL
end
section
/-! the tree layer: how mirrors are reckoned -/
namespace TL
open PySem PySem.Spec PyProof.Rows L2

section
variable {env : Env} {M : Mem}
@[simp] theorem eVar_ap {i : Nat} : eVar i env M = match env[i]? with | some (some d) => .ok d M | _ => .stuck := rfl
@[simp] theorem eC_ap {d : D} : eC d env M = .ok d M := rfl
@[simp] theorem eBin_ap {f : Op2} {a b : ME} : eBin f a b env M = (a env M).bind fun x M1 => (b env M1).bind fun y M2 => liftO (f x y M2) := rfl
@[simp] theorem eUn_ap {f : Op1} {a : ME} : eUn f a env M = (a env M).bind fun x M1 => liftO (f x M1) := rfl
@[simp] theorem eChain_ap {f g : Op2} {a b c : ME} : eChain f g a b c env M = (a env M).bind fun x M1 => (b env M1).bind fun y M2 => (liftO (f x y M2)).bind fun z M3 => kBl z fun k =>
  if k = true then (c env M3).bind fun w M4 => liftO (g y w M4) else .ok (.bl false) M3 := rfl
@[simp] theorem eAnd_ap {a b : ME} : eAnd a b env M = (a env M).bind fun x M1 => kBl x fun k => if k = true then b env M1 else .ok (.bl false) M1 := rfl
@[simp] theorem eOr_ap {a b : ME} : eOr a b env M = (a env M).bind fun x M1 => kBl x fun k => if k = true then .ok (.bl true) M1 else b env M1 := rfl
@[simp] theorem eNot_ap {a : ME} : eNot a env M = (a env M).bind fun x M1 => kBl x fun k => .ok (.bl (!k)) M1 := rfl
@[simp] theorem eIf_ap {t : MT} {a b : ME} : eIf t a b env M = (t env M).bind fun k M1 => if k = true then a env M1 else b env M1 := rfl
@[simp] theorem tB_ap {e : ME} : tB e env M = (e env M).bind fun d M1 => kBl d fun k => .ok k M1 := rfl
@[simp] theorem tTru_ap {e : ME} : tTru e env M = (e env M).bind fun d M1 => match truD M1 d with | some k => .ok k M1 | none => .stuck := rfl
@[simp] theorem tAnd_ap {a b : MT} : tAnd a b env M = (a env M).bind fun k M1 => if k = true then b env M1 else .ok false M1 := rfl
@[simp] theorem tOr_ap {a b : MT} : tOr a b env M = (a env M).bind fun k M1 => if k = true then .ok true M1 else b env M1 := rfl
@[simp] theorem tNot_ap {a : MT} : tNot a env M = (a env M).bind fun k M1 => .ok (!k) M1 := rfl
@[simp] theorem aNil_ap : aNil env M = .ok [] M := rfl
@[simp] theorem aCons_ap {a : ME} {r : MA} : aCons a r env M = (a env M).bind fun x M1 => (r env M1).bind fun xs M2 => .ok (x :: xs) M2 := rfl
@[simp] theorem eTup_ap {a : MA} : eTup a env M = (a env M).bind fun xs M1 => if xs.length ≤ 1000 then .ok (.tup xs) M1 else .stuck := rfl
@[simp] theorem eLst_ap {a : MA} : eLst a env M = (a env M).bind fun xs M1 => if xs.length ≤ 1000 then .ok (.ref M1.length) (M1 ++ [.lst xs]) else .stuck := rfl
@[simp] theorem eCall_ap {m : Fn} {a : MA} : eCall m a env M = (a env M).bind m := rfl
@[simp] theorem eCallO_ap {f : OpN} {a : MA} : eCallO f a env M = (a env M).bind fun xs M1 => liftO (f xs M1) := rfl
@[simp] theorem oNone_ap : oNone env M = .ok none M := rfl
@[simp] theorem oSome_ap {a : ME} : oSome a env M = (a env M).bind fun x M1 => kInt x fun i => .ok (some i) M1 := rfl
@[simp] theorem eSl_ap {a : ME} {lo hi : MO'} : eSl a lo hi env M = (a env M).bind fun x M1 => (lo env M1).bind fun l M2 => (hi env M2).bind fun h M3 => liftO (mSl x l h M3) := rfl
@[simp] theorem eIsi_ap {T : String} {a : ME} : eIsi T a env M = (a env M).bind fun x M1 => liftO (mIsi T x M1) := rfl
@[simp] theorem eMeth_ap {T : String} {f : D → OpN} {o : ME} {a : MA} : eMeth T f o a env M = (o env M).bind fun x M1 => if tyD T M1 x = true then (a env M1).bind fun xs M2 => liftO (f x xs M2) else .stuck := rfl
@[simp] theorem sNil_ap : sNil env M = .next env M := rfl
@[simp] theorem sSeq_ap {a b : MS} : sSeq a b env M = nextS (a env M) b := rfl
@[simp] theorem sExpr_ap {e : ME} : sExpr e env M = thenS env (e env M) fun _ M1 => .next env M1 := rfl
@[simp] theorem sRet_ap {e : ME} : sRet e env M = thenS env (e env M) fun d M1 => .ret d M1 := rfl
@[simp] theorem sRetN_ap : sRetN env M = .ret .non M := rfl
@[simp] theorem sIf_ap {t : MT} {a b : MS} : sIf t a b env M = thenS env (t env M) fun k M1 => if k = true then a env M1 else b env M1 := rfl
@[simp] theorem sAsg_ap {g : MG} {e : ME} : sAsg g e env M = thenS env (e env M) fun d M1 => match g d env with | some env' => .next env' M1 | none => .stuck := rfl
@[simp] theorem sSub_ap {o i e : ME} : sSub o i e env M = thenS env (e env M) fun v M1 => thenS env (o env M1) fun x M2 => thenS env (i env M2) fun y M3 => match setD x y v M3 with | some M4 => .next env M4 | none => .stuck := rfl
@[simp] theorem sFor_ap {i : MI} {g : MG} {b : MS} : sFor i g b env M = thenS env (i env M) fun s M1 => forL s.good g b s.items env M1 := rfl
@[simp] theorem gOne_ap {i : Nat} {d : D} : gOne i d env = some (env.set i (some d)) := rfl
@[simp] theorem tYesD_ap : tYesD env M = .ok true M := rfl
open Classical in
@[simp] theorem iRange1_ap {e : ME} : iRange1 e env M = (e env M).bind fun d M1 => kInt d fun j => if RngOk j then .ok ⟨rngItems 0 j.toNat, fun _ => True⟩ M1 else .stuck := rfl
open Classical in
@[simp] theorem iRange2_ap {a b : ME} : iRange2 a b env M = (a env M).bind fun d M1 => (b env M1).bind fun d2 M2 => kInt d fun i => kInt d2 fun j => if RngOk i ∧ RngOk j then .ok ⟨rngItems i (j - i).toNat, fun _ => True⟩ M2 else .stuck := rfl
@[simp] theorem rngOk_of {j : Int} (h0 : 0 ≤ j) (h1 : j ≤ 1000000) : RngOk j := ⟨Int.le_trans (by decide) h0, Int.lt_of_le_of_lt h1 (by decide)⟩
@[simp] theorem rngOk_nat {n : Nat} (h1 : n ≤ 1000000) : RngOk (n : Int) := rngOk_of (by omega) (by omega)
@[simp] theorem iAny_ap {e : ME} : iAny e env M = (e env M).bind fun d M1 => match srcOf M1 d with | some s => .ok s M1 | none => .stuck := rfl
@[simp] theorem eComp_ap {i : Nat} {s : MI} {t : MT} {e : ME} : eComp i s t e env M = (s env M).bind fun s M1 => (compL s.good i t e M1.length env s.items (M1 ++ [.lst []])).bind fun _ M2 => .ok (.ref M1.length) M2 := rfl
@[simp] theorem gTupD_ap {is : List Nat} {ds : List D} : gTupD is (.tup ds) env = if ds.length = is.length then some (setAll env is ds) else none := rfl
@[simp] theorem setAll_cons {i : Nat} {is : List Nat} {d : D} {ds : List D} : setAll env (i :: is) (d :: ds) = setAll (env.set i (some d)) is ds := rfl
@[simp] theorem setAll_nil {ds : List D} : setAll env [] ds = env := by cases ds <;> rfl
/-! operations -/
variable {i j : Int} {b c : Bool} {x y : Str} {xs ys : List D} {n m : Nat} {d e : D}
@[simp] theorem mAdd_int : mAdd (.int i) (.int j) M = some (.int (i + j), M) := rfl
@[simp] theorem mAdd_tup : mAdd (.tup xs) (.tup ys) M = if xs.length + ys.length ≤ sizeLine then some (.tup (xs ++ ys), M) else none := rfl
@[simp] theorem mAdd_str : mAdd (.str x) (.str y) M = if x.length + y.length ≤ sizeLine then some (.str (x ++ y), M) else none := rfl
@[simp] theorem mAdd_ref : mAdd (.ref n) (.ref m) M = match M[n]?, M[m]? with
    | some (.lst xs), some (.lst ys) => if xs.length + ys.length ≤ sizeLine then some (.ref M.length, M ++ [.lst (xs ++ ys)]) else none
    | _, _ => none := rfl
@[simp] theorem mSub_int : mSub (.int i) (.int j) M = some (.int (i - j), M) := rfl
@[simp] theorem mMod_int : mMod (.int i) (.int j) M = if 0 < j then some (.int (i % j), M) else none := rfl
@[simp] theorem mFdiv_int : mFdiv (.int i) (.int j) M = if 0 < j ∧ j < 1073741824 then some (.int (i / j), M) else none := rfl
@[simp] theorem mPow_int : mPow (.int i) (.int j) M = if 0 ≤ j ∧ j ≤ 1000000 ∧ i.natAbs < 2 ^ 64 then some (.int (i ^ j.toNat), M) else none := rfl
@[simp] theorem mMul_int : mMul (.int i) (.int j) M = @ite _ ((-(2 ^ 64) < i ∧ i < 2 ^ 64) ∨ (-(2 ^ 64) < j ∧ j < 2 ^ 64)) (Classical.propDecidable _) (some (.int (i * j), M)) none := rfl
@[simp] theorem mNeg_int : mNeg (.int i) M = some (.int (-i), M) := rfl
@[simp] theorem mLt_int : mCmp (fun i j => decide (i < j)) (.int i) (.int j) M = some (.bl (decide (i < j)), M) := rfl
@[simp] theorem mLe_int : mCmp (fun i j => decide (i ≤ j)) (.int i) (.int j) M = some (.bl (decide (i ≤ j)), M) := rfl
@[simp] theorem mGt_int : mCmp (fun i j => decide (j < i)) (.int i) (.int j) M = some (.bl (decide (j < i)), M) := rfl
@[simp] theorem mGe_int : mCmp (fun i j => decide (j ≤ i)) (.int i) (.int j) M = some (.bl (decide (j ≤ i)), M) := rfl
theorem mEq_eq : mEq d e M = (eqD M d e).map fun k => (.bl k, M) := rfl
theorem mNe_eq : mNe d e M = (eqD M d e).map fun k => (.bl (!k), M) := rfl
@[simp] theorem eqD_int : eqD M (.int i) (.int j) = some (decide (i = j)) := by
  have : (i == j) = decide (i = j) := rfl
  rw [← this]; rfl
@[simp] theorem mEq_int : mEq (.int i) (.int j) M = some (.bl (decide (i = j)), M) := by rw [mEq_eq, eqD_int]; rfl
@[simp] theorem mNe_int : mNe (.int i) (.int j) M = some (.bl (!decide (i = j)), M) := by rw [mNe_eq, eqD_int]; rfl
@[simp] theorem mIs_non : mIs d .non M = some (.bl (isNon d), M) := rfl
@[simp] theorem mIsNot_non : mIsNot d .non M = some (.bl (!isNon d), M) := rfl
@[simp] theorem mIs_bl : mIs (.bl b) (.bl c) M = some (.bl (b == c), M) := rfl
@[simp] theorem mIsNot_bl : mIsNot (.bl b) (.bl c) M = some (.bl (!(b == c)), M) := rfl
@[simp] theorem isNon_non : isNon .non = true := rfl
@[simp] theorem isNon_int : isNon (.int i) = false := rfl
@[simp] theorem isNon_bl : isNon (.bl b) = false := rfl
@[simp] theorem isNon_str : isNon (.str x) = false := rfl
@[simp] theorem isNon_tup : isNon (.tup xs) = false := rfl
@[simp] theorem isNon_ref : isNon (.ref n) = false := rfl
@[simp] theorem mIdx_tup : mIdx (.tup xs) (.int i) M = (atI xs i).map fun d => (d, M) := rfl
@[simp] theorem mIdx_ref : mIdx (.ref n) (.int i) M = match seqAt M n with | some xs => (atI xs i).map fun d => (d, M) | none => none := rfl
@[simp] theorem mSl_tup {lo hi : Option Int} : mSl (.tup xs) lo hi M = some (.tup (cutL xs lo hi), M) := rfl
@[simp] theorem mSl_ref {lo hi : Option Int} : mSl (.ref n) lo hi M = match seqAt M n with | some xs => some (.ref M.length, M ++ [.lst (cutL xs lo hi)]) | none => none := rfl
@[simp] theorem nLen_tup : nLen [.tup xs] M = some (.int (xs.length : Nat), M) := rfl
@[simp] theorem nLen_ref : nLen [.ref n] M = (seqAt M n).map fun xs => (.int (xs.length : Nat), M) := rfl
@[simp] theorem nLen_str : nLen [.str x] M = if x.length ≤ sizeLine then some (.int (x.length : Nat), M) else none := rfl
@[simp] theorem nMax2_int : nMax2 [.int i, .int j] M = some (.int (if j > i then j else i), M) := rfl
@[simp] theorem nMin2_int : nMin2 [.int i, .int j] M = some (.int (if j < i then j else i), M) := rfl
@[simp] theorem nInt_int : nInt [.int i] M = some (.int i, M) := rfl
@[simp] theorem nInt_bl : nInt [.bl b] M = some (.int (if b then 1 else 0), M) := rfl
@[simp] theorem mIsi_int {T : String} : mIsi T (.int i) M = (kitB "int" T).map fun b => (.bl b, M) := rfl
@[simp] theorem mIsi_bl {T : String} : mIsi T (.bl b) M = (kitB "bool" T).map fun b => (.bl b, M) := rfl
@[simp] theorem mIsi_str {T : String} : mIsi T (.str x) M = (kitB "str" T).map fun b => (.bl b, M) := rfl
@[simp] theorem mIsi_non {T : String} : mIsi T .non M = (kitB "NoneType" T).map fun b => (.bl b, M) := rfl
@[simp] theorem mIsi_tup {T : String} : mIsi T (.tup xs) M = (kitB "tuple" T).map fun b => (.bl b, M) := rfl
theorem mIsi_ref {T : String} (h : seqAt M n = some xs) : mIsi T (.ref n) M = (kitB "list" T).map fun b => (.bl b, M) := by
  have e : tyName M (.ref n) = some "list" := by show (seqAt M n).map (fun _ => "list") = _; rw [h]; rfl
  unfold mIsi; rw [e]
@[simp] theorem kit_ii : kitB "int" "int" = some true := by decide +kernel
@[simp] theorem kit_ib : kitB "int" "bool" = some false := by decide +kernel
@[simp] theorem kit_it : kitB "int" "tuple" = some false := by decide +kernel
@[simp] theorem kit_is : kitB "int" "str" = some false := by decide +kernel
@[simp] theorem kit_il : kitB "int" "list" = some false := by decide +kernel
@[simp] theorem kit_bi : kitB "bool" "int" = some true := by decide +kernel
@[simp] theorem kit_bb : kitB "bool" "bool" = some true := by decide +kernel
@[simp] theorem kit_bt : kitB "bool" "tuple" = some false := by decide +kernel
@[simp] theorem kit_bs : kitB "bool" "str" = some false := by decide +kernel
@[simp] theorem kit_bl : kitB "bool" "list" = some false := by decide +kernel
@[simp] theorem kit_si : kitB "str" "int" = some false := by decide +kernel
@[simp] theorem kit_sb : kitB "str" "bool" = some false := by decide +kernel
@[simp] theorem kit_st : kitB "str" "tuple" = some false := by decide +kernel
@[simp] theorem kit_ss : kitB "str" "str" = some true := by decide +kernel
@[simp] theorem kit_sl : kitB "str" "list" = some false := by decide +kernel
@[simp] theorem kit_ni : kitB "NoneType" "int" = some false := by decide +kernel
@[simp] theorem kit_nb : kitB "NoneType" "bool" = some false := by decide +kernel
@[simp] theorem kit_nt : kitB "NoneType" "tuple" = some false := by decide +kernel
@[simp] theorem kit_ns : kitB "NoneType" "str" = some false := by decide +kernel
@[simp] theorem kit_nl : kitB "NoneType" "list" = some false := by decide +kernel
@[simp] theorem kit_ti : kitB "tuple" "int" = some false := by decide +kernel
@[simp] theorem kit_tb : kitB "tuple" "bool" = some false := by decide +kernel
@[simp] theorem kit_tt : kitB "tuple" "tuple" = some true := by decide +kernel
@[simp] theorem kit_ts : kitB "tuple" "str" = some false := by decide +kernel
@[simp] theorem kit_tl : kitB "tuple" "list" = some false := by decide +kernel
@[simp] theorem kit_li : kitB "list" "int" = some false := by decide +kernel
@[simp] theorem kit_lb : kitB "list" "bool" = some false := by decide +kernel
@[simp] theorem kit_lt : kitB "list" "tuple" = some false := by decide +kernel
@[simp] theorem kit_ls : kitB "list" "str" = some false := by decide +kernel
@[simp] theorem kit_ll : kitB "list" "list" = some true := by decide +kernel
end
/-- it ends with a value, and this is so of it -/
def Ret {α : Type} (o : Out α) (P : α → Mem → Prop) : Prop := ∃ a M, o = .ok a M ∧ P a M
theorem Ret.ok_iff {α : Type} {a : α} {M : Mem} {P : α → Mem → Prop} : Ret (.ok a M) P ↔ P a M := ⟨fun ⟨_, _, e, h⟩ => by cases e; exact h, fun h => ⟨_, _, rfl, h⟩⟩
theorem Ret.ok {α : Type} {a : α} {M : Mem} {P : α → Mem → Prop} (h : P a M) : Ret (.ok a M) P := ⟨_, _, rfl, h⟩
theorem Ret.imp {α : Type} {o : Out α} {P Q : α → Mem → Prop} (h : Ret o P) (k : ∀ a M, P a M → Q a M) : Ret o Q := by
  obtain ⟨a, M, e, p⟩ := h
  exact ⟨a, M, e, k a M p⟩
theorem Ret.bind {α β : Type} {o : Out α} {f : α → Mem → Out β} {P : α → Mem → Prop} {Q : β → Mem → Prop} (h : Ret o P) (k : ∀ a M, P a M → Ret (f a M) Q) : Ret (o.bind f) Q := by
  obtain ⟨a, M, rfl, p⟩ := h
  exact k a M p
/-! places -/
theorem atI_ok {α : Type} {xs : List α} {i : Int} (h0 : 0 ≤ i) (h1 : i < xs.length) : ∃ a, xs[i.toNat]? = some a ∧ atI xs i = some a := by
  have hl : i.toNat < xs.length := by omega
  refine ⟨xs[i.toNat], List.getElem?_eq_getElem hl, ?_⟩
  unfold atI ixN
  rw [if_pos h0, if_pos h1]
  exact List.getElem?_eq_getElem hl
theorem seqAt_lst {M : Mem} {n : Nat} {xs : List D} (h : M[n]? = some (.lst xs)) : seqAt M n = some xs := by unfold seqAt; rw [h]
theorem seqAt_rol {M : Mem} {n : Nat} {xs : List D} (h : M[n]? = some (.rol xs)) : seqAt M n = some xs := by unfold seqAt; rw [h]
@[simp] theorem atI_0 {α : Type} {a : α} {xs : List α} : atI (a :: xs) 0 = some a := by simp [atI, ixN]
theorem atI_lit {α : Type} {xs : List α} (k : Nat) {a : α} (h : xs[k]? = some a) : atI xs (k : Int) = some a := atI_nat h
@[simp] theorem atI_1 {α : Type} {a b : α} {xs : List α} : atI (a :: b :: xs) 1 = some b := atI_lit (xs := a :: b :: xs) 1 rfl
@[simp] theorem atI_2 {α : Type} {a b c : α} {xs : List α} : atI (a :: b :: c :: xs) 2 = some c := atI_lit (xs := a :: b :: c :: xs) 2 rfl
@[simp] theorem atI_3 {α : Type} {a b c d : α} {xs : List α} : atI (a :: b :: c :: d :: xs) 3 = some d := atI_lit (xs := a :: b :: c :: d :: xs) 3 rfl
@[simp] theorem atI_4 {α : Type} {a b c d e : α} {xs : List α} : atI (a :: b :: c :: d :: e :: xs) 4 = some e := atI_lit (xs := a :: b :: c :: d :: e :: xs) 4 rfl
@[simp] theorem atI_5 {α : Type} {a b c d e f : α} {xs : List α} : atI (a :: b :: c :: d :: e :: f :: xs) 5 = some f := atI_lit (xs := a :: b :: c :: d :: e :: f :: xs) 5 rfl
@[simp] theorem atI_6 {α : Type} {a b c d e f g : α} {xs : List α} : atI (a :: b :: c :: d :: e :: f :: g :: xs) 6 = some g := atI_lit (xs := a :: b :: c :: d :: e :: f :: g :: xs) 6 rfl
end TL
end
section
/-! the tree layer: data without memory -/
namespace TL
open PySem PySem.Spec PyProof.Rows L2
mutual
/-- no list in it, its texts are texts, at most n deep -/
def pureD : D → Nat → Bool
  | .non, _ => true
  | .bl _, _ => true
  | .int _, _ => true
  | .str x, _ => PyData.strOk x
  | .tup _, 0 => false
  | .tup xs, n + 1 => pureL xs n
  | .ref _, _ => false
  | .err _, _ => false
def pureL : List D → Nat → Bool
  | [], _ => true
  | x :: xs, n => pureD x n && pureL xs n
end
mutual
def pyD : D → PyData
  | .non => .none
  | .bl b => .bool b
  | .int i => .int i
  | .str x => .str x
  | .tup xs => .tuple (pyL xs)
  | .ref _ => .none
  | .err _ => .none
def pyL : List D → List PyData
  | [] => []
  | x :: xs => pyD x :: pyL xs
end
mutual
theorem toP_pure {M : Mem} : ∀ (d : D) (n : Nat), pureD d n = true → toP (n + 1) M d = some (pyD d)
  | .non, _, _ => rfl
  | .bl _, _, _ => rfl
  | .int _, _, _ => rfl
  | .str _, _, _ => rfl
  | .tup xs, 0, h => by simp [pureD] at h
  | .tup xs, n + 1, h => by
    have h' : pureL xs n = true := by simpa [pureD] using h
    show (optAll (toP (n + 1) M) xs).map PyData.tuple = _
    rw [toP_pureL xs n h']
    simp [pyD]
  | .ref _, _, h => by simp [pureD] at h
  | .err _, _, h => by simp [pureD] at h
theorem toP_pureL {M : Mem} : ∀ (ds : List D) (n : Nat), pureL ds n = true → optAll (toP (n + 1) M) ds = some (pyL ds)
  | [], _, _ => rfl
  | x :: xs, n, h => by
    have h' : pureD x n = true ∧ pureL xs n = true := by simpa [pureL] using h
    unfold optAll
    rw [toP_pure x n h'.1, toP_pureL xs n h'.2]
    simp [pyL]
end
mutual
theorem lay_pure : ∀ (d : D) (n : Nat), pureD d n = true → (pyD d).canLay0 = true ∧ (pyD d).depth ≤ n
  | .non, _, _ => by simp [pyD, PyData.canLay0, PyData.depth]
  | .bl _, _, _ => by simp [pyD, PyData.canLay0, PyData.depth]
  | .int _, _, _ => by simp [pyD, PyData.canLay0, PyData.depth]
  | .str x, _, h => by
    have h' : PyData.strOk x = true := by simpa [pureD] using h
    simp [pyD, PyData.canLay0, PyData.depth, h']
  | .tup xs, 0, h => by simp [pureD] at h
  | .tup xs, n + 1, h => by
    have h' : pureL xs n = true := by simpa [pureD] using h
    obtain ⟨h1, h2⟩ := lay_pureL xs n h'
    simp [pyD, PyData.canLay0, PyData.depth, h1, h2]
  | .ref _, _, h => by simp [pureD] at h
  | .err _, _, h => by simp [pureD] at h
theorem lay_pureL : ∀ (ds : List D) (n : Nat), pureL ds n = true → PyData.canLayAll0 (pyL ds) = true ∧ PyData.depthAll (pyL ds) ≤ n
  | [], _, _ => by simp [pyL, PyData.canLayAll0, PyData.depthAll]
  | x :: xs, n, h => by
    have h' : pureD x n = true ∧ pureL xs n = true := by simpa [pureL] using h
    obtain ⟨h1, h2⟩ := lay_pure x n h'.1
    obtain ⟨h3, h4⟩ := lay_pureL xs n h'.2
    simp [pyL, PyData.canLayAll0, PyData.depthAll, h1, h3]
    omega
end
theorem toP_mono {M : Mem} {f g : Nat} (h : f ≤ g) : ∀ {d : D} {p : PyData}, toP f M d = some p → toP g M d = some p := by
  induction f generalizing g with
  | zero => intro d p e; cases e
  | succ f ih =>
    intro d p e
    obtain ⟨g, rfl⟩ : ∃ k, g = k + 1 := ⟨g - 1, by omega⟩
    have ihL : ∀ {ds : List D} {ps : List PyData}, optAll (toP f M) ds = some ps → optAll (toP g M) ds = some ps := by
      intro ds
      induction ds with
      | nil => intro ps e; exact e
      | cons x xs ih2 =>
        intro ps e
        unfold optAll at e ⊢
        split at e
        · rename_i y ys h1 h2
          cases e
          rw [ih (by omega) h1, ih2 h2]
        · cases e
    cases d with
    | tup xs =>
      have e' : (optAll (toP f M) xs).map PyData.tuple = some p := e
      cases q : optAll (toP f M) xs with
      | none => rw [q] at e'; cases e'
      | some ps =>
        rw [q] at e'
        show (optAll (toP g M) xs).map PyData.tuple = some p
        rw [ihL q]; exact e'
    | ref n =>
      have e' : (match seqAt M n with | some xs => (optAll (toP f M) xs).map PyData.list | none => none) = some p := e
      show (match seqAt M n with | some xs => (optAll (toP g M) xs).map PyData.list | none => none) = some p
      cases q0 : seqAt M n with
      | none => rw [q0] at e'; cases e'
      | some xs =>
        simp only [q0] at e' ⊢
        cases q : optAll (toP f M) xs with
        | none => rw [q] at e'; cases e'
        | some ps => rw [q] at e'; rw [ihL q]; exact e'
    | _ => exact e
theorem shaped_pure {d : D} {n : Nat} (h : pureD d n = true) (hn : n ≤ 63) : SeqAt.shaped (pyD d) = true := by
  obtain ⟨h1, h2⟩ := lay_pure d n h
  unfold SeqAt.shaped
  rw [h1, Bool.true_and]
  exact decide_eq_true (by omega)
/-- == of data without memory -/
theorem eqD_pure {M : Mem} {a b : D} {n m : Nat} (ha : pureD a n = true) (hb : pureD b m = true) (hn : n ≤ 63) (hm : m ≤ 63) : eqD M a b = some (PyData.eqv (pyD a) (pyD b)) := by
  unfold eqD
  rw [toP_mono (by omega) (toP_pure (M := M) a n ha), toP_mono (by omega) (toP_pure (M := M) b m hb)]
  simp only [shaped_pure ha hn, shaped_pure hb hm, and_self, if_true]
theorem pure_mono : ∀ {d : D} {n m : Nat}, pureD d n = true → n ≤ m → pureD d m = true := by
  have h : ∀ d : D, ∀ n m, n ≤ m → pureD d n = true → pureD d m = true := by
    intro d
    refine D.rec (motive_1 := fun d => ∀ n m, n ≤ m → pureD d n = true → pureD d m = true) (motive_2 := fun ds => ∀ n m, n ≤ m → pureL ds n = true → pureL ds m = true) ?_ ?_ ?_ ?_ ?_ ?_ ?_ ?_ ?_ d
    · intros; simp [pureD]
    · intros; simp [pureD]
    · intros; simp [pureD]
    · intro x n m _ h; simpa [pureD] using h
    · intro xs ih n m hm h
      cases n with
      | zero => simp [pureD] at h
      | succ n =>
        cases m with
        | zero => omega
        | succ m =>
          have h' : pureL xs n = true := by simpa [pureD] using h
          have := ih n m (by omega) h'
          simpa [pureD] using this
    · intro n k m _ h; simp [pureD] at h
    · intro x k m _ h; simp [pureD] at h
    · intros; simp [pureL]
    · intro x xs ih1 ih2 n m hm h
      have h' : pureD x n = true ∧ pureL xs n = true := by simpa [pureL] using h
      simp [pureL, ih1 n m hm h'.1, ih2 n m hm h'.2]
  intro d n m h1 h2
  exact h d n m h2 h1
end TL
end
section
/-! the tree layer: how outcomes are put in a row; memories -/
namespace TL
open PySem PySem.Spec PyProof.Rows L2
section
variable {α β : Type} {env : Env} {M : Mem} {o : Out α}
@[simp] theorem endS_thenS (f : α → Mem → SOut) : endS (thenS env o f) = o.bind fun a M => endS (f a M) := by cases o <;> rfl
@[simp] theorem nextS_thenS (f : α → Mem → SOut) (g : Env → Mem → SOut) : nextS (thenS env o f) g = thenS env o fun a M => nextS (f a M) g := by cases o <;> rfl
@[simp] theorem thenS_bind (f : α → Mem → Out β) (g : β → Mem → SOut) : thenS env (o.bind f) g = thenS env o fun a M => thenS env (f a M) g := by cases o <;> rfl
@[simp] theorem nextS_nextS (s : SOut) (f g : Env → Mem → SOut) : nextS (nextS s f) g = nextS s fun e M => nextS (f e M) g := by cases s <;> rfl
end
/-- all that stood stands -/
def Keep (M M' : Mem) : Prop := M.length ≤ M'.length ∧ ∀ n, n < M.length → M'[n]? = M[n]?
theorem Keep.refl (M : Mem) : Keep M M := ⟨Nat.le_refl _, fun _ _ => rfl⟩
theorem Keep.trans {M M1 M2 : Mem} (a : Keep M M1) (b : Keep M1 M2) : Keep M M2 := ⟨Nat.le_trans a.1 b.1, fun n h => (b.2 n (Nat.lt_of_lt_of_le h a.1)).trans (a.2 n h)⟩
theorem Keep.more (M G : Mem) : Keep M (M ++ G) := ⟨by simp, fun n h => List.getElem?_append_left h⟩
theorem Keep.at {M M' : Mem} (k : Keep M M') {n : Nat} {o : MO} (h : M[n]? = some o) : M'[n]? = some o := (k.2 n (List.getElem?_eq_some_iff.mp h).1).trans h
/-- the last one of a memory changes, all ahead stands -/
theorem Keep.setNew {M M' : Mem} {n : Nat} {o : MO} (k : Keep M M') (h : M.length ≤ n) : Keep M (M'.set n o) :=
  ⟨by rw [List.length_set]; exact k.1, fun m hm => by rw [List.getElem?_set_ne (by omega)]; exact k.2 m hm⟩
theorem at_len (M : Mem) (o : MO) : (M ++ [o])[M.length]? = some o := by simp
theorem lt_of_at {M : Mem} {n : Nat} {o : MO} (h : M[n]? = some o) : n < M.length := (List.getElem?_eq_some_iff.mp h).1
/-- what is walked over a tuple -/
@[simp] theorem srcOf_tup {M : Mem} {xs : List D} : srcOf M (.tup xs) = some ⟨xs, fun _ => True⟩ := rfl
@[simp] theorem srcOf_str {M : Mem} {x : Str} : srcOf M (.str x) = some ⟨strItems x, fun _ => True⟩ := rfl
theorem srcOf_ref {M : Mem} {n : Nat} {xs : List D} (h : seqAt M n = some xs) : srcOf M (.ref n) = some ⟨xs, fun M' => seqAt M' n = some xs⟩ := by
  show (seqAt M n).map _ = _
  rw [h]; rfl
theorem Keep.seq {M M' : Mem} (k : Keep M M') {n : Nat} {xs : List D} (h : seqAt M n = some xs) : seqAt M' n = some xs := by
  unfold seqAt at h ⊢
  cases q : M[n]? with
  | none => rw [q] at h; cases h
  | some o => rw [k.at q]; rw [q] at h; exact h
/-! loops -/
theorem forL_nil {good : Mem → Prop} {g : MG} {b : MS} {env : Env} {M : Mem} (h : good M) : forL good g b [] env M = .next env M := by unfold forL; rw [if_pos h]
theorem forL_cons {good : Mem → Prop} {g : MG} {b : MS} {d : D} {ds : List D} {env env1 : Env} {M : Mem} (h : good M) (hg : g d env = some env1) : forL good g b (d :: ds) env M = nextS (b env1 M) (forL good g b ds) := by
  conv => lhs; unfold forL
  rw [if_pos h, hg]
/-- a loop by its invariant -/
theorem forL_inv {good : Mem → Prop} {g : MG} {b : MS} {Q : SOut → Prop} (Inv : Nat → List D → Env → Mem → Prop) (hgood : ∀ i ds env M, Inv i ds env M → good M)
    (step : ∀ i d ds env M, Inv i (d :: ds) env M → ∃ env1, g d env = some env1 ∧ ((∃ env2 M2, b env1 M = .next env2 M2 ∧ Inv (i + 1) ds env2 M2) ∨ (Q (b env1 M) ∧ ∀ e M', b env1 M ≠ .next e M')))
    (done : ∀ i env M, Inv i [] env M → Q (.next env M)) : ∀ (ds : List D) (i : Nat) (env : Env) (M : Mem), Inv i ds env M → Q (forL good g b ds env M)
  | [], i, env, M, h => by rw [forL_nil (hgood _ _ _ _ h)]; exact done i env M h
  | d :: ds, i, env, M, h => by
    obtain ⟨env1, hg, z⟩ := step i d ds env M h
    rw [forL_cons (hgood _ _ _ _ h) hg]
    rcases z with ⟨env2, M2, e, h2⟩ | ⟨q, ne⟩
    · rw [e]
      exact forL_inv Inv hgood step done ds (i + 1) env2 M2 h2
    · revert q ne
      cases b env1 M with
      | next e M' => exact fun _ ne => absurd rfl (ne e M')
      | ret d M' => exact fun q _ => q
      | exc x e M' => exact fun q _ => q
      | stuck => exact fun q _ => q
theorem compL_nil {good : Mem → Prop} {i n : Nat} {t : MT} {e : ME} {env : Env} {M : Mem} (h : good M) : compL good i t e n env [] M = .ok () M := by unfold compL; rw [if_pos h]
theorem compL_cons {good : Mem → Prop} {i n : Nat} {t : MT} {e : ME} {env : Env} {d : D} {ds : List D} {M : Mem} (h : good M) : compL good i t e n env (d :: ds) M = (t (env.set i (some d)) M).nox.bind fun k M1 => if k = true then (e (env.set i (some d)) M1).nox.bind fun y M2 => match M2[n]? with
        | some (.lst acc) => if acc.length < sizeLine then compL good i t e n env ds (M2.set n (.lst (acc ++ [y]))) else .stuck
        | _ => .stuck
      else compL good i t e n env ds M1 := by
  conv => lhs; unfold compL
  (rw [if_pos h]) <;> rfl
/-- a comprehension whose test and element leave the memory as it is: the items that are kept, each turned -/
theorem compL_pure {good : Mem → Prop} {i : Nat} {t : MT} {e : ME} {env : Env} {M : Mem} (p : D → Bool) (f : D → D) (hg : ∀ ys : List D, good (M ++ [.lst ys])) : ∀ (ds : List D) (acc : List D), acc.length + ds.length ≤ 1000000 →
    (∀ d ∈ ds, ∀ ys : List D, t (env.set i (some d)) (M ++ [.lst ys]) = .ok (p d) (M ++ [.lst ys]) ∧ (p d = true → e (env.set i (some d)) (M ++ [.lst ys]) = .ok (f d) (M ++ [.lst ys]))) →
    compL good i t e M.length env ds (M ++ [.lst acc]) = .ok () (M ++ [.lst (acc ++ (ds.filter p).map f)])
  | [], acc, _, _ => by rw [compL_nil (hg acc)]; simp
  | d :: ds, acc, hl, h => by
    obtain ⟨h1, h2⟩ := h d List.mem_cons_self acc
    rw [compL_cons (hg acc), h1]
    cases q : p d with
    | false =>
      simp only [Out.nox_ok, Out.bind_ok, Bool.false_eq_true, if_false]
      rw [compL_pure p f hg ds acc (by simp at hl; omega) fun d' hd => h d' (List.mem_cons_of_mem _ hd)]
      rw [List.filter_cons_of_neg (by rw [q]; simp)]
    | true =>
      simp only [Out.nox_ok, Out.bind_ok, if_true]
      rw [h2 q]
      simp only [Out.nox_ok, Out.bind_ok, at_len]
      rw [if_pos (by rw [sizeLine_eq]; simp at hl; omega)]
      have e1 : (M ++ [MO.lst acc]).set M.length (.lst (acc ++ [f d])) = M ++ [.lst (acc ++ [f d])] := by simp
      rw [e1, compL_pure p f hg ds (acc ++ [f d]) (by simp at hl ⊢; omega) fun d' hd => h d' (List.mem_cons_of_mem _ hd)]
      rw [List.filter_cons_of_pos q]
      simp
theorem eComp_pure {i : Nat} {s : MI} {t : MT} {e : ME} {env : Env} {M M1 : Mem} {src : Src} (p : D → Bool) (f : D → D) (hs : s env M = .ok src M1) (hg : ∀ ys : List D, src.good (M1 ++ [.lst ys])) (hl : src.items.length ≤ 1000000)
    (h : ∀ d ∈ src.items, ∀ ys : List D, t (env.set i (some d)) (M1 ++ [.lst ys]) = .ok (p d) (M1 ++ [.lst ys]) ∧ (p d = true → e (env.set i (some d)) (M1 ++ [.lst ys]) = .ok (f d) (M1 ++ [.lst ys]))) :
    eComp i s t e env M = .ok (.ref M1.length) (M1 ++ [.lst ((src.items.filter p).map f)]) := by
  show (s env M).bind _ = _
  rw [hs, Out.bind_ok, compL_pure p f hg src.items [] (by simpa using hl) h]
  simp
/-- over a list at a name -/
theorem eComp_list {i j n : Nat} {t : MT} {e : ME} {env : Env} {M : Mem} {xs : List D} (p : D → Bool) (f : D → D) (hj : env[j]? = some (some (.ref n))) (hn : seqAt M n = some xs) (hl : xs.length ≤ 1000000)
    (h : ∀ d ∈ xs, ∀ ys : List D, t (env.set i (some d)) (M ++ [.lst ys]) = .ok (p d) (M ++ [.lst ys]) ∧ (p d = true → e (env.set i (some d)) (M ++ [.lst ys]) = .ok (f d) (M ++ [.lst ys]))) :
    eComp i (iAny (eVar j)) t e env M = .ok (.ref M.length) (M ++ [.lst ((xs.filter p).map f)]) :=
  eComp_pure (src := ⟨xs, fun M' => seqAt M' n = some xs⟩) p f (by simp [hj, srcOf_ref hn]) (fun ys => (Keep.more M _).seq hn) hl h
end TL
end
section
/-! the tree layer: while, lists compared -/
namespace TL
open PySem PySem.Spec PyProof.Rows L2
/-- a while by its invariant, that holds a measure -/
theorem sWhile_inv {t : MT} {b : MS} {Q : SOut → Prop} (Inv : Nat → Env → Mem → Prop)
    (h : ∀ m env M, Inv m env M → ∃ k M1, t env M = .ok k M1 ∧ (k = false → Q (.next env M1)) ∧ (k = true → (∃ env2 M2 m2, b env M1 = .next env2 M2 ∧ Inv m2 env2 M2 ∧ m2 < m) ∨ (Q (b env M1) ∧ ∀ e M', b env M1 ≠ .next e M'))) :
    ∀ (n m : Nat) (env : Env) (M : Mem), Inv m env M → m < n → Q (sWhile n t b env M)
  | 0, _, _, _, _, hn => absurd hn (Nat.not_lt_zero _)
  | n + 1, m, env, M, hi, hn => by
    obtain ⟨k, M1, e, h1, h2⟩ := h m env M hi
    show Q (thenS env (t env M) fun k M1 => if k = true then nextS (b env M1) (sWhile n t b) else .next env M1)
    rw [e, thenS_ok]
    cases k with
    | false => exact h1 rfl
    | true =>
      rw [if_pos rfl]
      rcases h2 rfl with ⟨env2, M2, m2, e2, hi2, hm⟩ | ⟨q, ne⟩
      · rw [e2]
        exact sWhile_inv Inv h n m2 env2 M2 hi2 (by omega)
      · revert q ne
        cases b env M1 with
        | next e M' => exact fun _ ne => absurd rfl (ne e M')
        | ret d M' => exact fun q _ => q
        | exc x e M' => exact fun q _ => q
        | stuck => exact fun q _ => q
theorem toP_ref {M : Mem} {n k : Nat} {xs : List D} (h : seqAt M n = some xs) (hp : pureL xs k = true) : toP (k + 2) M (.ref n) = some (.list (pyL xs)) := by
  show (match seqAt M n with | some xs => (optAll (toP (k + 1) M) xs).map PyData.list | none => none) = _
  rw [h]
  simp only [toP_pureL xs k hp]
  rfl
theorem shaped_list {xs : List D} {k : Nat} (hp : pureL xs k = true) (hk : k ≤ 62) : SeqAt.shaped (.list (pyL xs)) = true := by
  obtain ⟨h1, h2⟩ := lay_pureL xs k hp
  unfold SeqAt.shaped
  have e : (PyData.list (pyL xs)).canLay0 = true := by simpa [PyData.canLay0] using h1
  rw [e, Bool.true_and]
  refine decide_eq_true ?_
  show PyData.depthAll (pyL xs) + 1 ≤ 64
  omega
theorem eqD_ref {M : Mem} {n m k j : Nat} {xs ys : List D} (h1 : seqAt M n = some xs) (h2 : seqAt M m = some ys) (p1 : pureL xs k = true) (p2 : pureL ys j = true) (hk : k ≤ 62) (hj : j ≤ 62) : eqD M (.ref n) (.ref m) = some (PyData.eqvAll (pyL xs) (pyL ys)) := by
  unfold eqD
  rw [toP_mono (by omega) (toP_ref h1 p1), toP_mono (by omega) (toP_ref h2 p2)]
  simp only [shaped_list p1 hk, shaped_list p2 hj, and_self, if_true, PyData.eqv]
theorem eqD_refT {M : Mem} {n k j : Nat} {xs : List D} {d : D} (h1 : seqAt M n = some xs) (p1 : pureL xs k = true) (hk : k ≤ 62) (p2 : pureD d j = true) (hj : j ≤ 62) : eqD M (.ref n) d = some (PyData.eqv (.list (pyL xs)) (pyD d)) := by
  unfold eqD
  rw [toP_mono (by omega) (toP_ref h1 p1), toP_mono (by omega) (toP_pure (M := M) d j p2)]
  simp only [shaped_list p1 hk, shaped_pure p2 (show j ≤ 63 by omega), and_self, if_true]
theorem eqD_Tref {M : Mem} {n k j : Nat} {xs : List D} {d : D} (h1 : seqAt M n = some xs) (p1 : pureL xs k = true) (hk : k ≤ 62) (p2 : pureD d j = true) (hj : j ≤ 62) : eqD M d (.ref n) = some (PyData.eqv (pyD d) (.list (pyL xs))) := by
  unfold eqD
  rw [toP_mono (by omega) (toP_ref h1 p1), toP_mono (by omega) (toP_pure (M := M) d j p2)]
  simp only [shaped_list p1 hk, shaped_pure p2 (show j ≤ 63 by omega), and_self, if_true]
theorem eqvAll_nil {xs : List D} : PyData.eqvAll (pyL xs) (pyL []) = xs.isEmpty := by cases xs <;> simp [pyL, PyData.eqvAll]
/-- xs == [], xs != [] -/
theorem mNe_nil {M : Mem} {n m k : Nat} {xs : List D} (h1 : seqAt M n = some xs) (h2 : seqAt M m = some []) (p1 : pureL xs k = true) (hk : k ≤ 62) : mNe (.ref n) (.ref m) M = some (.bl (!xs.isEmpty), M) := by
  rw [mNe_eq, eqD_ref h1 h2 p1 (show pureL [] 0 = true by simp [pureL]) hk (by omega), eqvAll_nil]; rfl
theorem mEq_nil {M : Mem} {n m k : Nat} {xs : List D} (h1 : seqAt M n = some xs) (h2 : seqAt M m = some []) (p1 : pureL xs k = true) (hk : k ≤ 62) : mEq (.ref n) (.ref m) M = some (.bl xs.isEmpty, M) := by
  rw [mEq_eq, eqD_ref h1 h2 p1 (show pureL [] 0 = true by simp [pureL]) hk (by omega), eqvAll_nil]; rfl
theorem pureL_all {xs : List D} {k : Nat} (h : ∀ x ∈ xs, pureD x k = true) : pureL xs k = true := by
  induction xs with
  | nil => simp [pureL]
  | cons x xs ih => simp [pureL, h x List.mem_cons_self, ih fun y hy => h y (List.mem_cons_of_mem _ hy)]
theorem tyD_list {M : Mem} {n : Nat} {xs : List D} (h : seqAt M n = some xs) : tyD "list" M (.ref n) = true := by
  show (decide ("list" = "list") && (seqAt M n).isSome) = true
  rw [h]; rfl
theorem mExtend_ok {M : Mem} {n m : Nat} {xs ys : List D} (h1 : M[n]? = some (.lst xs)) (h2 : M[m]? = some (.lst ys)) (hl : xs.length + ys.length ≤ 1000000) : mExtend (.ref n) [.ref m] M = some (.non, M.set n (.lst (xs ++ ys))) := by
  show (match M[n]?, M[m]? with | some (.lst xs), some (.lst ys) => if xs.length + ys.length ≤ sizeLine then some (D.non, M.set n (.lst (xs ++ ys))) else none | _, _ => none) = _
  rw [h1, h2]
  exact if_pos (by rw [sizeLine_eq]; omega)
theorem mAppend_ok {M : Mem} {n : Nat} {xs : List D} {y : D} (h1 : M[n]? = some (.lst xs)) (hl : xs.length ≤ 1000000) : mAppend (.ref n) [y] M = some (.non, M.set n (.lst (xs ++ [y]))) := by
  show (match M[n]? with | some (.lst xs) => if xs.length < sizeLine then some (D.non, M.set n (.lst (xs ++ [y]))) else none | _ => none) = _
  rw [h1]
  exact if_pos (by rw [sizeLine_eq]; omega)
theorem mAdd_lists {M : Mem} {n m : Nat} {xs ys : List D} (h1 : M[n]? = some (.lst xs)) (h2 : M[m]? = some (.lst ys)) (hl : xs.length + ys.length ≤ 1000000) : mAdd (.ref n) (.ref m) M = some (.ref M.length, M ++ [.lst (xs ++ ys)]) := by
  rw [mAdd_ref, h1, h2]
  exact if_pos (by rw [sizeLine_eq]; omega)
@[simp] theorem truD_bl {M : Mem} {b : Bool} : truD M (.bl b) = some b := rfl
@[simp] theorem truD_int {M : Mem} {i : Int} : truD M (.int i) = some (i != 0) := rfl
@[simp] theorem truD_non {M : Mem} : truD M .non = some false := rfl
@[simp] theorem mEq_non_int {M : Mem} {i : Int} : mEq .non (.int i) M = some (.bl false, M) := by
  rw [mEq_eq, eqD_pure (n := 0) (m := 0) (by simp [pureD]) (by simp [pureD]) (by decide) (by decide)]; simp [pyD, PyData.eqv]
@[simp] theorem mEq_int_non {M : Mem} {i : Int} : mEq (.int i) .non M = some (.bl false, M) := by
  rw [mEq_eq, eqD_pure (n := 0) (m := 0) (by simp [pureD]) (by simp [pureD]) (by decide) (by decide)]; simp [pyD, PyData.eqv]
@[simp] theorem mEq_bl {M : Mem} {b c : Bool} : mEq (.bl b) (.bl c) M = some (.bl (b == c), M) := by
  rw [mEq_eq, eqD_pure (n := 0) (m := 0) (by simp [pureD]) (by simp [pureD]) (by decide) (by decide)]; simp [pyD, PyData.eqv]
/-- texts are held against one another -/
theorem eqD_str {M : Mem} {x y : Str} : eqD M (.str x) (.str y) = some (decide (x = y)) := by
  unfold eqD
  show (if SeqAt.shaped (.str x) = true ∧ SeqAt.shaped (.str y) = true then some (PyData.eqv (.str x) (.str y)) else strEq (.str x) (.str y)) = _
  split
  · simp only [PyData.eqv]
    rfl
  · rfl
theorem mEq_text {M : Mem} {x y : Str} : mEq (.str x) (.str y) M = some (.bl (decide (x = y)), M) := by rw [mEq_eq, eqD_str]; rfl
theorem mNe_text {M : Mem} {x y : Str} : mNe (.str x) (.str y) M = some (.bl (!decide (x = y)), M) := by rw [mNe_eq, eqD_str]; rfl
end TL
end
section
/-! the tree layer: comprehensions whose elements make new objects -/
namespace TL
open PySem PySem.Spec PyProof.Rows L2
theorem compL_keep {good : Mem → Prop} {i n : Nat} {t : MT} {e : ME} {env : Env} (p : D → Bool) (f : D → D) (M0 : Mem) (hg : ∀ M', Keep M0 M' → good M') (hn : M0.length ≤ n) : ∀ (ds acc : List D) (M : Mem), Keep M0 M → M[n]? = some (.lst acc) → acc.length + ds.length ≤ 1000000 →
    (∀ d ∈ ds, ∀ M', Keep M0 M' → ∃ M1, t (env.set i (some d)) M' = .ok (p d) M1 ∧ Keep M' M1 ∧ (p d = true → ∃ M2, e (env.set i (some d)) M1 = .ok (f d) M2 ∧ Keep M1 M2)) →
    ∃ M2, compL good i t e n env ds M = .ok () M2 ∧ Keep M0 M2 ∧ M2[n]? = some (.lst (acc ++ (ds.filter p).map f))
  | [], acc, M, k, ha, _, _ => ⟨M, compL_nil (hg M k), k, by simpa using ha⟩
  | d :: ds, acc, M, k, ha, hl, h => by
    obtain ⟨M1, e1, k1, h2⟩ := h d List.mem_cons_self M k
    rw [compL_cons (hg M k), e1]
    have k01 := k.trans k1
    cases q : p d with
    | false =>
      simp only [Out.nox_ok, Out.bind_ok, Bool.false_eq_true, if_false]
      obtain ⟨M2, e2, k2, a2⟩ := compL_keep p f M0 hg hn ds acc M1 k01 (k1.at ha) (by simp at hl; omega) fun d' hd => h d' (List.mem_cons_of_mem _ hd)
      exact ⟨M2, e2, k2, by rw [List.filter_cons_of_neg (by rw [q]; simp)]; exact a2⟩
    | true =>
      obtain ⟨M2, e2, k2⟩ := h2 q
      simp only [Out.nox_ok, Out.bind_ok, if_true, e2]
      have a2 := k2.at (k1.at ha)
      simp only [a2]
      rw [if_pos (by rw [sizeLine_eq]; simp at hl; omega)]
      obtain ⟨M3, e3, k3, a3⟩ := compL_keep p f M0 hg hn ds (acc ++ [f d]) (M2.set n (.lst (acc ++ [f d]))) ((k01.trans k2).setNew hn) (List.getElem?_set_self (lt_of_at a2)) (by simp at hl ⊢; omega) fun d' hd => h d' (List.mem_cons_of_mem _ hd)
      refine ⟨M3, e3, k3, ?_⟩
      rw [List.filter_cons_of_pos q]
      simpa using a3
theorem eComp_keep {i : Nat} {s : MI} {t : MT} {e : ME} {env : Env} {M M1 : Mem} {src : Src} (p : D → Bool) (f : D → D) (hs : s env M = .ok src M1) (hg : ∀ M', Keep M1 M' → src.good M') (hl : src.items.length ≤ 1000000)
    (h : ∀ d ∈ src.items, ∀ M', Keep M1 M' → ∃ M2, t (env.set i (some d)) M' = .ok (p d) M2 ∧ Keep M' M2 ∧ (p d = true → ∃ M3, e (env.set i (some d)) M2 = .ok (f d) M3 ∧ Keep M2 M3)) :
    ∃ M2, eComp i s t e env M = .ok (.ref M1.length) M2 ∧ Keep M1 M2 ∧ M2[M1.length]? = some (.lst ((src.items.filter p).map f)) := by
  obtain ⟨M2, e2, k2, a2⟩ := compL_keep (n := M1.length) p f M1 hg (Nat.le_refl _) src.items [] (M1 ++ [.lst []]) (Keep.more _ _) (at_len _ _) (by simpa using hl) h
  refine ⟨M2, ?_, k2, by simpa using a2⟩
  show (s env M).bind _ = _
  rw [hs, Out.bind_ok, e2]
  rfl
/-- without a test -/
theorem eComp_keepY {i : Nat} {s : MI} {e : ME} {env : Env} {M M1 : Mem} {src : Src} (f : D → D) (hs : s env M = .ok src M1) (hg : ∀ M', Keep M1 M' → src.good M') (hl : src.items.length ≤ 1000000)
    (h : ∀ d ∈ src.items, ∀ M', Keep M1 M' → ∃ M3, e (env.set i (some d)) M' = .ok (f d) M3 ∧ Keep M' M3) :
    ∃ M2, eComp i s tYesD e env M = .ok (.ref M1.length) M2 ∧ Keep M1 M2 ∧ M2[M1.length]? = some (.lst (src.items.map f)) := by
  obtain ⟨M2, e2, k2, a2⟩ := eComp_keep (t := tYesD) (e := e) (i := i) (fun _ => true) f hs hg hl fun d hd M' k => ⟨M', rfl, Keep.refl _, fun _ => h d hd M' k⟩
  refine ⟨M2, e2, k2, ?_⟩
  rw [List.filter_eq_self.mpr (fun _ _ => rfl)] at a2
  exact a2
theorem mem_rng {lo : Int} {n : Nat} {d : D} (h : d ∈ rngItems lo n) : ∃ k : Nat, k < n ∧ d = .int (lo + k) := by
  obtain ⟨k, hk, rfl⟩ := List.mem_map.mp h
  exact ⟨k, List.mem_range.mp hk, rfl⟩
theorem rng_length {lo : Int} {n : Nat} : (rngItems lo n).length = n := by simp [rngItems]
/-- False not in a list of Trues -/
theorem inF_trues : ∀ {xs : List D}, (∀ x ∈ xs, x = .bl true) → inF (.bl false) xs = false ∧ xs.all flatD = true
  | [], _ => ⟨rfl, rfl⟩
  | x :: xs, h => by
    obtain ⟨h1, h2⟩ := inF_trues (xs := xs) fun y hy => h y (List.mem_cons_of_mem _ hy)
    have := h x List.mem_cons_self
    subst this
    refine ⟨?_, by rw [List.all_cons, h2]; rfl⟩
    show (eqF (.bl true) (.bl false) || xs.any fun y => eqF y (.bl false)) = false
    rw [show (xs.any fun y => eqF y (.bl false)) = false from h1]
    rfl
theorem mNotIn_trues {M : Mem} {n : Nat} {xs : List D} (hn : seqAt M n = some xs) (h : ∀ x ∈ xs, x = .bl true) : mNotIn (.bl false) (.ref n) M = some (.bl true, M) := by
  obtain ⟨h1, h2⟩ := inF_trues h
  show (inD M (.bl false) (.ref n)).map _ = _
  have e : inD M (.bl false) (.ref n) = some false := by
    show (match seqAt M n with | some xs => if flatD (.bl false) = true ∧ xs.all flatD = true then some (inF (.bl false) xs) else none | none => none) = _
    rw [hn]
    simp only [h2, h1, flatD, and_self, if_true]
  rw [e]; rfl
/-- what _law_alike goes through: tuples of whole numbers and truths -/
def niceD : Nat → D → Bool
  | _, .int _ => true
  | _, .bl _ => true
  | n + 1, .tup xs => decide (xs.length ≤ 1000) && xs.all (niceD n)
  | _, _ => false
end TL
end
section
/-! the tree layer: what is never reached; tuple(range ..), list(range ..) -/
namespace TL
open PySem PySem.Spec PyProof.Rows L2
/-- a statement that is never reached -/
def sStk : MS := fun _ _ => .stuck
theorem ds_stk {X : Cx} {W : WX} {s : Stmt} : PS X s (LS X.K W sStk) := ⟨fun pins s σ H En I h => by
  obtain ⟨ι, env, M, S, R, h⟩ := h
  exact h.elim⟩
end TL
namespace TL
open PySem PySem.Spec PyProof.Rows L2
open Classical in
noncomputable def eTupRg1 (e : ME) : ME := fun env M => (e env M).bind fun d M1 => kInt d fun j => if RgOk 0 j then .ok (.tup (rngItems 0 j.toNat)) M1 else .stuck
open Classical in
noncomputable def eLstRg1 (e : ME) : ME := fun env M => (e env M).bind fun d M1 => kInt d fun j => if RgOk 0 j then .ok (.ref M1.length) (M1 ++ [.lst (rngItems 0 j.toNat)]) else .stuck
open Classical in
noncomputable def eTupRg2 (a b : ME) : ME := fun env M => (a env M).bind fun d M1 => (b env M1).bind fun d2 M2 => kInt d fun i => kInt d2 fun j => if RgOk i j then .ok (.tup (rngItems i (j - i).toNat)) M2 else .stuck
open Classical in
noncomputable def eLstRg2 (a b : ME) : ME := fun env M => (a env M).bind fun d M1 => (b env M1).bind fun d2 M2 => kInt d fun i => kInt d2 fun j => if RgOk i j then .ok (.ref M2.length) (M2 ++ [.lst (rngItems i (j - i).toNat)]) else .stuck
theorem rpa_rg {K : PySem.W.Frag} {ι : List Addr} {H : Hp} (a b : Int) : RpA K ι H (rngItems a (b - a).toNat) (rgV a b) := by
  unfold rngItems rgV
  generalize List.range (b - a).toNat = l
  induction l with
  | nil => exact .nil
  | cons i l ih => exact .cons (.int _) ih
section
variable {X : Cx} {W : WX} {a b : Expr} {ma mb : ME} {p p2 pos pos2 : Pos}
theorem d_tupRg1 (hc : X.calm = true) (hm : X.mg "range" = none) (hmt : X.mg "tuple" = none) (ha : PE X a (LE X.K W ma)) (hg : Gl X "range" := by rfl) (hgt : Gl X "tuple" := by rfl) (na : starEach [a] X.env = (false, eval a X.env) :: starEach [] X.env := by rfl)
    (nr : starEach [.Call (.Name "range" p) [a] [] pos] X.env = (false, eval (.Call (.Name "range" p) [a] [] pos) X.env) :: starEach [] X.env := by rfl) :
    PE X (.Call (.Name "tuple" p2) [.Call (.Name "range" p) [a] [] pos] [] pos2) (LE X.K W (eTupRg1 ma)) :=
  (pe_tupRg hc hgt hmt (prg_1 hg hm ha na) nr).imp fun σ H Q ⟨ι, env, M, S, R, h⟩ => ⟨ι, env, M, S, R, (OutP.bind h).imp fun d M1 ι1 H1 e1 S1 h1 v rv => by
    obtain ⟨j, rfl, h2⟩ := kInt_inv h1
    cases rv.int_inv
    split at h2
    · rename_i c
      refine ⟨j, rfl, c, ?_⟩
      have e : j.toNat = (j - 0).toNat := by rw [Int.sub_zero]
      rw [e] at h2
      exact OpO.newTup S1 h2 (rpa_rg 0 j)
    · exact h2.elim⟩
theorem d_lstRg1 (hc : X.calm = true) (hm : X.mg "range" = none) (hmt : X.mg "list" = none) (ha : PE X a (LE X.K W ma)) (hg : Gl X "range" := by rfl) (hgt : Gl X "list" := by rfl) (na : starEach [a] X.env = (false, eval a X.env) :: starEach [] X.env := by rfl)
    (nr : starEach [.Call (.Name "range" p) [a] [] pos] X.env = (false, eval (.Call (.Name "range" p) [a] [] pos) X.env) :: starEach [] X.env := by rfl) :
    PE X (.Call (.Name "list" p2) [.Call (.Name "range" p) [a] [] pos] [] pos2) (LE X.K W (eLstRg1 ma)) :=
  (pe_listRg hc hgt hmt (prg_1 hg hm ha na) nr).imp fun σ H Q ⟨ι, env, M, S, R, h⟩ => ⟨ι, env, M, S, R, (OutP.bind h).imp fun d M1 ι1 H1 e1 S1 h1 v rv => by
    obtain ⟨j, rfl, h2⟩ := kInt_inv h1
    cases rv.int_inv
    split at h2
    · rename_i c
      refine ⟨j, rfl, c, ?_⟩
      have e : j.toNat = (j - 0).toNat := by rw [Int.sub_zero]
      rw [e] at h2
      exact OpO.newLst S1 h2 (rpa_rg 0 j)
    · exact h2.elim⟩
theorem d_tupRg2 (hc : X.calm = true) (hm : X.mg "range" = none) (hmt : X.mg "tuple" = none) (ha : PE X a (LE X.K W ma)) (hb : PE X b (LE X.K W mb)) (hg : Gl X "range" := by rfl) (hgt : Gl X "tuple" := by rfl) (na : starEach [a, b] X.env = (false, eval a X.env) :: starEach [b] X.env := by rfl) (nb : starEach [b] X.env = (false, eval b X.env) :: starEach [] X.env := by rfl) (hp : (backTo pos (starEach [b] X.env)).any (·.1) = false := by rfl)
    (nr : starEach [.Call (.Name "range" p) [a, b] [] pos] X.env = (false, eval (.Call (.Name "range" p) [a, b] [] pos) X.env) :: starEach [] X.env := by rfl) :
    PE X (.Call (.Name "tuple" p2) [.Call (.Name "range" p) [a, b] [] pos] [] pos2) (LE X.K W (eTupRg2 ma mb)) :=
  (pe_tupRg hc hgt hmt (prg_2 hg hm ha hb na nb hp) nr).imp fun σ H Q ⟨ι, env, M, S, R, h⟩ => ⟨ι, env, M, S, R, (OutP.bind h).imp fun d M1 ι1 H1 e1 S1 h1 v rv => ⟨ι1, env, M1, S1, R.ext e1, (OutP.bind h1).imp fun d2 M2 ι2 H2 e2 S2 h2 u ru => by
    obtain ⟨i, rfl, h3⟩ := kInt_inv h2
    obtain ⟨j, rfl, h4⟩ := kInt_inv h3
    cases rv.int_inv
    cases ru.int_inv
    split at h4
    · rename_i c
      exact ⟨i, j, rfl, rfl, c, OpO.newTup S2 h4 (rpa_rg i j)⟩
    · exact h4.elim⟩⟩
theorem d_lstRg2 (hc : X.calm = true) (hm : X.mg "range" = none) (hmt : X.mg "list" = none) (ha : PE X a (LE X.K W ma)) (hb : PE X b (LE X.K W mb)) (hg : Gl X "range" := by rfl) (hgt : Gl X "list" := by rfl) (na : starEach [a, b] X.env = (false, eval a X.env) :: starEach [b] X.env := by rfl) (nb : starEach [b] X.env = (false, eval b X.env) :: starEach [] X.env := by rfl) (hp : (backTo pos (starEach [b] X.env)).any (·.1) = false := by rfl)
    (nr : starEach [.Call (.Name "range" p) [a, b] [] pos] X.env = (false, eval (.Call (.Name "range" p) [a, b] [] pos) X.env) :: starEach [] X.env := by rfl) :
    PE X (.Call (.Name "list" p2) [.Call (.Name "range" p) [a, b] [] pos] [] pos2) (LE X.K W (eLstRg2 ma mb)) :=
  (pe_listRg hc hgt hmt (prg_2 hg hm ha hb na nb hp) nr).imp fun σ H Q ⟨ι, env, M, S, R, h⟩ => ⟨ι, env, M, S, R, (OutP.bind h).imp fun d M1 ι1 H1 e1 S1 h1 v rv => ⟨ι1, env, M1, S1, R.ext e1, (OutP.bind h1).imp fun d2 M2 ι2 H2 e2 S2 h2 u ru => by
    obtain ⟨i, rfl, h3⟩ := kInt_inv h2
    obtain ⟨j, rfl, h4⟩ := kInt_inv h3
    cases rv.int_inv
    cases ru.int_inv
    split at h4
    · rename_i c
      exact ⟨i, j, rfl, rfl, c, OpO.newLst S2 h4 (rpa_rg i j)⟩
    · exact h4.elim⟩⟩
end
end TL
end
section
set_option maxHeartbeats 4000000
/-! the tree layer: exceptions of own classes -/
namespace TL
open PySem PySem.Spec PyProof.Rows L2

/-! ### raise -/
def sRaise (c : Str) : MS := fun env M => .exc ⟨c, none⟩ env M
/-- an own class without own __init__ -/
structure ExF (K : PySem.W.Frag) (mg : Str → Option Value) (c : Str) : Prop where
  g : mg c = some (.ref (He.ga K c))
  ex : PySem.W.excIn K (He.ga K c) He.veBase "ValueError.__new__" = true
  k : PySem.W.keepIn K (.ref (He.ga K c)) = true
  s : PySem.W.subIn K (.ref (He.ga K c)) (.type "BaseException") = some true
  t : PySem.W.typeIn K (.ref (He.ga K c)) = some (.type "type")
section
variable {X : Cx} {W : WX} {k : Nat} {c m : Str} {j : Nat} {p p2 pos pos2 : Pos}
theorem ds_raise (C : Ctx X W k) (F : ExF X.K X.mg c) (hg : Gl X c := by rfl) (hdb : (c == ("__debug__" : Str)) = false := by decide) :
    PS X (.Raise (some (.Call (.Name c p) [.Constant (.str m) j p2] [] pos)) none pos2) (LS X.K W (sRaise c)) :=
  (L2N.ps_raise C.calm C.tk (L2N.pmk_own PySem.F.excBase_ValueError F.ex F.g F.k (raises_own F.s F.t) hg hdb)).imp fun En σ H ⟨ι, env, M, S, R, h⟩ => h ι σ H _ _ Ext.refl S R ⟨rfl, .inl ⟨rfl, rfl⟩⟩
end

/-! ### the exception that was caught, tracked -/
/-- where a suite stands: the exception at a is being handled, and is tracked as itself -/
abbrev Cx.suiteT (X : Cx) (a : Addr) (pn : List (Addr × Obj)) : Cx := { X with A := X.A.mark (some (.ref a)), calm := false, pn := pn, xe := fun _ _ => False }
theorem errO_ok {P : Program} {w : World} {H : Hp} {h : Heap} {a : Addr} {oe : Obj} (e : h.get? a = some oe) : ObjOk P w H h a (errO oe) := ⟨e, trivial, ⟨_, e⟩, fun _ _ _ _ => trivial⟩
section
variable {X : Cx} {pins : List (Addr × Obj)} {σ : L2.St} {H : Hp} {s : Shared}
/-- an untracked object, younger than the def's call, is tracked from now on as itself -/
theorem Inv.adopt (I : Inv X pins σ H s) {a : Addr} {oe : Obj} {vs : Array Value} (young : ∀ o, X.s_0.heap.get? a ≠ some o) (apart : ∀ p ∈ X.pn ++ pins, p.1 ≠ a) (ha : s.heap.get? a = some oe) (hd : oe.data = .fields vs) (na : H a = none) (frame : a ≠ X.env.locals) :
    Inv X pins σ (upd H a (errO oe)) s := by
  have other : ∀ {b : Addr} {o : HO}, H b = some o → upd H a (errO oe) b = some o := fun {b o} e => by rw [upd_ne (ne_of_none e na)]; exact e
  have off : ∀ {b : Addr}, b ≠ a → H b = none → upd H a (errO oe) b = none := fun hb e => by rw [upd_ne hb]; exact e
  exact
    { ok := I.ok, os := I.os, bare := I.bare, loc := I.loc, cell := I.cell, len := I.len
      base :=
        { keep := I.base.keep, slot := I.base.slot, there := I.base.there
          free := fun b o e n hx => off (fun z => young o (z ▸ e)) (I.base.free b o e n hx)
          tups := fun b xs e => other (I.base.tups b xs e)
          frzs := fun b o u e => other (I.base.frzs b o u e)
          tbls := fun b ps e => (I.base.tbls b ps e).imp fun _ z => other z }
      free := off (Ne.symm frame) I.free
      freeC := fun x c e => off (fun z => by
        obtain ⟨v, o, e1, e2⟩ := I.cell x c e
        rw [z, ha] at e1
        cases e1
        rw [hd] at e2
        cases e2) (I.freeC x c e)
      pin := fun p hp => ⟨(I.pin p hp).1, off (apart p hp) (I.pin p hp).2.1, (I.pin p hp).2.2⟩
      hok := fun b o e => by
        by_cases hb : b = a
        · subst hb
          rw [upd_same] at e
          cases e
          exact errO_ok ha
        · rw [upd_ne hb] at e
          exact (I.hok b o e).stay (fun _ _ _ q => q) (fun c hc => other hc) fun c xs hc => other hc }
/-- into the suite -/
theorem Inv.goSuite (I : Inv X pins σ H s) (a : Addr) : Inv (Cx.suiteT X a (X.pn ++ pins)) [] σ H s :=
  { ok := I.ok.suite a _, os := I.os, bare := I.bare, base := I.base, loc := I.loc, cell := I.cell, free := I.free, freeC := I.freeC, hok := I.hok, len := I.len
    pin := fun p hp => I.pin p (List.append_nil (X.pn ++ pins) ▸ hp) }
/-- out of the suite -/
theorem Inv.goOut {a : Addr} {pn' : List (Addr × Obj)} (ok : X.Ok) (I : Inv (Cx.suiteT X a (X.pn ++ pins)) pn' σ H s) : Inv X pins σ H s :=
  { ok := ok, os := I.os, bare := I.bare, base := I.base, loc := I.loc, cell := I.cell, free := I.free, freeC := I.freeC, hok := I.hok, len := I.len
    pin := fun p hp => I.pin p (List.mem_append.mpr (.inl hp)) }
end
/-- an exception has come down at a in the frame of X: what is so of the state, the record of its way in whatever form -/
structure Down (X : Cx) (pins : List (Addr × Obj)) (σ : L2.St) (H : Hp) (a : Addr) (cls : Value) (d : Option Addr) (B : Heap) (s : Shared) (h : Heap) : Prop where
  fl : HandSPX.FlyingZ B (X.env :: X.outer) a (L2N.Zn cls d) h
  inv : ∀ g, HandSPX.FlyingZ B (X.env :: X.outer) a (L2N.Zn cls d) g → h.UpToSlots g → Inv X pins σ H { s with heap := g }
  up : ∀ g, HandSPX.HeldZ B (X.env :: X.outer) a (L2N.Zn cls d) X.env.locals g → h.UpToSlots g → ∀ W : WX, W cls d σ H → L2N.XE X W (.ref a) { s with heap := g }
  free : H a = none
  young : ∀ o, X.s_0.heap.get? a ≠ some o
  apart : ∀ p ∈ X.pn ++ pins, p.1 ≠ a
  frame : a ≠ X.env.locals
section
variable {X : Cx} {pins : List (Addr × Obj)} {σ : L2.St} {H : Hp} {a : Addr} {cls : Value} {d : Option Addr} {B : Heap} {s : Shared} {h g : Heap}
theorem Down.move (D : Down X pins σ H a cls d B s h) (fl : HandSPX.FlyingZ B (X.env :: X.outer) a (L2N.Zn cls d) g) (u : h.UpToSlots g) : Down X pins σ H a cls d B s g :=
  { D with fl := fl, inv := fun g' f' u' => D.inv g' f' (u.trans u'), up := fun g' f' u' => D.up g' f' (u.trans u') }
theorem Down.here (D : Down X pins σ H a cls d B s h) : Inv X pins σ H { s with heap := h } := D.inv h D.fl (Heap.UpToSlots.refl h)
/-- the suite begins: the exception is tracked -/
theorem Down.suite (D : Down X pins σ H a cls d B s h) : ∃ oe : Obj, L2N.Zn cls d oe ∧ (∃ vs, oe.data = .fields vs) ∧ Inv (Cx.suiteT X a (X.pn ++ pins)) [] σ (upd H a (errO oe)) { s with heap := h } := by
  obtain ⟨oe, vs, at_, z, dt⟩ := D.fl.there
  exact ⟨oe, z, ⟨vs, dt⟩, Inv.goSuite (Inv.adopt D.here D.young D.apart at_ dt D.free D.frame) a⟩
/-- the clause's class is read -/
theorem Down.reads {x : Str} {c : Value} {np : Pos} (D : Down X pins σ H a cls d B s h) (hc : Names X x c) {Q : Value → Shared → Prop} {E : Value → Shared → Prop} (q : Q c { s with heap := h }) :
    wpAny (model X.prog X.w) (X.A.mark (some (.ref a))) (eval (.Name x np) X.env) Q E { s with heap := h } := by
  have I : Inv (Cx.suiteT X a (X.pn ++ pins)) [] σ H { s with heap := h } := Inv.goSuite D.here a
  obtain ⟨g, nd, m | ⟨m, v, nn⟩⟩ := hc
  · exact ld_glob I g m q nd
  · exact ld_blt I g m v q nn nd
/-- the clause's class is held against it -/
theorem Down.fits {c : Value} {b : Bool} (D : Down X pins σ H a cls d B s h) (e : PySem.W.exmOne X.K cls c = some b) : PySem.W.Looks (model X.prog X.w) h (excMatches (.ref a) c) b := by
  obtain ⟨oe, vs, at_, z, dt⟩ := D.fl.there
  refine PySem.W.exm_one D.here.kIn ?_ e
  intro A Q E s1 k q
  exact wpAny_typeOf_ref (k _ _ at_) (z.1 ▸ q)
/-- no clause takes it: it goes on -/
theorem Down.on {W : WX} {Q : Flow → Shared → Prop} (D : Down X pins σ H a cls d B s h) (hf : X.env.frame = some X.env.locals) (tk : L2N.Takes X W) (w : W cls d σ H) :
    wpAny (model X.prog X.w) X.A (handleBy (.ref a) X.env []) Q X.xe { s with heap := h } := by
  obtain ⟨_, _, _, oe, vs, T, _, _, at_, _, dt, v1, _⟩ := D.fl
  have last : wpAny (model X.prog X.w) X.A (setFlight (.ref a) X.env.frame) (fun _ t => wpAny (model X.prog X.w) X.A (throw (.ref a) : Sem Flow) Q X.xe t) X.xe { s with heap := h } := by
    rw [hf]
    exact HandSPX.setFlight_upZ D.fl fun g hg ug => wpAny_throw (tk _ _ (D.up g hg ug W w))
  apply wpAny_handleBy_nil
  show wpAny _ _ (PySem.passOn _ _ _) _ _ _
  unfold PySem.passOn
  apply wpAny_bind
  refine wpAny_field at_ dt v1 ?_
  rw [if_neg (by simp)]
  first
    | exact wpAny_bind last
    | exact wpAny_bind (wpAny_pure (wpAny_bind last))
end
/-- what was raised in the body of a try, where it is caught -/
theorem caught {X : Cx} {pins : List (Addr × Obj)} {W : WX} {u : Value} {s : Shared} {xe : Value → Shared → Prop} {Q : Unit → Shared → Prop} {E : Value → Shared → Prop} (ok : X.Ok) (hex : X.ex = []) (hs : X.stack = X.env :: X.outer) (hf : X.env.frame = some X.env.locals)
    (x : L2N.XE (X.tr (X.pn ++ pins) xe) W u s) (go : ∀ (a : Addr) (cls : Value) (d : Option Addr) (B : Heap) (σ : L2.St) (H : Hp) (h : Heap), u = .ref a → W cls d σ H → Down X pins σ H a cls d B s h → Q () { s with heap := h }) :
    wpAny (model X.prog X.w) X.A (noteFrame u X.env) (fun _ t => wpAny (model X.prog X.w) X.A (setFlight u none) Q E t) E s := by
  obtain ⟨a, B, s1, pn1, σ1, H1, cls, d, rfl, I1, ground, up1, sky, free, os1, bare1, w1⟩ := x
  have I : Inv X pins σ1 H1 s1 := I1.ofTry ok
  have fr : X.A.frames = some (X.env :: X.outer) := hs ▸ ok.frames
  have sk : Sky B (X.env :: X.outer) a (L2N.Zn cls d) X.env.locals s.heap := hs ▸ sky
  refine L2N.Sky.land L2N.Zn.steady fr hf sk fun h fl up2 => go a cls d B σ1 H1 h rfl w1 ?_
  have inv : ∀ g, HandSPX.FlyingZ B (X.env :: X.outer) a (L2N.Zn cls d) g → h.UpToSlots g → Inv X pins σ1 H1 { s with heap := g } := fun g fg ug => I.landed ground fg.1 ((up1.trans up2).trans ug) os1 bare1
  obtain ⟨oe, vs, at_, _, dt⟩ := fl.there
  have noFrame : a ∉ frs (X.env :: X.outer) := by
    intro m
    obtain ⟨_, o, e, nf⟩ := fl.2.2.1.mem m
    rw [at_] at e
    cases e
    exact nf _ dt
  have nL : a ≠ X.env.locals := fun z => noFrame (List.mem_filterMap.mpr ⟨X.env, List.mem_cons_self, z ▸ hf⟩)
  have old : ∀ b o, s1.heap.get? b = some o → b ∉ frs (X.env :: X.outer) → b ≠ a := by
    intro b o e nb z
    have e2 := ground b o e (hs ▸ nb)
    rw [z, fl.2.1] at e2
    cases e2
  refine { fl := fl, inv := inv, free := free, frame := nL, up := fun g fg ug V v => ?_, young := fun o e => ?_, apart := fun p hp => ?_ }
  · exact ⟨a, B, s1, pins, σ1, H1, cls, d, rfl, I, ground, (up1.trans up2).trans ug, .inr (.inr (hs ▸ fg)), free, os1, bare1, v⟩
  · obtain ⟨o1, e1⟩ := I.base.there a o e (hex ▸ List.not_mem_nil)
    exact old a o1 e1 noFrame rfl
  · obtain ⟨e1, _, n1, n2, _⟩ := I.pin p hp
    refine old p.1 p.2 e1 fun m => ?_
    exact (List.mem_cons.mp (I.stkSub p.1 (hs ▸ m))).elim n1 n2
/-! ### try: body, clauses -/
/-- a clause: its class, its slot, its suite -/
structure Hd where
  c : Value
  slot : Option Nat
  ts : TS
def setO (σ : L2.St) (i : Option Nat) (v : Option V) : L2.St := match i with
  | some i => σ.set i v
  | none => σ
/-- behind a suite its name goes -/
def goneD (D : Ends) (i : Option Nat) : Ends := { nx := fun σ H => D.nx (setO σ i none) H, rt := D.rt, bk := fun σ H => D.bk (setO σ i none) H, ct := fun σ H => D.ct (setO σ i none) H }
def wHds (K : PySem.W.Frag) (Wout : WX) (D : Ends) : List Hd → WX
  | [] => Wout
  | hd :: r => fun cls d σ H => ∃ b, PySem.W.exmOne K cls hd.c = some b ∧
    (b = true → ∀ (a : Addr) (oe : Obj), H a = none → L2N.Zn cls d oe → (∃ vs, oe.data = .fields vs) → hd.ts (goneD D hd.slot) (setO σ hd.slot (some (.ref a))) (upd H a (errO oe))) ∧
    (b = false → wHds K Wout D r cls d σ H)
inductive HdsT (X : Cx) : List ExceptHandler → List Hd → Prop
  | nil : HdsT X [] []
  | one {x : Str} {c : Value} {ts : TS} {b0 : Stmt} {su : List Stmt} {np pos' : Pos} {hds : List ExceptHandler} {l : List Hd} (hc : Names X x c)
      (hsu : ∀ (a : Addr) (pn : List (Addr × Obj)), PSs (Cx.suiteT X a pn) (b0 :: su) ts) (r : HdsT X hds l) :
      HdsT X (.ExceptHandler (some (.Name x np)) none (b0 :: su) pos' :: hds) (⟨c, none, ts⟩ :: l)
  | as {x n : Str} {i : Nat} {c : Value} {ts : TS} {b0 : Stmt} {su : List Stmt} {np pos' : Pos} {hds : List ExceptHandler} {l : List Hd} (hc : Names X x c) (hi : X.N[i]? = some n) (hln : X.env.kindOf n = some .local)
      (hsu : ∀ (a : Addr) (pn : List (Addr × Obj)), PSs (Cx.suiteT X a pn) (b0 :: su) ts) (r : HdsT X hds l) :
      HdsT X (.ExceptHandler (some (.Name x np)) (some n) (b0 :: su) pos' :: hds) (⟨c, some i, ts⟩ :: l)
section
variable {X : Cx} {pins : List (Addr × Obj)} {D : Ends}
/-- how a suite's end is the try's end, where nothing is to be undone -/
theorem end_plain {a : Addr} {f : Flow} {s : Shared} (ok : X.Ok) (e : SP (Cx.suiteT X a (X.pn ++ pins)) [] (goneD D none) f s) : SP X pins D f s := by
  cases f with
  | ret u => exact e.imp fun _ e => e.imp fun _ e => e.imp fun _ e => ⟨Inv.goOut ok e.1, e.2⟩
  | next => exact e.imp fun _ e => e.imp fun _ e => ⟨Inv.goOut ok e.1, e.2⟩
  | brk => exact e.imp fun _ e => e.imp fun _ e => ⟨Inv.goOut ok e.1, e.2⟩
  | cont => exact e.imp fun _ e => e.imp fun _ e => ⟨Inv.goOut ok e.1, e.2⟩
/-- .. where the name goes -/
theorem end_named {a : Addr} {i : Nat} {n : Str} {pos : Pos} {f : Flow} {s : Shared} {E : Value → Shared → Prop} (ok : X.Ok) (hN : X.N.Nodup) (hi : X.N[i]? = some n) (hln : X.env.kindOf n = some .local)
    (e : SP (Cx.suiteT X a (X.pn ++ pins)) [] (goneD D (some i)) f s) : wpAny (model X.prog X.w) X.A (do bindName X.env n .none; unbindBehindTheSuite X.env n pos) (fun _ t => SP X pins D f t) E s := by
  cases f with
  | ret u =>
    obtain ⟨v, σ, H, I, r, q⟩ := e
    exact gone_ok (Inv.goOut ok I) hN hi hln fun t J => ⟨v, _, H, J, r, q⟩
  | next =>
    obtain ⟨σ, H, I, q⟩ := e
    exact gone_ok (Inv.goOut ok I) hN hi hln fun t J => ⟨_, H, J, q⟩
  | brk =>
    obtain ⟨σ, H, I, q⟩ := e
    exact gone_ok (Inv.goOut ok I) hN hi hln fun t J => ⟨_, H, J, q⟩
  | cont =>
    obtain ⟨σ, H, I, q⟩ := e
    exact gone_ok (Inv.goOut ok I) hN hi hln fun t J => ⟨_, H, J, q⟩
/-- the clauses, one after the other -/
theorem clauses {Wout : WX} {σ : L2.St} {H : Hp} {a : Addr} {cls : Value} {d : Option Addr} {B : Heap} {s : Shared} {h : Heap} (ok : X.Ok) (hf : X.env.frame = some X.env.locals) (hN : X.N.Nodup) (tk : L2N.Takes X Wout) (Dn : Down X pins σ H a cls d B s h) :
    ∀ {hds : List ExceptHandler} {l : List Hd}, HdsT X hds l → wHds X.K Wout D l cls d σ H → wpAny (model X.prog X.w) X.A (handleBy (.ref a) X.env hds) (SP X pins D) X.xe { s with heap := h }
  | _, _, .nil, w => Dn.on hf tk w
  | _, _, .one hc hsu r, ⟨b, e, yes, no⟩ => by
    apply wpAny_handleBy_cons (h := codeAny_handlers_test (Dn.reads hc ((Dn.fits e).here ?_)))
    · exact fun q => by cases q
    cases b with
    | false => exact clauses ok hf hN tk Dn r (no rfl)
    | true =>
      apply codeAny_handlers_suite
      refine HandSPX.lands_againZ Dn.fl fun g fg ug => ?_
      obtain ⟨oe, z, dt, I⟩ := (Dn.move fg ug).suite
      exact wpAny_mono ((hsu a _).run _ _ _ _ _ I (yes rfl a oe Dn.free z dt)) (fun f t e => end_plain ok e) fun _ _ z => z.elim
  | _, _, .as hc hi hln hsu r, ⟨b, e, yes, no⟩ => by
    apply wpAny_handleBy_cons (h := codeAny_handlers_test (Dn.reads hc ((Dn.fits e).here ?_)))
    · exact fun q => by cases q
    cases b with
    | false => exact clauses ok hf hN tk Dn r (no rfl)
    | true =>
      apply codeAny_handlers_suite_as
      refine HandSPX.lands_againZ Dn.fl fun g fg ug => ?_
      obtain ⟨oe, z, dt, I⟩ := (Dn.move fg ug).suite
      refine store_ok (X := Cx.suiteT X a (X.pn ++ pins)) (v := .ref a) I hN hi (.inl hln) rfl (fun t J => ?_) (.inr hln)
      exact wpAny_mono ((hsu a _).run _ _ _ _ _ J (yes rfl a oe Dn.free z dt)) (fun f t e => end_named ok hN hi hln e) fun _ _ z => z.elim
end
section
variable {X : Cx} {body : List Stmt} {h0 : ExceptHandler} {hds : List ExceptHandler} {l : List Hd} {pos : Pos} {tb : WX → TS} {Wout : WX}
theorem ps_tryT (hex : X.ex = []) (hs : X.stack = X.env :: X.outer) (hf : X.env.frame = some X.env.locals) (hN : X.N.Nodup) (tk : L2N.Takes X Wout)
    (hb : ∀ (W : WX) (pn : List (Addr × Obj)) (xe : Value → Shared → Prop), L2N.Takes (X.tr pn xe) W → PassesOwn (model X.prog X.w) X.A X.env xe → PSs (X.tr pn xe) body (tb W))
    (hh : HdsT X (h0 :: hds) l) : PS X (.Try body (h0 :: hds) [] [] pos) (fun D σ H => tb (wHds X.K Wout D l) D σ H) := by
  constructor
  intro pins s σ H D I h
  apply wpAny_Try_except
  have B := hb (wHds X.K Wout D l) (X.pn ++ pins) (fun e s1 => wpAny (model X.prog X.w) X.A (noteFrame e X.env) (fun _ s2 => wpAny (model X.prog X.w) X.A (setFlight e none)
    (fun _ s3 => wpAny (model X.prog X.w) X.A (handleBy e X.env (h0 :: hds)) (SP X pins D) X.xe s3) X.xe s2) X.xe s1)
    (fun u t x => caught I.ok hex hs hf x fun a cls d B σ1 H1 g eu w Dn => by subst eu; exact clauses I.ok hf hN tk Dn hh w) PassesOwn.looking
  refine wpAny_mono (B.run [] s σ H D (I.toTry _) h) (fun f t e => ?_) fun _ _ z => z
  cases f with
  | ret u => exact e.imp fun _ e => e.imp fun _ e => e.imp fun _ e => ⟨e.1.ofTry I.ok, e.2⟩
  | next => exact wpAny_execs_nil (e.imp fun _ e => e.imp fun _ e => ⟨e.1.ofTry I.ok, e.2⟩)
  | brk => exact e.imp fun _ e => e.imp fun _ e => ⟨e.1.ofTry I.ok, e.2⟩
  | cont => exact e.imp fun _ e => e.imp fun _ e => ⟨e.1.ofTry I.ok, e.2⟩
end

/-! ### the mirror of try -/
/-- own exception classes: all stand right under ScoreError -/
def subX (c C : Str) : Bool := c == C || (C == "ScoreError" || C == "ValueError")
def setE (env : TL.Env) (i : Option Nat) (d : Option D) : TL.Env := match i with
  | some i => env.set i d
  | none => env
def undoS (i : Option Nat) : SOut → SOut
  | .next env M => .next (setE env i none) M
  | .ret d M => .ret d M
  | _ => .stuck
structure HdM where
  C : Str
  slot : Option Nat
  m : MS
def hdsRun (x : Ex) : List HdM → MS
  | [] => fun env M => .exc x env M
  | h :: r => fun env M => if subX x.cls h.C = true then undoS h.slot (h.m (setE env h.slot (some (.err x))) M) else hdsRun x r env M
def sTry (cl : List Str) (b : MS) (hs : List HdM) : MS := fun env M => match b env M with
  | .exc x env1 M1 => if x.cls ∈ cl then hdsRun x hs env1 M1 else .stuck
  | o => o
/-- what is known of the classes -/
def ExSub (K : PySem.W.Frag) (cl hl : List Str) : Prop := ∀ c ∈ cl, ∀ C ∈ hl, PySem.W.exmOne K (.ref (He.ga K c)) (.ref (He.ga K C)) = some (subX c C)
/-- the context of a suite, or of a def called from one -/
structure CtxH (X : Cx) (W : WX) (k : Nat) : Prop where
  nd : X.N.Nodup
  room : L2H.RoomH k X.A
  tk : L2N.Takes X W
theorem CtxH.hu {X : Cx} {W : WX} {k : Nat} (C : CtxH X W k) : X.A.units + 64 < cLine := by have := C.room.un; omega
inductive HdsM (X : Cx) (cl : List Str) : List ExceptHandler → List HdM → Prop
  | nil : HdsM X cl [] []
  | one {x : Str} {m : MS} {b₀ : Stmt} {suite : List Stmt} {np pos' : Pos} {hds : List ExceptHandler} {l : List HdM} (hg : Gl X x) (hdb : (x == ("__debug__" : Str)) = false) (hm : X.mg x = some (.ref (He.ga X.K x))) (hsub : ∀ c ∈ cl, PySem.W.exmOne X.K (.ref (He.ga X.K c)) (.ref (He.ga X.K x)) = some (subX c x))
      (hsu : ∀ (a : Addr) (pn : List (Addr × Obj)), PSs (Cx.suiteT X a pn) (b₀ :: suite) (LS X.K W0 m)) (r : HdsM X cl hds l) :
      HdsM X cl (.ExceptHandler (some (.Name x np)) none (b₀ :: suite) pos' :: hds) (⟨x, none, m⟩ :: l)
  | as {x n : Str} {i : Nat} {m : MS} {b₀ : Stmt} {suite : List Stmt} {np pos' : Pos} {hds : List ExceptHandler} {l : List HdM} (hg : Gl X x) (hdb : (x == ("__debug__" : Str)) = false) (hm : X.mg x = some (.ref (He.ga X.K x))) (hsub : ∀ c ∈ cl, PySem.W.exmOne X.K (.ref (He.ga X.K c)) (.ref (He.ga X.K x)) = some (subX c x))
      (hi : X.N[i]? = some n) (hln : X.env.kindOf n = some .local)
      (hsu : ∀ (a : Addr) (pn : List (Addr × Obj)), PSs (Cx.suiteT X a pn) (b₀ :: suite) (LS X.K W0 m)) (r : HdsM X cl hds l) :
      HdsM X cl (.ExceptHandler (some (.Name x np)) (some n) (b₀ :: suite) pos' :: hds) (⟨x, some i, m⟩ :: l)
def HdM.hd (K : PySem.W.Frag) (h : HdM) : Hd := ⟨.ref (He.ga K h.C), h.slot, LS K W0 h.m⟩
theorem HdsM.hds {X : Cx} {cl : List Str} : ∀ {hs : List ExceptHandler} {l : List HdM}, HdsM X cl hs l → HdsT X hs (l.map (HdM.hd X.K))
  | _, _, .nil => .nil
  | _, _, .one hg hdb hm _ hsu r => .one ⟨hg, hdb, .inl hm⟩ hsu r.hds
  | _, _, .as hg hdb hm _ hi hln hsu r => .as ⟨hg, hdb, .inl hm⟩ hi hln hsu r.hds
theorem HdsM.sub {X : Cx} {cl : List Str} : ∀ {hs : List ExceptHandler} {l : List HdM}, HdsM X cl hs l → ∀ h ∈ l, ∀ c ∈ cl, PySem.W.exmOne X.K (.ref (He.ga X.K c)) (.ref (He.ga X.K h.C)) = some (subX c h.C)
  | _, _, .nil, h, hh => nomatch hh
  | _, _, .one hg hdb hm hs hsu r, h, hh => by
    rcases List.mem_cons.mp hh with rfl | hh
    · exact hs
    · exact r.sub h hh
  | _, _, .as hg hdb hm hs hi hln hsu r, h, hh => by
    rcases List.mem_cons.mp hh with rfl | hh
    · exact hs
    · exact r.sub h hh
section
variable {K : PySem.W.Frag} {W : WX} {En : Ends}
theorem EnvR.setO {ι : List Addr} {H : Hp} {d : D} {v : V} (r : Rp K ι H d v) {env : TL.Env} {σ : L2.St} (R : EnvR K ι H env σ) (i : Option Nat) : EnvR K ι H (setE env i (some d)) (TL.setO σ i (some v)) := by
  cases i with
  | none => exact R
  | some i => exact R.set r i
theorem EnvR.unsetO {ι : List Addr} {H : Hp} {env : TL.Env} {σ : L2.St} (R : EnvR K ι H env σ) (i : Option Nat) : EnvR K ι H (setE env i none) (TL.setO σ i none) := by
  cases i with
  | none => exact R
  | some i => exact R.unset i
theorem wHds_of {x : Ex} {cl : List Str} (hx : x.cls ∈ cl) {cls : Value} {dx : Option Addr} {ι : List Addr} {σ : L2.St} {H : Hp} {env : TL.Env} {M : Mem} (S : SR K ι H M) (R : EnvR K ι H env σ) (ex : ExR K ι x cls dx H) :
    ∀ {l : List HdM}, (∀ h ∈ l, ∀ c ∈ cl, PySem.W.exmOne K (.ref (He.ga K c)) (.ref (He.ga K h.C)) = some (subX c h.C)) → SOutP K W ι H (hdsRun x l env M) En → wHds K W En (l.map (HdM.hd K)) cls dx σ H
  | [], _, h => h ι σ H cls dx Ext.refl S R ex
  | hd :: l, hs, h => by
    obtain ⟨ec, ed⟩ := ex
    have h0 : SOutP K W ι H (if subX x.cls hd.C = true then undoS hd.slot (hd.m (setE env hd.slot (some (.err x))) M) else hdsRun x l env M) En := h
    refine ⟨subX x.cls hd.C, by rw [ec]; exact hs hd List.mem_cons_self _ hx, fun hb a oe na hz hv => ?_, fun hb => ?_⟩
    · rw [if_pos hb] at h0
      obtain ⟨vs, hv⟩ := hv
      have e1 : Ext K ι H ι (upd H a (errO oe)) := Ext.new na
      have h1 := SOutP.ext e1 h0
      have er : ErrAt K (upd H a (errO oe)) a x := by
        refine ⟨oe, vs, upd_same, hz.1.trans ec, hv, hz.2.2 vs hv, ?_⟩
        rw [hz.2.1]
        rcases ed with ed | ⟨i, d, e1, e2, e3⟩
        · exact .inl ed
        · exact .inr ⟨i, d, e1, e2, by rw [upd_ne (ne_of_none e3 na)]; exact e3⟩
      refine ⟨ι, _, M, S.new na, (R.ext e1).setO (.err er) hd.slot, ?_⟩
      revert h1
      cases hd.m (setE env hd.slot (some (.err x))) M with
      | next env2 M2 => exact fun h1 ι2 σ2 H2 e2 S2 R2 => h1 ι2 _ H2 e2 S2 (R2.unsetO hd.slot)
      | ret d M2 => exact fun h1 => h1
      | exc y env2 M2 => exact fun h1 => h1.elim
      | stuck => exact fun h1 => h1
    · rw [if_neg (by rw [hb]; exact Bool.false_ne_true)] at h0
      exact wHds_of hx S R ⟨ec, ed⟩ (fun h hh => hs h (List.mem_cons_of_mem _ hh)) h0
end
section
variable {X : Cx} {W : WX} {k : Nat} {body : List Stmt} {h₀ : ExceptHandler} {hds : List ExceptHandler} {l : List HdM} {cl : List Str} {mb : MS} {pos : Pos}
theorem Ctx.tr {X : Cx} {W : WX} {k : Nat} (C : Ctx X W k) {W' : WX} {pn : List (Addr × Obj)} {xe : Value → Shared → Prop} (tk : L2N.Takes (X.tr pn xe) W') (ps : PassesOwn (model X.prog X.w) X.A X.env xe) : Ctx (X.tr pn xe) W' k :=
  ⟨C.calm, C.nd, C.room, tk, ps⟩
theorem ds_try (C : Ctx X W k) (hb : ∀ (W' : WX) (pn : List (Addr × Obj)) (xe : Value → Shared → Prop), Ctx (X.tr pn xe) W' k → PSs (X.tr pn xe) body (LS X.K W' mb)) (hh : HdsM X cl (h₀ :: hds) l)
    (hex : X.ex = [] := by rfl) (hs : X.stack = X.env :: X.outer := by rfl) (hf : X.env.frame = some X.env.locals := by rfl) : PS X (.Try body (h₀ :: hds) [] [] pos) (LS X.K W (sTry cl mb l)) :=
  (ps_tryT hex hs hf C.nd C.tk (tb := fun W' => LS X.K W' mb) (fun W' pn xe tk ps => hb W' pn xe (C.tr tk ps)) hh.hds).imp fun En σ H ⟨ι, env, M, S, R, h⟩ => ⟨ι, env, M, S, R, by
    unfold sTry at h
    revert h
    cases mb env M with
    | next env1 M1 => exact fun h => h
    | ret d M1 => exact fun h => h
    | stuck => exact fun h => h
    | exc x env1 M1 =>
      intro h ι1 σ1 H1 cls dx e1 S1 R1 ex
      have h0 : SOutP X.K W ι H (if x.cls ∈ cl then hdsRun x l env1 M1 else .stuck) En := h
      by_cases hx : x.cls ∈ cl
      · rw [if_pos hx] at h0
        exact wHds_of hx S1 R1 ex hh.sub (SOutP.ext e1 h0)
      · rw [if_neg hx] at h0
        exact h0.elim⟩
theorem ctxH_suite (C : Ctx X W k) {a : Addr} {pn : List (Addr × Obj)} : CtxH (Cx.suiteT X a pn) W0 k := ⟨C.nd, ⟨C.room.dp, C.room.un⟩, takesN0⟩
end

/-! ### defs called where an exception is handled -/
/-- what a def promises there: nothing that it does asks what is handled -/
structure FnT (P : Program) (w : World) (K : PySem.W.Frag) (mg : Str → Option Value) (base : Heap) (CX : CXT) (k : Nat) (f : Addr) (fd : FuncData) (ps : List Str) (sp : Sp) : Prop where
  len : ∀ vs H Q E, sp vs H Q E → vs.length = ps.length
  run : ∀ (A : Around) (outer : List PySem.Env) (s : Shared) (H : Hp) (args : Args) (us : List Value) (vs : List V) (Q : VK) (E : XK), L2H.RoomH k A → Env0 P w K mg base A outer s H → BindsTo s fd args (ps.zip us) → Vals vs us → sp vs H Q E →
    codeAny (model P w) A (.call (.ref f) args) (CR CX outer P w H s Q E) s
/-- its body's context -/
def cxT (CX : CXT) (P : Program) (w : World) (K : PySem.W.Frag) (mg : Str → Option Value) (base : Heap) (N : List Str) (qual : Str) (scope : Scope) (f : Addr) (cd : Value) (A : Around) (outer : List PySem.Env) (s : Shared) (H : Hp) (E : XK) : Cx :=
  { cxOf CX P w K mg base N qual scope f cd A outer s H E with calm := false }
/-- an exception that is handled around changes nothing of where things stand -/
theorem env0_mark {P : Program} {w : World} {K : PySem.W.Frag} {mg : Str → Option Value} {base : Heap} {A : Around} {outer : List PySem.Env} {s : Shared} {H : Hp} (e : Env0 P w K mg base A outer s H) : Env0 P w K mg base { A with handled := none } outer s H :=
  { e with frames := e.frames }
theorem ok_mark {CX : CXT} {P : Program} {w : World} {K : PySem.W.Frag} {mg : Str → Option Value} {base : Heap} {N : List Str} {qual : Str} {scope : Scope} {f : Addr} {cd : Value} {A : Around} {outer : List PySem.Env} {s : Shared} {H : Hp} {E : XK}
    (o : (cxOf CX P w K mg base N qual scope f cd { A with handled := none } outer s H E).Ok) : (cxT CX P w K mg base N qual scope f cd A outer s H E).Ok :=
  { mod := o.mod, kind := o.kind, glob := o.glob, blt := o.blt, above := o.above, inj := o.inj, has := o.has, cab := o.cab, hd := fun z => (Bool.false_ne_true z).elim, frames := o.frames, stk := o.stk, exf := o.exf, bs := o.bs, bsz := o.bsz, noex := o.noex, exfs := o.exfs, funs := o.funs, frf := o.frf }
section
variable {P : Program} {w : World} {K : PySem.W.Frag} {mg : Str → Option Value} {base : Heap} {x qual : Str} {params : Arguments} {body : List Stmt} {scope : Scope} {f : Addr} {fd : FuncData} {N ps : List Str} {k : Nat} {CX : CXT} {sp : Sp}
theorem fnT (F : FunD K x qual params body scope [] [] f fd) (S : FnScope N ps scope) (len : ∀ vs H Q E, sp vs H Q E → vs.length = ps.length)
    (hbody : ∀ (cd : Value) (A : Around) (outer : List PySem.Env) (s : Shared) (H : Hp) (vs : List V) (Q : VK) (E : XK), L2H.RoomH k (A.deeper (envOfC qual scope s.heap.objs.size f cd)) → sp vs H Q E →
      ∃ t, PSs (cxT CX P w K mg base N qual scope f cd A outer s H E) body t ∧ t { nx := fun _ H' => Q .non H', rt := Q } (L2.start N vs) H) : FnT P w K mg base CX (k + 1) f fd ps sp where
  len := len
  run A outer s H args us vs Q E room e0 bound vals want := by
    obtain ⟨_, _, _, _, _, _, _, cd, _, _, rfl, at_, code, _, _⟩ := F.ex
    have held : ∀ b o, base.get? b = some o → s.heap.get? b = some o := fun b o e => (e0.bs b o e).1
    have inK := e0.mod.kin.keeps held
    have lim := e0.mod.nolimit.keeps held
    refine codeAny_call_function room.depth (inK f _ at_) rfl S.co S.gen rfl (PySem.W.codeRec_of inK code) (bound _ _ _ _ (wpAny_newFunctionEnv_cells S.kind ?_ ?_))
    · intro y hy
      have m : y.1 ∈ ps := (List.of_mem_zip (show (y.1, y.2) ∈ ps.zip us from hy)).1
      exact (S.par y.1 m).imp id fun q => ⟨q, PySem.W.cellsFrom_some _ _ _ (.inl q)⟩
    · intro env ee s1 call
      subst ee
      refine ⟨lim.keeps call.toInCall.keep, codeAny_func ?_⟩
      have J := inv_start (CX := CX) (E := E) S (A := { A with handled := none }) rfl (env0_mark e0) (len _ _ _ _ want) vals call
      have I : Inv (cxT CX P w K mg base N qual scope f cd A outer s H E) [] (L2.start N vs) H s1 :=
        { ok := ok_mark J.ok, os := J.os, bare := J.bare, base := J.base, loc := J.loc, cell := J.cell, free := J.free, freeC := J.freeC, pin := J.pin, hok := J.hok, len := J.len }
      obtain ⟨t, run, q⟩ := hbody cd A outer s H vs Q E (room.deeper _) want
      refine wpAny_mono (run.run [] s1 _ H _ I q) (fun fl s2 e => ?_) fun _ _ e => e
      cases fl with
      | next => obtain ⟨_, H2, I2, q2⟩ := e; exact ⟨.non, H2, I2.os, I2.bare, I2.base, I2.hok, rfl, q2⟩
      | ret u => obtain ⟨v, _, H2, I2, r2, q2⟩ := e; exact ⟨v, H2, I2.os, I2.bare, I2.base, I2.hok, r2, q2⟩
      | brk => exact e.elim fun _ e => e.elim fun _ e => e.2.elim
      | cont => exact e.elim fun _ e => e.elim fun _ e => e.2.elim
end
structure CalleeT (P : Program) (w : World) (K : PySem.W.Frag) (mg : Str → Option Value) (base : Heap) (x : Str) (n k : Nat) (m : Fn) : Prop where
  ex : ∃ (f : Addr) (fd : FuncData) (ps : List Str), FnT P w K mg base (L2N.CX P w) k f fd ps (spD K n m) ∧ mg x = some (.ref f) ∧ PySem.W.keepIn K (.ref f) = true ∧ Binds K fd ps [] ∧ ps.length = n
  len : ∀ ds M, ds.length ≠ n → m ds M = .stuck
section
variable {P : Program} {w : World} {K : PySem.W.Frag} {mg : Str → Option Value} {base : Heap}
theorem okT {x qual : Str} {params : Arguments} {body : List Stmt} {scope : Scope} {f : Addr} {N ps : List Str} {k : Nat} {mb : MS} (F : ∃ fd, FunD K x qual params body scope [] [] f fd) (S : FnScope N ps scope) (hm : mg x = some (.ref f))
    (hbind : ∀ (kV doc pm : Value) (an : Option Addr) (cdv ct : Value) (us : List Value), us.length = ps.length → bindArgs (PySem.W.fnOf x qual params body scope .none kV doc pm an cdv ct) ⟨us, []⟩ = pure (ps.zip us))
    (hbody : ∀ (cdv : Value) (A : Around) (outer : List PySem.Env) (s : Shared) (H : Hp) (E : XK), let X := cxT (L2N.CX P w) P w K mg base N qual scope f cdv A outer s H E
      CtxH X (fun cls d _ H => E cls d H) k → PSs X body (LS K (fun cls d _ H => E cls d H) mb)) :
    CalleeT P w K mg base x ps.length (k + 1) (fnD ps.length N.length mb) := by
  obtain ⟨fd, F⟩ := F
  refine ⟨⟨f, fd, ps, fnT F S (fun vs H Q E h => h.1) ?_, hm, F.kp, F.bindsN hbind, rfl⟩, fun ds M h => if_neg h⟩
  rintro cdv A outer s H vs Q E hr ⟨hl, ι, ds, M, SS, rs, h⟩
  refine ⟨_, hbody cdv A outer s H E ⟨S.nd, hr, L2N.takes_of rfl rfl rfl rfl⟩, ι, startE N.length ds, M, SS, ?_, ?_⟩
  · unfold startE L2.start
    rw [rs.length]
    exact envR_start rs _
  · unfold fnD at h
    rw [if_pos (by rw [rs.length]; exact hl)] at h
    revert h
    cases mb (startE N.length ds) M with
    | next env M1 => exact fun h ι1 σ1 H1 e1 S1 _ => h ι1 H1 e1 S1 _ .non
    | ret d M1 => exact fun h ι1 v H1 e1 S1 r => h ι1 H1 e1 S1 v r
    | exc y env M1 => exact fun h ι1 σ1 H1 cls dx e1 S1 _ ex => h ι1 H1 cls dx e1 S1 ex
    | stuck => exact fun h => h
end
section
variable {X : Cx} {W : WX} {e : Expr} {es : List Expr} {mas : MA} {x : Str} {p pos : Pos}
/-- such a call -/
theorem pe_callT {CX : CXT} {k : Nat} {f : Addr} {fd : FuncData} {ps : List Str} {sp : Sp} {E : L2.St → XK} {t : TA} (F : FnT X.prog X.w X.K X.mg X.base CX k f fd ps sp) (room : L2H.RoomH k X.A) (hg : Gl X x) (hm : X.mg x = some (.ref f)) (kp : PySem.W.keepIn X.K (.ref f) = true) (bi : Binds X.K fd ps [])
    (ps' : ∀ σ, PassesAt CX X σ (E σ)) (ha : PA X (e :: es) t) (hdb : (x == ("__debug__" : Str)) = false) (st : starEach (e :: es) X.env = (false, eval e X.env) :: starEach es X.env) (pl : (backTo pos (starEach es X.env)).any (·.1) = false) :
    PE X (.Call (.Name x p) (e :: es) [] pos) (tCallS sp E t) where
  run pins s σ H Q I want := by
    apply wpAny_Call_Name_kw
    refine ld_glob I hg hm ?_ hdb
    refine PySem.W.callWith_K (h₀ := X.base) I.ok.mod.kin kp ?_ st pl
    refine thn (ha.run pos pins s σ H _ I want) ?_
    rintro us s1 ⟨vs, H1, I1, vals, q⟩
    refine ⟨I1.kIn, ?_⟩
    have many : (us ++ []).length = ps.length := by rw [List.append_nil, ← vals.length]; exact F.len _ _ _ _ q
    have bound : BindsTo s1 fd ⟨us, []⟩ (ps.zip us) := by
      have b := bi s1 us I1.kIn many
      rwa [List.append_nil] at b
    apply wpAny_call
    refine codeAny_mono (F.run X.A X.stack s1 H1 _ us vs Q (E σ) room I1.env0 bound vals q) ?_
    rintro (er | fl) s2 e2
    · exact ps' σ pins H1 s1 er s2 I1 e2
    · cases fl with
      | ret u => exact I1.after e2
      | next => exact e2.elim
      | brk => exact e2.elim
      | cont => exact e2.elim
theorem d_callT {k k' n : Nat} {m : Fn} (C : CtxH X W k') (F : CalleeT X.prog X.w X.K X.mg X.base x n k m) (hk : k ≤ k') (ha : PA X (e :: es) (LA X.K W mas)) (hg : Gl X x := by rfl)
    (hdb : (x == ("__debug__" : Str)) = false := by decide) (hst : starEach (e :: es) X.env = (false, eval e X.env) :: starEach es X.env := by rfl) (hpl : (backTo pos (starEach es X.env)).any (·.1) = false := by rfl) :
    PE X (.Call (.Name x p) (e :: es) [] pos) (LE X.K W (eCall m mas)) := by
  have hlen := F.len
  obtain ⟨f, fd, ps, F, hm, kp, hb, _⟩ := F.ex
  refine (pe_callT F (C.room.mono hk) hg hm kp hb (fun σ => L2N.passAt C.tk σ) ha hdb hst hpl).imp fun σ H Q ⟨ι, env, M, S, R, h⟩ => ⟨ι, env, M, S, R, ?_⟩
  refine (OutP.bind h).imp fun ds M1 ι1 H1 e1 S1 h1 vs rv => ⟨?_, ι1, ds, M1, S1, rv, h1⟩
  rw [← rv.length]
  by_cases q : ds.length = n
  · exact q
  · rw [hlen ds M1 q] at h1
    exact h1.elim
end
end TL
end
section
set_option maxHeartbeats 4000000
/-! the tree layer: what is asked of a caught exception; further methods of lists -/
namespace TL
open PySem PySem.Spec PyProof.Rows L2

/-! ### the classes -/
/-- what a class says, so that isinstance and fields of its instances go the usual way -/
def isCB (K : PySem.W.Frag) (c : Str) : Bool :=
  He.eqO (PySem.W.findIn K (.ref (He.ga K c)) "__class__") (some (some (.builtin "object.__class__"))) && (xfB K (He.ga K c) &&
    (decide (PySem.W.mroIn K (He.ga K c) (.type "object") = some true) && (He.eqO (PySem.W.specialIn K (.builtin "object.__class__") "__get__") (some (some (.builtin "getset_descriptor.__get__"))) && decide (PySem.W.takesIn K (.builtin "object.__class__") = some true))))
structure IsC (K : PySem.W.Frag) (C : Addr) : Prop where
  x : XfC K C
  cl : PySem.W.findIn K (.ref C) "__class__" = some (some (.builtin "object.__class__"))
  mro : PySem.W.mroIn K C (.type "object") = some true
  get : PySem.W.specialIn K (.builtin "object.__class__") "__get__" = some (some (.builtin "getset_descriptor.__get__"))
  take : PySem.W.takesIn K (.builtin "object.__class__") = some true
theorem isCB_ok {K : PySem.W.Frag} {c : Str} (h : isCB K c = true) : IsC K (He.ga K c) := by
  obtain ⟨h1, h⟩ := He.ba h
  obtain ⟨h2, h⟩ := He.ba h
  obtain ⟨h3, h⟩ := He.ba h
  obtain ⟨h4, h5⟩ := He.ba h
  exact ⟨xfB_ok h2, He.eqO_ok h1, of_decide_eq_true h3, He.eqO_ok h4, of_decide_eq_true h5⟩
theorem IsC.kit {K : PySem.W.Frag} {C x : Addr} {ox : Obj} {od : Option Obj} (T : IsC K C) : PySem.W.KitX K (.ref x) (.ref C) (fun h => PySem.W.InstAt h x ox C od) :=
  PySem.W.kitx_exc (by obtain ⟨cd, hc, _⟩ := PySem.W.any_some T.x.hdC; rw [hc]; rfl) T.x.ga T.x.gg T.x.exC T.cl T.get T.take T.mro
/-- the classes cl, held against the classes hl and ValueError -/
def isTB (K : PySem.W.Frag) (cl hl : List Str) : Bool := cl.all fun c => isCB K c && (decide (PySem.W.kitOne K (.ref (He.ga K c)) (.type "ValueError") = some true) && hl.all fun C => decide (PySem.W.kitOne K (.ref (He.ga K c)) (.ref (He.ga K C)) = some (subX c C)))
structure IsT (K : PySem.W.Frag) (cl hl : List Str) : Prop where
  c : ∀ c ∈ cl, IsC K (He.ga K c)
  v : ∀ c ∈ cl, PySem.W.kitOne K (.ref (He.ga K c)) (.type "ValueError") = some true
  h : ∀ c ∈ cl, ∀ C ∈ hl, PySem.W.kitOne K (.ref (He.ga K c)) (.ref (He.ga K C)) = some (subX c C)
theorem isTB_ok {K : PySem.W.Frag} {cl hl : List Str} (h : isTB K cl hl = true) : IsT K cl hl := by
  have h' := fun c hc => He.ba (List.all_eq_true.mp h c hc)
  exact ⟨fun c hc => isCB_ok (h' c hc).1, fun c hc => of_decide_eq_true (He.ba (h' c hc).2).1, fun c hc C hC => of_decide_eq_true (List.all_eq_true.mp (He.ba (h' c hc).2).2 C hC)⟩
/-- .. held by except clauses -/
def exSubB (K : PySem.W.Frag) (cl hl : List Str) : Bool := cl.all fun c => hl.all fun C => decide (PySem.W.exmOne K (.ref (He.ga K c)) (.ref (He.ga K C)) = some (subX c C))
theorem exSubB_ok {K : PySem.W.Frag} {cl hl : List Str} (h : exSubB K cl hl = true) : ExSub K cl hl := fun c hc C hC => of_decide_eq_true (List.all_eq_true.mp (List.all_eq_true.mp h c hc) C hC)
theorem ExSub.of {K : PySem.W.Frag} {cl hl : List Str} (h : ExSub K cl hl) {C : Str} (hC : C ∈ hl) : ∀ c ∈ cl, PySem.W.exmOne K (.ref (He.ga K c)) (.ref (He.ga K C)) = some (subX c C) := fun c hc => h c hc C hC
section
variable {X : Cx} {W : WX} {pins : List (Addr × Obj)} {σ : L2.St} {H : Hp} {s : Shared}
theorem err_inst (I : L2.Inv X pins σ H s) {a : Addr} {x : Ex} (h : ErrAt X.K H a x) : ∃ oe od, PySem.W.InstAt s.heap a oe (He.ga X.K x.cls) od := by
  obtain ⟨oe, vs, h1, h2, h3, h4, h5⟩ := h
  have h6 : s.heap.get? a = some oe := (I.hok a _ h1).1
  have no : PySem.W.notCls oe = true := by unfold PySem.W.notCls; rw [h3]
  rcases h5 with ⟨_, h5⟩ | ⟨i, d, _, h5, h7⟩
  · exact ⟨oe, none, ⟨h6, h2, no, by rw [h5]; trivial⟩⟩
  · obtain ⟨mA, hns, _⟩ := (show ObjOk X.prog X.w H s.heap d (.xd _) from I.hok d _ h7)
    obtain ⟨od, ho, _⟩ := lookIn_ns hns
    exact ⟨oe, some od, ⟨h6, h2, no, by rw [h5]; exact ho⟩⟩
/-! ### isinstance of a caught exception -/
/-- the classes asked for: own ones by name, ValueError -/
def clsV (K : PySem.W.Frag) (C : Str) : V := if C = "ValueError" then .ty "ValueError" else .ref (He.ga K C)
def clsU (K : PySem.W.Frag) (C : Str) : Value := if C = "ValueError" then .type "ValueError" else .ref (He.ga K C)
theorem cls_rel {K : PySem.W.Frag} {C : Str} {u : Value} (r : RelV (clsV K C) u) : u = clsU K C := by
  unfold clsV at r
  unfold clsU
  by_cases h : C = "ValueError"
  · rw [if_pos h] at r ⊢; exact r
  · rw [if_neg h] at r ⊢; exact r
theorem IsT.one {K : PySem.W.Frag} {cl hl : List Str} (T : IsT K cl hl) {c C : Str} (hc : c ∈ cl) (hC : C = "ValueError" ∨ C ∈ hl) : PySem.W.kitOne K (.ref (He.ga K c)) (clsU K C) = some (subX c C) := by
  unfold clsU
  by_cases h : C = "ValueError"
  · rw [if_pos h, T.v c hc, h]; simp [subX]
  · rw [if_neg h]; exact T.h c hc C (hC.resolve_left h)
def rErr (K : PySem.W.Frag) (cl : List Str) (C : Str) : List V → Hp → VK → Prop := fun xs H Q => ∃ (a : Addr) (x : Ex), xs = [.ref a, clsV K C] ∧ ErrAt K H a x ∧ x.cls ∈ cl ∧ Q (.bl (subX x.cls C)) H
theorem c_isErr {cl hl : List Str} (T : IsT X.K cl hl) {C : Str} (hC : C = "ValueError" ∨ C ∈ hl) : CallR X (.builtin "isinstance") (rErr X.K cl C) := by
  intro pins s σ H xs us Q I r h
  obtain ⟨a, x, rfl, he, hc, q⟩ := h
  obtain ⟨u1, u2, rfl, r1, r2⟩ := vals2 r
  obtain rfl : u1 = Value.ref a := r1
  obtain rfl := cls_rel r2
  obtain ⟨oe, od, J⟩ := err_inst I he
  exact PySem.W.kia_one (T.c _ hc).kit I.kIn J (T.one hc hC) (fun z => nomatch z) fun tk => ⟨.bl _, H, I.tok tk, rfl, q⟩
def rErrs (K : PySem.W.Frag) (cl Cs : List Str) : List V → Hp → VK → Prop := fun xs H Q => ∃ (a tp : Addr) (x : Ex), xs = [.ref a, .ref tp] ∧ H tp = some (.tup (Cs.map (clsV K))) ∧ ErrAt K H a x ∧ x.cls ∈ cl ∧ Q (.bl (Cs.any (subX x.cls))) H
theorem IsT.any {K : PySem.W.Frag} {cl hl : List Str} (T : IsT K cl hl) {c : Str} (hc : c ∈ cl) : ∀ {Cs : List Str}, (∀ C ∈ Cs, C = "ValueError" ∨ C ∈ hl) → PySem.W.kitAny K (.ref (He.ga K c)) (Cs.map (clsU K)) = some (Cs.any (subX c))
  | [], _ => rfl
  | C :: Cs, h => by
    refine kitAny_cons (T.one hc (h C List.mem_cons_self)) (fun e => ?_) fun e => ?_
    · rw [T.any hc fun C' h' => h C' (List.mem_cons_of_mem _ h')]; simp [e]
    · simp [e]
theorem clss_rel {K : PySem.W.Frag} : ∀ {Cs : List Str} {us : List Value}, Vals (Cs.map (clsV K)) us → us = Cs.map (clsU K)
  | [], _, .nil => rfl
  | C :: Cs, _, .cons r t => by rw [cls_rel r, clss_rel t]; rfl
theorem c_isErrs {cl hl : List Str} (T : IsT X.K cl hl) {Cs : List Str} (hC : ∀ C ∈ Cs, C = "ValueError" ∨ C ∈ hl) : CallR X (.builtin "isinstance") (rErrs X.K cl Cs) := by
  intro pins s σ H xs us Q I r h
  obtain ⟨a, tp, x, rfl, ht, he, hc, q⟩ := h
  obtain ⟨u1, u2, rfl, r1, r2⟩ := vals2 r
  obtain rfl : u1 = Value.ref a := r1
  obtain rfl : u2 = Value.ref tp := r2
  obtain ⟨oe, od, J⟩ := err_inst I he
  obtain ⟨_, its, rv, ⟨o1, o2, o3, o4⟩, h1, h2, n, h3⟩ := (show ObjOk X.prog X.w H s.heap tp (.tup _) from I.hok tp _ ht)
  simp only at h2 h3
  subst h2 h3
  obtain rfl := clss_rel rv
  exact PySem.W.kia_tup (T.c _ hc).kit I.kIn J h1 (T.any hc hC) (fun z => nomatch z) fun tk => ⟨.bl _, H, I.tok tk, rfl, q⟩
end
def mIsE (cl : List Str) (C : Str) : Op1 := fun d M => match d with
  | .err x => if x.cls ∈ cl then some (.bl (subX x.cls C), M) else none
  | _ => none
def mIsEs (cl Cs : List Str) : Op1 := fun d M => match d with
  | .err x => if x.cls ∈ cl then some (.bl (Cs.any (subX x.cls)), M) else none
  | _ => none
def eIsE (cl : List Str) (C : Str) (a : ME) : ME := eUn (mIsE cl C) a
def eIsEs (cl Cs : List Str) (a : ME) : ME := eUn (mIsEs cl Cs) a
section
variable {X : Cx} {W : WX} {e : Expr} {me : ME} {p p2 p3 pos : Pos}
theorem Rp.err_inv {K : PySem.W.Frag} {ι : List Addr} {H : Hp} {x : Ex} {v : V} (r : Rp K ι H (.err x) v) : ∃ a, v = .ref a ∧ ErrAt K H a x := by cases r with | err h => exact ⟨_, rfl, h⟩
/-- a class by its name -/
theorem pe_cls {C : Str} (hg : Gl X C) (hm : (C = "ValueError" ∧ X.mg C = none) ∨ (C ≠ "ValueError" ∧ X.mg C = some (.ref (He.ga X.K C)))) (hd : (C == ("__debug__" : Str)) = false := by decide) : PE X (.Name C p2) (tC (clsV X.K C)) := by
  rcases hm with ⟨rfl, hm⟩ | ⟨hn, hm⟩
  · exact pe_bltn hg hm PyProof.Rows.Boot.«ValueError» (v := clsV X.K "ValueError") (by rw [show clsV X.K "ValueError" = .ty "ValueError" from if_pos rfl]; rfl) (by decide) hd
  · refine pe_glob hg hm ?_ hd
    rw [show clsV X.K C = .ref (He.ga X.K C) from if_neg hn]
    rfl
theorem d_isE {cl hl : List Str} {C : Str} (T : IsT X.K cl hl) (hC : C = "ValueError" ∨ C ∈ hl) (hi : X.mg "isinstance" = none) (hm : (C = "ValueError" ∧ X.mg C = none) ∨ (C ≠ "ValueError" ∧ X.mg C = some (.ref (He.ga X.K C)))) (he : PE X e (LE X.K W me))
    (hgi : Gl X "isinstance" := by rfl) (hg : Gl X C := by rfl) (hd : (C == ("__debug__" : Str)) = false := by decide)
    (h1 : starEach [e, .Name C p2] X.env = (false, eval e X.env) :: starEach [.Name C p2] X.env := by rfl) (h2 : starEach [.Name C p2] X.env = (false, eval (.Name C p2) X.env) :: starEach [] X.env := by rfl)
    (h3 : (backTo pos (starEach [.Name C p2] X.env)).any (·.1) = false := by rfl) : PE X (.Call (.Name "isinstance" p) [e, .Name C p2] [] pos) (LE X.K W (eIsE cl C me)) :=
  (pe_callB (c_isErr T hC) hgi hi boot_isinstance (pa_cons he (pa_cons (pe_cls hg hm hd) pa_nil h2) h1) (by decide) (by decide) h1 h3).imp fun σ H Q ⟨ι, env, M, S, R, h⟩ => ⟨ι, env, M, S, R, (OutP.bind h).imp fun d M1 ι1 H1 e1 S1 h1 v rv => by
    cases d with
    | err x =>
      obtain ⟨a, rfl, hx⟩ := rv.err_inv
      have h2 : OutP X.K (W1 W σ) ι1 H1 (liftO (if x.cls ∈ cl then some (D.bl (subX x.cls C), M1) else none)) (VR X.K Q) := h1
      by_cases hc : x.cls ∈ cl
      · rw [if_pos hc] at h2
        exact ⟨a, x, rfl, hx, hc, OutP.val S1 h2 _ (.bl _)⟩
      · rw [if_neg hc] at h2
        exact h2.elim
    | _ => exact h1.elim⟩
/-- names of classes, one after another -/
inductive ClsNames (X : Cx) : List Str → List Expr → Prop
  | nil : ClsNames X [] []
  | cons {C : Str} {Cs : List Str} {es : List Expr} {p2 : Pos} (hg : Gl X C) (hd : (C == ("__debug__" : Str)) = false) (hm : (C = "ValueError" ∧ X.mg C = none) ∨ (C ≠ "ValueError" ∧ X.mg C = some (.ref (He.ga X.K C))))
      (hs : starEach (.Name C p2 :: es) X.env = (false, eval (.Name C p2) X.env) :: starEach es X.env) (r : ClsNames X Cs es) : ClsNames X (C :: Cs) (.Name C p2 :: es)
theorem ClsNames.pa {Cs : List Str} {es : List Expr} (N : ClsNames X Cs es) : PA X es (fun _ H Q => Q (Cs.map (clsV X.K)) H) := by
  induction N with
  | nil => exact pa_nil
  | cons hg hd hm hs r ih => exact pa_cons (pe_cls hg hm hd) ih hs
theorem d_isEs {cl hl Cs : List Str} {ns : List Expr} {j : Nat} (T : IsT X.K cl hl) (hC : ∀ C ∈ Cs, C = "ValueError" ∨ C ∈ hl) (hi : X.mg "isinstance" = none) (N : ClsNames X Cs ns) (he : PE X e (LE X.K W me))
    (hl' : Cs.length ≤ 100 := by decide) (hgi : Gl X "isinstance" := by rfl)
    (h1 : starEach [e, .Tuple ns j p2] X.env = (false, eval e X.env) :: starEach [.Tuple ns j p2] X.env := by rfl) (h2 : starEach [.Tuple ns j p2] X.env = (false, eval (.Tuple ns j p2) X.env) :: starEach [] X.env := by rfl)
    (h3 : (backTo pos (starEach [.Tuple ns j p2] X.env)).any (·.1) = false := by rfl) : PE X (.Call (.Name "isinstance" p) [e, .Tuple ns j p2] [] pos) (LE X.K W (eIsEs cl Cs me)) :=
  (pe_callB (c_isErrs T hC) hgi hi boot_isinstance (pa_cons he (pa_cons (pe_tup N.pa) pa_nil h2) h1) (by decide) (by decide) h1 h3).imp fun σ H Q ⟨ι, env, M, S, R, h⟩ => ⟨ι, env, M, S, R, (OutP.bind h).imp fun d M1 ι1 H1 e1 S1 h1 v rv => by
    cases d with
    | err x =>
      obtain ⟨a, rfl, hx⟩ := rv.err_inv
      have h2 : OutP X.K (W1 W σ) ι1 H1 (liftO (if x.cls ∈ cl then some (D.bl (Cs.any (subX x.cls)), M1) else none)) (VR X.K Q) := h1
      by_cases hc : x.cls ∈ cl
      · rw [if_pos hc] at h2
        refine ⟨by rw [List.length_map, sizeLine_eq]; omega, fun tp ht => ?_⟩
        have e2 : Ext X.K ι1 H1 ι1 (upd H1 tp (.tup (Cs.map (clsV X.K)))) := Ext.new ht
        exact ⟨a, tp, x, rfl, upd_same, e2.err _ _ hx, hc, OutP.val (S1.new ht) (OutP.ext e2 h2) _ (.bl _)⟩
      · rw [if_neg hc] at h2
        exact h2.elim
    | _ => exact h1.elim⟩
/-! ### e.at -/
def mAt : Op1 := fun d M => match d with
  | .err x => x.at_.map fun i => (.int i, M)
  | _ => none
/-- classes whose instances bear at: cl, all of those that are made with it -/
def atB (K : PySem.W.Frag) (cl : List Str) : Bool := cl.all fun c => xfB K (He.ga K c) && He.eqO (PySem.W.findIn K (.ref (He.ga K c)) "at") (some none)
def eAt (cl : List Str) (a : ME) : ME := fun env M => (a env M).bind fun d M1 => match d with
  | .err x => if x.cls ∈ cl then liftO (mAt (.err x) M1) else .stuck
  | _ => .stuck
theorem d_at {cl : List Str} (T : atB X.K cl = true) (he : PE X e (LE X.K W me)) (hb : attributeBase e "at" X.env (eval e X.env) = eval e X.env := by rfl) : PE X (.Attribute e "at" pos) (LE X.K W (eAt cl me)) := by
  constructor
  rintro pins s σ H Q I ⟨ι, env, M, S, R, h⟩
  refine attr_of hb (thn (he.run pins s σ H _ I ⟨ι, env, M, S, R, (OutP.bind h).imp (R' := VR X.K fun v H1 => ∃ a x i, v = .ref a ∧ ErrAt X.K H1 a x ∧ x.cls ∈ cl ∧ x.at_ = some i ∧ Q (.int i) H1) fun d M1 ι1 H1 e1 S1 h1 v rv => ?_⟩) ?_)
  · cases d with
    | err x =>
      obtain ⟨a, rfl, hx⟩ := rv.err_inv
      have h2 : OutP X.K (W1 W σ) ι1 H1 (if x.cls ∈ cl then liftO (x.at_.map fun i => (D.int i, M1)) else .stuck) (VR X.K Q) := h1
      by_cases hc : x.cls ∈ cl
      · rw [if_pos hc] at h2
        cases ea : x.at_ with
        | none => rw [ea] at h2; exact h2.elim
        | some i => rw [ea] at h2; exact ⟨a, x, i, rfl, hx, hc, ea, OutP.val S1 h2 _ (.int _)⟩
      · rw [if_neg hc] at h2
        exact h2.elim
    | _ => exact h1.elim
  · rintro u s1 ⟨v, H1, I1, rx, a, x, i, rfl, hx, hc, ea, q⟩
    obtain rfl : u = Value.ref a := rx
    obtain ⟨T1, T2⟩ := He.ba (List.all_eq_true.mp T _ hc)
    have T1 := xfB_ok T1
    obtain ⟨oe, vs, h1, h2, h3, h4, h5⟩ := hx
    have h6 : s1.heap.get? a = some oe := (I1.hok a _ h1).1
    rcases h5 with ⟨h5, _⟩ | ⟨i', d, h5, h7, h8⟩
    · rw [ea] at h5; cases h5
    rw [ea] at h5
    cases h5
    obtain ⟨mA, hns, hr⟩ := (show ObjOk X.prog X.w H1 s1.heap d (.xd _) from I1.hok d _ h8)
    obtain ⟨od, ho, hl⟩ := lookIn_ns hns
    obtain ⟨w, hw, rw'⟩ := RelO.some_of (v := V.int i) (o := mA "at") (by have := hr "at"; simpa [List.lookup] using this)
    have no : PySem.W.notCls oe = true := by unfold PySem.W.notCls; rw [h3]
    have J : PySem.W.InstAt s1.heap a oe (He.ga X.K x.cls) (some od) := ⟨h6, h2, no, by rw [h7]; exact ho⟩
    exact HandSPX.exc_get I1.kIn J T1.ga T1.gg T1.exC (PySem.W.findObj_own T1.hdC (He.eqO_ok T2) rfl (by rw [hl, hw])) (handed_of rw') ⟨.int i, H1, I1.tok _, rw', q⟩
end
end TL
end
section
set_option maxHeartbeats 4000000
/-! the tree layer: count and index of flat things; exceptions made with a number -/
namespace TL
open PySem PySem.Spec PyProof.Rows L2
def mCount : D → OpN := fun d ds M => match d, ds with
  | .ref n, [y] => match seqAt M n with
    | some xs => if flatD y = true ∧ xs.all flatD = true then some (.int ((xs.countP fun x => eqF x y : Nat) : Int), M) else none
    | none => none
  | _, _ => none
def mIndex : D → OpN := fun d ds M => match d, ds with
  | .ref n, [y] => match seqAt M n with
    | some xs => if flatD y = true ∧ xs.all flatD = true then (xs.findIdx? fun x => eqF x y).map fun j => (.int ((j : Nat) : Int), M) else none
    | none => none
  | _, _ => none
theorem countP_V {x : V} : ∀ {xs : List V} {us : List Value}, Vals xs us → xs.all flatV = true → us.countP (eqU x) = xs.countP fun y => eqV y x
  | _, _, .nil, _ => rfl
  | y :: xs, u :: us, .cons r t, f => by
    obtain ⟨f1, f2⟩ := Bool.and_eq_true_iff.mp (List.all_cons ▸ f)
    rw [List.countP_cons, List.countP_cons, countP_V t f2, eqU_of r f1]
theorem countP_D {K : PySem.W.Frag} {ι : List Addr} {H : Hp} {d : D} {v : V} (r : Rp K ι H d v) : ∀ {ds : List D} {vs : List V}, RpA K ι H ds vs → (vs.countP fun y => eqV y v) = ds.countP fun x => eqF x d
  | _, _, .nil => rfl
  | _, _, .cons q t => by rw [List.countP_cons, List.countP_cons, countP_D r t, eqF_v q r]
section
variable {X : Cx}
theorem m_count : MtR X "list.count" (rDM X.K mCount) := by
  intro pins s σ H x xs v us Q I rx rxs h
  obtain ⟨ι, M, d, ds, S, r, rs, h⟩ := h
  unfold mCount at h
  split at h
  · obtain ⟨p, rfl, hp⟩ := r.ref_inv
    obtain ⟨y', rfl, ry⟩ := rs.one_inv
    split at h
    · rename_i m
      obtain ⟨vs, h1, r1⟩ := S.seq hp m
      split at h
      · rename_i y c
        obtain rfl : v = Value.ref p := rx
        obtain ⟨uy, rfl, ru⟩ := rxs.one
        have fy : flatV y' = true := by rw [flat_v ry]; exact c.1
        have fs : vs.all flatV = true := by rw [flat_all r1]; exact c.2
        obtain ⟨its, rv, ⟨⟨o1, o2, o3, o4⟩, n, ho, hc, hdn, hd⟩, hlen⟩ := I.list h1
        simp only at hc hd
        subst hc hd
        refine call_meets PySem.F.slot_list_count ⟨_, ho, rfl⟩ PySem.F.entry_list_count (PySem.F.args_list_count_2 _ _) (SeqAt.list_countAt p its.toArray n o2 o4 uy (eqU y')) ⟨ho, fun u hu => mem_eqAt ru fy rv fs u (by simpa using hu), ?_⟩
        have e : its.toArray.toList.countP (eqU y') = _ := (countP_V rv fs).trans (countP_D ry r1)
        refine ⟨.int _, H, I.tok _, ⟨s.toks, ?_⟩, h.val S (.int _)⟩
        show Value.int ((its.toArray.toList.countP (eqU y') : Nat) : Int) s.toks = _
        rw [e]
      · exact h.elim
    · exact h.elim
  · exact h.elim
theorem m_index : MtR X "list.index" (rDM X.K mIndex) := by
  refine MtR.imp mt_index fun x xs H Q h => ?_
  obtain ⟨ι, M, d, ds, S, r, rs, h⟩ := h
  unfold mIndex at h
  split at h
  · rename_i n y
    obtain ⟨p, rfl, hp⟩ := r.ref_inv
    obtain ⟨y', rfl, ry⟩ := rs.one_inv
    split at h
    · rename_i xs0 m
      obtain ⟨vs, h1, r1⟩ := S.seq hp m
      split at h
      · rename_i c
        cases q : xs0.findIdx? fun x => eqF x y with
        | none => rw [q] at h; exact h.elim
        | some j =>
          rw [q] at h
          obtain ⟨hj, e1, e2⟩ := List.findIdx?_eq_some_iff_getElem.mp q
          obtain ⟨z, g1, g2⟩ := r1.get (List.getElem?_eq_getElem hj)
          refine ⟨p, vs, y', j, z, rfl, rfl, h1, by rw [flat_v ry]; exact c.1, by rw [flat_all r1]; exact c.2, g1, by rw [eqF_v g2 ry]; exact e1, fun k z' hk hz => ?_, OpO.val S h (.int _)⟩
          obtain ⟨z2, g3, g4⟩ := r1.get (List.getElem?_eq_getElem (show k < xs0.length by omega))
          rw [g3] at hz
          cases hz
          rw [eqF_v g4 ry]
          have := e2 k hk
          simpa using this
      · exact h.elim
    · exact h.elim
  · exact h.elim
end
/-- a class's facts off the head -/
theorem exF_of {K : PySem.W.Frag} {h : Heap} {mg : Str → Option Value} (X : K.In h) (G : h.Ns mainGlobals mg) {c : Str} (c1 : (He.Fa.glo c).ok K = true) (c2 : (He.Fa.exc c).ok K = true) : ExF K mg c := by
  obtain ⟨h1, h2, h3, h4⟩ := He.exc_ok c2
  exact ⟨He.glo_ok X G c1, h1, h2, h3, h4⟩
end TL
end
section
/-! the tree layer: mirrors of TLA run -/
namespace TL
open PySem PySem.Spec PyProof.Rows L2
section
variable {env : Env} {M : Mem} {a b e : ME}
@[simp] theorem sStk_ap : sStk env M = .stuck := rfl
open Classical in
@[simp] theorem eTupRg1_ap : eTupRg1 e env M = (e env M).bind fun d M1 => kInt d fun j => if RgOk 0 j then .ok (.tup (rngItems 0 j.toNat)) M1 else .stuck := rfl
open Classical in
@[simp] theorem eLstRg1_ap : eLstRg1 e env M = (e env M).bind fun d M1 => kInt d fun j => if RgOk 0 j then .ok (.ref M1.length) (M1 ++ [.lst (rngItems 0 j.toNat)]) else .stuck := rfl
open Classical in
@[simp] theorem eTupRg2_ap : eTupRg2 a b env M = (a env M).bind fun d M1 => (b env M1).bind fun d2 M2 => kInt d fun i => kInt d2 fun j => if RgOk i j then .ok (.tup (rngItems i (j - i).toNat)) M2 else .stuck := rfl
open Classical in
@[simp] theorem eLstRg2_ap : eLstRg2 a b env M = (a env M).bind fun d M1 => (b env M1).bind fun d2 M2 => kInt d fun i => kInt d2 fun j => if RgOk i j then .ok (.ref M2.length) (M2 ++ [.lst (rngItems i (j - i).toNat)]) else .stuck := rfl
end
theorem rgOk_nat {i j : Nat} (h : j ≤ 1000000) (hi : i ≤ 1000000) : RgOk (i : Int) (j : Int) := RgOk.of_le (by omega) (by omega) (by omega) (by omega)
theorem intsOf_map : ∀ ns : List Int, intsOf (ns.map D.int) = some ns
  | [] => rfl
  | n :: ns => by
    show (intsOf (ns.map D.int)).map (n :: ·) = _
    rw [intsOf_map ns]; rfl
theorem blsOf_map : ∀ bs : List Bool, blsOf (bs.map D.bl) = some bs
  | [] => rfl
  | b :: bs => by
    show (blsOf (bs.map D.bl)).map (b :: ·) = _
    rw [blsOf_map bs]; rfl
theorem nMax_ints {M : Mem} {n : Nat} {ns : List Int} (h : seqAt M n = some (ns.map D.int)) (hne : ns ≠ []) : nMax [.ref n] M = some (.int (maxI ns), M) := by
  show (match seqAt M n with
    | some xs => match intsOf xs with
      | some ns => if ns = [] then none else some (D.int (maxI ns), M)
      | none => none
    | none => none) = _
  rw [h]
  simp only [intsOf_map]
  rw [if_neg hne]
theorem nMin_ints {M : Mem} {n : Nat} {ns : List Int} (h : seqAt M n = some (ns.map D.int)) (hne : ns ≠ []) : nMin [.ref n] M = some (.int (minI ns), M) := by
  show (match seqAt M n with
    | some xs => match intsOf xs with
      | some ns => if ns = [] then none else some (D.int (minI ns), M)
      | none => none
    | none => none) = _
  rw [h]
  simp only [intsOf_map]
  rw [if_neg hne]
theorem nSum_ints {M : Mem} {n : Nat} {ns : List Int} (h : seqAt M n = some (ns.map D.int)) : nSum [.ref n] M = some (.int ns.sum, M) := by
  show (match seqAt M n with
    | some xs => (intsOf xs).map fun (ns : List Int) => (D.int ns.sum, M)
    | none => none) = _
  rw [h]
  simp only [intsOf_map]
  rfl
theorem nAll_bls {M : Mem} {n : Nat} {bs : List Bool} (h : seqAt M n = some (bs.map D.bl)) : nAll [.ref n] M = some (.bl (bs.all id), M) := by
  show (match seqAt M n with
    | some xs => (blsOf xs).map fun (bs : List Bool) => (D.bl (bs.all id), M)
    | none => none) = _
  rw [h]
  simp only [blsOf_map]
  rfl
theorem nTuple_ref {M : Mem} {n : Nat} {xs : List D} (h : seqAt M n = some xs) : nTuple [.ref n] M = some (.tup xs, M) := by
  show (seqAt M n).map (fun xs => (D.tup xs, M)) = _
  rw [h]; rfl
end TL
end
section
/-! the tree layer: goals that end with a value, step by step -/
namespace TL
open PySem PySem.Spec PyProof.Rows L2
/-- this value, and all that stood stands -/
abbrev Gives (M : Mem) (d : D) : D → Mem → Prop := fun d' M' => d' = d ∧ Keep M M'
theorem Ret.eq {α : Type} {o : Out α} {P : α → Mem → Prop} {o' : Out α} (e : o = o') (h : Ret o' P) : Ret o P := e ▸ h
theorem gives_of {o : Out D} {M : Mem} {d : D} (h : Ret o (Gives M d)) : ∃ M', o = .ok d M' ∧ Keep M M' := by
  obtain ⟨d', M', e, rfl, k⟩ := h
  exact ⟨M', e, k⟩
theorem of_gives {o : Out D} {M : Mem} {d : D} (h : ∃ M', o = .ok d M' ∧ Keep M M') : Ret o (Gives M d) := by
  obtain ⟨M', e, k⟩ := h
  exact ⟨d, M', e, rfl, k⟩
/-- how a block ends: with names and a memory, or with a value -/
def SRet (o : SOut) (N : TL.Env → Mem → Prop) (R : D → Mem → Prop) : Prop := match o with
  | .next e M => N e M
  | .ret d M => R d M
  | .exc _ _ _ => False
  | .stuck => False
section
variable {N N' : TL.Env → Mem → Prop} {R R' : D → Mem → Prop} {o : SOut} {env : TL.Env} {M : Mem}
theorem SRet.next (h : N env M) : SRet (.next env M) N R := h
theorem SRet.ret {d : D} (h : R d M) : SRet (.ret d M) N R := h
theorem SRet.imp (h : SRet o N R) (hn : ∀ e M, N e M → N' e M) (hr : ∀ d M, R d M → R' d M) : SRet o N' R' := by
  cases o with
  | next e M => exact hn _ _ h
  | ret d M => exact hr _ _ h
  | exc x e M => exact h
  | stuck => exact h
theorem SRet.nextS {f : TL.Env → Mem → SOut} (h : SRet o (fun e M => SRet (f e M) N R) R) : SRet (nextS o f) N R := by
  cases o with
  | next e M => exact h
  | ret d M => exact h
  | exc x e M => exact h
  | stuck => exact h
theorem SRet.thenS {α : Type} {p : Out α} {f : α → Mem → SOut} (h : Ret p (fun a M => SRet (f a M) N R)) : SRet (thenS env p f) N R := by
  obtain ⟨a, M, rfl, h⟩ := h
  exact h
theorem Ret.endS {Q : D → Mem → Prop} (h : SRet o (fun _ M => Q .non M) Q) : Ret (endS o) Q := by
  cases o with
  | next e M => exact .ok h
  | ret d M => exact .ok h
  | exc x e M => exact h.elim
  | stuck => exact h.elim
theorem SRet.bindS {α β : Type} {p : Out α} {g : α → Mem → Out β} {f : β → Mem → SOut} {P : α → Mem → Prop} (h : Ret p P) (k : ∀ a M, P a M → SRet (TL.thenS env (g a M) f) N R) : SRet (TL.thenS env (p.bind g) f) N R := by
  obtain ⟨a, M, rfl, h⟩ := h
  exact k a M h
theorem SRet.thenI {α : Type} {p : Out α} {f : α → Mem → SOut} {P : α → Mem → Prop} (h : Ret p P) (k : ∀ a M, P a M → SRet (f a M) N R) : SRet (TL.thenS env p f) N R := by
  obtain ⟨a, M, rfl, h⟩ := h
  exact k a M h
/-- a for by its invariant -/
theorem SRet.for_ {good : Mem → Prop} {g : MG} {b : MS} {ds : List D} (Inv : List D → TL.Env → Mem → Prop) (h0 : Inv ds env M) (hgood : ∀ ds env M, Inv ds env M → good M)
    (step : ∀ d ds env M, Inv (d :: ds) env M → ∃ env1, g d env = some env1 ∧ SRet (b env1 M) (Inv ds) R) (done : ∀ env M, Inv [] env M → N env M) : SRet (forL good g b ds env M) N R := by
  induction ds generalizing env M with
  | nil => rw [forL_nil (hgood _ _ _ h0)]; exact done _ _ h0
  | cons d ds ih =>
    obtain ⟨env1, hg, hs⟩ := step d ds env M h0
    rw [forL_cons (hgood _ _ _ h0) hg]
    exact SRet.nextS (hs.imp (fun e M h => ih h) fun d M h => h)
/-- a for with what follows it -/
theorem SRet.forN {good : Mem → Prop} {g : MG} {b : MS} {ds : List D} {k : TL.Env → Mem → SOut} (Inv : List D → TL.Env → Mem → Prop) (h0 : Inv ds env M) (hgood : ∀ ds env M, Inv ds env M → good M)
    (step : ∀ d ds env M, Inv (d :: ds) env M → ∃ env1, g d env = some env1 ∧ SRet (b env1 M) (Inv ds) R) (done : ∀ env M, Inv [] env M → SRet (k env M) N R) : SRet (TL.nextS (forL good g b ds env M) k) N R :=
  SRet.nextS (SRet.for_ Inv h0 hgood step done)
/-- a while by its invariant, that holds a measure -/
theorem SRet.while_ {t : MT} {b : MS} {n : Nat} (Inv : Nat → TL.Env → Mem → Prop) {m : Nat} (h0 : Inv m env M) (hm : m < n)
    (step : ∀ m env M, Inv m env M → Ret (t env M) (fun k M1 => if k = true then SRet (b env M1) (fun e M => ∃ m', m' < m ∧ Inv m' e M) R else N env M1)) : SRet (sWhile n t b env M) N R := by
  induction n generalizing env M m with
  | zero => omega
  | succ n ih =>
    obtain ⟨k, M1, e, h⟩ := step m env M h0
    show SRet (TL.thenS env (t env M) fun k M1 => if k = true then TL.nextS (b env M1) (sWhile n t b) else .next env M1) N R
    rw [e]
    cases k with
    | false => exact h
    | true =>
      rw [if_pos rfl] at h
      exact SRet.nextS (h.imp (fun e M ⟨m', h1, h2⟩ => ih h2 (by omega)) fun d M h => h)
theorem SRet.whileN {t : MT} {b : MS} {n : Nat} {k : TL.Env → Mem → SOut} (Inv : Nat → TL.Env → Mem → Prop) {m : Nat} (h0 : Inv m env M) (hm : m < n)
    (step : ∀ m env M, Inv m env M → Ret (t env M) (fun c M1 => if c = true then SRet (b env M1) (fun e M => ∃ m', m' < m ∧ Inv m' e M) R else SRet (k env M1) N R)) : SRet (TL.nextS (sWhile n t b env M) k) N R :=
  SRet.nextS (SRet.while_ Inv h0 hm step)
end
section
variable {good : Mem → Prop} {i n : Nat} {t : MT} {e : ME} {env : TL.Env} {ds : List D} {M0 : Mem}
/-- a comprehension: what stood stands, the items turned -/
theorem Ret.comp {P : Unit → Mem → Prop} (f : D → D) (hg : ∀ M', Keep M0 M' → good M') (hl : ds.length ≤ 1000000)
    (h : ∀ d ∈ ds, ∀ M', Keep M0 M' → Ret (e (env.set i (some d)) M') (Gives M' (f d)))
    (k : ∀ M2, Keep M0 M2 → M2[M0.length]? = some (.lst (ds.map f)) → P () M2) : Ret (compL good i tYesD e M0.length env ds (M0 ++ [.lst []])) P := by
  obtain ⟨M2, e2, k2, a2⟩ := compL_keep (n := M0.length) (t := tYesD) (e := e) (i := i) (env := env) (fun _ => true) f M0 hg (Nat.le_refl _) ds [] (M0 ++ [.lst []]) (Keep.more _ _) (at_len _ _) (by simpa using hl) fun d hd M' k' =>
    ⟨M', rfl, Keep.refl _, fun _ => gives_of (h d hd M' k')⟩
  refine ⟨(), M2, e2, k M2 k2 ?_⟩
  rw [List.filter_eq_self.mpr (fun _ _ => rfl)] at a2
  simpa using a2
theorem Ret.compF {P : Unit → Mem → Prop} (p : D → Bool) (f : D → D) (hg : ∀ M', Keep M0 M' → good M') (hl : ds.length ≤ 1000000)
    (h : ∀ d ∈ ds, ∀ M', Keep M0 M' → Ret (t (env.set i (some d)) M') (fun b M1 => b = p d ∧ Keep M' M1 ∧ (b = true → Ret (e (env.set i (some d)) M1) (Gives M1 (f d)))))
    (k : ∀ M2, Keep M0 M2 → M2[M0.length]? = some (.lst ((ds.filter p).map f)) → P () M2) : Ret (compL good i t e M0.length env ds (M0 ++ [.lst []])) P := by
  obtain ⟨M2, e2, k2, a2⟩ := compL_keep (n := M0.length) (t := t) (e := e) (i := i) (env := env) p f M0 hg (Nat.le_refl _) ds [] (M0 ++ [.lst []]) (Keep.more _ _) (at_len _ _) (by simpa using hl) fun d hd M' k' => by
    obtain ⟨b, M1, e1, rfl, k1, h1⟩ := h d hd M' k'
    exact ⟨M1, e1, k1, fun hp => gives_of (h1 hp)⟩
  exact ⟨(), M2, e2, k M2 k2 (by simpa using a2)⟩
end
end TL
end
section
/-! the tree layer: exceptions, run -/
namespace TL
open PySem PySem.Spec PyProof.Rows L2
section
variable {env : TL.Env} {M : Mem} {a : ME} {x : Ex} {i : Nat} {d : D} {b m : MS} {cl : List Str} {hs : List HdM} {C : Str} {sl : Option Nat}
@[simp] theorem sRaise_ap {c : Str} : sRaise c env M = .exc ⟨c, none⟩ env M := rfl
@[simp] theorem sTry_ap : sTry cl b hs env M = match b env M with
  | .exc x env1 M1 => if x.cls ∈ cl then hdsRun x hs env1 M1 else .stuck
  | o => o := rfl
@[simp] theorem hdsRun_nil : hdsRun x [] env M = .exc x env M := rfl
@[simp] theorem hdsRun_cons : hdsRun x (⟨C, sl, m⟩ :: hs) env M = if subX x.cls C = true then undoS sl (m (setE env sl (some (.err x))) M) else hdsRun x hs env M := rfl
@[simp] theorem undoS_next : undoS sl (.next env M) = .next (setE env sl none) M := rfl
@[simp] theorem undoS_ret : undoS sl (.ret d M) = .ret d M := rfl
@[simp] theorem undoS_stuck : undoS sl .stuck = .stuck := rfl
@[simp] theorem setE_none {o : Option D} : setE env none o = env := rfl
@[simp] theorem setE_some {o : Option D} : setE env (some i) o = env.set i o := rfl
@[simp] theorem eIsE_ap : eIsE cl C a env M = (a env M).bind fun d M1 => liftO (mIsE cl C d M1) := rfl
@[simp] theorem eIsEs_ap {Cs : List Str} : eIsEs cl Cs a env M = (a env M).bind fun d M1 => liftO (mIsEs cl Cs d M1) := rfl
@[simp] theorem mIsE_err : mIsE cl C (.err x) M = if x.cls ∈ cl then some (.bl (subX x.cls C), M) else none := rfl
@[simp] theorem mIsEs_err {Cs : List Str} : mIsEs cl Cs (.err x) M = if x.cls ∈ cl then some (.bl (Cs.any (subX x.cls)), M) else none := rfl
@[simp] theorem isNon_err : isNon (.err x) = false := rfl
@[simp] theorem Out.bind_match {α β : Type} (x : Ex) (M : Mem) (f : α → Mem → Out β) : (Out.exc x M : Out α).bind f = .exc x M := rfl
end
section
variable {M : Mem} {xs : List D} {n : Nat} {k : Int}
@[simp] theorem nList_tup : nList [.tup xs] M = some (.ref M.length, M ++ [.lst xs]) := rfl
@[simp] theorem nList_ref : nList [.ref n] M = (seqAt M n).map fun xs => (.ref M.length, M ++ [.lst xs]) := rfl
@[simp] theorem nTuple_tup : nTuple [.tup xs] M = some (.tup xs, M) := rfl
theorem mMul_list (h : M[n]? = some (.lst xs)) (h0 : 0 ≤ k) (h1 : k ≤ 1000) (h2 : xs.length * k.toNat ≤ 1000000) : mMul (.ref n) (.int k) M = some (.ref M.length, M ++ [.lst (List.replicate k.toNat xs).flatten]) := by
  show (match M[n]? with
    | some (.lst xs) => @ite _ (-(2 ^ 63) ≤ k ∧ k < 2 ^ 63 ∧ xs.length * k.toNat ≤ sizeLine) (Classical.propDecidable _) (some (D.ref M.length, M ++ [MO.lst (List.replicate k.toNat xs).flatten])) none
    | _ => none) = _
  rw [h]
  exact if_pos ⟨Int.le_trans (by decide) h0, Int.lt_of_le_of_lt h1 (by decide), by rw [sizeLine_eq]; omega⟩
end
theorem mMul_sm {M : Mem} {i j : Int} (h0 : -1000000000 ≤ i) (h1 : i ≤ 1000000000) : mMul (.int i) (.int j) M = some (.int (i * j), M) := by
  rw [mMul_int, if_pos]; omega
theorem lt_of_seq {M : Mem} {n : Nat} {xs : List D} (h : seqAt M n = some xs) : n < M.length := by
  unfold seqAt at h
  cases q : M[n]? with
  | none => rw [q] at h; cases h
  | some o => exact lt_of_at q
theorem at_newK {M G : Mem} {k : Nat} : (M ++ G)[M.length + k]? = G[k]? := by rw [List.getElem?_append_right (by omega)]; simp
theorem at_new0 {M G : Mem} : (M ++ G)[M.length]? = G[0]? := by rw [List.getElem?_append_right (by omega)]; simp
theorem mMul_new {M G : Mem} {k : Nat} {c : Int} {xs : List D} (h : G[k]? = some (.lst xs)) (h0 : 0 ≤ c) (h1 : c ≤ 1000) (h2 : xs.length * c.toNat ≤ 1000000) :
    mMul (.ref (M.length + k)) (.int c) (M ++ G) = some (D.ref (M ++ G).length, M ++ G ++ [MO.lst (List.replicate c.toNat xs).flatten]) := mMul_list (by rw [at_newK, h]) h0 h1 h2
/-- it raises this, all that stood stands -/
def Throws {α : Type} (o : Out α) (M : Mem) (x : Ex) : Prop := ∃ M', o = .exc x M' ∧ Keep M M'
/-- one of a list at a drawn place -/
theorem pick_at {M : Mem} {n : Nat} {xs : List D} {r : Int} (hn : seqAt M n = some xs) (h0 : 0 ≤ r) (h1 : r < xs.length) : ∃ d, d ∈ xs ∧ mIdx (.ref n) (.int r) M = some (d, M) := by
  obtain ⟨d, g1, g2⟩ := atI_ok h0 h1
  refine ⟨d, List.mem_of_getElem? g1, ?_⟩
  show (match seqAt M n with | some xs => (atI xs r).map fun d => (d, M) | none => none) = _
  rw [hn]
  simp only [g2]
  rfl
end TL
end
section
/-! the tree layer: mirrors run from the left, what comes behind is left alone until its turn -/
namespace TLQ
open PySem PySem.Spec PyProof.Rows L2 TL
/-- a thing that is left alone -/
inductive Held {α : Sort _} : α → Type
  | mk (a : α) : Held a
def bindQ {α β : Type} (o : Out α) (f : α → Mem → Out β) (_ : Held f) : Out β := o.bind f
def thenQ {α : Type} (env : TL.Env) (o : Out α) (f : α → Mem → SOut) (_ : Held f) : SOut := thenS env o f
def nextQ (o : SOut) (f : TL.Env → Mem → SOut) (_ : Held f) : SOut := nextS o f
def kBlQ {β : Type} (d : D) (f : Bool → Out β) (_ : Held f) : Out β := kBl d f
def kIntQ {β : Type} (d : D) (f : Int → Out β) (_ : Held f) : Out β := kInt d f
section
variable {α β : Type} {env : TL.Env} {M : Mem}
@[scoped simp ↓] theorem bind_held {o : Out α} {f : α → Mem → Out β} : o.bind f = bindQ o f (.mk f) := rfl
@[scoped simp ↓] theorem then_held {o : Out α} {f : α → Mem → SOut} : thenS env o f = thenQ env o f (.mk f) := rfl
@[scoped simp ↓] theorem next_held {o : SOut} {f : TL.Env → Mem → SOut} : nextS o f = nextQ o f (.mk f) := rfl
@[scoped simp ↓] theorem kBl_held {d : D} {f : Bool → Out β} : kBl d f = kBlQ d f (.mk f) := rfl
@[scoped simp ↓] theorem kInt_held {d : D} {f : Int → Out β} : kInt d f = kIntQ d f (.mk f) := rfl
@[scoped simp] theorem bindQ_ok {a : α} {f : α → Mem → Out β} {u : Held f} : bindQ (.ok a M) f u = f a M := rfl
@[scoped simp] theorem bindQ_exc {x : Ex} {f : α → Mem → Out β} {u : Held f} : bindQ (.exc x M : Out α) f u = .exc x M := rfl
@[scoped simp] theorem bindQ_stuck {f : α → Mem → Out β} {u : Held f} : bindQ (.stuck : Out α) f u = .stuck := rfl
@[scoped simp] theorem bindQ_bindQ {γ : Type} {o : Out α} {f : α → Mem → Out β} {g : β → Mem → Out γ} {u : Held f} {v : Held g} : bindQ (bindQ o f u) g v = bindQ o (fun a M => (f a M).bind g) (.mk _) := Out.bind_assoc o f g
@[scoped simp] theorem thenQ_ok {a : α} {f : α → Mem → SOut} {u : Held f} : thenQ env (.ok a M) f u = f a M := rfl
@[scoped simp] theorem thenQ_exc {x : Ex} {f : α → Mem → SOut} {u : Held f} : thenQ env (.exc x M : Out α) f u = .exc x env M := rfl
@[scoped simp] theorem thenQ_stuck {f : α → Mem → SOut} {u : Held f} : thenQ env (.stuck : Out α) f u = .stuck := rfl
@[scoped simp] theorem thenQ_bindQ {o : Out α} {f : α → Mem → Out β} {g : β → Mem → SOut} {u : Held f} {v : Held g} : thenQ env (bindQ o f u) g v = thenQ env o (fun a M => thenS env (f a M) g) (.mk _) := thenS_bind f g
@[scoped simp] theorem nextQ_next {f : TL.Env → Mem → SOut} {u : Held f} : nextQ (.next env M) f u = f env M := rfl
@[scoped simp] theorem nextQ_ret {d : D} {f : TL.Env → Mem → SOut} {u : Held f} : nextQ (.ret d M) f u = .ret d M := rfl
@[scoped simp] theorem nextQ_exc {x : Ex} {f : TL.Env → Mem → SOut} {u : Held f} : nextQ (.exc x env M) f u = .exc x env M := rfl
@[scoped simp] theorem nextQ_stuck {f : TL.Env → Mem → SOut} {u : Held f} : nextQ .stuck f u = .stuck := rfl
@[scoped simp] theorem nextQ_thenQ {o : Out α} {f : α → Mem → SOut} {g : TL.Env → Mem → SOut} {u : Held f} {v : Held g} : nextQ (thenQ env o f u) g v = thenQ env o (fun a M => nextS (f a M) g) (.mk _) := nextS_thenS f g
@[scoped simp] theorem nextQ_nextQ {o : SOut} {f g : TL.Env → Mem → SOut} {u : Held f} {v : Held g} : nextQ (nextQ o f u) g v = nextQ o (fun e M => nextS (f e M) g) (.mk _) := nextS_nextS o f g
@[scoped simp] theorem endS_thenQ {o : Out α} {f : α → Mem → SOut} {u : Held f} : endS (thenQ env o f u) = bindQ o (fun a M => endS (f a M)) (.mk _) := endS_thenS f
@[scoped simp] theorem kBlQ_bl {b : Bool} {f : Bool → Out β} {u : Held f} : kBlQ (.bl b) f u = f b := rfl
@[scoped simp] theorem kIntQ_int {i : Int} {f : Int → Out β} {u : Held f} : kIntQ (.int i) f u = f i := rfl
@[scoped simp] theorem undoS_thenQ {sl : Option Nat} {o : Out α} {f : α → Mem → SOut} {u : Held f} (h : ∀ x M, o ≠ .exc x M) : undoS sl (thenQ env o f u) = thenQ env o (fun a M => undoS sl (f a M)) (.mk _) := by
  cases o with
  | ok a M => rfl
  | exc x M => exact absurd rfl (h x M)
  | stuck => rfl
/-! goals that begin with a thing of its own -/
variable {N : TL.Env → Mem → Prop} {R : D → Mem → Prop}
theorem Ret.bindQ {o : Out α} {f : α → Mem → Out β} {u : Held f} {P : α → Mem → Prop} {Q : β → Mem → Prop} (h : Ret o P) (k : ∀ a M, P a M → Ret (f a M) Q) : Ret (TLQ.bindQ o f u) Q := Ret.bind h k
theorem SRet.thenQ {o : Out α} {f : α → Mem → SOut} {u : Held f} {P : α → Mem → Prop} (h : Ret o P) (k : ∀ a M, P a M → SRet (f a M) N R) : SRet (TLQ.thenQ env o f u) N R := SRet.thenI h k
theorem SRet.forQ {good : Mem → Prop} {g : MG} {b : MS} {ds : List D} {k : TL.Env → Mem → SOut} {u : Held k} (Inv : List D → TL.Env → Mem → Prop) (h0 : Inv ds env M) (hgood : ∀ ds env M, Inv ds env M → good M)
    (step : ∀ d ds env M, Inv (d :: ds) env M → ∃ env1, g d env = some env1 ∧ SRet (b env1 M) (Inv ds) R) (done : ∀ env M, Inv [] env M → SRet (k env M) N R) : SRet (TLQ.nextQ (forL good g b ds env M) k u) N R := SRet.forN Inv h0 hgood step done
theorem SRet.whileQ {t : MT} {b : MS} {n : Nat} {k : TL.Env → Mem → SOut} {u : Held k} (Inv : Nat → TL.Env → Mem → Prop) {m : Nat} (h0 : Inv m env M) (hm : m < n)
    (step : ∀ m env M, Inv m env M → Ret (t env M) (fun c M1 => if c = true then SRet (b env M1) (fun e M => ∃ m', m' < m ∧ Inv m' e M) R else SRet (k env M1) N R)) : SRet (TLQ.nextQ (sWhile n t b env M) k u) N R := SRet.whileN Inv h0 hm step
theorem SRet.nextQ {o : SOut} {f : TL.Env → Mem → SOut} {u : Held f} (h : SRet o (fun e M => SRet (f e M) N R) R) : SRet (TLQ.nextQ o f u) N R := SRet.nextS h
end
@[scoped simp] theorem str_inj {a b : String} : Str.ofString a = Str.ofString b ↔ a = b := by
  refine ⟨fun h => ?_, fun h => by rw [h]⟩
  rw [Str.ofString_eq_toList, Str.ofString_eq_toList] at h
  have h1 := congrArg (fun s : Str => s.cps.toList) h
  simp only at h1
  have h2 : a.toList = b.toList := (List.map_inj_right fun c d e => Char.ext (UInt32.toNat_inj.mp e)).mp h1
  exact String.toList_inj.mp h2
@[scoped simp] theorem str_beq {a b : String} : (Str.ofString a == Str.ofString b) = decide (a = b) := by
  by_cases h : a = b
  · subst h; simp
  · have : Str.ofString a ≠ Str.ofString b := fun e => h (str_inj.mp e)
    simp [h]
section
variable {M : Mem} {n : Nat} {y : D}
@[scoped simp] theorem mCount_ap : mCount (.ref n) [y] M = match seqAt M n with
    | some xs => if flatD y = true ∧ xs.all flatD = true then some (.int ((xs.countP fun x => eqF x y : Nat) : Int), M) else none
    | none => none := rfl
@[scoped simp] theorem mIndex_ap : mIndex (.ref n) [y] M = match seqAt M n with
    | some xs => if flatD y = true ∧ xs.all flatD = true then (xs.findIdx? fun x => eqF x y).map fun j => (.int ((j : Nat) : Int), M) else none
    | none => none := rfl
@[scoped simp] theorem tyD_ref : tyD "list" M (.ref n) = (seqAt M n).isSome := by show (decide ("list" = "list") && (seqAt M n).isSome) = _; simp
@[scoped simp] theorem mNe_bl {b c : Bool} : mNe (.bl b) (.bl c) M = some (.bl (!(b == c)), M) := by
  rw [mNe_eq, eqD_pure (n := 0) (m := 0) (by simp [pureD]) (by simp [pureD]) (by decide) (by decide)]; simp [pyD, PyData.eqv]
@[scoped simp] theorem flat_bl {b : Bool} : flatD (.bl b) = true := rfl
@[scoped simp] theorem flat_int {b : Int} : flatD (.int b) = true := rfl
@[scoped simp] theorem flat_str {b : Str} : flatD (.str b) = true := rfl
@[scoped simp] theorem flat_non : flatD .non = true := rfl
@[scoped simp] theorem eqF_bl {b c : Bool} : eqF (.bl b) (.bl c) = (b == c) := rfl
@[scoped simp] theorem eqF_int {b c : Int} : eqF (.int b) (.int c) = (b == c) := rfl
@[scoped simp] theorem eqF_str {b c : Str} : eqF (.str b) (.str c) = (b == c) := rfl
/-- a place behind a memory -/
theorem seq_new {G : Mem} {k : Nat} : seqAt (M ++ G) (M.length + k) = seqAt G k := by unfold seqAt; rw [List.getElem?_append_right (by omega)]; simp
theorem seq_new0 {G : Mem} : seqAt (M ++ G) M.length = seqAt G 0 := by unfold seqAt; rw [List.getElem?_append_right (by omega)]; simp
end
@[scoped simp] theorem line_is : sizeLine = 16777216 := sizeLine_eq
theorem strOk_of (s : String) : PyData.strOk (Str.ofString s) = true := by
  rw [Str.ofString_eq_toList]
  unfold PyData.strOk
  rw [← Array.all_toList]
  simp only [List.all_map, List.all_eq_true]
  intro c _
  have h := c.valid
  have e : c.toNat = c.val.toNat := rfl
  refine decide_eq_true ?_
  show c.toNat < 0x110000
  rw [e]
  rcases h with h | h <;> simp at h ⊢ <;> omega
@[scoped simp] theorem mEq_str {x y : String} {M : Mem} : mEq (.str (Str.ofString x)) (.str (Str.ofString y)) M = some (.bl (decide (x = y)), M) := by
  rw [mEq_eq, eqD_pure (n := 0) (m := 0) (by simp [pureD, strOk_of]) (by simp [pureD, strOk_of]) (by decide) (by decide)]; simp [pyD, PyData.eqv]
@[scoped simp] theorem mNe_str {x y : String} {M : Mem} : mNe (.str (Str.ofString x)) (.str (Str.ofString y)) M = some (.bl (!decide (x = y)), M) := by
  rw [mNe_eq, eqD_pure (n := 0) (m := 0) (by simp [pureD, strOk_of]) (by simp [pureD, strOk_of]) (by decide) (by decide)]; simp [pyD, PyData.eqv]
end TLQ
end
section
set_option maxHeartbeats 4000000
/-! the tree layer: methods of texts; str, int of texts -/
namespace TL
open PySem PySem.Spec PyProof.Rows L2
def strsOf : List D → Option (List Str)
  | [] => some []
  | .str b :: ds => (strsOf ds).map (b :: ·)
  | _ => none
theorem strsOf_map : ∀ ns : List Str, strsOf (ns.map D.str) = some ns
  | [] => rfl
  | n :: ns => by
    show (strsOf (ns.map D.str)).map (n :: ·) = _
    rw [strsOf_map ns]; rfl
def joinO (a : Str) (xs : List D) : Option Str := match strsOf xs with
  | some ys => if (ys.map (·.length)).sum + ys.length * a.length ≤ sizeLine then some (Txt.join a ys) else none
  | none => none
def mJoin : D → OpN := fun d ds M => match d, ds with
  | .str a, [.ref n] => match seqAt M n with
    | some xs => (joinO a xs).map fun z => (.str z, M)
    | none => none
  | .str a, [.tup xs] => (joinO a xs).map fun z => (.str z, M)
  | _, _ => none
def mFind : D → OpN := fun d ds M => match d, ds with
  | .str a, [.str b] => some (.int (Txt.find a b), M)
  | _, _ => none
def mSplit : D → OpN := fun d ds M => match d, ds with
  | .str a, [.str b] => if (b.length == 0) = false ∧ a.length + 2 ≤ sizeLine then some (.ref M.length, M ++ [.lst ((Txt.split a b).map D.str)]) else none
  | _, _ => none
def mPartition : D → OpN := fun d ds M => match d, ds with
  | .str a, [.str b] => if (b.length == 0) = false ∧ a.length ≤ sizeLine then some (.tup [.str (Txt.partition a b).1, .str (Txt.partition a b).2.1, .str (Txt.partition a b).2.2], M) else none
  | _, _ => none
def mUpper : D → OpN := fun d ds M => match d, ds with
  | .str a, [] => if a.length ≤ 5592405 then some (.str (Txt.upper a), M) else none
  | _, _ => none
def nStr : OpN := fun ds M => match ds with
  | [.int i] => if i.natAbs.log2 < 1920 then some (.str (toString i), M) else none
  | [.str x] => some (.str x, M)
  | _ => none
def nIntS : OpN := fun ds M => match ds with
  | [.str a] => match PySem.intText? a with
    | some n => if a.length ≤ 640 then some (.int n, M) else none
    | none => none
  | _ => none
section
variable {K : PySem.W.Frag} {ι : List Addr} {H : Hp} {M : Mem}
theorem strs_v : ∀ {ds : List D} {vs : List V} {bs : List Str}, RpA K ι H ds vs → strsOf ds = some bs → vs = bs.map V.str
  | [], _, _, .nil, e => by cases e; rfl
  | d :: ds, _, bs, .cons r t, e => by
    cases d with
    | str b =>
      have e' : (strsOf ds).map (b :: ·) = some bs := e
      cases q : strsOf ds with
      | none => rw [q] at e'; cases e'
      | some cs =>
        rw [q] at e'
        cases e'
        cases r.str_inv
        rw [strs_v t q]
        rfl
    | _ => cases e
theorem strs_rp : ∀ ns : List Str, RpA K ι H (ns.map D.str) (ns.map V.str)
  | [] => .nil
  | i :: ns => .cons (.str i) (strs_rp ns)
end
section
variable {X : Cx}
theorem m_join : MtR X "str.join" (rDM X.K mJoin) := by
  refine MtR.imp mt_join fun x xs H Q h => ?_
  obtain ⟨ι, M, d, ds, S, r, rs, h⟩ := h
  unfold mJoin at h
  split at h
  · rename_i a n
    cases r.str_inv
    obtain ⟨v, rfl, rv⟩ := rs.one_inv
    obtain ⟨p, rfl, hp⟩ := rv.ref_inv
    cases q : seqAt M n with
    | none => rw [q] at h; exact h.elim
    | some ys =>
      simp only [q] at h
      obtain ⟨vs, h1, r1⟩ := S.seq hp q
      unfold joinO at h
      cases q2 : strsOf ys with
      | none => simp only [q2] at h; exact h.elim
      | some zs =>
        simp only [q2] at h
        cases strs_v r1 q2
        by_cases c : (zs.map (·.length)).sum + zs.length * a.length ≤ sizeLine
        · simp only [if_pos c] at h
          exact ⟨a, p, zs, rfl, rfl, .inl h1, by rw [sizeLine_eq] at c; exact c, OpO.val S h (.str _)⟩
        · simp only [if_neg c] at h
          exact h.elim
  · rename_i a ys
    cases r.str_inv
    obtain ⟨v, rfl, rv⟩ := rs.one_inv
    obtain ⟨p, vs, rfl, t1, r1⟩ := rv.tup_inv
    unfold joinO at h
    cases q2 : strsOf ys with
    | none => simp only [q2] at h; exact h.elim
    | some zs =>
      simp only [q2] at h
      cases strs_v r1 q2
      by_cases c : (zs.map (·.length)).sum + zs.length * a.length ≤ sizeLine
      · simp only [if_pos c] at h
        exact ⟨a, p, zs, rfl, rfl, .inr t1, by rw [sizeLine_eq] at c; exact c, OpO.val S h (.str _)⟩
      · simp only [if_neg c] at h
        exact h.elim
  · exact h.elim
theorem m_find : MtR X "str.find" (rDM X.K mFind) := by
  refine MtR.imp mt_find fun x xs H Q h => ?_
  obtain ⟨ι, M, d, ds, S, r, rs, h⟩ := h
  unfold mFind at h
  split at h
  · cases r.str_inv
    obtain ⟨v, rfl, rv⟩ := rs.one_inv
    cases rv.str_inv
    exact ⟨_, _, rfl, rfl, h.val S (.int _)⟩
  · exact h.elim
theorem m_upper : MtR X "str.upper" (rDM X.K mUpper) := by
  refine MtR.imp mt_upper fun x xs H Q h => ?_
  obtain ⟨ι, M, d, ds, S, r, rs, h⟩ := h
  unfold mUpper at h
  split at h
  · cases r.str_inv
    cases rs.nil_inv
    split at h
    · exact ⟨_, rfl, rfl, by assumption, h.val S (.str _)⟩
    · exact h.elim
  · exact h.elim
theorem m_split : MtR X "str.split" (rDM X.K mSplit) := by
  refine MtR.imp mt_split fun x xs H Q h => ?_
  obtain ⟨ι, M, d, ds, S, r, rs, h⟩ := h
  unfold mSplit at h
  split at h
  · cases r.str_inv
    obtain ⟨v, rfl, rv⟩ := rs.one_inv
    cases rv.str_inv
    split at h
    · rename_i c
      exact ⟨_, _, rfl, rfl, c.1, c.2, h.newLst S (strs_rp _)⟩
    · exact h.elim
  · exact h.elim
theorem m_partition : MtR X "str.partition" (rDM X.K mPartition) := by
  refine MtR.imp mt_partition fun x xs H Q h => ?_
  obtain ⟨ι, M, d, ds, S, r, rs, h⟩ := h
  unfold mPartition at h
  split at h
  · cases r.str_inv
    obtain ⟨v, rfl, rv⟩ := rs.one_inv
    cases rv.str_inv
    split at h
    · rename_i c
      exact ⟨_, _, rfl, rfl, c.1, c.2, h.newTup S (.cons (.str _) (.cons (.str _) (.cons (.str _) .nil)))⟩
    · exact h.elim
  · exact h.elim
theorem CallR.both {f : Value} {r1 r2 : List V → Hp → VK → Prop} (h1 : CallR X f r1) (h2 : CallR X f r2) : CallR X f (fun xs H Q => r1 xs H Q ∨ r2 xs H Q) :=
  fun pins s σ H xs us Q I r h => h.elim (h1 pins s σ H xs us Q I r) (h2 pins s σ H xs us Q I r)
theorem c_str : CallR X (.type "str") (rDN X.K nStr) := by
  refine CallR.imp (CallR.both call_str_int SkE.call_str_str) fun xs H Q h => ?_
  obtain ⟨ι, M, ds, S, r, h⟩ := h
  unfold nStr at h
  split at h
  · obtain ⟨v, rfl, rv⟩ := r.one_inv
    cases rv.int_inv
    split at h
    · exact .inl ⟨_, rfl, by assumption, h.val S (.str _)⟩
    · exact h.elim
  · obtain ⟨v, rfl, rv⟩ := r.one_inv
    cases rv.str_inv
    exact .inr ⟨_, rfl, h.val S (.str _)⟩
  · exact h.elim
theorem c_intS : CallR X (.type "int") (rDN X.K nIntS) := by
  refine CallR.imp call_int_str fun xs H Q h => ?_
  obtain ⟨ι, M, ds, S, r, h⟩ := h
  unfold nIntS at h
  split at h
  · rename_i a
    obtain ⟨v, rfl, rv⟩ := r.one_inv
    cases rv.str_inv
    cases q : PySem.intText? a with
    | none => simp only [q] at h; exact h.elim
    | some n =>
      simp only [q] at h
      by_cases c : a.length ≤ 640
      · simp only [if_pos c] at h
        exact ⟨a, n, rfl, q, c, OpO.val S h (.int _)⟩
      · simp only [if_neg c] at h
        exact h.elim
  · exact h.elim
end
/-! x in xs, x of any kind -/
def inX (M : Mem) (a b : D) : Option Bool := match inD M a b with
  | some k => some k
  | none => match toP 64 M a, toP 64 M b with
    | some p, some (.list ps) => if SeqAt.shaped p = true ∧ SeqAt.shaped (.list ps) = true then some (ps.any fun z => PyData.eqv z p) else none
    | _, _ => none
def mInX : Op2 := fun a b M => (inX M a b).map fun k => (.bl k, M)
theorem o_inX {X : Cx} (hu : X.A.units + 65 < cLine) : OpR X (compareOp .In) (rD2 X.K mInX) := by
  refine OpR.imp (o_in.or (op_inD hu)) fun x y H Q h => ?_
  obtain ⟨ι, M, a, b, S, ra, rb, h⟩ := h
  unfold mInX inX at h
  cases e : inD M a b with
  | some k =>
    rw [e] at h
    refine .inl ⟨ι, M, a, b, S, ra, rb, ?_⟩
    unfold mIn
    rw [e]
    exact h
  | none =>
    rw [e] at h
    dsimp only at h
    cases e1 : toP 64 M a with
    | none => rw [e1] at h; exact h.elim
    | some p =>
      rw [e1] at h
      cases e2 : toP 64 M b with
      | none => rw [e2] at h; exact h.elim
      | some q =>
        rw [e2] at h
        cases q with
        | list ps =>
          dsimp only at h
          by_cases c : SeqAt.shaped p = true ∧ SeqAt.shaped (.list ps) = true
          · rw [if_pos c] at h
            exact .inr ⟨p, ps, dp_of S _ _ _ _ ra e1, dp_of S _ _ _ _ rb e2, c.1, c.2, OpO.val S h (.bl _)⟩
          · rw [if_neg c] at h
            exact h.elim
        | _ => exact h.elim
theorem Ctx.hu65 {X : Cx} {W : WX} {k : Nat} (C : Ctx X W k) : X.A.units + 65 < cLine := by have := C.room.un; omega
/-! run -/
section
variable {M : Mem} {a b : Str} {n : Nat} {xs : List D} {i : Int}
theorem mJoin_ref : mJoin (.str a) [.ref n] M = match seqAt M n with
    | some xs => (joinO a xs).map fun z => (.str z, M)
    | none => none := rfl
theorem mJoin_tup : mJoin (.str a) [.tup xs] M = (joinO a xs).map fun z => (.str z, M) := rfl
@[simp] theorem mFind_str : mFind (.str a) [.str b] M = some (.int (Txt.find a b), M) := rfl
@[simp] theorem mSplit_str : mSplit (.str a) [.str b] M = if (b.length == 0) = false ∧ a.length + 2 ≤ sizeLine then some (.ref M.length, M ++ [.lst ((Txt.split a b).map D.str)]) else none := rfl
@[simp] theorem mPartition_str : mPartition (.str a) [.str b] M = if (b.length == 0) = false ∧ a.length ≤ sizeLine then some (.tup [.str (Txt.partition a b).1, .str (Txt.partition a b).2.1, .str (Txt.partition a b).2.2], M) else none := rfl
@[simp] theorem mUpper_str : mUpper (.str a) [] M = if a.length ≤ 5592405 then some (.str (Txt.upper a), M) else none := rfl
@[simp] theorem nStr_int : nStr [.int i] M = if i.natAbs.log2 < 1920 then some (.str (toString i), M) else none := rfl
@[simp] theorem nStr_str : nStr [.str a] M = some (.str a, M) := rfl
@[simp] theorem tyD_str : tyD "str" M (.str a) = true := rfl
theorem joinO_strs {ys : List Str} (h : (ys.map (·.length)).sum + ys.length * a.length ≤ 1000000) : joinO a (ys.map D.str) = some (Txt.join a ys) := by
  unfold joinO
  simp only [strsOf_map]
  exact if_pos (by rw [sizeLine_eq]; omega)
end
end TL
end
section
set_option maxHeartbeats 4000000
/-! the tree layer: defs that know that nothing is being shown around them (for repr) -/
namespace TL
open PySem PySem.Spec PyProof.Rows L2
/-- room, and nothing being shown -/
structure RoomG (k : Nat) (A : Around) : Prop where
  room : Room k A
  gd : A.guards = some []
theorem RoomG.mono {j k : Nat} {A : Around} (r : RoomG k A) (h : j ≤ k) : RoomG j A := ⟨r.room.mono h, r.gd⟩
theorem RoomG.deeper {k : Nat} {A : Around} (r : RoomG (k + 1) A) (env : PySem.Env) : RoomG k (A.deeper env) := ⟨r.room.deeper env, r.gd⟩
structure CtxG (X : Cx) (W : WX) (k : Nat) : Prop where
  ctx : Ctx X W k
  gd : X.A.guards = some []
theorem CtxG.rm {X : Cx} {W : WX} {k : Nat} (C : CtxG X W k) : RoomG k X.A := ⟨C.ctx.room, C.gd⟩
structure FnG (P : Program) (w : World) (K : PySem.W.Frag) (mg : Str → Option Value) (base : Heap) (CX : CXT) (k : Nat) (f : Addr) (fd : FuncData) (ps : List Str) (sp : Sp) : Prop where
  len : ∀ vs H Q E, sp vs H Q E → vs.length = ps.length
  run : ∀ (A : Around) (outer : List PySem.Env) (s : Shared) (H : Hp) (args : Args) (us : List Value) (vs : List V) (Q : VK) (E : XK), RoomG k A → Env0 P w K mg base A outer s H → BindsTo s fd args (ps.zip us) → Vals vs us → sp vs H Q E →
    codeAny (model P w) A (.call (.ref f) args) (CR CX outer P w H s Q E) s
section
variable {P : Program} {w : World} {K : PySem.W.Frag} {mg : Str → Option Value} {base : Heap} {x qual : Str} {params : Arguments} {body : List Stmt} {scope : Scope} {f : Addr} {fd : FuncData} {N ps : List Str} {k : Nat} {CX : CXT} {sp : Sp}
theorem fnG (F : FunD K x qual params body scope [] [] f fd) (S : FnScope N ps scope) (len : ∀ vs H Q E, sp vs H Q E → vs.length = ps.length)
    (hbody : ∀ (cd : Value) (A : Around) (outer : List PySem.Env) (s : Shared) (H : Hp) (vs : List V) (Q : VK) (E : XK), RoomG k (A.deeper (envOfC qual scope s.heap.objs.size f cd)) → sp vs H Q E →
      ∃ t, PSs (cxOf CX P w K mg base N qual scope f cd A outer s H E) body t ∧ t { nx := fun _ H' => Q .non H', rt := Q } (L2.start N vs) H) : FnG P w K mg base CX (k + 1) f fd ps sp where
  len := len
  run A outer s H args us vs Q E room e0 bound vals want := by
    obtain ⟨_, _, _, _, _, _, _, cd, _, _, rfl, at_, code, _, _⟩ := F.ex
    have held : ∀ b o, base.get? b = some o → s.heap.get? b = some o := fun b o e => (e0.bs b o e).1
    have inK := e0.mod.kin.keeps held
    have lim := e0.mod.nolimit.keeps held
    have dep : A.depth < recursionLimit := by have := room.room.dp; omega
    refine codeAny_call_function dep (inK f _ at_) rfl S.co S.gen rfl (PySem.W.codeRec_of inK code) (bound _ _ _ _ (wpAny_newFunctionEnv_cells S.kind ?_ ?_))
    · intro y hy
      have m : y.1 ∈ ps := (List.of_mem_zip (show (y.1, y.2) ∈ ps.zip us from hy)).1
      exact (S.par y.1 m).imp id fun q => ⟨q, PySem.W.cellsFrom_some _ _ _ (.inl q)⟩
    · intro env ee s1 call
      subst ee
      refine ⟨lim.keeps call.toInCall.keep, codeAny_func ?_⟩
      have I := inv_start (CX := CX) (E := E) S (A := A) room.room.hd e0 (len _ _ _ _ want) vals call
      obtain ⟨t, run, q⟩ := hbody cd A outer s H vs Q E (room.deeper _) want
      refine wpAny_mono (run.run [] s1 _ H _ I q) (fun fl s2 e => ?_) fun _ _ e => e
      cases fl with
      | next => obtain ⟨_, H2, I2, q2⟩ := e; exact ⟨.non, H2, I2.os, I2.bare, I2.base, I2.hok, rfl, q2⟩
      | ret u => obtain ⟨v, _, H2, I2, r2, q2⟩ := e; exact ⟨v, H2, I2.os, I2.bare, I2.base, I2.hok, r2, q2⟩
      | brk => exact e.elim fun _ e => e.elim fun _ e => e.2.elim
      | cont => exact e.elim fun _ e => e.elim fun _ e => e.2.elim
end
structure CalleeG (P : Program) (w : World) (K : PySem.W.Frag) (mg : Str → Option Value) (base : Heap) (x : Str) (n k : Nat) (m : Fn) : Prop where
  ex : ∃ (f : Addr) (fd : FuncData) (ps : List Str), FnG P w K mg base (L2N.CX P w) k f fd ps (spD K n m) ∧ mg x = some (.ref f) ∧ PySem.W.keepIn K (.ref f) = true ∧ Binds K fd ps [] ∧ ps.length = n
  len : ∀ ds M, ds.length ≠ n → m ds M = .stuck
section
variable {P : Program} {w : World} {K : PySem.W.Frag} {mg : Str → Option Value} {base : Heap}
theorem okG {x qual : Str} {params : Arguments} {body : List Stmt} {scope : Scope} {f : Addr} {N ps : List Str} {k : Nat} {mb : MS} (F : ∃ fd, FunD K x qual params body scope [] [] f fd) (S : FnScope N ps scope) (hm : mg x = some (.ref f))
    (hbind : ∀ (kV doc pm : Value) (an : Option Addr) (cdv ct : Value) (us : List Value), us.length = ps.length → bindArgs (PySem.W.fnOf x qual params body scope .none kV doc pm an cdv ct) ⟨us, []⟩ = pure (ps.zip us))
    (hbody : ∀ (cdv : Value) (A : Around) (outer : List PySem.Env) (s : Shared) (H : Hp) (E : XK), let X := cxOf (L2N.CX P w) P w K mg base N qual scope f cdv A outer s H E
      CtxG X (fun cls d _ H => E cls d H) k → PSs X body (LS K (fun cls d _ H => E cls d H) mb)) :
    CalleeG P w K mg base x ps.length (k + 1) (fnD ps.length N.length mb) := by
  obtain ⟨fd, F⟩ := F
  refine ⟨⟨f, fd, ps, fnG F S (fun vs H Q E h => h.1) ?_, hm, F.kp, F.bindsN hbind, rfl⟩, fun ds M h => if_neg h⟩
  rintro cdv A outer s H vs Q E hr ⟨hl, ι, ds, M, SS, rs, h⟩
  have C : Ctx (cxOf (L2N.CX P w) P w K mg base N qual scope f cdv A outer s H E) (fun cls d _ H => E cls d H) k := ⟨rfl, S.nd, hr.room, L2N.takes_of rfl rfl rfl rfl, passes_of rfl⟩
  refine ⟨_, hbody cdv A outer s H E ⟨C, hr.gd⟩, ι, startE N.length ds, M, SS, ?_, ?_⟩
  · unfold startE L2.start
    rw [rs.length]
    exact envR_start rs _
  · unfold fnD at h
    rw [if_pos (by rw [rs.length]; exact hl)] at h
    revert h
    cases mb (startE N.length ds) M with
    | next env M1 => exact fun h ι1 σ1 H1 e1 S1 _ => h ι1 H1 e1 S1 _ .non
    | ret d M1 => exact fun h ι1 v H1 e1 S1 r => h ι1 H1 e1 S1 v r
    | exc y env M1 => exact fun h ι1 σ1 H1 cls dx e1 S1 _ ex => h ι1 H1 cls dx e1 S1 ex
    | stuck => exact fun h => h
end
section
variable {X : Cx} {W : WX} {e : Expr} {es : List Expr} {mas : MA} {x : Str} {p pos : Pos}
theorem pe_callG {CX : CXT} {k : Nat} {f : Addr} {fd : FuncData} {ps : List Str} {sp : Sp} {E : L2.St → XK} {t : TA} (F : FnG X.prog X.w X.K X.mg X.base CX k f fd ps sp) (room : RoomG k X.A) (hg : Gl X x) (hm : X.mg x = some (.ref f)) (kp : PySem.W.keepIn X.K (.ref f) = true) (bi : Binds X.K fd ps [])
    (ps' : ∀ σ, PassesAt CX X σ (E σ)) (ha : PA X (e :: es) t) (hdb : (x == ("__debug__" : Str)) = false) (st : starEach (e :: es) X.env = (false, eval e X.env) :: starEach es X.env) (pl : (backTo pos (starEach es X.env)).any (·.1) = false) :
    PE X (.Call (.Name x p) (e :: es) [] pos) (tCallS sp E t) where
  run pins s σ H Q I want := by
    apply wpAny_Call_Name_kw
    refine ld_glob I hg hm ?_ hdb
    refine PySem.W.callWith_K (h₀ := X.base) I.ok.mod.kin kp ?_ st pl
    refine thn (ha.run pos pins s σ H _ I want) ?_
    rintro us s1 ⟨vs, H1, I1, vals, q⟩
    refine ⟨I1.kIn, ?_⟩
    have many : (us ++ []).length = ps.length := by rw [List.append_nil, ← vals.length]; exact F.len _ _ _ _ q
    have bound : BindsTo s1 fd ⟨us, []⟩ (ps.zip us) := by
      have b := bi s1 us I1.kIn many
      rwa [List.append_nil] at b
    apply wpAny_call
    refine codeAny_mono (F.run X.A X.stack s1 H1 _ us vs Q (E σ) room I1.env0 bound vals q) ?_
    rintro (er | fl) s2 e2
    · exact ps' σ pins H1 s1 er s2 I1 e2
    · cases fl with
      | ret u => exact I1.after e2
      | next => exact e2.elim
      | brk => exact e2.elim
      | cont => exact e2.elim
theorem d_callG {k k' n : Nat} {m : Fn} (C : CtxG X W k') (F : CalleeG X.prog X.w X.K X.mg X.base x n k m) (hk : k ≤ k') (ha : PA X (e :: es) (LA X.K W mas)) (hg : Gl X x := by rfl)
    (hdb : (x == ("__debug__" : Str)) = false := by decide) (hst : starEach (e :: es) X.env = (false, eval e X.env) :: starEach es X.env := by rfl) (hpl : (backTo pos (starEach es X.env)).any (·.1) = false := by rfl) :
    PE X (.Call (.Name x p) (e :: es) [] pos) (LE X.K W (eCall m mas)) := by
  have hlen := F.len
  obtain ⟨f, fd, ps, F, hm, kp, hb, _⟩ := F.ex
  refine (pe_callG F (C.rm.mono hk) hg hm kp hb (fun σ => L2N.passAt C.ctx.tk σ) ha hdb hst hpl).imp fun σ H Q ⟨ι, env, M, S, R, h⟩ => ⟨ι, env, M, S, R, ?_⟩
  refine (OutP.bind h).imp fun ds M1 ι1 H1 e1 S1 h1 vs rv => ⟨?_, ι1, ds, M1, S1, rv, h1⟩
  rw [← rv.length]
  by_cases q : ds.length = n
  · exact q
  · rw [hlen ds M1 q] at h1
    exact h1.elim
end
end TL
end
section
set_option maxHeartbeats 4000000
/-! the law's row by such a def -/
namespace TL
open PySem PySem.Spec PyProof.Rows L2
theorem CtxG.blk {X : Cx} {W : WX} {k : Nat} (C : CtxG X W k) {s : Shared} {H : Hp} {scope : Scope} {cenv : PySem.Env} {fp : List Addr} : CtxG (X.blk s H scope cenv fp) W0 k := ⟨C.ctx.blk, C.gd⟩
section
variable {P : Program} {w : World} {K : PySem.W.Frag} {mg mb : Str → Option Value} {CX : CXT} {k : Nat} {fa l : Addr} {fd : FuncData} {x : Str} {sp : Sp} {t : Shared} {vs : List Value} {ns : List Int}
/-- the outer memory while T is followed -/
theorem run_at {T : Hp} (kx : K.In t.heap) (nm : t.heap.Ns mainGlobals mg) (nb : t.heap.Ns builtinsNs mb) (bt : ∀ y : Str, y ≠ "__name__" → mb y = bootBuiltins y) (nl : t.heap.NoLimit) (ng : t.gens = #[])
    (la : t.heap.get? l = some { cls := .type "list", data := .seq vs.toArray }) (rm : RoomG k callerA) (F : ∀ h : Heap, K.In h → h.Ns mainGlobals mg → FnG P w K mg h CX k fa fd [x] sp)
    (bd : ∀ (s : Shared) (u : Value), BindsTo s fd ⟨[u], []⟩ [(x, u)]) (hT : Only T) (hok : HOk P w T t.heap) (hl : ∀ b, T b ≠ none → b = l) (hk : T l ≠ none → K.lookup l = none)
    (want : sp [.ref l] T (fun v _ => v = .bl true) fun _ _ _ => False) (quiet : ∀ e s', CX [] T t (fun _ _ _ => False) e s' → False) :
    codeAny (model P w) callerA (.call (.ref fa) ⟨[.ref l], []⟩) (fun r s' => r = .ok (.ret (.bool true)) ∧ OldK t.heap s'.heap ∧ s'.os = t.os ∧ AllBare s'.gens) t := by
  -- what lies where the script does not is not followed
  have off : ∀ b, b ≠ l → T b = none := fun b hb => by
    cases e : T b with
    | none => rfl
    | some u => exact absurd (hl b (by rw [e]; exact fun z => nomatch z)) hb
  have names : ∀ {b : Addr} {m : Str → Option Value}, t.heap.Ns b m → (hidT t.heap T).Ns b m := by
    rintro b m ⟨o, es, ep, e, d, r⟩
    refine ⟨o, es, ep, hidT_get e (off b ?_), d, r⟩
    rintro rfl
    rw [la] at e
    cases e
    cases d
  have kin : K.In (hidT t.heap T) := fun b o e => by
    refine hidT_get (kx b o e) ?_
    cases q : T b with
    | none => rfl
    | some u =>
      have hb : T b ≠ none := by rw [q]; exact fun z => nomatch z
      have hb' := hl b hb
      subst hb'
      rw [hk hb] at e
      cases e
  have mod : Mod K mg (hidT t.heap T) := by
    obtain ⟨mc, c1, c2⟩ := nl
    exact ⟨kin, names nm, ⟨mb, names nb, bt⟩, mc, names c1, c2⟩
  have env0 : Env0 P w K mg (hidT t.heap T) callerA [] t T := ⟨rfl, mod, fun b o e => of_hidT e, Nat.le_of_eq (hidT_size _ _), trivial, fun b hb => absurd (show b ∈ ([] : List Addr) from hb) (List.not_mem_nil), hok, .of_eq ng⟩
  have go := (F _ kin (names nm)).run callerA [] t T ⟨[.ref l], []⟩ [.ref l] [.ref l] _ _ rm env0 (bd t (.ref l)) (.cons rfl .nil) want
  refine codeAny_mono go ?_
  rintro (er | fl) s2 h
  · exact (quiet er s2 h).elim
  · cases fl with
    | ret u =>
      obtain ⟨v, T2, os, bare, un, ok2, rv, rfl⟩ := h
      obtain rfl : u = Value.bool true := rv
      refine ⟨rfl, OldK.of_keep fun b o e => ?_, os, bare⟩
      rcases hT b with q | ⟨ob, xs, q⟩
      · exact un.keep b o e q (fun z => absurd (show b ∈ ([] : List Addr) from z) (List.not_mem_nil)) (List.not_mem_nil)
      · have q2 := (ok2 b _ (un.frzs b ob _ q)).1
        have q1 := (hok b _ q).1
        rw [e] at q1
        cases q1
        exact q2
    | next => exact h.elim
    | brk => exact h.elim
    | cont => exact h.elim
theorem law_callG (kx : K.In t.heap) (nm : t.heap.Ns mainGlobals mg) (nb : t.heap.Ns builtinsNs mb) (bt : ∀ y : Str, y ≠ "__name__" → mb y = bootBuiltins y) (nl : t.heap.NoLimit) (ng : t.gens = #[])
    (la : t.heap.get? l = some { cls := .type "list", data := .seq vs.toArray }) (ia : IntsAre vs ns) (le : ns.length ≤ sizeLine) (rm : RoomG k callerA) (F : ∀ h : Heap, K.In h → h.Ns mainGlobals mg → FnG P w K mg h CX k fa fd [x] sp)
    (bd : ∀ (s : Shared) (u : Value), BindsTo s fd ⟨[u], []⟩ [(x, u)]) (want : ∀ T : Hp, Only T → SqL K T l (ns.map V.int) → sp [.ref l] T (fun v _ => v = .bl true) fun _ _ _ => False)
    (quiet : ∀ T e s', CX [] T t (fun _ _ _ => False) e s' → False) :
    codeAny (model P w) callerA (.call (.ref fa) ⟨[.ref l], []⟩) (fun r s' => r = .ok (.ret (.bool true)) ∧ OldK t.heap s'.heap ∧ s'.os = t.os ∧ AllBare s'.gens) t := by
  have rv := vals_ints ia
  cases q : K.lookup l with
  | some o =>
    have e := kx l o q
    rw [la] at e
    cases e
    have on : Only fun _ => none := fun _ => .inl rfl
    refine run_at (T := fun _ => none) kx nm nb bt nl ng la rm F bd on (fun _ _ z => nomatch z) (fun _ z => (z rfl).elim) (fun z => (z rfl).elim) (want _ on (.inr ⟨_, vs.toArray, _, q, rfl, rfl, rfl, ?_, ?_⟩)) (quiet _)
    · rw [List.size_toArray, ia.length]
      exact le
    · simpa using rv
  | none =>
    let T : Hp := fun b => if b = l then some (.frz { cls := .type "list", data := .seq vs.toArray } (.lst (ns.map V.int))) else none
    have at_ : T l = some (.frz { cls := .type "list", data := .seq vs.toArray } (.lst (ns.map V.int))) := if_pos rfl
    have away : ∀ b, b ≠ l → T b = none := fun b h => if_neg h
    have on : Only T := fun b => by
      by_cases h : b = l
      · subst h
        exact .inr ⟨_, _, at_⟩
      · exact .inl (away b h)
    refine run_at (T := T) kx nm nb bt nl ng la rm F bd on (fun b u z => ?_) (fun b z => Decidable.byContradiction fun h => z (away b h)) (fun _ => q) (want _ on (.inl (.inr ⟨_, at_⟩))) (quiet _)
    by_cases h : b = l
    · subst h
      rw [at_] at z
      cases z
      exact ⟨la, by rw [List.length_map]; exact le, vs, _, rv, la⟩
    · rw [away b h] at z
      cases z
end
end TL
namespace TL
open PySem PySem.Spec PyProof.Rows L2
theorem walk_ofG {l : PySem.W.OpenLaw} {n k : Nat} {q : Program} {loose : List Str} {XP : (Str → Option Value) → Heap → Prop} {YP : World → Heap → Prop} {d : DefRec} {CX : World → CXT} {x : Str}
    (most : l.most = some n) (fits : n ≤ sizeLine) (plain : d.params.defaults = []) (rm : RoomG k callerA)
    (F : ∀ (w : World) (mg : Str → Option Value) (fa : Addr) (h : Heap), YP w h → h.Ns mainGlobals mg → mg d.name = some (.ref fa) →
      ∃ (K : PySem.W.Frag) (fd : FuncData) (sp : Sp), K.In h ∧ (∀ (s : Shared) (u : Value), BindsTo s fd ⟨[u], []⟩ [(x, u)]) ∧
        (∀ (H : Hp) (a : Addr) (ns : List Int), ns.length ≤ n → Only H → SqL K H a (ns.map V.int) → sp [.ref a] H (fun v _ => v = .bl true) fun _ _ _ => False) ∧
        ∀ base : Heap, K.In base → base.Ns mainGlobals mg → FnG l.prog w K mg base (CX w) k fa fd [x] sp)
    (quiet : ∀ (w : World) (H : Hp) (s : Shared) (e : Value) (s' : Shared), CX w [] H s (fun _ _ _ => False) e s' → False) :
    PySem.W.WalkO q loose XP YP l.row.toRowW d [] (fun f vs => PySem.call f vs) := by
  refine Att.attach_call most plain fun w s₀ s₁ mg mb fa o pm cd doc a vs ns G Y ho hd hcd hmg hobj hints hlen hg => ?_
  obtain ⟨K, fd, sp, kin, bd, want, fn⟩ := F w mg fa _ Y G.T.g hmg
  exact law_callG kin G.T.g G.T.b G.T.builtins G.T.nolimit hg hobj hints (Nat.le_trans hlen fits) rm fn bd (fun T on sq => want T a ns hlen on sq) (fun T e s' => quiet w T s₁ e s')
end TL
end
section
set_option maxHeartbeats 4000000
/-! repr of data -/
namespace TL
open PySem PySem.Spec PyProof.Rows L2
/-- what repr shows -/
structure ShowOk (K : PySem.W.Frag) (H : Hp) (x : V) (d : PyData) : Prop where
  dp : Dp K H x d
  sh : d.showable = true
  nd : d.hasDict = false
  dep : d.depth ≤ 60
  size : d.shown.length ≤ sizeLine
theorem call_reprD {X : Cx} (hg : X.A.guards = some []) (hu : X.A.units + 64 < cLine) : CallR X (.builtin "repr") (fun xs H Q => ∃ x d, xs = [x] ∧ ShowOk X.K H x d ∧ Q (.str d.shown) H) := by
  intro pins s σ H xs us Q I r h
  obtain ⟨x, d, rfl, so, q⟩ := h
  cases r with
  | cons rx rt =>
    cases rt
    rename_i u
    obtain ⟨as, rd⟩ := Dp.reads I d x u so.dp rx
    cases rd with
    | none => exact PySem.P.repr_of_none ⟨.str _, H, I.tok _, ⟨_, rfl⟩, q⟩
    | bool b => exact PySem.P.repr_of_bool ⟨.str _, H, I.tok _, ⟨_, rfl⟩, q⟩
    | int i t => exact PySem.P.repr_of_int (of_decide_eq_true so.sh) ⟨.str _, H, I.tok _, ⟨_, rfl⟩, q⟩
    | str y t => exact PySem.P.repr_of_str ⟨.str _, H, I.tok _, ⟨_, rfl⟩, q⟩ so.size
    | list e c dt al =>
      exact repr_of_reads' (.list e c dt al) so.sh (fun z => by rw [so.nd] at z; cases z) hg (by have := so.dep; omega) (fun _ _ e => e) (fun h' u tk hk => ⟨.str _, H, I.kept hk, ⟨_, rfl⟩, q⟩) so.size
    | tuple e c dt al =>
      exact repr_of_reads' (.tuple e c dt al) so.sh (fun z => by rw [so.nd] at z; cases z) hg (by have := so.dep; omega) (fun _ _ e => e) (fun h' u tk hk => ⟨.str _, H, I.kept hk, ⟨_, rfl⟩, q⟩) so.size
    | dict e c dt ks vs => exact absurd so.dp (fun z => nomatch z)
/-- the data of a thing and of what it holds -/
def datL (f : D → Option PyData) : List D → Option (List PyData)
  | [] => some []
  | x :: xs => match f x, datL f xs with
    | some d, some ds => some (d :: ds)
    | _, _ => none
def dat : Nat → Mem → D → Option PyData
  | 0, _, _ => none
  | n + 1, M, d => match d with
    | .non => some .none
    | .bl b => some (.bool b)
    | .int i => some (.int i)
    | .str x => some (.str x)
    | .tup xs => (datL (dat n M) xs).map PyData.tuple
    | .ref a => match seqAt M a with
      | some xs => (datL (dat n M) xs).map PyData.list
      | none => none
    | _ => none
section
variable {K : PySem.W.Frag} {ι : List Addr} {H : Hp} {M : Mem}
theorem datL_dp {f : D → Option PyData} {n : Nat} (h : ∀ (d : D) (v : V) (x : PyData), f d = some x → Rp K ι H d v → Dp K H v x ∧ x.hasDict = false ∧ x.depth ≤ n) :
    ∀ (xs : List D) (vs : List V) (ds : List PyData), datL f xs = some ds → RpA K ι H xs vs → DpAll K H vs ds ∧ PyData.hasDictAll ds = false ∧ PyData.depthAll ds ≤ n
  | [], _, _, e, .nil => by
    cases e
    exact ⟨.nil, rfl, Nat.zero_le _⟩
  | d :: xs, _, ds, e, .cons r rs => by
    unfold datL at e
    cases e1 : f d with
    | none => rw [e1] at e; cases e
    | some y =>
      cases e2 : datL f xs with
      | none => rw [e1, e2] at e; cases e
      | some ys =>
        rw [e1, e2] at e
        cases e
        obtain ⟨a1, a2, a3⟩ := h d _ y e1 r
        obtain ⟨b1, b2, b3⟩ := datL_dp h xs _ ys e2 rs
        refine ⟨.cons a1 b1, ?_, Nat.max_le.mpr ⟨a3, b3⟩⟩
        show (y.hasDict || PyData.hasDictAll ys) = false
        rw [a2, b2]
        rfl
theorem dat_dp (S : SR K ι H M) : ∀ (n : Nat) (d : D) (v : V) (x : PyData), dat n M d = some x → Rp K ι H d v → Dp K H v x ∧ x.hasDict = false ∧ x.depth ≤ n
  | 0, _, _, _, e, _ => nomatch e
  | n + 1, d, v, x, e, r => by
    cases r with
    | non => cases e; exact ⟨.non, rfl, Nat.zero_le _⟩
    | bl b => cases e; exact ⟨.bl b, rfl, Nat.zero_le _⟩
    | int i => cases e; exact ⟨.int i, rfl, Nat.zero_le _⟩
    | str y => cases e; exact ⟨.str y, rfl, Nat.zero_le _⟩
    | err q => cases e
    | tup h1 h2 =>
      obtain ⟨ds, e1, rfl⟩ := Option.map_eq_some_iff.mp (show (datL (dat n M) _).map PyData.tuple = some x from e)
      obtain ⟨a1, a2, a3⟩ := datL_dp (dat_dp S n) _ _ ds e1 h2
      exact ⟨.tup h1 a1, a2, Nat.succ_le_succ a3⟩
    | ref h1 =>
      rename_i m a
      have e' : (match seqAt M m with | some xs => (datL (dat n M) xs).map PyData.list | none => none) = some x := e
      cases q : seqAt M m with
      | none => rw [q] at e'; cases e'
      | some xs =>
        rw [q] at e'
        obtain ⟨ds, e1, rfl⟩ := Option.map_eq_some_iff.mp e'
        obtain ⟨vs, s1, s2⟩ := S.seq h1 q
        obtain ⟨a1, a2, a3⟩ := datL_dp (dat_dp S n) _ _ ds e1 s2
        exact ⟨.lst s1 a1, a2, Nat.succ_le_succ a3⟩
end
open Classical in
noncomputable def nRepr : OpN := fun ds M => match ds with
  | [d] => match dat 40 M d with
    | some x => if x.showable = true ∧ x.shown.length ≤ sizeLine then some (.str x.shown, M) else none
    | none => none
  | _ => none
theorem c_repr {X : Cx} {W : WX} {k : Nat} (C : CtxG X W k) : CallR X (.builtin "repr") (rDN X.K nRepr) := by
  refine CallR.imp (call_reprD C.gd C.ctx.room.units) fun xs H Q h => ?_
  obtain ⟨ι, M, ds, S, r, h⟩ := h
  unfold nRepr at h
  split at h
  · rename_i d
    obtain ⟨v, rfl, r1⟩ := r.one_inv
    cases e : dat 40 M d with
    | none => rw [e] at h; exact h.elim
    | some x =>
      rw [e] at h
      obtain ⟨a1, a2, a3⟩ := dat_dp S 40 d v x e r1
      by_cases c : x.showable = true ∧ x.shown.length ≤ sizeLine
      · simp only [if_pos c] at h
        exact ⟨v, x, rfl, ⟨a1, c.1, a2, by omega, c.2⟩, h.val S (.str _)⟩
      · simp only [if_neg c] at h
        exact h.elim
  · exact h.elim
/-- the law's own def -/
theorem okFG {P : Program} {w : World} {K : PySem.W.Frag} {mg : Str → Option Value} {base : Heap} {x qual : Str} {params : Arguments} {body : List Stmt} {scope : Scope} {f : Addr} {fd : FuncData} {N ps : List Str} {k : Nat} {mb : MS} (F : FunD K x qual params body scope [] [] f fd) (S : FnScope N ps scope)
    (hbody : ∀ (cdv : Value) (A : Around) (outer : List PySem.Env) (s : Shared) (H : Hp) (E : XK), let X := cxOf (L2N.CX P w) P w K mg base N qual scope f cdv A outer s H E
      CtxG X (fun cls d _ H => E cls d H) k → PSs X body (LS K (fun cls d _ H => E cls d H) mb)) :
    FnG P w K mg base (L2N.CX P w) (k + 1) f fd ps (spD K ps.length (fnD ps.length N.length mb)) := by
  refine fnG F S (fun vs H Q E h => h.1) ?_
  rintro cdv A outer s H vs Q E hr ⟨hl, ι, ds, M, SS, rs, h⟩
  have C : Ctx (cxOf (L2N.CX P w) P w K mg base N qual scope f cdv A outer s H E) (fun cls d _ H => E cls d H) k := ⟨rfl, S.nd, hr.room, L2N.takes_of rfl rfl rfl rfl, passes_of rfl⟩
  refine ⟨_, hbody cdv A outer s H E ⟨C, hr.gd⟩, ι, startE N.length ds, M, SS, ?_, ?_⟩
  · unfold startE L2.start
    rw [rs.length]
    exact envR_start rs _
  · unfold fnD at h
    rw [if_pos (by rw [rs.length]; exact hl)] at h
    revert h
    cases mb (startE N.length ds) M with
    | next env M1 => exact fun h ι1 σ1 H1 e1 S1 _ => h ι1 H1 e1 S1 _ .non
    | ret d M1 => exact fun h ι1 v H1 e1 S1 r => h ι1 H1 e1 S1 v r
    | exc y env M1 => exact fun h ι1 σ1 H1 cls dx e1 S1 _ ex => h ι1 H1 cls dx e1 S1 ex
    | stuck => exact fun h => h
end TL
end
section
set_option maxHeartbeats 4000000
/-! what is shown stays while memory grows -/
namespace TL
open PySem PySem.Spec PyProof.Rows L2
theorem datL_imp {f g : D → Option PyData} (h : ∀ (d : D) (x : PyData), f d = some x → g d = some x) : ∀ (xs : List D) (ds : List PyData), datL f xs = some ds → datL g xs = some ds
  | [], _, e => e
  | d :: xs, ds, e => by
    unfold datL at e ⊢
    cases e1 : f d with
    | none => rw [e1] at e; cases e
    | some y =>
      cases e2 : datL f xs with
      | none => rw [e1, e2] at e; cases e
      | some ys =>
        rw [e1, e2] at e
        rw [h d y e1, datL_imp h xs ys e2]
        exact e
theorem dat_keep {M M' : Mem} (k : Keep M M') : ∀ (n : Nat) (d : D) (x : PyData), dat n M d = some x → dat n M' d = some x
  | 0, _, _, e => nomatch e
  | n + 1, d, x, e => by
    cases d with
    | tup xs =>
      obtain ⟨ds, e1, rfl⟩ := Option.map_eq_some_iff.mp (show (datL (dat n M) xs).map PyData.tuple = some x from e)
      show (datL (dat n M') xs).map PyData.tuple = _
      rw [datL_imp (dat_keep k n) xs ds e1]
      rfl
    | ref m =>
      have e' : (match seqAt M m with | some xs => (datL (dat n M) xs).map PyData.list | none => none) = some x := e
      show (match seqAt M' m with | some xs => (datL (dat n M') xs).map PyData.list | none => none) = some x
      cases q : seqAt M m with
      | none => rw [q] at e'; cases e'
      | some xs =>
        rw [q] at e'
        obtain ⟨ds, e1, rfl⟩ := Option.map_eq_some_iff.mp e'
        rw [k.seq q]
        simp only
        rw [datL_imp (dat_keep k n) xs ds e1]
        rfl
    | _ => exact e
/-- a thing that repr can show -/
def Shows (M : Mem) (d : D) (t : Str) : Prop := ∃ x, dat 40 M d = some x ∧ x.showable = true ∧ x.shown.length ≤ sizeLine ∧ t = x.shown
theorem Shows.keep {M M' : Mem} {d : D} {t : Str} (k : Keep M M') (h : Shows M d t) : Shows M' d t := by
  obtain ⟨x, e, r⟩ := h
  exact ⟨x, dat_keep k 40 d x e, r⟩
theorem nRepr_ok {M : Mem} {d : D} {t : Str} (h : Shows M d t) : nRepr [d] M = some (.str t, M) := by
  obtain ⟨x, e, s, l, rfl⟩ := h
  unfold nRepr
  simp only [e]
  exact if_pos ⟨s, l⟩
theorem Shows.of {M : Mem} {d : D} {x : PyData} (e : dat 40 M d = some x) (s : x.showable = true) (l : x.leavesShort 200 = true) (h : x.weight ≤ 10000) : Shows M d x.shown := by
  refine ⟨x, e, s, ?_, rfl⟩
  have h1 := PyData.shown_le 200 (by decide) x l
  rw [sizeLine_eq]
  omega
theorem int_short {i : Int} (h : i.natAbs < 10 ^ 60) : (PyData.int i).leavesShort 200 = true := by
  have h1 := int_text_length_le10 (a := i) (k := 60) (by decide) h
  show decide ((PyData.int i).shown.length ≤ 200) = true
  refine decide_eq_true ?_
  have h2 : (Str.ofString (toString i)).length ≤ 200 := by
    clear h
    rw [PySem.ofString_length]
    omega
  exact h2
end TL
end
section
set_option maxHeartbeats 4000000
/-! what can be shown, put together -/
namespace TL
open PySem PySem.Spec PyProof.Rows L2
/-- it can be shown: at most n deep, of weight w -/
def Sh (M : Mem) (n w : Nat) (d : D) : Prop := ∃ x, dat n M d = some x ∧ (x.showable = true ∧ x.canLay0 = true) ∧ x.leavesShort 200 = true ∧ x.weight ≤ w
def ShL (M : Mem) (n w : Nat) (ds : List D) : Prop := ∃ xs, datL (dat n M) ds = some xs ∧ (PyData.showableAll xs = true ∧ PyData.canLayAll0 xs = true) ∧ PyData.leavesShortAll 200 xs = true ∧ PyData.weightAll xs ≤ w
section
variable {M M' : Mem} {n w v : Nat} {d : D} {ds es : List D}
theorem Sh.non : Sh M (n + 1) 0 .non := ⟨.none, rfl, ⟨rfl, rfl⟩, rfl, Nat.le_refl _⟩
theorem Sh.bl {b : Bool} : Sh M (n + 1) 0 (.bl b) := ⟨.bool b, rfl, ⟨rfl, rfl⟩, rfl, Nat.le_refl _⟩
theorem Sh.int {i : Int} (h : i.natAbs < 10 ^ 60) : Sh M (n + 1) 201 (.int i) := by
  have l : i.natAbs.log2 < 200 := by
    by_cases z : i.natAbs = 0
    · rw [z]; decide
    · exact (Nat.log2_lt z).mpr (Nat.lt_trans h (by decide))
  refine ⟨.int i, rfl, ⟨decide_eq_true (by omega), rfl⟩, int_short h, ?_⟩
  show (if i == 0 then 0 else i.natAbs.log2 + 1) ≤ 201
  split <;> omega
theorem Sh.str {x : Str} (h : PyData.strOk x = true) : Sh M (n + 1) x.cps.size (.str x) := by
  refine ⟨.str x, rfl, ⟨rfl, h⟩, ?_, Nat.le_refl _⟩
  show (x.cps.toList.all fun c => decide (c < 16 ^ 8)) = true
  unfold PyData.strOk at h
  rw [← Array.all_toList] at h
  simp only [List.all_eq_true, decide_eq_true_eq] at h ⊢
  exact fun c hc => Nat.lt_trans (h c hc) (by decide)
theorem Sh.le (h : Sh M n w d) (l : w ≤ v) : Sh M n v d := by
  obtain ⟨x, a, b, c, e⟩ := h
  exact ⟨x, a, b, c, Nat.le_trans e l⟩
theorem ShL.le (h : ShL M n w ds) (l : w ≤ v) : ShL M n v ds := by
  obtain ⟨x, a, b, c, e⟩ := h
  exact ⟨x, a, b, c, Nat.le_trans e l⟩
theorem ShL.nil : ShL M n 0 [] := ⟨[], rfl, ⟨rfl, rfl⟩, rfl, Nat.le_refl _⟩
theorem ShL.cons (h : Sh M n w d) (t : ShL M n v ds) : ShL M n (w + 1 + v) (d :: ds) := by
  obtain ⟨x, a, ⟨b, g⟩, c, e⟩ := h
  obtain ⟨xs, a', ⟨b', g'⟩, c', e'⟩ := t
  refine ⟨x :: xs, ?_, ?_, ?_, ?_⟩
  · unfold datL; rw [a, a']
  · exact ⟨by show (x.showable && PyData.showableAll xs) = true; rw [b, b']; rfl, by show (x.canLay0 && PyData.canLayAll0 xs) = true; rw [g, g']; rfl⟩
  · show (x.leavesShort 200 && PyData.leavesShortAll 200 xs) = true; rw [c, c']; rfl
  · show x.weight + 1 + PyData.weightAll xs ≤ _; omega
theorem ShL.append (h : ShL M n w ds) (t : ShL M n v es) : ShL M n (w + v) (ds ++ es) := by
  induction ds generalizing w with
  | nil => exact t.le (by omega)
  | cons d ds ih =>
    obtain ⟨xs, a, ⟨b, g⟩, c, e⟩ := h
    unfold datL at a
    cases q1 : dat n M d with
    | none => rw [q1] at a; cases a
    | some y =>
      cases q2 : datL (dat n M) ds with
      | none => rw [q1, q2] at a; cases a
      | some ys =>
        rw [q1, q2] at a
        cases a
        obtain ⟨b1, b2⟩ := Bool.and_eq_true_iff.mp (show (y.showable && PyData.showableAll ys) = true from b)
        obtain ⟨g1, g2⟩ := Bool.and_eq_true_iff.mp (show (y.canLay0 && PyData.canLayAll0 ys) = true from g)
        obtain ⟨c1, c2⟩ := Bool.and_eq_true_iff.mp (show (y.leavesShort 200 && PyData.leavesShortAll 200 ys) = true from c)
        have e' : y.weight + 1 + PyData.weightAll ys ≤ w := e
        exact (ShL.cons (w := y.weight) ⟨y, q1, ⟨b1, g1⟩, c1, Nat.le_refl _⟩ (ih (w := PyData.weightAll ys) ⟨ys, q2, ⟨b2, g2⟩, c2, Nat.le_refl _⟩)).le (by omega)
theorem Sh.tup (h : ShL M n w ds) : Sh M (n + 1) w (.tup ds) := by
  obtain ⟨xs, a, b, c, e⟩ := h
  refine ⟨.tuple xs, ?_, b, c, e⟩
  show (datL (dat n M) ds).map PyData.tuple = _
  rw [a]; rfl
theorem Sh.ref {m : Nat} (hm : seqAt M m = some ds) (h : ShL M n w ds) : Sh M (n + 1) w (.ref m) := by
  obtain ⟨xs, a, b, c, e⟩ := h
  refine ⟨.list xs, ?_, b, c, e⟩
  show (match seqAt M m with | some xs => (datL (dat n M) xs).map PyData.list | none => none) = _
  rw [hm]
  simp only [a]
  rfl
theorem ShL.all (h : ∀ d ∈ ds, Sh M n w d) : ShL M n ((w + 1) * ds.length) ds := by
  induction ds with
  | nil => exact .nil
  | cons d ds ih =>
    refine (ShL.cons (h d List.mem_cons_self) (ih fun x hx => h x (List.mem_cons_of_mem _ hx))).le ?_
    rw [List.length_cons, Nat.mul_add]
    omega
theorem ShL.of_all (h : ShL M n w ds) : ∀ d ∈ ds, ∃ v, v + 1 ≤ w ∧ Sh M n v d := by
  induction ds generalizing w with
  | nil => exact fun _ hx => nomatch hx
  | cons d ds ih =>
    obtain ⟨xs, a, ⟨b, g⟩, c, e⟩ := h
    unfold datL at a
    cases q1 : dat n M d with
    | none => rw [q1] at a; cases a
    | some y =>
      cases q2 : datL (dat n M) ds with
      | none => rw [q1, q2] at a; cases a
      | some ys =>
        rw [q1, q2] at a
        cases a
        obtain ⟨b1, b2⟩ := Bool.and_eq_true_iff.mp (show (y.showable && PyData.showableAll ys) = true from b)
        obtain ⟨g1, g2⟩ := Bool.and_eq_true_iff.mp (show (y.canLay0 && PyData.canLayAll0 ys) = true from g)
        obtain ⟨c1, c2⟩ := Bool.and_eq_true_iff.mp (show (y.leavesShort 200 && PyData.leavesShortAll 200 ys) = true from c)
        have e' : y.weight + 1 + PyData.weightAll ys ≤ w := e
        intro x hx
        rcases List.mem_cons.mp hx with rfl | hx
        · exact ⟨y.weight, by omega, y, q1, ⟨b1, g1⟩, c1, Nat.le_refl _⟩
        · obtain ⟨v, hv, s⟩ := ih (w := PyData.weightAll ys) ⟨ys, q2, ⟨b2, g2⟩, c2, Nat.le_refl _⟩ x hx
          exact ⟨v, by omega, s⟩
theorem Sh.keep (k : Keep M M') (h : Sh M n w d) : Sh M' n w d := by
  obtain ⟨x, a, r⟩ := h
  exact ⟨x, dat_keep k n d x a, r⟩
theorem ShL.keep (k : Keep M M') (h : ShL M n w ds) : ShL M' n w ds := by
  obtain ⟨x, a, r⟩ := h
  exact ⟨x, datL_imp (dat_keep k n) ds x a, r⟩
theorem Sh.shows (h : Sh M 40 w d) (l : w ≤ 10000) : ∃ t, Shows M d t := by
  obtain ⟨x, a, b, c, e⟩ := h
  exact ⟨_, Shows.of a b.1 c (Nat.le_trans e l)⟩
end
theorem datL_optAll {f g : D → Option PyData} (h : ∀ d x, f d = some x → g d = some x) : ∀ (xs : List D) (ps : List PyData), datL f xs = some ps → optAll g xs = some ps
  | [], _, e => e
  | x :: xs, ps, e => by
    unfold datL at e
    unfold optAll
    cases e1 : f x with
    | none => rw [e1] at e; cases e
    | some y =>
      cases e2 : datL f xs with
      | none => rw [e1, e2] at e; cases e
      | some ys =>
        rw [e1, e2] at e
        rw [h x y e1, datL_optAll h xs ys e2]
        exact e
theorem dat_toP {M : Mem} : ∀ (n : Nat) (d : D) (x : PyData), dat n M d = some x → toP n M d = some x
  | 0, _, _, e => nomatch e
  | n + 1, d, x, e => by
    cases d with
    | tup xs =>
      obtain ⟨ps, e1, rfl⟩ := Option.map_eq_some_iff.mp (show (datL (dat n M) xs).map PyData.tuple = some x from e)
      show (optAll (toP n M) xs).map PyData.tuple = _
      rw [datL_optAll (dat_toP n) xs ps e1]
      rfl
    | ref m =>
      have e' : (match seqAt M m with | some xs => (datL (dat n M) xs).map PyData.list | none => none) = some x := e
      show (match seqAt M m with | some xs => (optAll (toP n M) xs).map PyData.list | none => none) = some x
      cases q : seqAt M m with
      | none => rw [q] at e'; cases e'
      | some xs =>
        rw [q] at e'
        obtain ⟨ps, e1, rfl⟩ := Option.map_eq_some_iff.mp e'
        simp only
        rw [datL_optAll (dat_toP n) xs ps e1]
        rfl
    | _ => exact e
theorem datL_depth {f : D → Option PyData} {n : Nat} (h : ∀ d x, f d = some x → x.depth ≤ n) : ∀ (xs : List D) (ps : List PyData), datL f xs = some ps → PyData.depthAll ps ≤ n
  | [], _, e => by cases e; exact Nat.zero_le _
  | x :: xs, ps, e => by
    unfold datL at e
    cases e1 : f x with
    | none => rw [e1] at e; cases e
    | some y =>
      cases e2 : datL f xs with
      | none => rw [e1, e2] at e; cases e
      | some ys =>
        rw [e1, e2] at e
        cases e
        exact Nat.max_le.mpr ⟨h x y e1, datL_depth h xs ys e2⟩
theorem dat_depth {M : Mem} : ∀ (n : Nat) (d : D) (x : PyData), dat n M d = some x → x.depth ≤ n
  | 0, _, _, e => nomatch e
  | n + 1, d, x, e => by
    cases d with
    | tup xs =>
      obtain ⟨ps, e1, rfl⟩ := Option.map_eq_some_iff.mp (show (datL (dat n M) xs).map PyData.tuple = some x from e)
      exact Nat.succ_le_succ (datL_depth (dat_depth n) xs ps e1)
    | ref m =>
      have e' : (match seqAt M m with | some xs => (datL (dat n M) xs).map PyData.list | none => none) = some x := e
      cases q : seqAt M m with
      | none => rw [q] at e'; cases e'
      | some xs =>
        rw [q] at e'
        obtain ⟨ps, e1, rfl⟩ := Option.map_eq_some_iff.mp e'
        exact Nat.succ_le_succ (datL_depth (dat_depth n) xs ps e1)
    | non => cases e; exact Nat.zero_le _
    | bl b => cases e; exact Nat.zero_le _
    | int i => cases e; exact Nat.zero_le _
    | str y => cases e; exact Nat.zero_le _
    | err y => cases e
/-- what can be shown can be held against other things -/
theorem Sh.shaped {M : Mem} {w : Nat} {d : D} (h : Sh M 40 w d) : (toP 64 M d).isSome = true ∧ ∀ p, toP 64 M d = some p → SeqAt.shaped p = true := by
  obtain ⟨x, a, ⟨_, g⟩, _⟩ := h
  have e := toP_mono (f := 40) (g := 64) (by decide) (dat_toP 40 d x a)
  refine ⟨by rw [e]; rfl, fun p hp => ?_⟩
  rw [e] at hp
  cases hp
  unfold SeqAt.shaped
  rw [g, Bool.true_and]
  exact decide_eq_true (Nat.le_trans (dat_depth 40 d x a) (by decide))
end TL
end
section
set_option maxHeartbeats 4000000
/-! how many unlike texts a list holds -/
namespace TL
open PySem PySem.Spec PyProof.Rows L2
/-- how many of these are not seen before -/
def fresh {κ : Type} [DecidableEq κ] (S : κ → Bool) : List κ → Nat
  | [] => 0
  | x :: xs => (if S x then 0 else 1) + fresh (fun y => S y || decide (y = x)) xs
theorem fresh_le {κ : Type} [DecidableEq κ] : ∀ (xs : List κ) (S : κ → Bool), fresh S xs ≤ xs.length
  | [], _ => Nat.le_refl _
  | x :: xs, S => by
    have := fresh_le xs (fun y => S y || decide (y = x))
    show (if S x then 0 else 1) + fresh (fun y => S y || decide (y = x)) xs ≤ xs.length + 1
    split <;> omega
theorem fresh_nodup {κ : Type} [DecidableEq κ] : ∀ (xs : List κ) (S : κ → Bool), xs.Nodup → (∀ x ∈ xs, S x = false) → fresh S xs = xs.length
  | [], _, _, _ => rfl
  | x :: xs, S, nd, h => by
    obtain ⟨n1, n2⟩ := List.nodup_cons.mp nd
    show (if S x then 0 else 1) + fresh (fun y => S y || decide (y = x)) xs = xs.length + 1
    rw [h x List.mem_cons_self, fresh_nodup xs _ n2 fun y hy => ?_]
    · simp; omega
    · rw [h y (List.mem_cons_of_mem _ hy)]
      simp
      rintro rfl
      exact n1 hy
section
variable {prog : Program} {w : World} {B : Around} {R : Result → Shared → Prop} {it : Addr} {fp wr : List Addr} {G : Array GenState → Array GenState → Prop} {len : Nat} {P : Nat → Value → Prop} {St : Nat → Shared → Prop}
variable {κ : Type} [DecidableEq κ] {knd : KeyKind prog w κ}
/-- a set is filled off what is walked -/
theorem fill_set (W : WalksS prog w B.in1 it fp wr G len P St) (D : Addr) (off : D ∉ fp) (ks : List κ) (hk : ks.length = len)
    (val : ∀ (i : Nat) (v : Value), P i v → ∃ k : κ, ks[i]? = some k ∧ knd.is k v = true ∧ v.scannable = true) :
    ∀ (rest : List κ) (i : Nat) (t : Shared) (S : κ → Bool) (n : Nat), ks.drop i = rest → i ≤ len → n + rest.length + 1 < scanBound → St i t → t.heap.SetOf knd D S n →
      (∀ t', Moved (D :: wr) G t t' → (∃ S', t'.heap.SetOf knd D S' (n + fresh S rest)) → R (.ok (.ret .none)) t') →
      codeAny (model prog w) B (.builtin "set.update.loop" ⟨[.ref D, .ref it], []⟩) R t := by
  have away : D ∉ wr := fun z => off (W.sub _ z)
  have more : ∀ b ∈ wr, b ∈ D :: wr := fun b z => List.mem_cons_of_mem _ z
  intro rest
  induction rest with
  | nil =>
    intro i t S n hd hi room st so fin
    have here : len = i := by
      have := congrArg List.length hd
      simp at this
      omega
    rw [← here] at st
    refine codeAny_builtin F.entry_set_update_loop ?_
    rw [Around.under_plainId F.plain_set_update_loop _]
    show wpAny _ B.in1 (pyNext (.ref it) >>= _) _ _ t
    refine wpAny_bind (W.done t _ _ st fun t' mv => ?_)
    show wpAny _ B.in1 (ret Value.none) _ _ t'
    refine wpAny_pure (fin t' (mv.mono more) ⟨S, ?_⟩)
    obtain ⟨o, es, ep, tb, ho, rest⟩ := so
    exact ⟨o, es, ep, tb, mv.heap D _ away ho, rest⟩
  | cons k rest ih =>
    intro i t S n hd hi room st so fin
    obtain ⟨at_, tail⟩ := drop_at hd
    have lt : i < len := hk ▸ (List.getElem?_eq_some_iff.mp at_).1
    refine codeAny_builtin F.entry_set_update_loop ?_
    rw [Around.under_plainId F.plain_set_update_loop _]
    show wpAny _ B.in1 (pyNext (.ref it) >>= _) _ _ t
    refine wpAny_bind (W.item i t _ _ lt st fun v t' pv st' mv => ?_)
    obtain ⟨k', at', isk, sc⟩ := val i v pv
    rw [at_] at at'
    cases at'
    have so' : t'.heap.SetOf knd D S n := by
      obtain ⟨o, es, ep, tb, ho, rest⟩ := so
      exact ⟨o, es, ep, tb, mv.heap D _ away ho, rest⟩
    show wpAny _ B.in1 (holding [v] (setAdd D v) >>= _) _ _ t'
    refine wpAny_bind (wpAny_holding ?_)
    unfold setAdd
    refine wpAny_holding ?_
    refine wpAny_bind (knd.pyHash (k := k) isk ?_)
    rw [List.length_cons] at room
    refine wpAny_setAddHashed_of (knd := knd) (s := { t' with toks := t'.toks + 1 }) isk sc so' (by omega) fun h' sb so2 => ?_
    refine wpAny_pure ⟨plainId_quiet F.plain_set_update_loop _, ih (i + 1) _ _ _ tail lt (by split <;> omega) (W.frame _ t' _ _ st' (Nat.le_succ _) fun b hb o e => ?_) so2 fun t2 mv2 so3 => ?_⟩
    · rw [sb.2 b (fun z : b = D => off (z ▸ hb))]
      exact e
    · refine fin t2 (Moved.trans W.gtrans ((mv.mono more).then_heap (Nat.le_succ _) fun b o hb e => ?_) mv2) ?_
      · rw [sb.2 b (fun z : b = D => hb (z ▸ List.mem_cons_self))]
        exact e
      · obtain ⟨S', so3⟩ := so3
        refine ⟨S', ?_⟩
        have e : n + fresh S (k :: rest) = (if S k then n else n + 1) + fresh (fun y => S y || decide (y = k)) rest := by
          show n + ((if S k then 0 else 1) + _) = _
          split <;> omega
        rw [e]
        exact so3
end
section
variable {prog : Program} {w : World} {B : Around} {E : Value → Shared → Prop} {t : Shared}
variable {κ : Type} [DecidableEq κ] {knd : KeyKind prog w κ}
/-- set(xs), xs a list of keys of one kind -/
theorem set_of_list {l : Addr} {its : Array Value} {ks : List κ} {Q : Value → Shared → Prop} (quiet : B.handled = none) (hl : t.heap.IsList l its) (hk : ks.length = its.size)
    (val : ∀ (i : Nat) (v : Value), its[i]? = some v → ∃ k : κ, ks[i]? = some k ∧ knd.is k v = true ∧ v.scannable = true) (room : ks.length + 1 < scanBound)
    (fin : ∀ (h' : Heap) (tk : Nat), (∃ S, h'.SetOf knd t.heap.objs.size S (fresh (fun _ => false) ks)) → (∀ b o, b < t.heap.objs.size → t.heap.get? b = some o → h'.get? b = some o) → Q (.ref t.heap.objs.size) { t with heap := h', toks := tk }) :
    wpAny (model prog w) B (call (.type "set") [.ref l]) Q E t := by
  let D := t.heap.objs.size
  obtain ⟨c0, tl0, mro0⟩ := PySem.F.called_set.mro
  have made0 := PySem.F.called_set.made
  have sub0 := PySem.F.called_set.sub
  refine wpAny_call (codeAny_of_tree ?_)
  show wpAny _ _ (callAny (.type "set") _) _ _ _
  refine wpAny_pure ⟨Code.quiet_builtin _ (by decide +kernel), codeAny_builtin PySem.F.entry_type_call ?_⟩
  rw [Around.under_plain (weight_type_call_type "set" [.ref l] []) rfl]
  have nt0 := PySem.F.called_set.notType
  have cc0 := PySem.F.called_set.canCreate
  have tc0 := PySem.F.typeCall_set_1 (.ref l)
  repeat (any_goals (first | assumption | wp_step))
  let fo (led : Bool) : Obj := { cls := .type "set", dict := none, data := .set #[] 0 (.fresh 0 0 led) }
  refine codeAny_mono (code_set_new_1 (.ref l) (E := E) (Q₁ := fun obj u => ∃ led : Bool, obj = .ref D ∧ u = { t with heap := t.heap.push (fo led) }) fun led => ⟨led, rfl, rfl⟩) fun r u hr => ?_
  cases r with
  | error e => exact hr
  | ok fl =>
    cases fl with
    | ret obj =>
      obtain ⟨led, rfl, rfl⟩ := hr
      have atD : (t.heap.push (fo led)).get? D = some (fo led) := Heap.get?_push_size _ rfl
      have tyD : Shared.TypeIs { t with heap := t.heap.push (fo led) } (.ref D) "set" := ⟨_, atD, rfl⟩
      have li0 := PySem.F.called_set.init.lookup
      have bi0 := PySem.F.called_set.init.bind (.ref D)
      repeat (any_goals (first | assumption | wp_step))
      refine codeAny_mono (codeAny_call_builtin (R := wants (fun r u => r = .none ∧ ∃ h' tk, u = { t with heap := h', toks := tk } ∧ (∃ S, h'.SetOf knd D S (fresh (fun _ => false) ks)) ∧
          (∀ b o, b < D → t.heap.get? b = some o → h'.get? b = some o)) E) PySem.F.called_set.init.plain PySem.F.entry_set_init (check_set_init_1 tyD ?_)) fun r2 u2 hr2 => ?_
      · obtain ⟨⟨lc, ld, la, ls⟩, atl, lcl, m, ldl⟩ := hl
        simp only at lcl ldl
        subst lcl ldl
        have atl' : (t.heap.push (fo led)).get? l = some { cls := .type "list", dict := ld, data := .seq its m, slots := ls } := Heap.get?_push_of_some _ atl
        have s1 := PySem.F.sub_list_set
        have s2 := PySem.F.sub_list_frozenset
        have s3 : (Value.type "list" == Value.type "dict") = false := by decide
        have isl : (t.heap.push (fo led)).IsList l its := ⟨_, atl', rfl, m, rfl⟩
        unfold Builtin.«set.__init__» noKeywords Builtin.Frozenset.updateFrom
        generalize hPI : pyIter = PI
        wp_walk
        subst hPI
        refine wpAny_pyIter_list isl ?_
        refine wpAny_bind (wpAny_runValue ?_)
        have ltl : l < D := Heap.lt_size atl
        have quiet3 : B.in1.in1.in1.handled = none := by simp [quiet]
        have nel : l ≠ (t.heap.push (fo led)).objs.size := by
          rw [Heap.size_push]
          exact Nat.ne_of_lt (Nat.lt_succ_of_lt ltl)
        have offD : D ∉ [(t.heap.push (fo led)).objs.size, l] := by
          rw [Heap.size_push]
          intro z
          rcases List.mem_cons.mp z with z | z
          · exact Nat.ne_of_lt (Nat.lt_succ_self _) z
          · exact Nat.ne_of_gt ltl (List.mem_singleton.mp z)
        refine fill_set ((Walks.list quiet3 _ l nel its).toS) D offD ks hk val ks 0 _ (fun _ => false) 0 rfl (Nat.zero_le _) (by omega) ⟨⟨_, Heap.get?_push_size _ rfl, rfl, rfl⟩, (isl.push _)⟩ ?so ?fin
        case so =>
          have atD2 : ((t.heap.push (fo led)).push { cls := .type "list_iterator", data := .fields #[.ref l, .int 0 0] }).get? D = some (fo led) := Heap.get?_push_of_some _ atD
          exact (setObjOf_fresh (knd := knd) led).setOf atD2 (by unfold scanBound; omega)
        case fin =>
          intro u mv so
          obtain ⟨h', g', d', tk', os'⟩ := u
          cases (mv.gens : g' = t.gens)
          cases (mv.drawn : d' = t.drawn)
          cases (mv.os : os' = t.os)
          show wpAny _ _ _ _ _ _
          refine wpAny_pure ?_
          show wpAny _ _ (ret Value.none) _ _ _
          rw [Nat.zero_add] at so
          refine wpAny_pure ⟨rfl, h', tk', rfl, so, fun b o hb e => ?_⟩
          refine mv.heap b o (fun z => ?_) (Heap.get?_push_of_some _ (Heap.get?_push_of_some _ e))
          rcases List.mem_cons.mp z with z | z
          · exact Nat.ne_of_lt hb z
          · have z := List.mem_singleton.mp z
            rw [Heap.size_push] at z
            exact Nat.ne_of_lt (Nat.lt_succ_of_lt hb) z
      · cases r2 with
        | error e => exact hr2
        | ok fl2 =>
          cases fl2 with
          | ret r =>
            obtain ⟨rfl, h', tk, rfl, so, kp⟩ := hr2
            repeat (any_goals (first | assumption | wp_step))
            exact fin _ _ so kp
          | _ => exact hr2.elim
    | _ => exact hr.elim
end
/-! len(set(texts)) -/
def mLenSet : Op1 := fun d M => match d with
  | .ref n => match seqAt M n with
    | some xs => match strsOf xs with
      | some ys => if ys.length ≤ 1000 then some (.int (fresh (fun _ => false) ys : Nat), M) else none
      | none => none
    | none => none
  | _ => none
def eLenSet (a : ME) : ME := eUn mLenSet a
@[simp] theorem eLenSet_ap {a : ME} {env : TL.Env} {M : Mem} : eLenSet a env M = (a env M).bind fun d M1 => liftO (mLenSet d M1) := rfl
theorem mLenSet_ok {M : Mem} {n : Nat} {ys : List Str} (h : seqAt M n = some (ys.map D.str)) (hl : ys.length ≤ 1000) : mLenSet (.ref n) M = some (.int (fresh (fun _ => false) ys : Nat), M) := by
  unfold mLenSet
  simp only [h, strsOf_map]
  exact if_pos hl
section
variable {X : Cx} {W : WX} {a : Expr} {ma : ME} {p p2 q pos : Pos}
theorem d_lenSet (hc : X.calm = true) (hm : X.mg "len" = none) (hm2 : X.mg "set" = none) (ha : PE X a (LE X.K W ma)) (hg : Gl X "len" := by rfl) (hg2 : Gl X "set" := by rfl)
    (na : starEach [a] X.env = (false, eval a X.env) :: starEach [] X.env := by rfl) : PE X (.Call (.Name "len" p) [.Call (.Name "set" p2) [a] [] q] [] pos) (LE X.K W (eLenSet ma)) := by
  refine ⟨fun pins s σ H Q I h => ?_⟩
  obtain ⟨ι, env, M, S, R, h⟩ := h
  refine Call_ (ld_blt I hg hm boot_len ?_)
  refine PyProof.Rows.callWith_builtin1 (PyProof.Rows.args_cons ?_ rfl) rfl rfl
  refine Call_ (ld_blt I hg2 hm2 boot_set ?_)
  refine PyProof.Rows.callWith_type1 (PyProof.Rows.args_cons (thn (ha.run pins s σ H _ I ⟨ι, env, M, S, R, (OutP.bind h).imp (R' := VR X.K fun x H1 => ∃ l, ∃ xs : List Str, x = .ref l ∧ SqL X.K H1 l (xs.map V.str) ∧ xs.length ≤ 1000 ∧ Q (.int (fresh (fun _ => false) xs : Nat)) H1) fun d M1 ι1 H1 e1 S1 h1 v rv => ?_⟩) fun v s1 z => PyProof.Rows.args_nil ?_) na) na rfl
  · have h2 := OpO.of h1
    unfold mLenSet at h2
    split at h2
    · rename_i n
      obtain ⟨l, rfl, hl⟩ := rv.ref_inv
      split at h2
      · rename_i xs m
        obtain ⟨vs, g1, g2⟩ := S1.seq hl m
        split at h2
        · rename_i ys m2
          cases strs_v g2 m2
          split at h2
          · exact ⟨l, ys, rfl, g1, by assumption, OpO.val S1 h2 (.int _)⟩
          · exact h2.elim
        · exact h2.elim
      · exact h2.elim
    · exact h2.elim
  · obtain ⟨x, H1, I1, r1, l, xs, rfl, hq, hz, q1⟩ := z
    cases r1
    obtain ⟨its, r, pl, _⟩ := I1.list hq
    have sz : its.toArray.size = xs.length := by rw [List.size_toArray, ← r.length, List.length_map]
    refine set_of_list (knd := strKind X.prog X.w) (ks := xs) (I1.ok.hd hc) pl.isList sz.symm (fun i v hv => ?_) (by unfold scanBound; omega) fun h' tk so kp => PyProof.Rows.args_nil ?_
    · have hv' : its[i]? = some v := by simpa using hv
      cases e3 : xs[i]? with
      | none =>
        have := r.length
        have h1 := (List.getElem?_eq_some_iff.mp hv').1
        have h2 := List.getElem?_eq_none_iff.mp e3
        simp at this
        omega
      | some y =>
        obtain ⟨u, g1, g2⟩ := r.get (i := i) (x := V.str y) (by rw [List.getElem?_map, e3]; rfl)
        rw [hv'] at g1
        cases g1
        obtain ⟨t, rfl⟩ := g2
        exact ⟨y, rfl, strKind_is _ _ _ _, rfl⟩
    · have I2 : L2.Inv X pins σ H1 { s1 with heap := h', toks := tk } := I1.kept fun b o e => kp b o (Heap.lt_size e) e
      obtain ⟨_, o, es, ep, t, ho, hex, hd, _, _, _, hf, hn⟩ := so
      have le := fresh_le xs (fun _ => false)
      exact call_len_set ho hex hd hf (by rw [hn] <;> omega) ⟨.int (fresh (fun _ => false) xs : Nat), H1, I2.tok _, ⟨_, by rw [hn]⟩, q1⟩
end
end TL
end
section
set_option maxHeartbeats 4000000
/-! x not in xs, x of any kind; == of what can be shown -/
namespace TL
open PySem PySem.Spec PyProof.Rows L2
def mNotInX : Op2 := fun a b M => (inX M a b).map fun k => (.bl (!k), M)
theorem o_notInX {X : Cx} (hu : X.A.units + 65 < cLine) : OpR X (compareOp .NotIn) (rD2 X.K mNotInX) := by
  refine OpR.imp (o_notIn.or (op_notInD hu)) fun x y H Q h => ?_
  obtain ⟨ι, M, a, b, S, ra, rb, h⟩ := h
  unfold mNotInX inX at h
  cases e : inD M a b with
  | some k =>
    rw [e] at h
    refine .inl ⟨ι, M, a, b, S, ra, rb, ?_⟩
    unfold mNotIn
    rw [e]
    exact h
  | none =>
    rw [e] at h
    dsimp only at h
    cases e1 : toP 64 M a with
    | none => rw [e1] at h; exact h.elim
    | some p =>
      rw [e1] at h
      cases e2 : toP 64 M b with
      | none => rw [e2] at h; exact h.elim
      | some q =>
        rw [e2] at h
        cases q with
        | list ps =>
          dsimp only at h
          by_cases c : SeqAt.shaped p = true ∧ SeqAt.shaped (.list ps) = true
          · rw [if_pos c] at h
            exact .inr ⟨p, ps, dp_of S _ _ _ _ ra e1, dp_of S _ _ _ _ rb e2, c.1, c.2, OpO.val S h (.bl _)⟩
          · rw [if_neg c] at h
            exact h.elim
        | _ => exact h.elim
theorem Sh.shapedN {M : Mem} {n w : Nat} {d : D} (h : Sh M n w d) (hn : n ≤ 40) : ∃ p, dat n M d = some p ∧ toP 64 M d = some p ∧ SeqAt.shaped p = true := by
  obtain ⟨x, a, ⟨_, g⟩, c⟩ := h
  have e := toP_mono (f := n) (g := 64) (by omega) (dat_toP n d x a)
  refine ⟨x, a, e, ?_⟩
  unfold SeqAt.shaped
  rw [g, Bool.true_and]
  exact decide_eq_true (Nat.le_trans (dat_depth n d x a) (by omega))
/-- the text, and nothing else -/
def isText (x : Str) : D → Bool
  | .str y => decide (y = x)
  | _ => false
theorem eqv_text {M : Mem} {n : Nat} {d : D} {p : PyData} {x : Str} (h : dat (n + 1) M d = some p) : PyData.eqv p (.str x) = isText x d := by
  cases d with
  | non => cases h; simp [PyData.eqv, isText]
  | bl b => cases h; simp [PyData.eqv, isText]
  | int i => cases h; simp [PyData.eqv, isText]
  | str y => cases h; simp only [PyData.eqv, isText]; rfl
  | tup xs =>
    obtain ⟨ps, e1, rfl⟩ := Option.map_eq_some_iff.mp (show (datL (dat n M) xs).map PyData.tuple = some p from h)
    simp [PyData.eqv, isText]
  | ref m =>
    have e' : (match seqAt M m with | some xs => (datL (dat n M) xs).map PyData.list | none => none) = some p := h
    cases q : seqAt M m with
    | none => rw [q] at e'; cases e'
    | some xs =>
      rw [q] at e'
      obtain ⟨ps, e1, rfl⟩ := Option.map_eq_some_iff.mp e'
      simp [PyData.eqv, isText]
  | err y => cases h
theorem eqD_text_sh {M : Mem} {n w : Nat} {d : D} {x : Str} (h : Sh M (n + 1) w d) (hn : n + 1 ≤ 40) (hx : PyData.strOk x = true) : eqD M d (.str x) = some (isText x d) := by
  obtain ⟨p, a, e, s⟩ := h.shapedN hn
  have e2 : toP 64 M (.str x) = some (.str x) := rfl
  have s2 : SeqAt.shaped (.str x) = true := by
    unfold SeqAt.shaped
    simp [PyData.canLay0, PyData.depth, hx]
  unfold eqD
  rw [e, e2]
  simp only [s, s2, and_self, if_true]
  rw [eqv_text a]
theorem mEq_text_sh {M : Mem} {n w : Nat} {d : D} {x : Str} (h : Sh M (n + 1) w d) (hn : n + 1 ≤ 40) (hx : PyData.strOk x = true) : mEq d (.str x) M = some (.bl (isText x d), M) := by
  unfold mEq
  rw [eqD_text_sh h hn hx]; rfl
theorem mNe_text_sh {M : Mem} {n w : Nat} {d : D} {x : Str} (h : Sh M (n + 1) w d) (hn : n + 1 ≤ 40) (hx : PyData.strOk x = true) : mNe d (.str x) M = some (.bl (!isText x d), M) := by
  unfold mNe
  rw [eqD_text_sh h hn hx]; rfl
end TL
end
section
set_option maxHeartbeats 4000000
/-! the tree layer: objects of own classes: fields, methods, making one -/
namespace TL
open PySem PySem.Spec PyProof.Rows L2

def putD (f : Str) (d : D) : List (Str × D) → List (Str × D)
  | [] => [(f, d)]
  | (g, x) :: r => if g = f then (g, d) :: r else (g, x) :: putD f d r
section
variable {K : PySem.W.Frag} {ι : List Addr} {H : Hp}
theorem RpF.put {f : Str} {d : D} {v : V} (r : Rp K ι H d v) : ∀ {fs : List (Str × D)} {vs : List (Str × V)}, RpF K ι H fs vs → RpF K ι H (putD f d fs) (putF f v vs)
  | _, _, .nil => .cons r .nil
  | _, _, .cons (x := x) h t => by
    unfold putD putF
    by_cases e : x = f
    · rw [if_pos e, if_pos e]; exact .cons r t
    · rw [if_neg e, if_neg e]; exact .cons h (RpF.put r t)
theorem RpF.look {f : Str} : ∀ {fs : List (Str × D)} {vs : List (Str × V)}, RpF K ι H fs vs → ∀ d, fs.lookup f = some d → ∃ v, vs.lookup f = some v ∧ Rp K ι H d v
  | _, _, .nil, d, e => nomatch e
  | _, _, .cons (x := x) (v := v) h t, d, e => by
    by_cases q : f = x
    · subst q
      simp only [List.lookup, beq_self_eq_true] at e
      cases e
      exact ⟨v, by simp [List.lookup], h⟩
    · have q' : (f == x) = false := by simpa using q
      simp only [List.lookup, q'] at e
      obtain ⟨u, e1, e2⟩ := RpF.look t d e
      exact ⟨u, by simp only [List.lookup, q']; exact e1, e2⟩
theorem RpF.lookN {f : Str} : ∀ {fs : List (Str × D)} {vs : List (Str × V)}, RpF K ι H fs vs → fs.lookup f = none → vs.lookup f = none
  | _, _, .nil, e => rfl
  | _, _, .cons (x := x) h t, e => by
    by_cases q : f = x
    · subst q
      simp [List.lookup] at e
    · have q' : (f == x) = false := by simpa using q
      simp only [List.lookup, q'] at e ⊢
      exact RpF.lookN t e
theorem RpF.length : ∀ {fs : List (Str × D)} {vs : List (Str × V)}, RpF K ι H fs vs → fs.length = vs.length
  | _, _, .nil => rfl
  | _, _, .cons _ t => congrArg (· + 1) t.length
end
/-- the object there, of that class -/
def insAt (M : Mem) (c : Str) (n : Nat) : Option (List (Str × D)) := match M[n]? with
  | some (.ins c' fs) => if c' = c then some fs else none
  | _ => none
theorem insAt_some {M : Mem} {c : Str} {n : Nat} {fs : List (Str × D)} (h : insAt M c n = some fs) : M[n]? = some (.ins c fs) := by
  unfold insAt at h
  split at h
  · rename_i c' fs' e
    split at h
    · rename_i z
      subst z
      cases h
      exact e
    · cases h
  · cases h
theorem insAt_of {M : Mem} {c : Str} {n : Nat} {fs : List (Str × D)} (h : M[n]? = some (.ins c fs)) : insAt M c n = some fs := by
  unfold insAt
  rw [h]
  exact if_pos rfl
/-- a field of objects of that class -/
structure FldF (K : PySem.W.Frag) (c f : Str) : Prop where
  cls : Cls K (He.ga K c)
  no : NoAttr K (He.ga K c) f
/-- x.f -/
def mFld (c f : Str) : Op1 := fun d M => match d with
  | .ref n => match insAt M c n with
    | some fs => (fs.lookup f).map fun v => (v, M)
    | none => none
  | _ => none
def eFld (c f : Str) (e : ME) : ME := eUn (mFld c f) e
/-- x.f = v -/
def putO (c f : Str) (x v : D) (M : Mem) : Option Mem := match x with
  | .ref n => match insAt M c n with
    | some fs => if fs.length < 1000 then some (M.set n (.ins c (putD f v fs))) else none
    | none => none
  | _ => none
def sFldD (c f : Str) (o e : ME) : MS := fun env M => thenS env (e env M) fun v M1 => thenS env (o env M1) fun x M2 => match putO c f x v M2 with
  | some M3 => .next env M3
  | none => .stuck
section
variable {X : Cx} {W : WX} {k : Nat} {c f : Str} {e o : Expr} {me mo : ME} {pos pos' : Pos}
theorem d_fld (F : FldF X.K c f) (he : PE X e (LE X.K W me)) (hb : attributeBase e f X.env (eval e X.env) = eval e X.env := by rfl) : PE X (.Attribute e f pos) (LE X.K W (eFld c f me)) :=
  (pe_fld he hb).imp fun σ H Q ⟨ι, env, M, S, R, h⟩ => ⟨ι, env, M, S, R, (OutP.bind h).imp fun d M1 ι1 H1 e1 S1 h1 v rv => by
    revert h1
    unfold mFld
    cases d with
    | ref n =>
      obtain ⟨a, rfl, ha⟩ := rv.ref_inv
      cases q : insAt M1 c n with
      | none => intro h1; simp only [q] at h1; exact h1.elim
      | some fs =>
        obtain ⟨dx, vs, h2, h3⟩ := S1.ok n a _ ha (insAt_some q)
        cases q2 : fs.lookup f with
        | none => intro h1; simp only [q, q2] at h1; exact h1.elim
        | some d =>
          intro h1
          simp only [q, q2] at h1
          obtain ⟨v, e4, r4⟩ := h3.look d q2
          exact ⟨a, _, dx, vs, v, rfl, h2, F.cls, F.no, e4, OutP.val S1 h1 _ r4⟩
    | _ => exact fun h1 => h1.elim⟩
theorem ds_fld (F : FldF X.K c f) (ho : PE X o (LE X.K W mo)) (he : PE X e (LE X.K W me)) (hs : swapsWith e (some (.Attribute o f pos')) pos.line X.env = pure false := by rfl) :
    PS X (.Assign [.Attribute o f pos'] e pos) (LS X.K W (sFldD c f mo me)) :=
  (ps_fld ho he hs).imp fun En σ H ⟨ι, env, M, S, R, h⟩ => ⟨ι, env, M, S, R, (thenS_out R h).imp fun v M1 ι1 H1 e1 S1 h1 u ru =>
    ⟨ι1, env, M1, S1, R.ext e1, (thenS_out (R.ext e1) h1).imp fun x M2 ι2 H2 e2 S2 h2 y ry => by
      revert h2
      unfold putO
      cases x with
      | ref n =>
        obtain ⟨a, rfl, ha⟩ := ry.ref_inv
        cases q : insAt M2 c n with
        | none => intro h2; simp only [q] at h2; exact h2.elim
        | some fs =>
          obtain ⟨dx, vs, h3, h4⟩ := S2.ok n a _ ha (insAt_some q)
          by_cases q2 : fs.length < 1000
          · intro h2
            simp only [q, if_pos q2] at h2
            refine ⟨a, _, dx, vs, rfl, h3, F.cls, F.no, by rw [← h4.length]; exact q2, ?_⟩
            have k0 := S2.ok n a _ ha (insAt_some q)
            have nt := k0.notTup (u := .ins c fs) rfl
            have ex : Ext X.K ι2 H2 ι2 (L2.upd H2 a (.ins (He.ga X.K c) dx (putF f u vs))) := Ext.upd nt
            have r4 := (RpF.put (f := f) ((ru.ext e2).ext ex) (h4.ext ex))
            exact h2 ι2 σ _ ex (S2.write ha (insAt_some q) rfl rfl ⟨dx, _, upd_same, r4⟩) (((R.ext e1).ext e2).ext ex)
          · intro h2
            simp only [q, if_neg q2] at h2
            exact h2.elim
      | _ => exact fun h2 => h2.elim⟩⟩
end
/-! ### methods -/
/-- a method of that class; dd: what stands for arguments left out -/
structure CalleeM (P : Program) (w : World) (K : PySem.W.Frag) (mg : Str → Option Value) (base : Heap) (c m : Str) (n k : Nat) (dd : List D) (fn : Fn) : Prop where
  ex : ∃ (fd : FuncData) (ps : List Str) (dvs : List V) (ds : List Value), FnOk P w K mg base (L2N.CX P w) k (He.ma K (He.ga K c) m) fd ps (spD K n fn) ∧ Binds K fd ps ds ∧ Vals dvs ds ∧ (∀ ι H, RpA K ι H dd dvs)
  len : ∀ ds M, ds.length ≠ n → fn ds M = .stuck
  cls : Cls K (He.ga K c)
  meth : Meth K (He.ga K c) m (He.ma K (He.ga K c) m)
theorem CalleeM.mono {P : Program} {w : World} {K : PySem.W.Frag} {mg : Str → Option Value} {base : Heap} {c m : Str} {n j k : Nat} {dd : List D} {fn : Fn} (C : CalleeM P w K mg base c m n j dd fn) (h : j ≤ k) : CalleeM P w K mg base c m n k dd fn := by
  obtain ⟨fd, ps, dvs, ds, F, a, b, d⟩ := C.ex
  exact ⟨⟨fd, ps, dvs, ds, F.mono h, a, b, d⟩, C.len, C.cls, C.meth⟩
/-- x.m(..) -/
def eMeM (c m : Str) (dd : List D) (fn : Fn) (o : ME) (mas : MA) : ME := fun env M => (o env M).bind fun x M1 => match x with
  | .ref n => match insAt M1 c n with
    | some fs => if (fs.lookup m).isNone = true then (mas env M1).bind fun ds M2 => fn (.ref n :: (ds ++ dd)) M2 else .stuck
    | none => .stuck
  | _ => .stuck
/-- C(..): a new object, then its __init__ -/
def eMake (c : Str) (dd : List D) (fn : Fn) (mas : MA) : ME := fun env M => (mas env M).bind fun ds M1 => (fn (.ref M1.length :: (ds ++ dd)) (M1 ++ [.ins c []])).bind fun d M2 => match d with
  | .non => .ok (.ref M1.length) M2
  | _ => .stuck
section
variable {X : Cx} {k : Nat} {g C : Addr} {fd : FuncData} {ps : List Str} {sp : Sp} {dvs : List V} {ds : List Value} {E : L2.St → XK} {x m : Str} {p pos apos : Pos} {e o : Expr} {es : List Expr} {ta : TE} {t : TA} {CX : CXT}
def tMethX (C : Addr) (m : Str) (sp : Sp) (dvs : List V) (E : L2.St → XK) (ta : TE) (t : TA) : TE := fun σ H Q => ta σ H fun x H1 => ∃ a dx fs, x = .ref a ∧ H1 a = some (.ins C dx fs) ∧ fs.lookup m = none ∧
  t σ H1 fun vs H2 => sp (x :: (vs ++ dvs)) H2 Q (E σ)
theorem pe_methX {pl : Sem Bool} (he : PE X o ta) (c : Cls X.K C) (hm : Meth X.K C m g) (F : FnOk X.prog X.w X.K X.mg X.base CX k g fd ps sp) (room : Room k X.A) (hb : Binds X.K fd ps ds) (hd : Vals dvs ds) (hx : ∀ σ, PassesAt CX X σ (E σ)) (ha : PA X (e :: es) t)
    (hst : starEach (e :: es) X.env = (false, eval e X.env) :: starEach es X.env) (hpl : (backTo pos (starEach es X.env)).any (·.1) = false)
    (ht : eval (.Call (.Attribute o m apos) (e :: es) [] pos) X.env = (eval o X.env >>= fun ov => standAt apos.atName >>= fun _ => holding [ov] (getMethod ov m pl) >>= fun y => callWith pos y.1 y.2 (backTo pos (starEach (e :: es) X.env)) (backToKw pos (keywordEach [] X.env)))) :
    PE X (.Call (.Attribute o m apos) (e :: es) [] pos) (tMethX C m sp dvs E ta t) := by
  refine ⟨fun pins s σ H Q I h => PySem.W.methodCall_KW (pl := pl) (thn (he.run pins s σ H _ I h) ?_) ht⟩
  rintro u s1 ⟨x, H1, I1, rx, a, dx, fs, rfl, ea, l, q⟩
  obtain rfl : u = Value.ref a := rx
  refine getmeth_ok I1 ea c hm l (PySem.W.callWith_K (first := [.ref a]) (h₀ := X.base) I.ok.mod.kin hm.kp (thn (ha.run pos pins s1 σ H1 _ I1 q) ?_) hst hpl)
  rintro us s2 ⟨vs, H2, I2, r, q2⟩
  exact ⟨I2.kIn, run_fnSD (us := .ref a :: us) (vs := .ref a :: vs) F room hb hd (hx σ) I2 (.cons rfl r) q2⟩
theorem pe_methX0 {pl : Sem Bool} (he : PE X o ta) (c : Cls X.K C) (hm : Meth X.K C m g) (F : FnOk X.prog X.w X.K X.mg X.base CX k g fd ps sp) (room : Room k X.A) (hb : Binds X.K fd ps ds) (hd : Vals dvs ds) (hx : ∀ σ, PassesAt CX X σ (E σ))
    (ht : eval (.Call (.Attribute o m apos) [] [] pos) X.env = (eval o X.env >>= fun ov => standAt apos.atName >>= fun _ => holding [ov] (getMethod ov m pl) >>= fun y => callWith pos y.1 y.2 (backTo pos (starEach [] X.env)) (backToKw pos (keywordEach [] X.env)))) :
    PE X (.Call (.Attribute o m apos) [] [] pos) (tMethX C m sp dvs E ta tNil) := by
  refine ⟨fun pins s σ H Q I h => PySem.W.methodCall_KW (pl := pl) (thn (he.run pins s σ H _ I h) ?_) ht⟩
  rintro u s1 ⟨x, H1, I1, rx, a, dx, fs, rfl, ea, l, q⟩
  obtain rfl : u = Value.ref a := rx
  refine getmeth_ok I1 ea c hm l (PySem.W.callWith_K0 (first := [.ref a]) I1.kIn hm.kp ?_)
  exact run_fnSD (us := [.ref a]) (vs := [.ref a]) F room hb hd (hx σ) I1 (.cons rfl .nil) q
/-! making one -/
def tMakeX (C : Addr) (sp : Sp) (dvs : List V) (E : L2.St → XK) (t : TA) : TE := fun σ H Q => t σ H fun vs H1 => ∀ x dx, H1 x = none → H1 dx = none → dx ≠ x →
  sp (.ref x :: (vs ++ dvs)) (L2.upd (L2.upd H1 dx (.own x)) x (.ins C dx [])) (fun v H2 => v = .non ∧ Q (.ref x) H2) (E σ)
theorem run_makeX {pins : List (Addr × Obj)} {σ : L2.St} {H : Hp} {s : Shared} {Q : VK} {us : List Value} {vs : List V} (Mm : Mk X.K C g) (F : FnOk X.prog X.w X.K X.mg X.base CX k g fd ps sp) (room : Room (k + 1) X.A) (hb : Binds X.K fd ps ds) (hd : Vals dvs ds)
    (hx : PassesAt CX X σ (E σ)) (I : Inv X pins σ H s) (r : Vals vs us)
    (want : ∀ x dx, H x = none → H dx = none → dx ≠ x → sp (.ref x :: (vs ++ dvs)) (L2.upd (L2.upd H dx (.own x)) x (.ins C dx [])) (fun v H2 => v = .non ∧ Q (.ref x) H2) (E σ)) :
    wpAny (model X.prog X.w) X.A (call (.ref C) us) (EP X pins σ Q) X.xe s := by
  have fresh1 : H (s.heap.objs.size + 1) = none := I.hok.fresh (Nat.le_succ _)
  have fresh0 : H s.heap.objs.size = none := I.hok.fresh (Nat.le_refl _)
  have w1 := want _ _ fresh1 fresh0 (Nat.ne_of_lt (Nat.lt_succ_self _))
  have J := Inv.made (C := C) I
  have rr : Vals (V.ref (s.heap.objs.size + 1) :: (vs ++ dvs)) (Value.ref (s.heap.objs.size + 1) :: (us ++ ds)) := .cons rfl (r.append hd)
  have many : (Value.ref (s.heap.objs.size + 1) :: us ++ ds).length = ps.length := (rr.length.symm.trans (F.len _ _ _ _ w1))
  have runs := F.run _ X.stack _ _ ⟨Value.ref (s.heap.objs.size + 1) :: us, []⟩ _ _ _ (E σ) (room.make C us []) (J.env0.make C us []) (hb _ (Value.ref (s.heap.objs.size + 1) :: us) J.kIn many) rr w1
  refine wpAny_call (make_map (f := g) I.kIn Mm.makes Mm.init (beq_iff_eq.mp Mm.fn) (codeAny_mono runs ?_))
  rintro (er | fl) s2 q2
  · exact hx pins _ _ er s2 J q2
  · cases fl with
    | ret u =>
      obtain ⟨v, H2, I2, rv, rfl, q3⟩ := J.after q2
      exact ⟨rv, ⟨V.ref (s.heap.objs.size + 1), H2, I2, rfl, q3⟩⟩
    | next => exact q2.elim
    | brk => exact q2.elim
    | cont => exact q2.elim
theorem pe_makeX (Mm : Mk X.K C g) (F : FnOk X.prog X.w X.K X.mg X.base CX k g fd ps sp) (room : Room (k + 1) X.A) (hg : Gl X x) (hm : X.mg x = some (.ref C)) (hb : Binds X.K fd ps ds) (hd : Vals dvs ds) (hx : ∀ σ, PassesAt CX X σ (E σ))
    (ha : PA X (e :: es) t) (hdb : (x == ("__debug__" : Str)) = false) (hst : starEach (e :: es) X.env = (false, eval e X.env) :: starEach es X.env) (hpl : (backTo pos (starEach es X.env)).any (·.1) = false) :
    PE X (.Call (.Name x p) (e :: es) [] pos) (tMakeX C sp dvs E t) := by
  refine ⟨fun pins s σ H Q I h => wpAny_Call_Name_kw (ld_glob I hg hm ?_ hdb)⟩
  refine PySem.W.callWith_K (h₀ := X.base) I.ok.mod.kin Mm.kp (thn (ha.run pos pins s σ H _ I h) ?_) hst hpl
  rintro us s1 ⟨vs, H1, I1, r, q⟩
  exact ⟨I1.kIn, run_makeX Mm F room hb hd (hx σ) I1 r q⟩
theorem pe_makeX0 (Mm : Mk X.K C g) (F : FnOk X.prog X.w X.K X.mg X.base CX k g fd ps sp) (room : Room (k + 1) X.A) (hg : Gl X x) (hm : X.mg x = some (.ref C)) (hb : Binds X.K fd ps ds) (hd : Vals dvs ds) (hx : ∀ σ, PassesAt CX X σ (E σ))
    (hdb : (x == ("__debug__" : Str)) = false) : PE X (.Call (.Name x p) [] [] pos) (tMakeX C sp dvs E tNil) := by
  refine ⟨fun pins s σ H Q I h => wpAny_Call_Name_kw (ld_glob I hg hm ?_ hdb)⟩
  exact PySem.W.callWith_K0 I.kIn Mm.kp (run_makeX (us := []) Mm F room hb hd (hx σ) I .nil h)
end
section
variable {X : Cx} {W : WX} {e o : Expr} {es : List Expr} {mo : ME} {mas : MA} {c m x : Str} {p pos apos : Pos} {dd : List D} {fn : Fn}
theorem meth_le {n : Nat} {dvs : List V} {t : TA} {σ : L2.St} {H : Hp} {Q : VK} (len : ∀ ds M, ds.length ≠ n → fn ds M = .stuck) (hr : ∀ ι H, RpA X.K ι H dd dvs) (ht : ∀ σ H Q, LA X.K W mas σ H Q → t σ H Q)
    (h : LE X.K W (eMeM c m dd fn mo mas) σ H Q) : tMethX (He.ga X.K c) m (spD X.K n fn) dvs (fun σ cls d H => W cls d σ H) (LE X.K W mo) t σ H Q := by
  obtain ⟨ι, env, M, S, R, h⟩ := h
  refine ⟨ι, env, M, S, R, (OutP.bind h).imp fun x M1 ι1 H1 e1 S1 h1 v rv => ?_⟩
  revert h1
  cases x with
  | ref j =>
    obtain ⟨a, rfl, ha⟩ := rv.ref_inv
    cases q : insAt M1 c j with
    | none => intro h1; simp only [q] at h1; exact h1.elim
    | some fs =>
      obtain ⟨dx, vs, h2, h3⟩ := S1.ok j a _ ha (insAt_some q)
      cases q2 : fs.lookup m with
      | some z => intro h1; simp only [q, q2] at h1; exact h1.elim
      | none =>
        intro h1
        simp only [q, q2] at h1
        have h1' : OutP X.K (W1 W σ) ι1 H1 ((mas env M1).bind fun ds M2 => fn (.ref j :: (ds ++ dd)) M2) (VR X.K Q) := h1
        refine ⟨a, dx, vs, rfl, h2, h3.lookN q2, ht _ _ _ ⟨ι1, env, M1, S1, R.ext e1, (OutP.bind h1').imp fun ds M2 ι2 H2 e2 S2 h4 us ru => ?_⟩⟩
        have ra : RpA X.K ι2 H2 (.ref j :: (ds ++ dd)) (.ref a :: (us ++ dvs)) := .cons (.ref (e2.pre _ _ ha)) (ru.append (hr ι2 H2))
        refine ⟨?_, ι2, _, M2, S2, ra, h4⟩
        rw [← ra.length]
        by_cases z : (D.ref j :: (ds ++ dd)).length = n
        · exact z
        · rw [len _ _ z] at h4
          exact h4.elim
  | _ => exact fun h1 => h1.elim
theorem d_meM {k k' n : Nat} (C : Ctx X W k') (F : CalleeM X.prog X.w X.K X.mg X.base c m n k dd fn) (hk : k ≤ k') (ho : PE X o (LE X.K W mo)) (ha : PA X (e :: es) (LA X.K W mas)) {pl : Sem Bool}
    (hst : starEach (e :: es) X.env = (false, eval e X.env) :: starEach es X.env := by rfl) (hpl : (backTo pos (starEach es X.env)).any (·.1) = false := by rfl)
    (ht : eval (.Call (.Attribute o m apos) (e :: es) [] pos) X.env = (eval o X.env >>= fun ov => standAt apos.atName >>= fun _ => holding [ov] (getMethod ov m pl) >>= fun y => callWith pos y.1 y.2 (backTo pos (starEach (e :: es) X.env)) (backToKw pos (keywordEach [] X.env))) := by rfl) :
    PE X (.Call (.Attribute o m apos) (e :: es) [] pos) (LE X.K W (eMeM c m dd fn mo mas)) := by
  obtain ⟨fd, ps, dvs, ds, F1, hb, hd, hr⟩ := F.ex
  exact (pe_methX (pl := pl) ho F.cls F.meth F1 (C.room.mono hk) hb hd (fun σ => L2N.passAt C.tk σ) ha hst hpl ht).imp fun σ H Q h => meth_le F.len hr (fun _ _ _ z => z) h
theorem d_meM0 {k k' n : Nat} (C : Ctx X W k') (F : CalleeM X.prog X.w X.K X.mg X.base c m n k dd fn) (hk : k ≤ k') (ho : PE X o (LE X.K W mo)) {pl : Sem Bool}
    (ht : eval (.Call (.Attribute o m apos) [] [] pos) X.env = (eval o X.env >>= fun ov => standAt apos.atName >>= fun _ => holding [ov] (getMethod ov m pl) >>= fun y => callWith pos y.1 y.2 (backTo pos (starEach [] X.env)) (backToKw pos (keywordEach [] X.env))) := by rfl) :
    PE X (.Call (.Attribute o m apos) [] [] pos) (LE X.K W (eMeM c m dd fn mo aNil)) := by
  obtain ⟨fd, ps, dvs, ds, F1, hb, hd, hr⟩ := F.ex
  exact (pe_methX0 (pl := pl) ho F.cls F.meth F1 (C.room.mono hk) hb hd (fun σ => L2N.passAt C.tk σ) ht).imp fun σ H Q h => meth_le (mas := aNil) F.len hr (fun σ H Q ⟨ι, env, M, S, R, h⟩ => h ι H Ext.refl S [] .nil) h
end

/-! ### making one -/
/-- a class that is made, by its __init__ -/
structure CalleeI (P : Program) (w : World) (K : PySem.W.Frag) (mg : Str → Option Value) (base : Heap) (c : Str) (n k : Nat) (dd : List D) (fn : Fn) : Prop where
  i : CalleeM P w K mg base c "__init__" n k dd fn
  mkr : Mk K (He.ga K c) (He.ma K (He.ga K c) "__init__")
  mg : mg c = some (.ref (He.ga K c))
section
variable {X : Cx} {W : WX} {e o : Expr} {es : List Expr} {mas : MA} {c : Str} {p pos : Pos} {dd : List D} {fn : Fn}
theorem make_le {n : Nat} {dvs : List V} {t : TA} {σ : L2.St} {H : Hp} {Q : VK} (len : ∀ ds M, ds.length ≠ n → fn ds M = .stuck) (hr : ∀ ι H, RpA X.K ι H dd dvs) (ht : ∀ σ H Q, LA X.K W mas σ H Q → t σ H Q)
    (h : LE X.K W (eMake c dd fn mas) σ H Q) : tMakeX (He.ga X.K c) (spD X.K n fn) dvs (fun σ cls d H => W cls d σ H) t σ H Q := by
  obtain ⟨ι, env, M, S, R, h⟩ := h
  refine ht _ _ _ ⟨ι, env, M, S, R, (OutP.bind h).imp fun ds M1 ι1 H1 e1 S1 h1 us ru => ?_⟩
  intro x dx nx nd ne
  have nx' : L2.upd H1 dx (.own x) x = none := by rw [upd_ne (Ne.symm ne)]; exact nx
  have g1 : Ext X.K ι1 H1 ι1 (L2.upd H1 dx (.own x)) := Ext.new nd
  have g2 : Ext X.K ι1 (L2.upd H1 dx (.own x)) (ι1 ++ [x]) (L2.upd (L2.upd H1 dx (.own x)) x (.ins (He.ga X.K c) dx [])) := Ext.more nx'
  have S2 : SR X.K (ι1 ++ [x]) (L2.upd (L2.upd H1 dx (.own x)) x (.ins (He.ga X.K c) dx [])) (M1 ++ [.ins c []]) := (S1.new nd).alloc nx' ⟨dx, [], upd_same, .nil⟩
  have at0 : (ι1 ++ [x])[M1.length]? = some x := by rw [← S1.len]; simp
  have h2 := OutP.ext (g1.trans g2) h1
  have ra : RpA X.K (ι1 ++ [x]) (L2.upd (L2.upd H1 dx (.own x)) x (.ins (He.ga X.K c) dx [])) (.ref M1.length :: (ds ++ dd)) (.ref x :: (us ++ dvs)) :=
    .cons (.ref at0) ((ru.ext (g1.trans g2)).append (hr _ _))
  refine ⟨?_, _, _, _, S2, ra, (OutP.bind h2).imp fun d M2 ι2 H2 e2 S3 h3 v rv => ?_⟩
  · rw [← ra.length]
    by_cases z : (D.ref M1.length :: (ds ++ dd)).length = n
    · exact z
    · rw [len _ _ z] at h2
      exact h2.elim
  · revert h3
    cases d with
    | non =>
      intro h3
      exact ⟨rv.non_inv, OutP.val S3 h3 _ (.ref (e2.pre _ _ at0))⟩
    | _ => exact fun h3 => h3.elim
theorem d_make {k k' n : Nat} (C : Ctx X W k') (F : CalleeI X.prog X.w X.K X.mg X.base c n k dd fn) (hk : k + 1 ≤ k') (ha : PA X (e :: es) (LA X.K W mas)) (hg : Gl X c := by rfl)
    (hdb : (c == ("__debug__" : Str)) = false := by decide) (hst : starEach (e :: es) X.env = (false, eval e X.env) :: starEach es X.env := by rfl) (hpl : (backTo pos (starEach es X.env)).any (·.1) = false := by rfl) :
    PE X (.Call (.Name c p) (e :: es) [] pos) (LE X.K W (eMake c dd fn mas)) := by
  obtain ⟨fd, ps, dvs, ds, F1, hb, hd, hr⟩ := F.i.ex
  exact (pe_makeX F.mkr F1 (C.room.mono hk) hg F.mg hb hd (fun σ => L2N.passAt C.tk σ) ha hdb hst hpl).imp fun σ H Q h => make_le F.i.len hr (fun _ _ _ z => z) h
theorem d_make0 {k k' n : Nat} (C : Ctx X W k') (F : CalleeI X.prog X.w X.K X.mg X.base c n k dd fn) (hk : k + 1 ≤ k') (hg : Gl X c := by rfl) (hdb : (c == ("__debug__" : Str)) = false := by decide) :
    PE X (.Call (.Name c p) [] [] pos) (LE X.K W (eMake c dd fn aNil)) := by
  obtain ⟨fd, ps, dvs, ds, F1, hb, hd, hr⟩ := F.i.ex
  exact (pe_makeX0 F.mkr F1 (C.room.mono hk) hg F.mg hb hd (fun σ => L2N.passAt C.tk σ) hdb).imp fun σ H Q h => make_le (mas := aNil) F.i.len hr (fun σ H Q ⟨ι, env, M, S, R, h⟩ => h ι H Ext.refl S [] .nil) h
end
/-! ### from a def to what it promises -/
section
variable {P : Program} {w : World} {K : PySem.W.Frag} {mg : Str → Option Value} {base : Heap}
theorem okFd {x qual : Str} {params : Arguments} {body : List Stmt} {scope : Scope} {dvs : List V} {f : Addr} {fd : FuncData} {N ps : List Str} {k : Nat} {mb : MS} (F : FunD K x qual params body scope dvs [] f fd) (S : FnScope N ps scope)
    (hbody : ∀ (cdv : Value) (A : Around) (outer : List PySem.Env) (s : Shared) (H : Hp) (E : XK), let X := cxOf (L2N.CX P w) P w K mg base N qual scope f cdv A outer s H E
      Ctx X (fun cls d _ H => E cls d H) k → PSs X body (LS K (fun cls d _ H => E cls d H) mb)) :
    FnOk P w K mg base (L2N.CX P w) (k + 1) f fd ps (spD K ps.length (fnD ps.length N.length mb)) := by
  refine F.ok S (fun vs H Q E h => h.1) ?_
  rintro cdv A outer s H vs Q E room ⟨many, ι, ds, M, SS, rs, h⟩
  have C : Ctx (cxOf (L2N.CX P w) P w K mg base N qual scope f cdv A outer s H E) (fun cls d _ H => E cls d H) k := ⟨rfl, S.nd, room, L2N.takes_of rfl rfl rfl rfl, passes_of rfl⟩
  have h' : OutP K E ι H (endS (mb (startE N.length ds) M)) (VR K Q) := by
    unfold fnD at h
    rwa [if_pos (by rw [rs.length]; exact many)] at h
  have R0 : EnvR K ι H (startE N.length ds) (L2.start N vs) := by
    unfold startE L2.start
    rw [rs.length]
    exact envR_start rs _
  refine ⟨_, hbody cdv A outer s H E C, ι, startE N.length ds, M, SS, R0, ?_⟩
  clear h
  revert h'
  cases mb (startE N.length ds) M with
  | next env M1 => exact fun h ι1 σ1 H1 e1 S1 _ => h ι1 H1 e1 S1 _ .non
  | ret d M1 => exact fun h ι1 v H1 e1 S1 r => h ι1 H1 e1 S1 v r
  | exc y env M1 => exact fun h ι1 σ1 H1 cls dx e1 S1 _ ex => h ι1 H1 cls dx e1 S1 ex
  | stuck => exact fun h => h
/-- a method, all arguments written -/
theorem okM {c m x qual : Str} {params : Arguments} {body : List Stmt} {scope : Scope} {N ps : List Str} {k : Nat} {mb : MS} (F : ∃ fd, FunD K x qual params body scope [] [] (He.ma K (He.ga K c) m) fd) (S : FnScope N ps scope) (hc : Cls K (He.ga K c)) (hm : Meth K (He.ga K c) m (He.ma K (He.ga K c) m))
    (hbind : ∀ (kV doc pm : Value) (an : Option Addr) (cdv ct : Value) (us : List Value), us.length = ps.length → bindArgs (PySem.W.fnOf x qual params body scope .none kV doc pm an cdv ct) ⟨us, []⟩ = pure (ps.zip us))
    (hbody : ∀ (cdv : Value) (A : Around) (outer : List PySem.Env) (s : Shared) (H : Hp) (E : XK), let X := cxOf (L2N.CX P w) P w K mg base N qual scope (He.ma K (He.ga K c) m) cdv A outer s H E
      Ctx X (fun cls d _ H => E cls d H) k → PSs X body (LS K (fun cls d _ H => E cls d H) mb)) :
    CalleeM P w K mg base c m ps.length (k + 1) [] (fnD ps.length N.length mb) := by
  obtain ⟨fd, F⟩ := F
  exact ⟨⟨fd, ps, [], [], okFd F S hbody, F.bindsN hbind, .nil, fun _ _ => .nil⟩, fun ds M h => if_neg h, hc, hm⟩
/-- a method whose last argument is left out, or written; its default a constant -/
theorem okMd {c m x qual : Str} {params : Arguments} {body : List Stmt} {scope : Scope} {N ps : List Str} {k : Nat} {mb : MS} {dv : V} {d : D} (hd : ∀ ι H, Rp K ι H d dv) (F : ∃ fd, FunD K x qual params body scope [dv] [] (He.ma K (He.ga K c) m) fd) (S : FnScope N ps scope) (hc : Cls K (He.ga K c)) (hm : Meth K (He.ga K c) m (He.ma K (He.ga K c) m))
    (n : Nat) (hn : n + 1 = ps.length)
    (hbind : ∀ (T : Addr) (kV doc pm : Value) (an : Option Addr) (cdv ct : Value) (us its : List Value), us.length = n → its.length = 1 →
      ∃ k, bindArgs (PySem.W.fnOf x qual params body scope (.ref T) kV doc pm an cdv ct) ⟨us, []⟩ = seqItems? (.ref T) >>= k ∧ k (some its.toArray) = pure (ps.zip (us ++ its)))
    (hbindN : ∀ (T : Addr) (kV doc pm : Value) (an : Option Addr) (cdv ct : Value) (us its : List Value), us.length = n + 1 → its.length = 1 →
      ∃ k, bindArgs (PySem.W.fnOf x qual params body scope (.ref T) kV doc pm an cdv ct) ⟨us, []⟩ = seqItems? (.ref T) >>= k ∧ k (some its.toArray) = pure (ps.zip us))
    (hbody : ∀ (cdv : Value) (A : Around) (outer : List PySem.Env) (s : Shared) (H : Hp) (E : XK), let X := cxOf (L2N.CX P w) P w K mg base N qual scope (He.ma K (He.ga K c) m) cdv A outer s H E
      Ctx X (fun cls d _ H => E cls d H) k → PSs X body (LS K (fun cls d _ H => E cls d H) mb)) :
    CalleeM P w K mg base c m ps.length (k + 1) [d] (fnD ps.length N.length mb) ∧ CalleeM P w K mg base c m ps.length (k + 1) [] (fnD ps.length N.length mb) := by
  obtain ⟨fd, F⟩ := F
  constructor
  · obtain ⟨ds, hv, hb⟩ := F.binds1 (ps := ps) n 0 (by simp) (by simp; omega) (by
      intro T kV doc pm an cdv ct us its h1 h2
      obtain ⟨k, e1, e2⟩ := hbind T kV doc pm an cdv ct us its h1 (by simpa using h2)
      exact ⟨k, e1, by rw [e2]; rfl⟩)
    exact ⟨⟨fd, ps, [dv], ds, okFd F S hbody, hb, hv, fun ι H => .cons (hd ι H) .nil⟩, fun ds M h => if_neg h, hc, hm⟩
  · obtain ⟨ds, hv, hb⟩ := F.binds1 (ps := ps) (n + 1) 1 (by simp) (by simp; omega) (by
      intro T kV doc pm an cdv ct us its h1 h2
      obtain ⟨k, e1, e2⟩ := hbindN T kV doc pm an cdv ct us its h1 (by simpa using h2)
      refine ⟨k, e1, ?_⟩
      have : its.drop 1 = [] := List.drop_eq_nil_of_le (by simpa using Nat.le_of_eq h2)
      rw [e2, this, List.append_nil])
    cases hv
    exact ⟨⟨fd, ps, [], [], okFd F S hbody, hb, .nil, fun _ _ => .nil⟩, fun ds M h => if_neg h, hc, hm⟩
/-- nothing is promised -/
theorem noM {c m x qual : Str} {params : Arguments} {body : List Stmt} {scope : Scope} {ps : List Str} {k : Nat} (F : ∃ fd, FunD K x qual params body scope [] [] (He.ma K (He.ga K c) m) fd) (hc : Cls K (He.ga K c)) (hm : Meth K (He.ga K c) m (He.ma K (He.ga K c) m))
    (hbind : ∀ (kV doc pm : Value) (an : Option Addr) (cdv ct : Value) (us : List Value), us.length = ps.length → bindArgs (PySem.W.fnOf x qual params body scope .none kV doc pm an cdv ct) ⟨us, []⟩ = pure (ps.zip us)) :
    CalleeM P w K mg base c m ps.length k [] noFn := by
  obtain ⟨fd, F⟩ := F
  exact ⟨⟨fd, ps, [], [], ⟨fun vs H Q E h => h.1, fun A outer s H args us vs Q E _ _ _ _ h => by obtain ⟨_, ι, ds, M, _, _, z⟩ := h; exact z.elim⟩, F.bindsN hbind, .nil, fun _ _ => .nil⟩, fun _ _ _ => rfl, hc, hm⟩
end
/-! ### running the mirrors -/
section
variable {M : Mem} {n : Nat} {c f m : Str} {fs : List (Str × D)}
theorem mFld_at {v : D} (h : M[n]? = some (.ins c fs)) (hv : fs.lookup f = some v) : mFld c f (.ref n) M = some (v, M) := by
  simp only [mFld, insAt_of h, hv, Option.map_some]
theorem putO_at {v : D} (h : M[n]? = some (.ins c fs)) (hl : fs.length < 1000) : putO c f (.ref n) v M = some (M.set n (.ins c (putD f v fs))) := by
  simp only [putO, insAt_of h]
  exact if_pos hl
end
/-- a class's statements -/
def clsB (s : Stmt) : List Stmt := match s with
  | .ClassDef (body := b) .. => b
  | _ => []
/-- x.index(y), y found -/
def mSIndex : D → OpN := fun d ds M => match d, ds with
  | .str x, [.str y] => match Builtin.Str.occurrences x y 0 x.length 1 with
    | i :: _ => some (.int (i : Nat), M)
    | [] => none
  | _, _ => none
theorem m_sindex {X : Cx} : MtR X "str.index" (rDM X.K mSIndex) := by
  refine MtR.imp mt_sindex fun x xs H Q h => ?_
  obtain ⟨ι, M, d, ds, S, r, rs, h⟩ := h
  unfold mSIndex at h
  split at h
  · cases r.str_inv
    obtain ⟨v, rfl, rv⟩ := rs.one_inv
    cases rv.str_inv
    split at h
    · rename_i e
      exact ⟨_, _, _, _, rfl, rfl, e, h.val S (.int _)⟩
    · exact h.elim
  · exact h.elim
/-! the mirrors, run -/
def meR (c m : Str) (dd : List D) (fn : Fn) (mas : MA) (env : Env) (x : D) (M1 : Mem) : Out D := match x with
  | .ref n => match insAt M1 c n with
    | some fs => if (fs.lookup m).isNone = true then (mas env M1).bind fun ds M2 => fn (.ref n :: (ds ++ dd)) M2 else .stuck
    | none => .stuck
  | _ => .stuck
def putS (env : Env) (o : Option Mem) : SOut := match o with
  | some M => .next env M
  | none => .stuck
def noneO (d x : D) (M : Mem) : Out D := match d with
  | .non => .ok x M
  | _ => .stuck
section
variable {M : Mem} {n : Nat} {c f m : Str} {fs : List (Str × D)} {dd : List D} {fn : Fn} {mas : MA} {env : Env} {o e : ME}
@[simp] theorem eMeM_ap : eMeM c m dd fn o mas env M = (o env M).bind fun x M1 => meR c m dd fn mas env x M1 := rfl
@[simp] theorem eFld_ap : eFld c f e env M = (e env M).bind fun d M1 => liftO (mFld c f d M1) := rfl
@[simp] theorem sFldD_ap : sFldD c f o e env M = thenS env (e env M) fun v M1 => thenS env (o env M1) fun x M2 => putS env (putO c f x v M2) := rfl
@[simp] theorem putS_some : putS env (some M) = .next env M := rfl
@[simp] theorem eMake_ap : eMake c dd fn mas env M = (mas env M).bind fun ds M1 => (fn (.ref M1.length :: (ds ++ dd)) (M1 ++ [.ins c []])).bind fun d M2 => noneO d (.ref M1.length) M2 := rfl
@[simp] theorem noneO_non {x : D} : noneO .non x M = .ok x M := rfl
theorem meR_at (h : M[n]? = some (.ins c fs)) (hl : fs.lookup m = none) : meR c m dd fn mas env (.ref n) M = (mas env M).bind fun ds M2 => fn (.ref n :: (ds ++ dd)) M2 := by
  simp only [meR, insAt_of h, hl]
  rfl
end
end TL
end
section
set_option maxHeartbeats 4000000
/-! for .. in enumerate(xs) -/
namespace TL
open PySem PySem.Spec PyProof.Rows L2
def enumItems : Nat → List D → List D
  | _, [] => []
  | i, x :: xs => .tup [.int (i : Nat), x] :: enumItems (i + 1) xs
theorem enum_at : ∀ (xs : List D) (k i : Nat), (enumItems k xs)[i]? = (xs[i]?).map fun x => .tup [.int ((k + i : Nat) : Int), x]
  | [], k, i => by simp [enumItems]
  | x :: xs, k, 0 => by simp [enumItems]
  | x :: xs, k, i + 1 => by
    have := enum_at xs (k + 1) i
    simp only [enumItems, List.getElem?_cons_succ, this]
    rw [show k + 1 + i = k + (i + 1) from by omega]
theorem enum_len : ∀ (xs : List D) (k : Nat), (enumItems k xs).length = xs.length
  | [], _ => rfl
  | x :: xs, k => by simp [enumItems, enum_len xs]
def enumOf (M : Mem) (d : D) : Option Src := match d with
  | .ref n => (seqAt M n).map fun xs => ⟨enumItems 0 xs, fun M' => seqAt M' n = some xs⟩
  | _ => none
noncomputable def iEnumD (e : ME) : MI := fun env M => (e env M).bind fun d M1 => match enumOf M1 d with
  | some s => .ok s M1
  | none => .stuck
section
variable {X : Cx} {W : WX} {e : Expr} {me : ME} {p pos tpos : Pos} {elts : List Expr} {kk : Nat}
theorem di_enum (hm : X.mg "enumerate" = none) (he : PE X e (LE X.K W me)) (hg : Gl X "enumerate" := by rfl) (hs : starEach [e] X.env = [(false, eval e X.env)] := by rfl) (hs' : starEach [e] X.env = (false, eval e X.env) :: starEach [] X.env := by rfl) :
    PI X (.Tuple elts kk tpos) (.Call (.Name "enumerate" p) [e] [] pos) (LI X.K W (iEnumD me)) :=
  (pi_enum hg hm (pa_cons he pa_nil hs') hs).imp fun σ H R0 ⟨ι, env, M, S, R, h⟩ => ⟨ι, env, M, S, R, (OutP.bind h).imp fun d M1 ι1 H1 e1 S1 h1 v rv => by
    revert h1
    cases d with
    | ref n =>
      obtain ⟨a, rfl, ha⟩ := rv.ref_inv
      cases q : seqAt M1 n with
      | none => intro h1; simp only [enumOf, q, Option.map_none] at h1; exact h1.elim
      | some xs =>
        intro h1
        simp only [enumOf, q, Option.map_some] at h1
        obtain ⟨vs, h2, r1⟩ := S1.seq ha q
        refine ⟨a, vs, rfl, h2, OutP.val S1 h1 _ fun ι2 H2 M2 e2 S2 gd i => ?_⟩
        obtain ⟨us, g1, g2⟩ := S2.seq (e2.pre _ _ ha) gd
        refine ⟨fun d hd => ?_, fun hl => ⟨us, g1, by rw [← g2.length]; have hl' : (enumItems 0 xs).length ≤ i := hl; rwa [enum_len] at hl'⟩⟩
        have hd' : (enumItems 0 xs)[i]? = some d := hd
        rw [enum_at] at hd'
        cases q3 : xs[i]? with
        | none => rw [q3] at hd'; cases hd'
        | some x =>
          rw [q3] at hd'
          cases hd'
          obtain ⟨u, h3, h4⟩ := g2.get q3
          refine ⟨⟨us, u, g1, h3⟩, fun v H' y => ?_⟩
          obtain ⟨T, x', rfl, nT, rfl, y2⟩ := y
          have e := y2 us g1
          rw [h3] at e
          cases e
          have ex : Ext X.K ι2 H2 ι2 (L2.upd H2 T (.tup [.int ((i : Nat) : Int), u])) := Ext.new nT
          refine ⟨ex, S2.new nT, .tup (.inl (.inl upd_same)) (.cons ?_ (.cons (h4.ext ex) .nil))⟩
          rw [Nat.zero_add]
          exact .int _
    | _ => exact fun h1 => h1.elim⟩
end
section
variable {M : Mem} {env : Env} {e : ME}
@[simp] theorem iEnumD_ap : iEnumD e env M = (e env M).bind fun d M1 => match enumOf M1 d with
  | some s => .ok s M1
  | none => .stuck := rfl
theorem enumOf_ref {n : Nat} {xs : List D} (h : seqAt M n = some xs) : enumOf M (.ref n) = some ⟨enumItems 0 xs, fun M' => seqAt M' n = some xs⟩ := by
  simp only [enumOf, h, Option.map_some]
end
end TL
end
section
set_option maxHeartbeats 4000000
namespace LW
open PySem PySem.Spec PyProof.Rows L2 TL
def top (i : Nat) : Stmt := PySem.Challenge.pw_tally_k73_units_won.main.body.getD i (.Pass ⟨0, 0, 0, 0⟩)
abbrev st_is_between : Stmt := top 12
abbrev st_is_throw_name : Stmt := top 13
abbrev st_is_throw : Stmt := top 14
abbrev st_is_down : Stmt := top 15
abbrev st_down_begun : Stmt := top 16
abbrev st_throw_named : Stmt := top 17
abbrev st_with_count : Stmt := top 18
abbrev st_turn_ended : Stmt := top 19
abbrev st_down_thrown : Stmt := top 20
abbrev st_is_lane : Stmt := top 22
abbrev st_lane_begun : Stmt := top 23
abbrev st_frame_behind : Stmt := top 24
abbrev st_extra_behind : Stmt := top 25
abbrev st_row_behind : Stmt := top 26
abbrev st_lane_bowled : Stmt := top 27
abbrev st_best_of : Stmt := top 28
abbrev st_is_count : Stmt := top 34
abbrev st_has_numbers : Stmt := top 35
abbrev st_units_in : Stmt := top 36
abbrev st_is_rule : Stmt := top 37
abbrev st_rule_within : Stmt := top 39
abbrev st_begun : Stmt := top 40
abbrev st_is_won : Stmt := top 41
abbrev st_rallied : Stmt := top 42
abbrev st_is_game : Stmt := top 44
abbrev st_first : Stmt := top 45
abbrev st_deeds_at : Stmt := top 46
abbrev st_rally_played : Stmt := top 47
abbrev st_down_played : Stmt := top 48
abbrev st_lane_played : Stmt := top 49
abbrev st_played : Stmt := top 50
abbrev st_stakes : Stmt := top 52
abbrev st_stands_of : Stmt := top 54
abbrev st_Book_new : Stmt := (clsB (top 55)).getD 0 (.Pass ⟨0, 0, 0, 0⟩)
abbrev st_Book_add : Stmt := (clsB (top 55)).getD 3 (.Pass ⟨0, 0, 0, 0⟩)
abbrev st_Book_back : Stmt := (clsB (top 55)).getD 4 (.Pass ⟨0, 0, 0, 0⟩)
abbrev st_Book_hold_number : Stmt := (clsB (top 55)).getD 5 (.Pass ⟨0, 0, 0, 0⟩)
abbrev st_Book_written_anew : Stmt := (clsB (top 55)).getD 6 (.Pass ⟨0, 0, 0, 0⟩)
abbrev st_Book_put_right : Stmt := (clsB (top 55)).getD 7 (.Pass ⟨0, 0, 0, 0⟩)
abbrev st_Book_put_in : Stmt := (clsB (top 55)).getD 8 (.Pass ⟨0, 0, 0, 0⟩)
abbrev st_Book_leave_out : Stmt := (clsB (top 55)).getD 9 (.Pass ⟨0, 0, 0, 0⟩)
abbrev st_Book_stand : Stmt := (clsB (top 55)).getD 10 (.Pass ⟨0, 0, 0, 0⟩)
abbrev st_Book_units : Stmt := (clsB (top 55)).getD 11 (.Pass ⟨0, 0, 0, 0⟩)
abbrev st_l_cell_at : Stmt := top 57
abbrev st_l_draws : Stmt := top 58
abbrev st_l_unit : Stmt := top 59
abbrev st_l_throws : Stmt := top 60
abbrev st_l_game : Stmt := top 61
abbrev st_l_counts : Stmt := top 62
abbrev st_l_won : Stmt := top 63
abbrev st_l_units : Stmt := top 64
abbrev st_l_right : Stmt := top 65
abbrev st_l_let : Stmt := top 66
abbrev st_l_written : Stmt := top 67
abbrev st_l_others_right : Stmt := top 68
abbrev st_law : Stmt := top 69
def hcls : List Str := ["ScoreError"]
def icls : List Str := []
def fn : List He.DefD := [⟨("is_between", none), "is_between", "is_between", defArgs st_is_between, defBody st_is_between, defScope st_is_between, [], []⟩, ⟨("is_throw_name", none), "is_throw_name", "is_throw_name", defArgs st_is_throw_name, defBody st_is_throw_name, defScope st_is_throw_name, [], []⟩, ⟨("is_throw", none), "is_throw", "is_throw", defArgs st_is_throw, defBody st_is_throw, defScope st_is_throw, [], []⟩, ⟨("is_down", none), "is_down", "is_down", defArgs st_is_down, defBody st_is_down, defScope st_is_down, [], []⟩, ⟨("down_begun", none), "down_begun", "down_begun", defArgs st_down_begun, defBody st_down_begun, defScope st_down_begun, [], []⟩, ⟨("throw_named", none), "throw_named", "throw_named", defArgs st_throw_named, defBody st_throw_named, defScope st_throw_named, [], []⟩, ⟨("with_count", none), "with_count", "with_count", defArgs st_with_count, defBody st_with_count, defScope st_with_count, [], []⟩, ⟨("turn_ended", none), "turn_ended", "turn_ended", defArgs st_turn_ended, defBody st_turn_ended, defScope st_turn_ended, [], []⟩, ⟨("down_thrown", none), "down_thrown", "down_thrown", defArgs st_down_thrown, defBody st_down_thrown, defScope st_down_thrown, [], []⟩, ⟨("is_lane", none), "is_lane", "is_lane", defArgs st_is_lane, defBody st_is_lane, defScope st_is_lane, [], []⟩, ⟨("lane_begun", none), "lane_begun", "lane_begun", defArgs st_lane_begun, defBody st_lane_begun, defScope st_lane_begun, [], []⟩, ⟨("frame_behind", none), "frame_behind", "frame_behind", defArgs st_frame_behind, defBody st_frame_behind, defScope st_frame_behind, [], []⟩, ⟨("extra_behind", none), "extra_behind", "extra_behind", defArgs st_extra_behind, defBody st_extra_behind, defScope st_extra_behind, [], []⟩, ⟨("row_behind", none), "row_behind", "row_behind", defArgs st_row_behind, defBody st_row_behind, defScope st_row_behind, [], []⟩, ⟨("lane_bowled", none), "lane_bowled", "lane_bowled", defArgs st_lane_bowled, defBody st_lane_bowled, defScope st_lane_bowled, [], []⟩, ⟨("best_of", none), "best_of", "best_of", defArgs st_best_of, defBody st_best_of, defScope st_best_of, [], []⟩, ⟨("is_count", none), "is_count", "is_count", defArgs st_is_count, defBody st_is_count, defScope st_is_count, [], []⟩, ⟨("has_numbers", none), "has_numbers", "has_numbers", defArgs st_has_numbers, defBody st_has_numbers, defScope st_has_numbers, [], []⟩, ⟨("units_in", none), "units_in", "units_in", defArgs st_units_in, defBody st_units_in, defScope st_units_in, [], []⟩, ⟨("is_rule", none), "is_rule", "is_rule", defArgs st_is_rule, defBody st_is_rule, defScope st_is_rule, [], []⟩, ⟨("rule_within", none), "rule_within", "rule_within", defArgs st_rule_within, defBody st_rule_within, defScope st_rule_within, [], []⟩, ⟨("begun", none), "begun", "begun", defArgs st_begun, defBody st_begun, defScope st_begun, [], []⟩, ⟨("is_won", none), "is_won", "is_won", defArgs st_is_won, defBody st_is_won, defScope st_is_won, [], []⟩, ⟨("rallied", none), "rallied", "rallied", defArgs st_rallied, defBody st_rallied, defScope st_rallied, [], []⟩, ⟨("is_game", none), "is_game", "is_game", defArgs st_is_game, defBody st_is_game, defScope st_is_game, [], []⟩, ⟨("first", none), "first", "first", defArgs st_first, defBody st_first, defScope st_first, [], []⟩, ⟨("deeds_at", none), "deeds_at", "deeds_at", defArgs st_deeds_at, defBody st_deeds_at, defScope st_deeds_at, [], []⟩, ⟨("rally_played", none), "rally_played", "rally_played", defArgs st_rally_played, defBody st_rally_played, defScope st_rally_played, [], []⟩, ⟨("down_played", none), "down_played", "down_played", defArgs st_down_played, defBody st_down_played, defScope st_down_played, [], []⟩, ⟨("lane_played", none), "lane_played", "lane_played", defArgs st_lane_played, defBody st_lane_played, defScope st_lane_played, [], []⟩, ⟨("played", none), "played", "played", defArgs st_played, defBody st_played, defScope st_played, [], []⟩, ⟨("stakes", none), "stakes", "stakes", defArgs st_stakes, defBody st_stakes, defScope st_stakes, [], []⟩, ⟨("stands_of", none), "stands_of", "stands_of", defArgs st_stands_of, defBody st_stands_of, defScope st_stands_of, [], []⟩, ⟨("Book", some "__init__"), "__init__", "Book.__init__", defArgs st_Book_new, defBody st_Book_new, defScope st_Book_new, [], []⟩, ⟨("Book", some "add"), "add", "Book.add", defArgs st_Book_add, defBody st_Book_add, defScope st_Book_add, [], []⟩, ⟨("Book", some "back"), "back", "Book.back", defArgs st_Book_back, defBody st_Book_back, defScope st_Book_back, [], []⟩, ⟨("Book", some "hold_number"), "hold_number", "Book.hold_number", defArgs st_Book_hold_number, defBody st_Book_hold_number, defScope st_Book_hold_number, [], []⟩, ⟨("Book", some "written_anew"), "written_anew", "Book.written_anew", defArgs st_Book_written_anew, defBody st_Book_written_anew, defScope st_Book_written_anew, [], []⟩, ⟨("Book", some "put_right"), "put_right", "Book.put_right", defArgs st_Book_put_right, defBody st_Book_put_right, defScope st_Book_put_right, [], []⟩, ⟨("Book", some "put_in"), "put_in", "Book.put_in", defArgs st_Book_put_in, defBody st_Book_put_in, defScope st_Book_put_in, [], []⟩, ⟨("Book", some "leave_out"), "leave_out", "Book.leave_out", defArgs st_Book_leave_out, defBody st_Book_leave_out, defScope st_Book_leave_out, [], []⟩, ⟨("Book", some "stand"), "stand", "Book.stand", defArgs st_Book_stand, defBody st_Book_stand, defScope st_Book_stand, [.non], []⟩, ⟨("Book", some "units"), "units", "Book.units", defArgs st_Book_units, defBody st_Book_units, defScope st_Book_units, [], []⟩, ⟨("_law_cell_at", none), "_law_cell_at", "_law_cell_at", defArgs st_l_cell_at, defBody st_l_cell_at, defScope st_l_cell_at, [], []⟩, ⟨("_law_draws", none), "_law_draws", "_law_draws", defArgs st_l_draws, defBody st_l_draws, defScope st_l_draws, [], []⟩, ⟨("_law_unit", none), "_law_unit", "_law_unit", defArgs st_l_unit, defBody st_l_unit, defScope st_l_unit, [], []⟩, ⟨("_law_throws", none), "_law_throws", "_law_throws", defArgs st_l_throws, defBody st_l_throws, defScope st_l_throws, [], []⟩, ⟨("_law_game", none), "_law_game", "_law_game", defArgs st_l_game, defBody st_l_game, defScope st_l_game, [], []⟩, ⟨("_law_counts", none), "_law_counts", "_law_counts", defArgs st_l_counts, defBody st_l_counts, defScope st_l_counts, [], []⟩, ⟨("_law_won", none), "_law_won", "_law_won", defArgs st_l_won, defBody st_l_won, defScope st_l_won, [], []⟩, ⟨("_law_units", none), "_law_units", "_law_units", defArgs st_l_units, defBody st_l_units, defScope st_l_units, [], []⟩, ⟨("_law_right", none), "_law_right", "_law_right", defArgs st_l_right, defBody st_l_right, defScope st_l_right, [], []⟩, ⟨("_law_let", none), "_law_let", "_law_let", defArgs st_l_let, defBody st_l_let, defScope st_l_let, [], []⟩, ⟨("_law_written", none), "_law_written", "_law_written", defArgs st_l_written, defBody st_l_written, defScope st_l_written, [], []⟩, ⟨("_law_others_right", none), "_law_others_right", "_law_others_right", defArgs st_l_others_right, defBody st_l_others_right, defScope st_l_others_right, [], []⟩, ⟨("law", none), "law", "law", defArgs st_law, defBody st_law, defScope st_law, [], []⟩]
def fa : List He.Fa := [.glo "is_between", .glo "is_throw_name", .glo "is_throw", .glo "is_down", .glo "down_begun", .glo "throw_named", .glo "with_count", .glo "turn_ended", .glo "down_thrown", .glo "is_lane", .glo "lane_begun", .glo "frame_behind", .glo "extra_behind", .glo "row_behind", .glo "lane_bowled", .glo "best_of", .glo "is_count", .glo "has_numbers", .glo "units_in", .glo "is_rule", .glo "rule_within", .glo "begun", .glo "is_won", .glo "rallied", .glo "is_game", .glo "first", .glo "deeds_at", .glo "rally_played", .glo "down_played", .glo "lane_played", .glo "played", .glo "stakes", .glo "stands_of", .meth "Book" "__init__", .meth "Book" "add", .meth "Book" "back", .meth "Book" "hold_number", .meth "Book" "written_anew", .meth "Book" "put_right", .meth "Book" "put_in", .meth "Book" "leave_out", .meth "Book" "stand", .meth "Book" "units", .glo "_law_cell_at", .glo "_law_draws", .glo "_law_unit", .glo "_law_throws", .glo "_law_game", .glo "_law_counts", .glo "_law_won", .glo "_law_units", .glo "_law_right", .glo "_law_let", .glo "_law_written", .glo "_law_others_right", .glo "law", .free "all", .free "bool", .free "enumerate", .free "int", .free "isinstance", .free "len", .free "list", .free "max", .free "min", .free "range", .free "repr", .free "set", .free "str", .free "tuple", .cls "Book", .noat "Book" "kept_deeds", .noat "Book" "kept_game", .noat "Book" "kept_stands", .mkr "Book", .glo "Book", .glo "NoDeed", .glo "NoGame", .glo "NoPins", .glo "NoSide", .glo "NoThrow", .glo "Over", .glo "ScoreError", .exc "NoDeed", .exc "NoGame", .exc "NoPins", .exc "NoSide", .exc "NoThrow", .exc "Over", .str "LETTERS" "abcdefghijklmnopqrstuvwxyz", .str "FIGURES" "0123456789", .glo "POINT", .int "GREATEST" 99, .int "MOST_UNITS" 10, .int "MOST_DEEP" 4]
def okB (K : PySem.W.Frag) : Bool := fa.all (fun f => f.ok K) && exSubB K ["NoThrow", "NoPins", "NoSide", "Over", "NoGame", "NoDeed", "Falls"] hcls && He.tupB K "POINT" [.str "point"]
abbrev R : PySem.W.OpenRow := PySem.W.OpenLaw.row PySem.Challenge.rw_tally_k73_units_won
abbrev hk : PySem.W.Hook := hookB 4 okB fn
def ob (s : PySem.W.SharedT) : AlB := obsBG 4 okB fn (HandSHeadRun.getT s)
theorem ob_eq (s : PySem.W.SharedT) : ob s = hk.obs s.abs := obsBG_eq (HandSHeadRun.getT_eq s)
def loose0 : List Str := ["ScoreError", "NoThrow", "NoPins", "NoSide", "Over", "NoGame", "NoDeed", "Falls", "LETTERS", "FIGURES", "is_between", "is_throw_name", "is_throw", "is_down", "down_begun", "throw_named", "with_count", "turn_ended", "down_thrown", "is_lane", "lane_begun", "frame_behind", "extra_behind", "row_behind", "lane_bowled", "best_of", "POINT", "GREATEST", "MOST_UNITS", "MOST_DEEP"]
def loose1 : List Str := ["is_count", "has_numbers", "units_in", "is_rule", "rule_within", "begun", "is_won", "rallied", "is_game", "first", "deeds_at", "rally_played", "down_played", "lane_played", "played", "stakes", "stands_of", "Book", "_law_cell_at", "_law_draws", "_law_unit", "_law_throws", "_law_game", "_law_counts", "_law_won", "_law_units", "_law_right", "_law_let", "_law_written", "_law_others_right"]
abbrev loose : List Str := loose0 ++ loose1
theorem run (w : World) : HandSHeadRun.RunEq R (PySem.W.view R.prog [69]) hk ob 4000 loose w := by
  intro os
  kernel_rfl
end LW
end
section
/-! rules of rallies as data -/
namespace RL
open PySem PySem.Spec PyProof.Rows L2 TL
inductive Rule where
  | point
  | unit (to lead : Int) (cap : Option Int) (inner : Rule)
  | unitL (to lead cap : Int) (inner last : Rule)
  deriving DecidableEq
def capD : Option Int → D
  | none => .non
  | some c => .int c
abbrev pointD : D := .tup [.str "point"]
namespace Rule
def toD : Rule → D
  | point => pointD
  | unit to lead cap inner => .tup [.str "unit", .int to, .int lead, capD cap, inner.toD, .non]
  | unitL to lead cap inner last => .tup [.str "unit", .int to, .int lead, .int cap, inner.toD, last.toD]
/-- units within one another -/
def depth : Rule → Nat
  | point => 0
  | unit _ _ _ inner => inner.depth + 1
  | unitL _ _ _ inner last => max inner.depth last.depth + 1
/-- how many units -/
def units : Rule → Nat
  | point => 0
  | unit _ _ _ inner => inner.units + 1
  | unitL _ _ _ inner last => inner.units + last.units + 1
/-- numbers within their bounds -/
def good : Rule → Prop
  | point => True
  | unit to lead cap inner => 1 ≤ to ∧ to ≤ 99 ∧ 1 ≤ lead ∧ lead ≤ 99 ∧ (∀ c, cap = some c → to ≤ c ∧ c ≤ 99) ∧ inner.good
  | unitL to lead cap inner last => 1 ≤ to ∧ to ≤ 99 ∧ 1 ≤ lead ∧ lead ≤ 99 ∧ to ≤ cap ∧ cap ≤ 99 ∧ inner.good ∧ last.good
theorem ok_unit : PyData.strOk ("unit" : Str) = true := by decide +kernel
theorem ok_point : PyData.strOk ("point" : Str) = true := by decide +kernel
theorem pure_toD : ∀ r : Rule, pureD r.toD (r.depth + 1) = true
  | point => by simp [toD, depth, pureD, pureL, ok_point]
  | unit to lead cap inner => by
    have h := pure_toD inner
    cases cap <;> simp [toD, depth, pureD, pureL, capD, ok_unit, h]
  | unitL to lead cap inner last => by
    have h := pure_mono (pure_toD inner) (show inner.depth + 1 ≤ max inner.depth last.depth + 1 by omega)
    have h' := pure_mono (pure_toD last) (show last.depth + 1 ≤ max inner.depth last.depth + 1 by omega)
    simp [toD, depth, pureD, pureL, ok_unit, h, h']
theorem pyPoint : pyD pointD = .tuple [.str "point"] := by simp [pyD, pyL]
theorem eqv_point (r : Rule) : PyData.eqv (pyD r.toD) (pyD pointD) = decide (r = point) := by
  cases r <;> simp [toD, pyD, pyL, PyData.eqv, PyData.eqvAll]
end Rule
theorem pure_point : pureD pointD 1 = true := by simp [pureD, pureL, Rule.ok_point]
theorem eq_point {M : Mem} {r : Rule} (h : r.depth ≤ 60) : eqD M r.toD pointD = some (decide (r = .point)) := by
  rw [eqD_pure r.pure_toD pure_point (by omega) (by omega), Rule.eqv_point]
theorem mEq_point {M : Mem} {r : Rule} (h : r.depth ≤ 60) : mEq r.toD (.tup [.str "point"]) M = some (.bl (decide (r = .point)), M) := by rw [mEq_eq, eq_point h]; rfl
theorem mNe_point {M : Mem} {r : Rule} (h : r.depth ≤ 60) : mNe r.toD (.tup [.str "point"]) M = some (.bl (!decide (r = .point)), M) := by rw [mNe_eq, eq_point h]; rfl
@[simp] theorem isNon_capD {c : Option Int} : isNon (capD c) = c.isNone := by cases c <;> rfl
@[simp] theorem isNon_toD {r : Rule} : isNon r.toD = false := by cases r <;> rfl
end RL
end
section
/-! rallies as data: stands, what a rally makes of them -/
namespace RL
open PySem PySem.Spec PyProof.Rows L2 TL
namespace Rule
def to : Rule → Int
  | point => 0
  | unit t _ _ _ => t
  | unitL t _ _ _ _ => t
def lead : Rule → Int
  | point => 0
  | unit _ l _ _ => l
  | unitL _ l _ _ _ => l
def cap : Rule → Option Int
  | point => none
  | unit _ _ c _ => c
  | unitL _ _ c _ _ => some c
def inner : Rule → Rule
  | point => point
  | unit _ _ _ i => i
  | unitL _ _ _ i _ => i
def last : Rule → Option Rule
  | unitL _ _ _ _ l => some l
  | _ => none
end Rule
def lastD : Option Rule → D
  | none => .non
  | some l => l.toD
theorem toD_unit : ∀ {r : Rule}, r ≠ .point → r.toD = .tup [.str "unit", .int r.to, .int r.lead, capD r.cap, r.inner.toD, lastD r.last]
  | .point, h => absurd rfl h
  | .unit _ _ _ _, _ => rfl
  | .unitL _ _ _ _ _, _ => rfl
theorem depth_inner {r : Rule} (h : r ≠ .point) : r.inner.depth < r.depth := by
  cases r with
  | point => exact absurd rfl h
  | unit _ _ _ i => simp [Rule.inner, Rule.depth]
  | unitL _ _ _ i l => simp [Rule.inner, Rule.depth]; omega
theorem depth_last {r l : Rule} (h : r.last = some l) : l.depth < r.depth := by
  cases r with
  | unitL _ _ _ i l' => simp [Rule.last] at h; subst h; simp [Rule.depth]; omega
  | _ => simp [Rule.last] at h
theorem cap_last {r l : Rule} (h : r.last = some l) : ∃ c, r.cap = some c := by
  cases r with
  | unitL _ _ c _ _ => exact ⟨c, rfl⟩
  | _ => simp [Rule.last] at h
/-- the rule by which a unit goes on at some counts -/
def within (r : Rule) (z o : Int) : Rule := match r.last, r.cap with
  | some l, some c => if z = c - 1 ∧ o = c - 1 then l else r.inner
  | _, _ => r.inner
theorem depth_within {r : Rule} (h : r ≠ .point) (z o : Int) : (within r z o).depth < r.depth := by
  unfold within
  split
  · rename_i l c hl hc
    split
    · exact depth_last hl
    · exact depth_inner h
  · exact depth_inner h
inductive Stand where
  | nil
  | st (zero one : Int) (within : Stand)
  deriving DecidableEq
namespace Stand
def toD : Stand → D
  | nil => .tup []
  | st z o w => .tup [.int z, .int o, w.toD]
def depth : Stand → Nat
  | nil => 0
  | st _ _ w => w.depth + 1
theorem pure_toD : ∀ s : Stand, pureD s.toD (s.depth + 1) = true
  | nil => by simp [toD, depth, pureD, pureL]
  | st z o w => by simp [toD, depth, pureD, pureL, pure_toD w]
theorem eqv_toD : ∀ s t : Stand, PyData.eqv (pyD s.toD) (pyD t.toD) = decide (s = t)
  | nil, nil => by simp [toD, pyD, pyL, PyData.eqv, PyData.eqvAll]
  | nil, st _ _ _ => by simp [toD, pyD, pyL, PyData.eqv, PyData.eqvAll]
  | st _ _ _, nil => by simp [toD, pyD, pyL, PyData.eqv, PyData.eqvAll]
  | st z o w, st z' o' w' => by
    have h := eqv_toD w w'
    simp only [toD, pyD, pyL, PyData.eqv, PyData.eqvAll, h]
    by_cases h1 : z = z' <;> by_cases h2 : o = o' <;> by_cases h3 : w = w' <;> simp [h1, h2, h3]
theorem eq_toD {M : Mem} {s t : Stand} (h1 : s.depth ≤ 60) (h2 : t.depth ≤ 60) : eqD M s.toD t.toD = some (decide (s = t)) := by
  rw [eqD_pure s.pure_toD t.pure_toD (by omega) (by omega), eqv_toD]
end Stand
theorem mNe_nilS {M : Mem} {s : Stand} (h : s.depth ≤ 60) : mNe s.toD (.tup []) M = some (.bl (!decide (s = .nil)), M) := by
  rw [mNe_eq, show (D.tup []) = Stand.nil.toD from rfl, Stand.eq_toD h (by simp [Stand.depth])]; rfl
theorem mEq_nilS {M : Mem} {s : Stand} (h : s.depth ≤ 60) : mEq s.toD (.tup []) M = some (.bl (decide (s = .nil)), M) := by
  rw [mEq_eq, show (D.tup []) = Stand.nil.toD from rfl, Stand.eq_toD h (by simp [Stand.depth])]; rfl
/-- the first stand -/
def begunR (r : Rule) : Stand := if h : r = .point then .nil else .st 0 0 (begunR (within r 0 0))
termination_by r.depth
decreasing_by exact depth_within h 0 0
theorem begunR_point : begunR .point = .nil := by rw [begunR]; simp
theorem begunR_unit {r : Rule} (h : r ≠ .point) : begunR r = .st 0 0 (begunR (within r 0 0)) := by rw [begunR]; simp [h]
theorem begunR_depth : ∀ (n : Nat) (r : Rule), r.depth ≤ n → (begunR r).depth ≤ r.depth
  | n, r, hn => by
    by_cases h : r = .point
    · subst h; rw [begunR_point]; exact Nat.zero_le _
    · have hd := depth_within h 0 0
      match n with
      | 0 => omega
      | n + 1 =>
        have := begunR_depth n (within r 0 0) (by omega)
        rw [begunR_unit h]
        simp only [Stand.depth]
        omega
/-- whether a unit is won by a count -/
def wonR (r : Rule) (own other : Int) : Bool := decide (r.cap = some own) || (decide (r.to ≤ own) && decide (r.lead ≤ own - other))
/-- a stand has the rule's form -/
def Fits : Rule → Stand → Prop
  | _, .nil => True
  | r, .st z o w => r ≠ .point ∧ Fits (within r z o) w
/-- a stand that is not won: it has a place for the next rally -/
def Open : Rule → Stand → Prop
  | r, .nil => r = .point
  | r, .st z o w => r ≠ .point ∧ Open (within r z o) w
theorem open_begun : ∀ (n : Nat) (r : Rule), r.depth ≤ n → Open r (begunR r)
  | n, r, hn => by
    by_cases h : r = .point
    · subst h; rw [begunR_point]; exact rfl
    · have hd := depth_within h 0 0
      match n with
      | 0 => omega
      | n + 1 =>
        rw [begunR_unit h]
        exact ⟨h, open_begun n _ (by omega)⟩
theorem open_depth : ∀ {s : Stand} {r : Rule}, Open r s → s.depth ≤ r.depth
  | .nil, _, _ => Nat.zero_le _
  | .st z o w, r, h => by
    have := open_depth h.2
    have := depth_within h.1 z o
    simp only [Stand.depth]; omega
def bump (z o : Int) (side : Bool) : Int × Int := if side then (z, o + 1) else (z + 1, o)
def ownC (p : Int × Int) (side : Bool) : Int := if side then p.2 else p.1
def otherC (p : Int × Int) (side : Bool) : Int := if side then p.1 else p.2
/-- behind a rally: the stand, whether it is won; side true is 1 -/
def ralliedR : Rule → Stand → Bool → Stand × Bool
  | _, .nil, _ => (.nil, true)
  | r, .st z o w, side =>
    let q := ralliedR (within r z o) w side
    if q.2 then
      let p := bump z o side
      if wonR r (ownC p side) (otherC p side) then (.st p.1 p.2 .nil, true) else (.st p.1 p.2 (begunR (within r p.1 p.2)), false)
    else (.st z o q.1, false)
theorem open_rallied : ∀ {s : Stand} {r : Rule} {side : Bool}, Open r s → (ralliedR r s side).2 = false → Open r (ralliedR r s side).1
  | .nil, r, side, h, e => by simp [ralliedR] at e
  | .st z o w, r, side, h, e => by
    have ih := open_rallied (side := side) h.2
    simp only [ralliedR] at e ⊢
    split at e
    · rename_i hq
      split at e
      · cases e
      · rename_i hw
        rw [if_pos hq, if_neg hw]
        exact ⟨h.1, open_begun _ _ (Nat.le_refl _)⟩
    · rename_i hq
      rw [if_neg hq]
      exact ⟨h.1, ih (by simpa using hq)⟩
theorem depth_rallied : ∀ {s : Stand} {r : Rule} {side : Bool}, Open r s → (ralliedR r s side).1.depth ≤ r.depth
  | .nil, r, side, h => Nat.zero_le _
  | .st z o w, r, side, h => by
    have ih := depth_rallied (side := side) h.2
    have hd := depth_within h.1 z o
    simp only [ralliedR]
    split
    · split
      · simp only [Stand.depth]; omega
      · have h1 := depth_within h.1 (bump z o side).1 (bump z o side).2
        have h2 := begunR_depth _ (within r (bump z o side).1 (bump z o side).2) (Nat.le_refl _)
        simp only [Stand.depth]; omega
    · simp only [Stand.depth]; omega
end RL
end
section
set_option maxHeartbeats 4000000
/-! the rallies: mirrors, and what they give -/
namespace CM
open PySem PySem.Spec PyProof.Rows L2 TL RL
noncomputable section
/- def rule_within(rule, zero, one): 0=rule 1=zero 2=one -/
def b_rule_within : MS := (sSeq (sIf (tAnd (tB (eBin mIsNot (eBin mIdx (eVar 0) (eC (.int 5))) (eC .non))) (tAnd (tB (eBin mEq (eVar 1) (eBin mSub (eBin mIdx (eVar 0) (eC (.int 3))) (eC (.int 1))))) (tB (eBin mEq (eVar 2) (eBin mSub (eBin mIdx (eVar 0) (eC (.int 3))) (eC (.int 1))))))) (sRet (eBin mIdx (eVar 0) (eC (.int 5)))) sNil)
    (sRet (eBin mIdx (eVar 0) (eC (.int 4)))))
def m_rule_within : Fn := fnD 3 3 b_rule_within
/- def begun(rule): 0=rule -/
def b_begun (r_begun : Fn) : MS := (sSeq (sIf (tB (eBin mEq (eVar 0) (eC (.tup [(.str "point")])))) (sRet (eTup aNil)) sNil)
    (sRet (eTup (aCons (eC (.int 0)) (aCons (eC (.int 0)) (aCons (eCall r_begun (aCons (eCall m_rule_within (aCons (eVar 0) (aCons (eC (.int 0)) (aCons (eC (.int 0)) aNil)))) aNil)) aNil))))))
def m_begun : Nat → Fn
  | 0 => noFn
  | n + 1 => fnD 1 1 (b_begun (m_begun n))
/- def is_won(rule, own, other): 0=rule 1=own 2=other -/
def b_is_won : MS := (sSeq (sIf (tAnd (tB (eBin mIsNot (eBin mIdx (eVar 0) (eC (.int 3))) (eC .non))) (tB (eBin mEq (eVar 1) (eBin mIdx (eVar 0) (eC (.int 3)))))) (sRet (eC (.bl true))) sNil)
    (sRet (eAnd (eBin mGe (eVar 1) (eBin mIdx (eVar 0) (eC (.int 1)))) (eBin mGe (eBin mSub (eVar 1) (eVar 2)) (eBin mIdx (eVar 0) (eC (.int 2)))))))
def m_is_won : Fn := fnD 3 3 b_is_won
/- def rallied(rule, stand, side): 0=rule 1=stand 2=side 3=counts 4=within 5=won -/
def b_rallied (r_rallied : Fn) : MS := (sSeq (sIf (tB (eBin mEq (eVar 0) (eC (.tup [(.str "point")])))) (sRet (eTup (aCons (eTup aNil) (aCons (eC (.bl true)) aNil)))) sNil)
    (sSeq (sAsg (gOne 3) (eLst (aCons (eBin mIdx (eVar 1) (eC (.int 0))) (aCons (eBin mIdx (eVar 1) (eC (.int 1))) aNil))))
    (sSeq (sAsg (gTupD [4, 5]) (eCall r_rallied (aCons (eCall m_rule_within (aCons (eVar 0) (aCons (eBin mIdx (eVar 1) (eC (.int 0))) (aCons (eBin mIdx (eVar 1) (eC (.int 1))) aNil)))) (aCons (eBin mIdx (eVar 1) (eC (.int 2))) (aCons (eVar 2) aNil)))))
    (sSeq (sIf (tTru (eVar 5)) (sSeq (sSub (eVar 3) (eVar 2) (eBin mAdd (eBin mIdx (eVar 3) (eVar 2)) (eC (.int 1))))
    (sSeq (sIf (tTru (eCall m_is_won (aCons (eVar 0) (aCons (eBin mIdx (eVar 3) (eVar 2)) (aCons (eBin mIdx (eVar 3) (eBin mSub (eC (.int 1)) (eVar 2))) aNil))))) (sRet (eTup (aCons (eTup (aCons (eBin mIdx (eVar 3) (eC (.int 0))) (aCons (eBin mIdx (eVar 3) (eC (.int 1))) (aCons (eTup aNil) aNil)))) (aCons (eC (.bl true)) aNil)))) sNil)
    (sAsg (gOne 4) (eCall (m_begun 14) (aCons (eCall m_rule_within (aCons (eVar 0) (aCons (eBin mIdx (eVar 3) (eC (.int 0))) (aCons (eBin mIdx (eVar 3) (eC (.int 1))) aNil)))) aNil))))) sNil)
    (sRet (eTup (aCons (eTup (aCons (eBin mIdx (eVar 3) (eC (.int 0))) (aCons (eBin mIdx (eVar 3) (eC (.int 1))) (aCons (eVar 4) aNil)))) (aCons (eC (.bl false)) aNil))))))))
def m_rallied : Nat → Fn
  | 0 => noFn
  | n + 1 => fnD 3 6 (b_rallied (m_rallied n))
/- def cut(rule, stand): 0=rule 1=stand 2=less 3=zero 4=one 5=within -/
def b_cut (r_cut : Fn) : MS := (sSeq (sIf (tB (eBin mEq (eVar 0) (eC (.tup [(.str "point")])))) (sRet (eTup aNil)) sNil)
    (sSeq (sAsg (gTupD [3, 4, 5]) (eVar 1))
    (sSeq (sIf (tB (eBin mNe (eVar 5) (eTup aNil))) (sAsg (gOne 5) (eCall r_cut (aCons (eCall m_rule_within (aCons (eVar 0) (aCons (eVar 3) (aCons (eVar 4) aNil)))) (aCons (eVar 5) aNil)))) sNil)
    (sSeq (sAsg (gOne 2) (eC (.int 0)))
    (sSeq (sIf (tB (eBin mIs (eBin mIdx (eVar 0) (eC (.int 3))) (eC .non))) (sAsg (gOne 2) (eCallO nMax2 (aCons (eC (.int 0)) (aCons (eBin mAdd (eBin mSub (eCallO nMin2 (aCons (eVar 3) (aCons (eVar 4) aNil))) (eBin mIdx (eVar 0) (eC (.int 1)))) (eC (.int 1))) aNil)))) sNil)
    (sRet (eTup (aCons (eBin mSub (eVar 3) (eVar 2)) (aCons (eBin mSub (eVar 4) (eVar 2)) (aCons (eVar 5) aNil))))))))))
def m_cut : Nat → Fn
  | 0 => noFn
  | n + 1 => fnD 2 6 (b_cut (m_cut n))
/- def stakes(rule, stand, side): 0=rule 1=stand 2=side 3=many -/
def b_stakes (r_stakes : Fn) : MS := (sSeq (sIf (tB (eBin mEq (eVar 0) (eC (.tup [(.str "point")])))) (sRet (eC (.int 0))) sNil)
    (sSeq (sAsg (gOne 3) (eCall r_stakes (aCons (eCall m_rule_within (aCons (eVar 0) (aCons (eBin mIdx (eVar 1) (eC (.int 0))) (aCons (eBin mIdx (eVar 1) (eC (.int 1))) aNil)))) (aCons (eBin mIdx (eVar 1) (eC (.int 2))) (aCons (eVar 2) aNil)))))
    (sSeq (sIf (tTru (eBin mIdx (eCall (m_rallied 14) (aCons (eVar 0) (aCons (eVar 1) (aCons (eVar 2) aNil)))) (eC (.int 1)))) (sRet (eBin mAdd (eVar 3) (eC (.int 1)))) sNil)
    (sRet (eVar 3)))))
def m_stakes : Nat → Fn
  | 0 => noFn
  | n + 1 => fnD 3 4 (b_stakes (m_stakes n))
end

theorem rule_within_ok {r : Rule} (h : r ≠ .point) (z o : Int) (M : Mem) : m_rule_within [r.toD, .int z, .int o] M = .ok (within r z o).toD M := by
  show endS (b_rule_within [some r.toD, some (.int z), some (.int o)] M) = _
  unfold b_rule_within
  rw [toD_unit h]
  cases hl : r.last with
  | none => simp [lastD, within, hl]
  | some l =>
    obtain ⟨c, hc⟩ := cap_last hl
    simp [lastD, within, hl, hc, capD]
    by_cases h1 : z = c - 1 <;> by_cases h2 : o = c - 1 <;> simp [h1, h2]
theorem begun_ok : ∀ (n : Nat) (r : Rule) (M : Mem), r.depth < n → r.depth ≤ 60 → m_begun n [r.toD] M = .ok (begunR r).toD M
  | 0, _, _, h, _ => by omega
  | n + 1, r, M, h, h6 => by
    show endS (b_begun (m_begun n) [some r.toD] M) = _
    unfold b_begun
    by_cases hp : r = .point
    · subst hp
      simp [mEq_point (M := M) (r := .point) h6, begunR_point, Stand.toD]
    · have hd := depth_within hp 0 0
      simp [mEq_point (M := M) h6, hp, rule_within_ok hp, begun_ok n _ M (show (within r 0 0).depth < n by omega) (by omega), begunR_unit hp, Stand.toD]
theorem is_won_ok {r : Rule} (h : r ≠ .point) (own other : Int) (M : Mem) : m_is_won [r.toD, .int own, .int other] M = .ok (.bl (wonR r own other)) M := by
  show endS (b_is_won [some r.toD, some (.int own), some (.int other)] M) = _
  unfold b_is_won
  rw [toD_unit h]
  cases hc : r.cap with
  | none =>
    simp [wonR, hc, capD]
    by_cases h1 : r.to ≤ own <;> simp [h1]
  | some c =>
    by_cases h0 : own = c
    · subst h0; simp [wonR, hc, capD]
    · have h0' : ¬ c = own := fun e => h0 e.symm
      simp [wonR, hc, capD, h0, h0']
      by_cases h1 : r.to ≤ own <;> simp [h1]
def sideD (s : Bool) : D := .int (if s then 1 else 0)
theorem rallied_ok : ∀ (n : Nat) (r : Rule) (s : Stand) (side : Bool) (M : Mem), r.depth < n → r.depth ≤ 12 → Open r s → ∃ M', m_rallied n [r.toD, s.toD, sideD side] M = .ok (.tup [(ralliedR r s side).1.toD, .bl (ralliedR r s side).2]) M' ∧ Keep M M'
  | 0, _, _, _, _, h, _, _ => by omega
  | n + 1, r, s, side, M, h, h6, hO => by
    have h60 : r.depth ≤ 60 := by omega
    show ∃ M', endS (b_rallied (m_rallied n) [some r.toD, some s.toD, some (sideD side), none, none, none] M) = _ ∧ _
    unfold b_rallied
    cases s with
    | nil =>
      have hp : r = .point := hO
      subst hp
      exact ⟨M, by simp [mEq_point (M := M) (r := .point) h60, ralliedR, Stand.toD], Keep.refl M⟩
    | st z o w =>
      obtain ⟨hp, hO⟩ := hO
      have hd := depth_within hp z o
      obtain ⟨M1, e1, k1⟩ := rallied_ok n (within r z o) w side (M ++ [.lst [.int z, .int o]]) (by omega) (by omega) hO
      have l1 := k1.at (at_len M (.lst [.int z, .int o]))
      have hlt := lt_of_at l1
      have kk := (Keep.more M [.lst [.int z, .int o]]).trans k1
      simp only [ralliedR]
      generalize ralliedR (within r z o) w side = q at e1
      obtain ⟨w', won⟩ := q
      have nx : ∀ (a b : Int) (M : Mem), m_begun 14 [(within r a b).toD] M = .ok (begunR (within r a b)).toD M := fun a b M => begun_ok 14 _ M (by have := depth_within hp a b; omega) (by have := depth_within hp a b; omega)
      cases won with
      | false =>
        refine ⟨M1, ?_, kk⟩
        simp [mEq_point (M := M) h60, hp, Stand.toD, rule_within_ok hp, e1, seqAt, l1]
      | true =>
        cases side with
        | false =>
          refine ⟨M1.set M.length (.lst [.int (z + 1), .int o]), ?_, kk.setNew (Nat.le_refl _)⟩
          simp [sideD] at e1
          simp [mEq_point (M := M) h60, hp, Stand.toD, rule_within_ok hp, e1, seqAt, l1, sideD, setD, ixN, List.getElem?_set_self hlt, is_won_ok hp, RL.bump, ownC, otherC, nx]
          cases wonR r (z + 1) o <;> simp [Stand.toD, seqAt, List.getElem?_set_self hlt, rule_within_ok hp, nx]
        | true =>
          refine ⟨M1.set M.length (.lst [.int z, .int (o + 1)]), ?_, kk.setNew (Nat.le_refl _)⟩
          simp [sideD] at e1
          simp [mEq_point (M := M) h60, hp, Stand.toD, rule_within_ok hp, e1, seqAt, l1, sideD, setD, ixN, List.getElem?_set_self hlt, is_won_ok hp, RL.bump, ownC, otherC, nx]
          cases wonR r (o + 1) z <;> simp [Stand.toD, seqAt, List.getElem?_set_self hlt, rule_within_ok hp, nx]
/-- a stand cut -/
def lessR (r : Rule) (z o : Int) : Int := match r.cap with
  | none => max 0 (min z o - r.to + 1)
  | some _ => 0
def cutR : Rule → Stand → Stand
  | _, .nil => .nil
  | r, .st z o w => .st (z - lessR r z o) (o - lessR r z o) (cutR (within r z o) w)
theorem fits_depth : ∀ {s : Stand} {r : Rule}, Fits r s → s.depth ≤ r.depth
  | .nil, _, _ => Nat.zero_le _
  | .st z o w, r, h => by
    have := fits_depth h.2
    have := depth_within h.1 z o
    simp only [Stand.depth]; omega
theorem Open.fits : ∀ {s : Stand} {r : Rule}, Open r s → Fits r s
  | .nil, _, _ => trivial
  | .st _ _ _, _, h => ⟨h.1, Open.fits h.2⟩
theorem cutR_nil (r : Rule) : cutR r .nil = .nil := by cases r <;> rfl
theorem cut_ok : ∀ (n : Nat) (r : Rule) (s : Stand) (M : Mem), r.depth < n → r.depth ≤ 60 → Fits r s → (r = .point ↔ s = .nil) → m_cut n [r.toD, s.toD] M = .ok (cutR r s).toD M
  | 0, _, _, _, h, _, _, _ => by omega
  | n + 1, r, s, M, h, h60, hF, hn => by
    show endS (b_cut (m_cut n) [some r.toD, some s.toD, none, none, none, none] M) = _
    unfold b_cut
    cases s with
    | nil =>
      have hp := hn.mpr rfl
      subst hp
      simp [mEq_point (M := M) (r := .point) h60, cutR, Stand.toD]
    | st z o w =>
      obtain ⟨hp, hF⟩ := hF
      have hd := depth_within hp z o
      have hsd : w.depth ≤ 60 := by have := fits_depth hF; omega
      have hw : ∀ M : Mem, w ≠ .nil → m_cut n [(within r z o).toD, w.toD] M = .ok (cutR (within r z o) w).toD M := fun M hw => cut_ok n _ w M (by omega) (by omega) hF ⟨fun e => by
        cases w with
        | nil => exact absurd rfl hw
        | st a b c => exact absurd e hF.1, fun e => absurd e hw⟩
      have hmin : (if o < z then o else z) = min z o := by split <;> omega
      have hmax : ∀ x : Int, (if 0 < x then x else 0) = max 0 x := fun x => by split <;> omega
      have e1 := toD_unit hp
      simp [mEq_point (M := M) h60, hp, Stand.toD, mNe_nilS hsd, rule_within_ok hp]
      by_cases hwn : w = .nil
      · subst hwn
        rw [e1]
        cases hc : r.cap with
        | none => simp [capD, cutR, Stand.toD, lessR, hc, hmin, hmax]
        | some c => simp [capD, cutR, Stand.toD, lessR, hc]
      · simp [hwn, hw]
        rw [e1]
        cases hc : r.cap with
        | none => simp [capD, cutR, Stand.toD, lessR, hc, hmin, hmax]
        | some c => simp [capD, cutR, Stand.toD, lessR, hc]
/-- how many units would be won at once -/
def stakesR : Rule → Stand → Bool → Nat
  | _, .nil, _ => 0
  | r, .st z o w, side => stakesR (within r z o) w side + (if (ralliedR r (.st z o w) side).2 then 1 else 0)
theorem stakes_ok : ∀ (n : Nat) (r : Rule) (s : Stand) (side : Bool) (M : Mem), r.depth < n → r.depth ≤ 12 → Open r s → ∃ M', m_stakes n [r.toD, s.toD, sideD side] M = .ok (.int (stakesR r s side : Nat)) M' ∧ Keep M M'
  | 0, _, _, _, _, h, _, _ => by omega
  | n + 1, r, s, side, M, h, h6, hO => by
    have h60 : r.depth ≤ 60 := by omega
    show ∃ M', endS (b_stakes (m_stakes n) [some r.toD, some s.toD, some (sideD side), none] M) = _ ∧ _
    unfold b_stakes
    cases s with
    | nil =>
      have hp : r = .point := hO
      subst hp
      exact ⟨M, by simp [mEq_point (M := M) (r := .point) h60, stakesR], Keep.refl M⟩
    | st z o w =>
      have hO0 := hO
      obtain ⟨hp, hO⟩ := hO
      have hd := depth_within hp z o
      obtain ⟨M1, e1, k1⟩ := stakes_ok n (within r z o) w side M (by omega) (by omega) hO
      obtain ⟨M2, e2, k2⟩ := rallied_ok 14 r (.st z o w) side M1 (by omega) (by omega) hO0
      refine ⟨M2, ?_, k1.trans k2⟩
      simp only [Stand.toD] at e2
      simp only [stakesR]
      generalize ralliedR r (.st z o w) side = q at e2
      obtain ⟨s', won⟩ := q
      simp [mEq_point (M := M) h60, hp, Stand.toD, rule_within_ok hp, e1, e2]
      cases won <;> simp
end CM
end
section
/-! rows of rallies as data -/
namespace RL
open PySem PySem.Spec PyProof.Rows L2 TL CM
/-- counts of open units lie below the cap -/
def Below : Rule → Stand → Prop
  | _, .nil => True
  | r, .st z o w => 0 ≤ z ∧ 0 ≤ o ∧ (∀ c, r.cap = some c → z < c ∧ o < c) ∧ Below (within r z o) w
theorem good_inner {r : Rule} (h : r.good) : r.inner.good := by
  cases r with
  | point => exact h
  | unit _ _ _ i => exact h.2.2.2.2.2
  | unitL _ _ _ i l => exact h.2.2.2.2.2.2.1
theorem good_last {r l : Rule} (h : r.good) (e : r.last = some l) : l.good := by
  cases r with
  | unitL _ _ _ i l' => simp [Rule.last] at e; subst e; exact h.2.2.2.2.2.2.2
  | _ => simp [Rule.last] at e
theorem good_within {r : Rule} (h : r.good) (z o : Int) : (within r z o).good := by
  unfold within
  split
  · split
    · exact good_last h (by assumption)
    · exact good_inner h
  · exact good_inner h
theorem good_cap {r : Rule} (h : r.good) (hp : r ≠ .point) {c : Int} (e : r.cap = some c) : r.to ≤ c ∧ 1 ≤ c ∧ c ≤ 99 := by
  cases r with
  | point => exact absurd rfl hp
  | unit to lead cap i => simp [Rule.cap] at e; obtain ⟨h1, _, _, _, h5, _⟩ := h; have := h5 c e; simp [Rule.to]; omega
  | unitL to lead cap i l => simp [Rule.cap] at e; obtain ⟨h1, _, _, _, h5, h6, _⟩ := h; simp [Rule.to]; omega
theorem good_num {r : Rule} (h : r.good) (hp : r ≠ .point) : 1 ≤ r.to ∧ r.to ≤ 99 ∧ 1 ≤ r.lead ∧ r.lead ≤ 99 := by
  cases r with
  | point => exact absurd rfl hp
  | unit to lead cap i => obtain ⟨h1, h2, h3, h4, _⟩ := h; exact ⟨h1, h2, h3, h4⟩
  | unitL to lead cap i l => obtain ⟨h1, h2, h3, h4, _⟩ := h; exact ⟨h1, h2, h3, h4⟩
theorem below_begun : ∀ (n : Nat) (r : Rule), r.depth ≤ n → r.good → Below r (begunR r)
  | n, r, hn, hg => by
    by_cases h : r = .point
    · subst h; rw [begunR_point]; exact trivial
    · have hd := depth_within h 0 0
      match n with
      | 0 => omega
      | n + 1 =>
        rw [begunR_unit h]
        exact ⟨Int.le_refl _, Int.le_refl _, fun c hc => by have := good_cap hg h hc; omega, below_begun n _ (by omega) (good_within hg 0 0)⟩
theorem below_rallied : ∀ {s : Stand} {r : Rule} {side : Bool}, r.good → Open r s → Below r s → (ralliedR r s side).2 = false → Below r (ralliedR r s side).1
  | .nil, r, side, hg, h, hb, e => by simp [ralliedR] at e
  | .st z o w, r, side, hg, h, hb, e => by
    have ih := below_rallied (side := side) (good_within hg z o) h.2 hb.2.2.2
    simp only [ralliedR] at e ⊢
    split at e
    · rename_i hq
      split at e
      · cases e
      · rename_i hw
        rw [if_pos hq, if_neg hw]
        refine ⟨?_, ?_, fun c hc => ?_, below_begun _ _ (Nat.le_refl _) (good_within hg _ _)⟩
        · have := hb.1; cases side <;> simp [bump] <;> omega
        · have := hb.2.1; cases side <;> simp [bump] <;> omega
        · obtain ⟨h1, h2⟩ := hb.2.2.1 c hc
          have hw' : wonR r (ownC (bump z o side) side) (otherC (bump z o side) side) = false := by simpa using hw
          unfold wonR at hw'
          rw [hc] at hw'
          cases side <;> simp [bump, ownC, otherC] at hw' ⊢ <;> omega
    · rename_i hq
      rw [if_neg hq]
      exact ⟨hb.1, hb.2.1, hb.2.2.1, ih (by simpa using hq)⟩
/-- a row is played on: who wins, the stand, how many rallies were taken -/
def feed (r : Rule) : Stand → List Bool → Option Bool × Stand × Nat
  | s, [] => (none, s, 0)
  | s, x :: xs => let q := ralliedR r s x
    if q.2 then (some x, q.1, 1) else let f := feed r q.1 xs; (f.1, f.2.1, f.2.2 + 1)
/-- where units ended, by how many rallies were done -/
def feedE (r : Rule) : Stand → List Bool → Nat → List Nat
  | _, [], _ => []
  | s, x :: xs, pos => List.replicate (stakesR r s x) (pos + 1) ++ (if (ralliedR r s x).2 then [] else feedE r (ralliedR r s x).1 xs (pos + 1))
theorem feed_le {r : Rule} : ∀ (xs : List Bool) (s : Stand), (feed r s xs).2.2 ≤ xs.length ∧ ((feed r s xs).1 = none → (feed r s xs).2.2 = xs.length) ∧ ((feed r s xs).1.isSome → 1 ≤ (feed r s xs).2.2)
  | [], s => by simp [feed]
  | x :: xs, s => by
    have ih := feed_le (r := r) xs (ralliedR r s x).1
    simp only [feed]
    split
    · simp
    · simp only [List.length_cons]
      refine ⟨by omega, fun h => by have := ih.2.1 h; omega, fun _ => by omega⟩
theorem feed_open {r : Rule} (hg : r.good) : ∀ (xs : List Bool) (s : Stand), Open r s → Below r s → (feed r s xs).1 = none → Open r (feed r s xs).2.1 ∧ Below r (feed r s xs).2.1
  | [], s, h, b, _ => ⟨h, b⟩
  | x :: xs, s, h, b, e => by
    simp only [feed] at e ⊢
    split at e
    · cases e
    · rename_i hq
      rw [if_neg hq]
      exact feed_open hg xs _ (open_rallied h (by simpa using hq)) (below_rallied hg h b (by simpa using hq)) e
/-- a unit's row: by the rows of the rule within -/
theorem feed_unit {r : Rule} (z o : Int) : ∀ (xs : List Bool) (w : Stand), feed r (.st z o w) xs = (match feed (within r z o) w xs with
    | (none, w', c) => (none, .st z o w', c)
    | (some x, _, c) => let p := bump z o x
      if wonR r (ownC p x) (otherC p x) then (some x, .st p.1 p.2 .nil, c)
      else let f := feed r (.st p.1 p.2 (begunR (within r p.1 p.2))) (xs.drop c); (f.1, f.2.1, f.2.2 + c))
  | [], w => by simp [feed]
  | x :: xs, w => by
    have ih := feed_unit (r := r) z o xs (ralliedR (within r z o) w x).1
    simp only [feed, ralliedR]
    cases hq : (ralliedR (within r z o) w x).2 with
    | false =>
      simp only [Bool.false_eq_true, if_false]
      rw [ih]
      cases hf : (feed (within r z o) (ralliedR (within r z o) w x).1 xs) with
      | mk a b =>
        obtain ⟨b, c⟩ := b
        cases a with
        | none => rfl
        | some y =>
          simp only
          split
          · rfl
          · simp only [List.drop_succ_cons]
            rfl
    | true =>
      simp only [if_true]
      split
      · rfl
      · simp
theorem stakes_within {r : Rule} {z o : Int} {w : Stand} {x : Bool} (h : (ralliedR (within r z o) w x).2 = false) : stakesR r (.st z o w) x = stakesR (within r z o) w x := by
  simp only [stakesR, ralliedR, h]
  simp
theorem feedE_unit {r : Rule} (z o : Int) : ∀ (xs : List Bool) (w : Stand) (pos : Nat), feedE r (.st z o w) xs pos = (match feed (within r z o) w xs with
    | (none, _, _) => feedE (within r z o) w xs pos
    | (some x, _, c) => let p := bump z o x
      feedE (within r z o) w xs pos ++ (if wonR r (ownC p x) (otherC p x) then [pos + c]
      else feedE r (.st p.1 p.2 (begunR (within r p.1 p.2))) (xs.drop c) (pos + c)))
  | [], w, pos => by simp [feed, feedE]
  | x :: xs, w, pos => by
    have ih := feedE_unit (r := r) z o xs (ralliedR (within r z o) w x).1 (pos + 1)
    simp only [feed, feedE]
    cases hq : (ralliedR (within r z o) w x).2 with
    | false =>
      have e1 := stakes_within hq
      have e2 : ralliedR r (.st z o w) x = (.st z o (ralliedR (within r z o) w x).1, false) := by simp [ralliedR, hq]
      simp only [Bool.false_eq_true, if_false, e1, e2]
      rw [ih]
      cases hf : (feed (within r z o) (ralliedR (within r z o) w x).1 xs) with
      | mk a b =>
        obtain ⟨b, c⟩ := b
        cases a with
        | none => rfl
        | some y =>
          simp only [List.append_assoc, List.drop_succ_cons]
          congr 2
          split
          · rw [show pos + 1 + c = pos + (c + 1) by omega]
          · rw [show pos + 1 + c = pos + (c + 1) by omega]
    | true =>
      simp only [if_true, List.append_nil]
      have e2 : ralliedR r (.st z o w) x = (if wonR r (ownC (bump z o x) x) (otherC (bump z o x) x) then (.st (bump z o x).1 (bump z o x).2 .nil, true) else (.st (bump z o x).1 (bump z o x).2 (begunR (within r (bump z o x).1 (bump z o x).2)), false)) := by
        simp [ralliedR, hq]
      have e3 : stakesR r (.st z o w) x = stakesR (within r z o) w x + (if (ralliedR r (.st z o w) x).2 then 1 else 0) := rfl
      rw [e3, e2]
      split
      · simp only [if_true, List.append_nil]
        exact List.replicate_succ'
      · simp
/-- the stand behind a row in which nobody wins -/
def runS (r : Rule) : Stand → List Bool → Stand
  | s, [] => s
  | s, x :: xs => runS r (ralliedR r s x).1 xs
/-- nobody wins along the row -/
def Alive (r : Rule) : Stand → List Bool → Prop
  | _, [] => True
  | s, x :: xs => (ralliedR r s x).2 = false ∧ Alive r (ralliedR r s x).1 xs
theorem feed_alive {r : Rule} : ∀ {xs : List Bool} {s : Stand}, Alive r s xs → feed r s xs = (none, runS r s xs, xs.length)
  | [], _, _ => rfl
  | x :: xs, s, h => by
    simp only [feed, h.1, feed_alive h.2]
    simp [runS]
theorem runS_append {r : Rule} : ∀ (xs ys : List Bool) (s : Stand), runS r s (xs ++ ys) = runS r (runS r s xs) ys
  | [], _, _ => rfl
  | x :: xs, ys, s => by simp only [List.cons_append, runS]; exact runS_append xs ys _
theorem alive_append {r : Rule} : ∀ (xs ys : List Bool) (s : Stand), Alive r s (xs ++ ys) ↔ Alive r s xs ∧ Alive r (runS r s xs) ys
  | [], _, _ => by simp [Alive, runS]
  | x :: xs, ys, s => by simp only [List.cons_append, Alive, runS, alive_append xs ys]; exact and_assoc.symm
theorem alive_open {r : Rule} (hg : r.good) : ∀ {xs : List Bool} {s : Stand}, Open r s → Below r s → Alive r s xs → Open r (runS r s xs) ∧ Below r (runS r s xs)
  | [], _, h, b, _ => ⟨h, b⟩
  | x :: xs, s, h, b, a => alive_open (s := (ralliedR r s x).1) hg (open_rallied h a.1) (below_rallied hg h b a.1) a.2
/-- what is taken of a row: all but its last rally leave the rule open -/
theorem feed_split {r : Rule} : ∀ (xs : List Bool) (s : Stand), (Alive r s xs ∧ feed r s xs = (none, runS r s xs, xs.length)) ∨
    ∃ (ys : List Bool) (x : Bool) (zs : List Bool), xs = ys ++ x :: zs ∧ Alive r s ys ∧ (ralliedR r (runS r s ys) x).2 = true ∧ feed r s xs = (some x, (ralliedR r (runS r s ys) x).1, ys.length + 1)
  | [], s => .inl ⟨trivial, rfl⟩
  | x :: xs, s => by
    cases hq : (ralliedR r s x).2 with
    | true =>
      refine .inr ⟨[], x, xs, rfl, trivial, hq, ?_⟩
      simp [feed, hq, runS]
    | false =>
      rcases feed_split xs (ralliedR r s x).1 with ⟨a, e⟩ | ⟨ys, y, zs, e1, a, w, e2⟩
      · refine .inl ⟨⟨hq, a⟩, ?_⟩
        simp only [feed, hq, e]
        simp [runS]
      · refine .inr ⟨x :: ys, y, zs, by rw [e1]; rfl, ⟨hq, a⟩, w, ?_⟩
        simp only [feed, hq, e2]
        simp [runS]
end RL
end
section
set_option maxHeartbeats 4000000
/-! the laws' own drawing of rules: mirrors, and what they give -/
namespace CM
open PySem PySem.Spec PyProof.Rows L2 TL RL
noncomputable section
/- def l_tape(_law_script): 0=_law_script 1=_law_way -/
def b_l_tape : MS := (sSeq (sAsg (gOne 1) (eC (.int 0)))
    (sSeq (sIf (tB (eBin mGt (eCallO nLen (aCons (eVar 0) aNil)) (eC (.int 0)))) (sAsg (gOne 1) (eBin mMod (eBin mIdx (eVar 0) (eC (.int 0))) (eC (.int 2)))) sNil)
    (sRet (eLst (aCons (eVar 0) (aCons (eC (.int 0)) (aCons (eC (.int 0)) (aCons (eVar 1) aNil))))))))
def m_l_tape : Fn := fnD 1 2 b_l_tape
/- def l_draw(_law_tape_here, _law_many): 0=_law_tape_here 1=_law_many 2=_law_script 3=_law_spot 4=_law_cell 5=_law_mixed 6=_law_left -/
def b_l_draw : MS := (sSeq (sAsg (gOne 2) (eBin mIdx (eVar 0) (eC (.int 0))))
    (sSeq (sAsg (gOne 3) (eBin mIdx (eVar 0) (eC (.int 1))))
    (sSeq (sSub (eVar 0) (eC (.int 1)) (eBin mAdd (eVar 3) (eC (.int 1))))
    (sSeq (sAsg (gOne 4) (eC (.int 0)))
    (sSeq (sIf (tB (eBin mGt (eCallO nLen (aCons (eVar 2) aNil)) (eC (.int 0)))) (sAsg (gOne 4) (eBin mIdx (eVar 2) (eBin mMod (eIf (tB (eBin mEq (eBin mIdx (eVar 0) (eC (.int 3))) (eC (.int 1)))) (eBin mFdiv (eVar 3) (eC (.int 60))) (eVar 3)) (eCallO nLen (aCons (eVar 2) aNil))))) sNil)
    (sSeq (sIf (tB (eBin mEq (eBin mIdx (eVar 0) (eC (.int 3))) (eC (.int 1)))) (sSeq (sIf (tB (eBin mEq (eBin mMod (eVar 3) (eC (.int 60))) (eC (.int 0)))) (sSub (eVar 0) (eC (.int 2)) (eBin mFdiv (eVar 4) (eC (.int 2)))) sNil)
    (sSeq (sAsg (gOne 6) (eBin mIdx (eVar 0) (eC (.int 2))))
    (sSeq (sSub (eVar 0) (eC (.int 2)) (eBin mFdiv (eVar 6) (eVar 1)))
    (sRet (eBin mMod (eVar 6) (eVar 1)))))) sNil)
    (sSeq (sAsg (gOne 5) (eBin mMod (eBin mMul (eBin mAdd (eBin mMod (eVar 4) (eC (.int 1000003))) (eC (.int 1))) (eBin mAdd (eBin mAdd (eBin mMul (eBin mMod (eVar 3) (eC (.int 997))) (eC (.int 7919))) (eC (.int 104729))) (eVar 3))) (eC (.int 1000033))))
    (sSeq (sAsg (gOne 5) (eBin mMod (eBin mAdd (eBin mAdd (eBin mMul (eVar 5) (eVar 5)) (eBin mMul (eC (.int 3)) (eVar 5))) (eVar 3)) (eC (.int 999983))))
    (sRet (eBin mMod (eBin mMod (eBin mMul (eVar 5) (eC (.int 48271))) (eC (.int 65537))) (eVar 1)))))))))))
def m_l_draw : Fn := fnD 2 7 b_l_draw
/- def l_unit(_law_tape_here, _law_deep, _law_thin): 0=_law_tape_here 1=_law_deep 2=_law_thin 3=_law_to 4=_law_lead 5=_law_cap 6=_law_last 7=_law_inner -/
def b_l_unit (r_l_unit : Fn) (r_l_rule : Fn) : MS := (sSeq (sAsg (gOne 3) (eBin mAdd (eC (.int 1)) (eCall m_l_draw (aCons (eVar 0) (aCons (eBin mIdx (eLst (aCons (eC (.int 3)) (aCons (eC (.int 5)) (aCons (eC (.int 99)) aNil)))) (eBin mFdiv (eCall m_l_draw (aCons (eVar 0) (aCons (eC (.int 20)) aNil))) (eC (.int 8)))) aNil)))))
    (sSeq (sAsg (gOne 4) (eBin mAdd (eC (.int 1)) (eCall m_l_draw (aCons (eVar 0) (aCons (eBin mIdx (eLst (aCons (eC (.int 2)) (aCons (eC (.int 3)) (aCons (eC (.int 99)) aNil)))) (eBin mFdiv (eCall m_l_draw (aCons (eVar 0) (aCons (eC (.int 20)) aNil))) (eC (.int 9)))) aNil)))))
    (sSeq (sAsg (gOne 5) (eC .non))
    (sSeq (sAsg (gOne 6) (eC .non))
    (sSeq (sIf (tB (eBin mEq (eCall m_l_draw (aCons (eVar 0) (aCons (eC (.int 2)) aNil))) (eC (.int 1)))) (sAsg (gOne 5) (eCallO nMin2 (aCons (eC (.int 99)) (aCons (eBin mAdd (eVar 3) (eCall m_l_draw (aCons (eVar 0) (aCons (eC (.int 4)) aNil)))) aNil)))) sNil)
    (sSeq (sAsg (gOne 7) (eCall r_l_rule (aCons (eVar 0) (aCons (eBin mSub (eVar 1) (eC (.int 1))) (aCons (eVar 2) aNil)))))
    (sSeq (sIf (tAnd (tB (eBin mIsNot (eVar 5) (eC .non))) (tB (eBin mGt (eCall m_l_draw (aCons (eVar 0) (aCons (eC (.int 3)) aNil))) (eC (.int 0))))) (sAsg (gOne 6) (eCall r_l_rule (aCons (eVar 0) (aCons (eCallO nMin2 (aCons (eBin mSub (eVar 1) (eC (.int 1))) (aCons (eVar 2) aNil))) (aCons (eVar 2) aNil))))) sNil)
    (sRet (eTup (aCons (eC (.str "unit")) (aCons (eVar 3) (aCons (eVar 4) (aCons (eVar 5) (aCons (eVar 7) (aCons (eVar 6) aNil)))))))))))))))
/- def l_rule(_law_tape_here, _law_deep, _law_thin): 0=_law_tape_here 1=_law_deep 2=_law_thin -/
def b_l_rule (r_l_unit : Fn) (r_l_rule : Fn) : MS := (sSeq (sIf (tOr (tB (eBin mEq (eVar 1) (eC (.int 0)))) (tB (eBin mEq (eCall m_l_draw (aCons (eVar 0) (aCons (eC (.int 7)) aNil))) (eC (.int 3))))) (sRet (eTup (aCons (eC (.str "point")) aNil))) sNil)
    (sRet (eCall r_l_unit (aCons (eVar 0) (aCons (eVar 1) (aCons (eVar 2) aNil))))))
def g_l_unit : Nat → Fn × Fn
  | 0 => (noFn, noFn)
  | n + 1 => (fnD 3 8 (b_l_unit ((g_l_unit n).1) ((g_l_unit n).2)), fnD 3 3 (b_l_rule ((g_l_unit n).1) ((g_l_unit n).2)))
def m_l_unit (n : Nat) : Fn := (g_l_unit n).1
def m_l_rule (n : Nat) : Fn := (g_l_unit n).2
/- def l_any_rule(_law_tape_here): 0=_law_tape_here 1=_law_way -/
def b_l_any_rule : MS := (sSeq (sAsg (gOne 1) (eCall m_l_draw (aCons (eVar 0) (aCons (eC (.int 6)) aNil))))
    (sRet (eCall (m_l_rule 14) (aCons (eVar 0) (aCons (eBin mIdx (eLst (aCons (eC (.int 2)) (aCons (eC (.int 1)) (aCons (eC (.int 2)) (aCons (eC (.int 3)) (aCons (eC (.int 3)) (aCons (eC (.int 4)) aNil))))))) (eVar 1)) (aCons (eBin mIdx (eLst (aCons (eC (.int 3)) (aCons (eC (.int 3)) (aCons (eC (.int 3)) (aCons (eC (.int 3)) (aCons (eC (.int 1)) (aCons (eC (.int 1)) aNil))))))) (eVar 1)) aNil))))))
def m_l_any_rule : Fn := fnD 1 2 b_l_any_rule
end

/-- a tape at t -/
def Tape (M : Mem) (t : Nat) : Prop := ∃ (s : Nat) (ns : List Int) (spot left way : Int), M[t]? = some (.lst [.ref s, .int spot, .int left, .int way]) ∧ M[s]? = some (.rol (ns.map D.int)) ∧ ns.length ≤ 63 ∧ 0 ≤ spot
theorem cell_at {ns : List Int} (h : ns ≠ []) {k : Int} (hk : 0 ≤ k) : ∃ c : Int, atI (ns.map D.int) (k % (ns.length : Int)) = some (.int c) := by
  have hl : 0 < ns.length := List.length_pos_iff.mpr h
  have h1 : 0 ≤ k % (ns.length : Int) := Int.emod_nonneg _ (by omega)
  have h2 : k % (ns.length : Int) < ns.length := Int.emod_lt_of_pos _ (by omega)
  obtain ⟨a, e1, e2⟩ := atI_ok (xs := ns.map D.int) h1 (by rw [List.length_map]; exact h2)
  rw [List.getElem?_map] at e1
  cases q : ns[(k % (ns.length : Int)).toNat]? with
  | none => rw [q] at e1; cases e1
  | some c => rw [q] at e1; cases e1; exact ⟨c, e2⟩
def Drew (M : Mem) (t s : Nat) (spot many : Int) (d : D) (M' : Mem) : Prop := ∃ x l w : Int, d = .int (x % many) ∧ M' = M.set t (.lst [.ref s, .int (spot + 1), .int l, .int w])
theorem draw_ok {M : Mem} {t : Nat} {many : Int} (T : Tape M t) (h0 : 0 < many) (h1 : many < 1073741824) :
    Ret (m_l_draw [.ref t, .int many] M) (fun d M' => ∃ (r : Int) (o : MO), d = .int r ∧ M' = M.set t o ∧ 0 ≤ r ∧ r < many ∧ Tape (M.set t o) t) := by
  obtain ⟨s, ns, spot, left, way, ht, hs, hl, hp⟩ := T
  have hne : t ≠ s := by rintro rfl; rw [ht] at hs; cases hs
  have lt : t < M.length := (List.getElem?_eq_some_iff.mp ht).1
  have e : m_l_draw [.ref t, .int many] M = endS (b_l_draw [some (.ref t), some (.int many), none, none, none, none, none] M) := rfl
  suffices h : Ret (m_l_draw [.ref t, .int many] M) (Drew M t s spot many) by
    refine h.imp fun d M' ⟨x, l, w, h1, h2⟩ => ⟨_, _, h1, h2, Int.emod_nonneg _ (by omega), Int.emod_lt_of_pos _ h0, s, ns, spot + 1, l, w, by rw [List.getElem?_set_self lt], by rw [List.getElem?_set_ne hne]; exact hs, hl, by omega⟩
  rw [e]
  unfold b_l_draw
  have bnd : ∀ (x m : Int), 0 < m → 0 ≤ x % m ∧ x % m < m := fun x m h => ⟨Int.emod_nonneg _ (by omega), Int.emod_lt_of_pos _ h⟩
  have k1 : ∀ (x j : Int) (M : Mem), mMul (.int (x % 1000033)) (.int j) M = some (.int (x % 1000033 * j), M) := fun x j M => by
    rw [mMul_int, if_pos]; have := bnd x 1000033 (by decide); omega
  have k2 : ∀ (x j : Int) (M : Mem), mMul (.int (x % 1000003 + 1)) (.int j) M = some (.int ((x % 1000003 + 1) * j), M) := fun x j M => by
    rw [mMul_int, if_pos]; have := bnd x 1000003 (by decide); omega
  have k3 : ∀ (x j : Int) (M : Mem), mMul (.int (x % 997)) (.int j) M = some (.int (x % 997 * j), M) := fun x j M => by
    rw [mMul_int, if_pos]; have := bnd x 997 (by decide); omega
  have k4 : ∀ (j : Int) (M : Mem), mMul (.int 3) (.int j) M = some (.int (3 * j), M) := fun j M => by
    rw [mMul_int, if_pos]; omega
  have k5 : ∀ (x j : Int) (M : Mem), mMul (.int (x % 999983)) (.int j) M = some (.int (x % 999983 * j), M) := fun x j M => by
    rw [mMul_int, if_pos]; have := bnd x 999983 (by decide); omega
  have k0 : ∀ (j : Int) (M : Mem), mMul (.int 1) (.int j) M = some (.int (1 * j), M) := fun j M => by
    rw [mMul_int, if_pos]; omega
  have h2 : spot / 60 ≥ 0 := by omega
  by_cases hns : ns = []
  · subst hns
    by_cases hw : way = 1
    · by_cases h60 : spot % 60 = 0
      · simp [seqAt, ht, setD, ixN, List.getElem?_set_self lt, List.getElem?_set_ne hne, hs, hw, h60, h0, h1]
        first | exact .ok ⟨_, _, _, rfl, rfl⟩ | exact .ok ⟨0, _, _, by simp, rfl⟩
      · simp [seqAt, ht, setD, ixN, List.getElem?_set_self lt, List.getElem?_set_ne hne, hs, hw, h60, h0, h1]
        first | exact .ok ⟨_, _, _, rfl, rfl⟩ | exact .ok ⟨0, _, _, by simp, rfl⟩
    · simp [seqAt, ht, setD, ixN, List.getElem?_set_self lt, List.getElem?_set_ne hne, hs, hw, h0, h1, -mMul_int, k0, k1, k2, k3, k4, k5]
      first | exact .ok ⟨_, _, _, rfl, rfl⟩ | exact .ok ⟨0, _, _, by simp, rfl⟩
  · have hlen : 0 < ns.length := List.length_pos_iff.mpr hns
    have hlen' : (0 : Int) < (ns.length : Int) := by omega
    obtain ⟨c1, e1⟩ := cell_at hns hp
    obtain ⟨c2, e2⟩ := cell_at hns h2
    by_cases hw : way = 1
    · by_cases h60 : spot % 60 = 0
      · simp [seqAt, ht, setD, ixN, List.getElem?_set_self lt, List.getElem?_set_ne hne, hs, hw, h60, h0, h1, e1, e2, hlen, hlen']
        first | exact .ok ⟨_, _, _, rfl, rfl⟩ | exact .ok ⟨0, _, _, by simp, rfl⟩
      · simp [seqAt, ht, setD, ixN, List.getElem?_set_self lt, List.getElem?_set_ne hne, hs, hw, h60, h0, h1, e1, e2, hlen, hlen']
        first | exact .ok ⟨_, _, _, rfl, rfl⟩ | exact .ok ⟨0, _, _, by simp, rfl⟩
    · simp [seqAt, ht, setD, ixN, List.getElem?_set_self lt, List.getElem?_set_ne hne, hs, hw, h0, h1, e1, e2, hlen, hlen', -mMul_int, k0, k1, k2, k3, k4, k5]
      first | exact .ok ⟨_, _, _, rfl, rfl⟩ | exact .ok ⟨0, _, _, by simp, rfl⟩

/-- the tape at t goes on, all else stands -/
structure Adv (t : Nat) (M M' : Mem) : Prop where
  tape : Tape M' t
  len : M.length ≤ M'.length
  keep : ∀ n, n < M.length → n ≠ t → M'[n]? = M[n]?
theorem Tape.lt {M : Mem} {t : Nat} (T : Tape M t) : t < M.length := by obtain ⟨s, ns, spot, left, way, ht, _⟩ := T; exact lt_of_at ht
theorem Tape.keep {M M' : Mem} {t : Nat} (T : Tape M t) (k : Keep M M') : Tape M' t := by
  obtain ⟨s, ns, spot, left, way, ht, hs, h⟩ := T
  exact ⟨s, ns, spot, left, way, k.at ht, k.at hs, h⟩
theorem Adv.trans {t : Nat} {M M1 M2 : Mem} (a : Adv t M M1) (b : Adv t M1 M2) : Adv t M M2 :=
  ⟨b.tape, Nat.le_trans a.len b.len, fun n h hn => (b.keep n (Nat.lt_of_lt_of_le h a.len) hn).trans (a.keep n h hn)⟩
theorem Adv.of {t : Nat} {M M1 : Mem} (T : Tape M t) (k : Keep M M1) : Adv t M M1 := ⟨T.keep k, k.1, fun n h _ => k.2 n h⟩
theorem Adv.refl {t : Nat} {M : Mem} (T : Tape M t) : Adv t M M := .of T (.refl M)
theorem Adv.at {t : Nat} {M M1 : Mem} (a : Adv t M M1) {n : Nat} {o : MO} (h : M[n]? = some o) (hn : n ≠ t) : M1[n]? = some o := (a.keep n (lt_of_at h) hn).trans h
theorem Adv.seq {t : Nat} {M M1 : Mem} (a : Adv t M M1) {n : Nat} {xs : List D} (h : seqAt M n = some xs) (hn : n ≠ t) : seqAt M1 n = some xs := by
  unfold seqAt at h ⊢
  cases q : M[n]? with
  | none => rw [q] at h; cases h
  | some o => rw [a.at q hn]; rw [q] at h; exact h
/-- what a drawn number is -/
def DrawQ (t : Nat) (M : Mem) (many : Int) (d : D) (M' : Mem) : Prop := ∃ r : Int, d = .int r ∧ 0 ≤ r ∧ r < many ∧ Adv t M M'
theorem draw {M : Mem} {t : Nat} {many : Int} (T : Tape M t) (h0 : 0 < many) (h1 : many < 1073741824) : Ret (m_l_draw [.ref t, .int many] M) (DrawQ t M many) :=
  (draw_ok T h0 h1).imp fun d M' ⟨r, o, h1, h2, h3, h4, h5⟩ => ⟨r, h1, h3, h4, by rw [h2]; exact h5, by rw [h2, List.length_set]; omega, fun n hn hne => by rw [h2, List.getElem?_set_ne (Ne.symm hne)]⟩
/-- the tape is made -/
theorem tape_ok {M : Mem} {s : Nat} {ns : List Int} (hs : M[s]? = some (.rol (ns.map D.int))) (hl : ns.length ≤ 63) : ∃ way : Int, m_l_tape [.ref s] M = .ok (.ref M.length) (M ++ [.lst [.ref s, .int 0, .int 0, .int way]]) := by
  have e : m_l_tape [.ref s] M = endS (b_l_tape [some (.ref s), none] M) := rfl
  rw [e]
  unfold b_l_tape
  by_cases hns : ns = []
  · subst hns
    exact ⟨0, by simp [seqAt, hs]⟩
  · have hlen : 0 < ns.length := List.length_pos_iff.mpr hns
    obtain ⟨c, hc⟩ : ∃ c : Int, atI (ns.map D.int) 0 = some (.int c) := by
      cases ns with
      | nil => exact absurd rfl hns
      | cons a r => exact ⟨a, by simp⟩
    exact ⟨c % 2, by simp [seqAt, hs, hlen, hc]⟩
theorem tape_at {M : Mem} {s : Nat} {ns : List Int} (hs : M[s]? = some (.rol (ns.map D.int))) (hl : ns.length ≤ 63) {way : Int} : Tape (M ++ [.lst [.ref s, .int 0, .int 0, .int way]]) M.length :=
  ⟨s, ns, 0, 0, way, at_len _ _, (Keep.more M _).at hs, hl, Int.le_refl 0⟩
/-- most units of a drawn rule -/
def ub : Nat → Nat → Nat
  | 0, _ => 0
  | d + 1, thin => 1 + ub d thin + ub (min d thin) thin
theorem ub_succ (d thin : Nat) : ub (d + 1) thin = 1 + ub d thin + ub (min d thin) thin := by rw [ub]
theorem ub_zero (thin : Nat) : ub 0 thin = 0 := by rw [ub]
def RuleQ (t : Nat) (M : Mem) (deep thin : Nat) (d : D) (M' : Mem) : Prop := ∃ r : Rule, d = r.toD ∧ r.good ∧ r.depth ≤ deep ∧ r.units ≤ ub deep thin ∧ Adv t M M'
def RuleOk (f : Fn) (deep : Nat) : Prop := ∀ (M : Mem) (t thin : Nat), Tape M t → Ret (f [.ref t, .int (deep : Nat), .int (thin : Nat)] M) (RuleQ t M deep thin)
theorem pick3 {a b c k : Int} (h0 : 0 ≤ k) (h1 : k < 3) : ∃ v : Int, (v = a ∨ v = b ∨ v = c) ∧ atI [D.int a, .int b, .int c] k = some (.int v) := by
  rcases (show k = 0 ∨ k = 1 ∨ k = 2 by omega) with rfl | rfl | rfl
  · exact ⟨a, .inl rfl, by simp⟩
  · exact ⟨b, .inr (.inl rfl), by simp⟩
  · exact ⟨c, .inr (.inr rfl), by simp⟩
theorem unit_ok {ru rr : Fn} {deep : Nat} (ih : ∀ d ≤ deep, RuleOk rr d) : RuleOk (fnD 3 8 (b_l_unit ru rr)) (deep + 1) := by
  intro M t thin T
  show Ret (endS (b_l_unit ru rr [some (.ref t), some (.int (deep + 1 : Nat)), some (.int (thin : Nat)), none, none, none, none, none] M)) _
  unfold b_l_unit
  have n1 : M.length ≠ t := fun e => by have := T.lt; omega
  simp
  refine Ret.bind (draw (T.keep (Keep.more M _)) (by decide) (by decide)) ?_
  rintro _ M1 ⟨r1, rfl, h0, h1, A1⟩
  have l1 := A1.at (at_len M _) n1
  obtain ⟨v1, hv1, ev1⟩ := pick3 (a := 3) (b := 5) (c := 99) (k := r1 / 8) (by omega) (by omega)
  simp [seqAt, l1, ev1]
  refine Ret.bind (draw A1.tape (by omega) (by omega)) ?_
  rintro _ M2 ⟨r2, rfl, h2, h3, A2⟩
  have a2 := (Adv.of T (Keep.more M _)).trans (A1.trans A2)
  have n2 : M2.length ≠ t := fun e => by have := A2.tape.lt; omega
  simp
  refine Ret.bind (draw (A2.tape.keep (Keep.more M2 _)) (by decide) (by decide)) ?_
  rintro _ M3 ⟨r3, rfl, h4, h5, A3⟩
  have l3 := A3.at (at_len M2 _) n2
  obtain ⟨v2, hv2, ev2⟩ := pick3 (a := 2) (b := 3) (c := 99) (k := r3 / 9) (by omega) (by omega)
  simp [seqAt, l3, ev2]
  refine Ret.bind (draw A3.tape (by omega) (by omega)) ?_
  rintro _ M4 ⟨r4, rfl, h6, h7, A4⟩
  have a4 := a2.trans ((Adv.of A2.tape (Keep.more M2 _)).trans (A3.trans A4))
  simp
  refine Ret.bind (draw A4.tape (by decide) (by decide)) ?_
  rintro _ M5 ⟨r5, rfl, h8, h9, A5⟩
  have a5 := a4.trans A5
  have em : (if thin < deep then (thin : Int) else (deep : Int)) = ((min deep thin : Nat) : Int) := by split <;> omega
  by_cases c5 : r5 = 1
  · simp [c5]
    refine Ret.bind (draw A5.tape (by decide) (by decide)) ?_
    rintro _ M6 ⟨r6, rfl, h10, h11, A6⟩
    have a6 := a5.trans A6
    simp
    refine Ret.bind (ih deep (Nat.le_refl _) M6 t thin A6.tape) ?_
    rintro _ M7 ⟨inner, rfl, g1, g2, g3, A7⟩
    refine Ret.bind (draw A7.tape (by decide) (by decide)) ?_
    rintro _ M8 ⟨r8, rfl, h12, h13, A8⟩
    have a8 := a6.trans (A7.trans A8)
    simp
    by_cases c8 : 0 < r8
    · simp [c8, em]
      refine Ret.bind (ih (min deep thin) (Nat.min_le_left _ _) M8 t thin A8.tape) ?_
      rintro _ M9 ⟨last, rfl, g4, g5, g6, A9⟩
      refine .ok ⟨.unitL (1 + r2) (1 + r4) (if 1 + r2 + r6 < 99 then 1 + r2 + r6 else 99) inner last, rfl, ⟨by omega, by omega, by omega, by omega, by split <;> omega, by split <;> omega, g1, g4⟩, ?_, ?_, a8.trans A9⟩
      · show max inner.depth last.depth + 1 ≤ deep + 1
        have := Nat.min_le_left deep thin
        omega
      · show inner.units + last.units + 1 ≤ _
        rw [ub_succ]
        omega
    · simp [c8]
      refine .ok ⟨.unit (1 + r2) (1 + r4) (some (if 1 + r2 + r6 < 99 then 1 + r2 + r6 else 99)) inner, rfl, ⟨by omega, by omega, by omega, by omega, fun c hc => by cases hc; constructor <;> split <;> omega, g1⟩, ?_, ?_, a8⟩
      · show inner.depth + 1 ≤ deep + 1
        omega
      · show inner.units + 1 ≤ _
        rw [ub_succ]
        omega
  · simp [c5]
    refine Ret.bind (ih deep (Nat.le_refl _) M5 t thin A5.tape) ?_
    rintro _ M7 ⟨inner, rfl, g1, g2, g3, A7⟩
    refine .ok ⟨.unit (1 + r2) (1 + r4) none inner, rfl, ⟨by omega, by omega, by omega, by omega, fun c hc => (nomatch hc), g1⟩, ?_, ?_, a5.trans A7⟩
    · show inner.depth + 1 ≤ deep + 1
      omega
    · show inner.units + 1 ≤ _
      rw [ub_succ]
      omega
theorem rule_step {ru rr : Fn} {deep : Nat} (ih : ∀ d, deep = d + 1 → RuleOk ru deep) : RuleOk (fnD 3 3 (b_l_rule ru rr)) deep := by
  intro M t thin T
  show Ret (endS (b_l_rule ru rr [some (.ref t), some (.int (deep : Nat)), some (.int (thin : Nat))] M)) _
  unfold b_l_rule
  cases deep with
  | zero =>
    simp
    exact .ok ⟨.point, rfl, trivial, Nat.le_refl _, Nat.zero_le _, .refl T⟩
  | succ deep =>
    have ne : ¬ ((deep : Int) + 1 = 0) := by omega
    simp [ne]
    refine Ret.bind (draw T (by decide) (by decide)) ?_
    rintro _ M1 ⟨r1, rfl, h0, h1, A1⟩
    by_cases c : r1 = 3
    · simp [c]
      exact .ok ⟨.point, rfl, trivial, Nat.zero_le _, Nat.zero_le _, A1⟩
    · simp [c]
      obtain ⟨d, M2, e, r, h1, h2, h3, h4, A2⟩ := ih deep rfl M1 t thin A1.tape
      rw [show ((deep + 1 : Nat) : Int) = (deep : Int) + 1 from by omega] at e
      rw [e]
      simp
      exact .ok ⟨r, h1, h2, h3, h4, A1.trans A2⟩
theorem rule_ok : ∀ (n deep : Nat), 2 * deep + 1 ≤ n → RuleOk (m_l_rule n) deep
  | 0, deep, h => by omega
  | n + 1, deep, h => by
    refine rule_step fun d hd => ?_
    match n, h with
    | 0, h => omega
    | n + 1, h =>
      subst hd
      exact unit_ok fun d' hd' => rule_ok n d' (by omega)
def AnyRuleQ (t : Nat) (M : Mem) (d : D) (M' : Mem) : Prop := ∃ r : Rule, d = r.toD ∧ r.good ∧ r.depth ≤ 4 ∧ r.units ≤ 7 ∧ Adv t M M'
theorem any_rule {M : Mem} {t : Nat} (T : Tape M t) : Ret (m_l_any_rule [.ref t] M) (AnyRuleQ t M) := by
  show Ret (endS (b_l_any_rule [some (.ref t), none] M)) _
  unfold b_l_any_rule
  simp
  refine Ret.bind (draw T (by decide) (by decide)) ?_
  rintro _ M1 ⟨r1, rfl, h0, h1, A1⟩
  obtain ⟨dp, th, e1, e2, hdp, hub⟩ : ∃ dp th : Nat, atI [D.int 2, D.int 1, D.int 2, D.int 3, D.int 3, D.int 4] r1 = some (.int dp) ∧ atI [D.int 3, D.int 3, D.int 3, D.int 3, D.int 1, D.int 1] r1 = some (.int th) ∧ dp ≤ 4 ∧ ub dp th ≤ 7 := by
    rcases (show r1 = 0 ∨ r1 = 1 ∨ r1 = 2 ∨ r1 = 3 ∨ r1 = 4 ∨ r1 = 5 by omega) with rfl | rfl | rfl | rfl | rfl | rfl
    · exact ⟨2, 3, by simp, by simp, by decide, by simp [ub]⟩
    · exact ⟨1, 3, by simp, by simp, by decide, by simp [ub]⟩
    · exact ⟨2, 3, by simp, by simp, by decide, by simp [ub]⟩
    · exact ⟨3, 3, by simp, by simp, by decide, by simp [ub]⟩
    · exact ⟨3, 1, by simp, by simp, by decide, by simp [ub]⟩
    · exact ⟨4, 1, by simp, by simp, by decide, by simp [ub]⟩
  simp [seqAt, e1, e2]
  refine Ret.bind (rule_ok 14 dp (by omega) _ t th (A1.tape.keep (Keep.more _ _))) ?_
  rintro _ M2 ⟨r, rfl, g1, g2, g3, A2⟩
  exact .ok ⟨r, rfl, g1, by omega, by omega, A1.trans ((Adv.of A1.tape (Keep.more _ _)).trans A2)⟩
end CM
end
section
set_option maxHeartbeats 4000000
/-! the laws' own plain reading of a row: mirrors, and what they give -/
namespace CM
open PySem PySem.Spec PyProof.Rows L2 TL RL
noncomputable section
/- def l_won(_law_rule_here, _law_own, _law_other): 0=_law_rule_here 1=_law_own 2=_law_other -/
def b_l_won : MS := (sRet (eOr (eAnd (eBin mIsNot (eBin mIdx (eVar 0) (eC (.int 3))) (eC .non)) (eBin mGe (eVar 1) (eBin mIdx (eVar 0) (eC (.int 3))))) (eAnd (eBin mGe (eVar 1) (eBin mIdx (eVar 0) (eC (.int 1)))) (eBin mGe (eBin mSub (eVar 1) (eVar 2)) (eBin mIdx (eVar 0) (eC (.int 2)))))))
def m_l_won : Fn := fnD 3 3 b_l_won
/- def l_played(_law_rule_here, _law_row_here, _law_at, _law_ends): 0=_law_rule_here 1=_law_row_here 2=_law_at 3=_law_ends 4=_law_counts 5=_law_turn 6=_law_inner 7=_law_side 8=_law_within -/
def lp_l_played_0 (r_l_played : Fn) : MS := (sSeq (sAsg (gOne 6) (eBin mIdx (eVar 0) (eC (.int 4))))
    (sSeq (sIf (tAnd (tB (eBin mIsNot (eBin mIdx (eVar 0) (eC (.int 5))) (eC .non))) (tAnd (tB (eBin mEq (eBin mAdd (eBin mIdx (eVar 4) (eC (.int 0))) (eC (.int 1))) (eBin mIdx (eVar 0) (eC (.int 3))))) (tB (eBin mEq (eBin mAdd (eBin mIdx (eVar 4) (eC (.int 1))) (eC (.int 1))) (eBin mIdx (eVar 0) (eC (.int 3))))))) (sAsg (gOne 6) (eBin mIdx (eVar 0) (eC (.int 5)))) sNil)
    (sSeq (sAsg (gTupD [7, 8, 2]) (eCall r_l_played (aCons (eVar 6) (aCons (eVar 1) (aCons (eVar 2) (aCons (eVar 3) aNil))))))
    (sSeq (sIf (tB (eBin mIs (eVar 7) (eC .non))) (sRet (eTup (aCons (eC .non) (aCons (eTup (aCons (eBin mIdx (eVar 4) (eC (.int 0))) (aCons (eBin mIdx (eVar 4) (eC (.int 1))) (aCons (eVar 8) aNil)))) (aCons (eVar 2) aNil))))) sNil)
    (sSeq (sSub (eVar 4) (eVar 7) (eBin mAdd (eBin mIdx (eVar 4) (eVar 7)) (eC (.int 1))))
    (sIf (tTru (eCall m_l_won (aCons (eVar 0) (aCons (eBin mIdx (eVar 4) (eVar 7)) (aCons (eBin mIdx (eVar 4) (eBin mSub (eC (.int 1)) (eVar 7))) aNil))))) (sSeq (sExpr (eMeth "list" mAppend (eVar 3) (aCons (eVar 2) aNil)))
    (sRet (eTup (aCons (eVar 7) (aCons (eTup (aCons (eBin mIdx (eVar 4) (eC (.int 0))) (aCons (eBin mIdx (eVar 4) (eC (.int 1))) (aCons (eTup aNil) aNil)))) (aCons (eVar 2) aNil)))))) sNil))))))
def b_l_played (r_l_played : Fn) : MS := (sSeq (sIf (tB (eBin mEq (eVar 0) (eTup (aCons (eC (.str "point")) aNil)))) (sSeq (sIf (tB (eBin mEq (eVar 2) (eCallO nLen (aCons (eVar 1) aNil)))) (sRet (eTup (aCons (eC .non) (aCons (eTup aNil) (aCons (eVar 2) aNil))))) sNil)
    (sRet (eTup (aCons (eBin mIdx (eVar 1) (eVar 2)) (aCons (eTup aNil) (aCons (eBin mAdd (eVar 2) (eC (.int 1))) aNil)))))) sNil)
    (sSeq (sAsg (gOne 4) (eLst (aCons (eC (.int 0)) (aCons (eC (.int 0)) aNil))))
    (sSeq (sFor (iRange1 (eBin mAdd (eCallO nLen (aCons (eVar 1) aNil)) (eC (.int 1)))) (gOne 5) (lp_l_played_0 r_l_played))
    (sRet (eTup (aCons (eC .non) (aCons (eTup (aCons (eBin mIdx (eVar 4) (eC (.int 0))) (aCons (eBin mIdx (eVar 4) (eC (.int 1))) (aCons (eTup aNil) aNil)))) (aCons (eVar 2) aNil))))))))
def m_l_played : Nat → Fn
  | 0 => noFn
  | n + 1 => fnD 4 9 (b_l_played (m_l_played n))
/- def l_row(_law_tape_here, _law_most): 0=_law_tape_here 1=_law_most 2=_law_row_here 3=_law_way 4=_law_size 5=_law_side 6=_law_k -/
def lp_l_row_0 : MS := (sSeq (sIf (tB (eBin mEq (eVar 3) (eC (.int 0)))) (sAsg (gOne 5) (eCall m_l_draw (aCons (eVar 0) (aCons (eC (.int 2)) aNil)))) (sIf (tB (eBin mEq (eVar 3) (eC (.int 1)))) (sAsg (gOne 5) (eCallO nInt (aCons (eBin mEq (eCall m_l_draw (aCons (eVar 0) (aCons (eC (.int 5)) aNil))) (eC (.int 0))) aNil))) (sIf (tOr (tB (eBin mEq (eBin mMod (eVar 6) (eVar 4)) (eC (.int 0)))) (tAnd (tB (eBin mEq (eVar 3) (eC (.int 4)))) (tB (eBin mEq (eCall m_l_draw (aCons (eVar 0) (aCons (eC (.int 7)) aNil))) (eC (.int 6)))))) (sAsg (gOne 5) (eBin mSub (eC (.int 1)) (eVar 5))) sNil)))
    (sExpr (eMeth "list" mAppend (eVar 2) (aCons (eVar 5) aNil))))
def b_l_row : MS := (sSeq (sAsg (gOne 2) (eLst aNil))
    (sSeq (sAsg (gOne 3) (eCall m_l_draw (aCons (eVar 0) (aCons (eC (.int 5)) aNil))))
    (sSeq (sAsg (gOne 4) (eBin mAdd (eC (.int 1)) (eCall m_l_draw (aCons (eVar 0) (aCons (eC (.int 6)) aNil)))))
    (sSeq (sAsg (gOne 5) (eCall m_l_draw (aCons (eVar 0) (aCons (eC (.int 2)) aNil))))
    (sSeq (sFor (iRange1 (eVar 1)) (gOne 6) lp_l_row_0)
    (sRet (eVar 2)))))))
def m_l_row : Fn := fnD 2 7 b_l_row
/- def l_alike(_law_found, _law_due): 0=_law_found 1=_law_due 2=_law_k -/
def b_l_alike (r_l_alike : Fn) : MS := (sSeq (sIf (tTru (eIsi "tuple" (eVar 1))) (sSeq (sIf (tOr (tNot (tTru (eIsi "tuple" (eVar 0)))) (tB (eBin mNe (eCallO nLen (aCons (eVar 0) aNil)) (eCallO nLen (aCons (eVar 1) aNil))))) (sRet (eC (.bl false))) sNil)
    (sRet (eBin mNotIn (eC (.bl false)) (eComp 2 (iRange1 (eCallO nLen (aCons (eVar 1) aNil))) tYesD (eCall r_l_alike (aCons (eBin mIdx (eVar 0) (eVar 2)) (aCons (eBin mIdx (eVar 1) (eVar 2)) aNil))))))) sNil)
    (sSeq (sIf (tTru (eIsi "bool" (eVar 1))) (sRet (eAnd (eIsi "bool" (eVar 0)) (eBin mEq (eVar 0) (eVar 1)))) sNil)
    (sRet (eAnd (eIsi "int" (eVar 0)) (eAnd (eNot (eIsi "bool" (eVar 0))) (eBin mEq (eVar 0) (eVar 1)))))))
def m_l_alike : Nat → Fn
  | 0 => noFn
  | n + 1 => fnD 2 3 (b_l_alike (m_l_alike n))
end

section
variable {r : Rule} {M : Mem}
theorem ix1 (h : r ≠ .point) : mIdx r.toD (.int 1) M = some (.int r.to, M) := by rw [toD_unit h]; simp
theorem ix2 (h : r ≠ .point) : mIdx r.toD (.int 2) M = some (.int r.lead, M) := by rw [toD_unit h]; simp
theorem ix3 (h : r ≠ .point) : mIdx r.toD (.int 3) M = some (capD r.cap, M) := by rw [toD_unit h]; simp
theorem ix4 (h : r ≠ .point) : mIdx r.toD (.int 4) M = some (r.inner.toD, M) := by rw [toD_unit h]; simp
theorem ix5 (h : r ≠ .point) : mIdx r.toD (.int 5) M = some (lastD r.last, M) := by rw [toD_unit h]; simp
end
@[simp] theorem isNon_lastD {l : Option Rule} : isNon (lastD l) = l.isNone := by cases l <;> simp [lastD]
/-- the law's word for won -/
def wonL (r : Rule) (own other : Int) : Bool := (match r.cap with | some c => decide (c ≤ own) | none => false) || (decide (r.to ≤ own) && decide (r.lead ≤ own - other))
theorem l_won_ok {r : Rule} (h : r ≠ .point) (own other : Int) (M : Mem) : m_l_won [r.toD, .int own, .int other] M = .ok (.bl (wonL r own other)) M := by
  show endS (b_l_won [some r.toD, some (.int own), some (.int other)] M) = _
  unfold b_l_won
  simp [ix1 h, ix2 h, ix3 h]
  cases hc : r.cap with
  | none => by_cases h1 : r.to ≤ own <;> simp [wonL, hc, capD, h1]
  | some c =>
    by_cases h0 : c ≤ own
    · simp [wonL, hc, capD, h0]
    · by_cases h1 : r.to ≤ own <;> simp [wonL, hc, capD, h0, h1]
theorem wonL_eq {r : Rule} {own other : Int} (h : ∀ c, r.cap = some c → own ≤ c) : wonL r own other = wonR r own other := by
  unfold wonL wonR
  cases hc : r.cap with
  | none => simp
  | some c =>
    have := h c hc
    by_cases h0 : c = own
    · subst h0; simp
    · have h1 : ¬ c ≤ own := by omega
      simp [h0, h1]
/-- all but the list at e stand -/
def KeepX (e : Nat) (M M' : Mem) : Prop := M.length ≤ M'.length ∧ ∀ n, n < M.length → n ≠ e → M'[n]? = M[n]?
theorem KeepX.refl (e : Nat) (M : Mem) : KeepX e M M := ⟨Nat.le_refl _, fun _ _ _ => rfl⟩
theorem KeepX.trans {e : Nat} {M M1 M2 : Mem} (a : KeepX e M M1) (b : KeepX e M1 M2) : KeepX e M M2 := ⟨Nat.le_trans a.1 b.1, fun n h hn => (b.2 n (Nat.lt_of_lt_of_le h a.1) hn).trans (a.2 n h hn)⟩
theorem Keep.x {e : Nat} {M M1 : Mem} (a : Keep M M1) : KeepX e M M1 := ⟨a.1, fun n h _ => a.2 n h⟩
theorem KeepX.at {e : Nat} {M M' : Mem} (k : KeepX e M M') {n : Nat} {o : MO} (h : M[n]? = some o) (hn : n ≠ e) : M'[n]? = some o := (k.2 n (lt_of_at h) hn).trans h
theorem KeepX.set (e : Nat) (M : Mem) (o : MO) : KeepX e M (M.set e o) := ⟨by rw [List.length_set]; omega, fun n _ hn => List.getElem?_set_ne (Ne.symm hn)⟩
theorem KeepX.setNew {e : Nat} {M M' : Mem} {n : Nat} {o : MO} (k : KeepX e M M') (h : M.length ≤ n) : KeepX e M (M'.set n o) :=
  ⟨by rw [List.length_set]; exact k.1, fun m hm hn => by rw [List.getElem?_set_ne (by omega)]; exact k.2 m hm hn⟩
def optD : Option Bool → D
  | none => .non
  | some b => sideD b
def natD (n : Nat) : D := .int (n : Nat)
theorem stakes_le : ∀ (s : Stand) (r : Rule) (x : Bool), Open r s → stakesR r s x ≤ r.depth
  | .nil, _, _, _ => Nat.zero_le _
  | .st z o w, r, x, h => by
    have := stakes_le w (within r z o) x h.2
    have := depth_within h.1 z o
    simp only [stakesR]
    split <;> omega
theorem feedE_len {r : Rule} (hg : r.good) : ∀ (xs : List Bool) (s : Stand) (pos : Nat), Open r s → Below r s → (feedE r s xs pos).length ≤ r.depth * (feed r s xs).2.2
  | [], _, _, _, _ => by simp [feedE]
  | x :: xs, s, pos, h, b => by
    have h1 := stakes_le s r x h
    simp only [feedE, feed]
    cases hq : (ralliedR r s x).2 with
    | true => simp; exact h1
    | false =>
      have ih := feedE_len hg xs (ralliedR r s x).1 (pos + 1) (open_rallied h hq) (below_rallied hg h b hq)
      simp
      have := Nat.mul_add r.depth (feed r (ralliedR r s x).1 xs).2.2 1
      omega
def PlayedQ (r : Rule) (xs : List Bool) (a : Nat) (e : Nat) (E : List Nat) (M : Mem) (d : D) (M' : Mem) : Prop :=
  d = .tup [optD (feed r (begunR r) (xs.drop a)).1, (feed r (begunR r) (xs.drop a)).2.1.toD, .int ((a + (feed r (begunR r) (xs.drop a)).2.2 : Nat))] ∧
  M'[e]? = some (.lst ((E ++ feedE r (begunR r) (xs.drop a) a).map natD)) ∧ KeepX e M M'
def PlayedOk (f : Fn) (r : Rule) : Prop := ∀ (xs : List Bool) (rw_ a e : Nat) (E : List Nat) (M : Mem), M[rw_]? = some (.lst (xs.map sideD)) → M[e]? = some (.lst (E.map natD)) → rw_ ≠ e → a ≤ xs.length → xs.length ≤ 1000 → E.length + 12 * (xs.length - a) ≤ 100000 →
  Ret (f [r.toD, .ref rw_, .int (a : Nat), .ref e] M) (PlayedQ r xs a e E M)
/-- the loop of a unit -/
structure PInv (r : Rule) (xs : List Bool) (rw_ a e c : Nat) (E : List Nat) (M : Mem) (i : Nat) (ds : List D) (env : TL.Env) (M' : Mem) : Prop where
  ex : ∃ (z o : Int) (b : Nat) (E' : List Nat) (e5 e6 e7 e8 : Option D), env = [some r.toD, some (.ref rw_), some (.int (b : Nat)), some (.ref e), some (.ref c), e5, e6, e7, e8] ∧ M'[c]? = some (.lst [.int z, .int o]) ∧
    0 ≤ z ∧ 0 ≤ o ∧ (∀ k, r.cap = some k → z < k ∧ o < k) ∧ a + i ≤ b ∧ b ≤ xs.length ∧ M'[e]? = some (.lst (E'.map natD)) ∧ E'.length + 12 * (xs.length - b) ≤ 100000 ∧
    (let f := feed r (.st z o (begunR (within r z o))) (xs.drop b); let F := feed r (begunR r) (xs.drop a); f.1 = F.1 ∧ f.2.1 = F.2.1 ∧ b + f.2.2 = a + F.2.2) ∧
    E' ++ feedE r (.st z o (begunR (within r z o))) (xs.drop b) b = E ++ feedE r (begunR r) (xs.drop a) a
  row : M'[rw_]? = some (.lst (xs.map sideD))
  keep : KeepX e M M'
  items : ds.length + i = xs.length + 1
def PEnd (r : Rule) (xs : List Bool) (a e : Nat) (E : List Nat) (M : Mem) (o : SOut) : Prop := ∃ d M', o = .ret d M' ∧ PlayedQ r xs a e E M d M'
/-- the rule that is due, by the law's words -/
theorem due_ok {f : Fn} {r : Rule} (hp : r ≠ .point) {z o : Int} {c : Nat} {e1 e2 e3 e5 e6 e7 e8 : Option D} {M : Mem} (hc : M[c]? = some (.lst [.int z, .int o])) (rest : MS) :
    nextS (sSeq (sAsg (gOne 6) (eBin mIdx (eVar 0) (eC (.int 4)))) (sIf (TL.tAnd (TL.tB (eBin mIsNot (eBin mIdx (eVar 0) (eC (.int 5))) (eC .non))) (TL.tAnd (TL.tB (eBin mEq (eBin mAdd (eBin mIdx (eVar 4) (eC (.int 0))) (eC (.int 1))) (eBin mIdx (eVar 0) (eC (.int 3))))) (TL.tB (eBin mEq (eBin mAdd (eBin mIdx (eVar 4) (eC (.int 1))) (eC (.int 1))) (eBin mIdx (eVar 0) (eC (.int 3))))))) (sAsg (gOne 6) (eBin mIdx (eVar 0) (eC (.int 5)))) sNil)
      [some r.toD, e1, e2, e3, some (.ref c), e5, e6, e7, e8] M) rest = rest [some r.toD, e1, e2, e3, some (.ref c), e5, some (within r z o).toD, e7, e8] M := by
  have hs := seqAt_lst hc
  cases hl : r.last with
  | none =>
    simp [ix4 hp, ix5 hp, ix3 hp, hl, hs, within]
  | some l =>
    obtain ⟨k, hk⟩ := cap_last hl
    by_cases h1 : z = k - 1
    · by_cases h2 : o = k - 1
      · subst h1; subst h2
        simp [ix4 hp, ix5 hp, ix3 hp, hl, hk, hs, within, capD, lastD]
      · have h2' : ¬ (o + 1 = k) := by omega
        subst h1
        simp [ix4 hp, ix5 hp, ix3 hp, hl, hk, hs, within, capD, lastD, h2, h2']
    · have h1' : ¬ (z + 1 = k) := by omega
      simp [ix4 hp, ix5 hp, ix3 hp, hl, hk, hs, within, capD, lastD, h1, h1']
/-- a turn behind the rule that is due -/
def pl_tail (f : Fn) : MS := (sSeq (sAsg (gTupD [7, 8, 2]) (eCall f (aCons (eVar 6) (aCons (eVar 1) (aCons (eVar 2) (aCons (eVar 3) aNil))))))
    (sSeq (sIf (TL.tB (eBin mIs (eVar 7) (eC .non))) (sRet (eTup (aCons (eC .non) (aCons (eTup (aCons (eBin mIdx (eVar 4) (eC (.int 0))) (aCons (eBin mIdx (eVar 4) (eC (.int 1))) (aCons (eVar 8) aNil)))) (aCons (eVar 2) aNil))))) sNil)
    (sSeq (sSub (eVar 4) (eVar 7) (eBin mAdd (eBin mIdx (eVar 4) (eVar 7)) (eC (.int 1))))
    (sIf (tTru (eCall m_l_won (aCons (eVar 0) (aCons (eBin mIdx (eVar 4) (eVar 7)) (aCons (eBin mIdx (eVar 4) (eBin mSub (eC (.int 1)) (eVar 7))) aNil))))) (sSeq (sExpr (eMeth "list" mAppend (eVar 3) (aCons (eVar 2) aNil)))
    (sRet (eTup (aCons (eVar 7) (aCons (eTup (aCons (eBin mIdx (eVar 4) (eC (.int 0))) (aCons (eBin mIdx (eVar 4) (eC (.int 1))) (aCons (eTup aNil) aNil)))) (aCons (eVar 2) aNil)))))) sNil))))
theorem lp_played_eq (f : Fn) (env : TL.Env) (M : Mem) : lp_l_played_0 f env M = nextS ((sSeq (sAsg (gOne 6) (eBin mIdx (eVar 0) (eC (.int 4)))) (sIf (TL.tAnd (TL.tB (eBin mIsNot (eBin mIdx (eVar 0) (eC (.int 5))) (eC .non))) (TL.tAnd (TL.tB (eBin mEq (eBin mAdd (eBin mIdx (eVar 4) (eC (.int 0))) (eC (.int 1))) (eBin mIdx (eVar 0) (eC (.int 3))))) (TL.tB (eBin mEq (eBin mAdd (eBin mIdx (eVar 4) (eC (.int 1))) (eC (.int 1))) (eBin mIdx (eVar 0) (eC (.int 3))))))) (sAsg (gOne 6) (eBin mIdx (eVar 0) (eC (.int 5)))) sNil)) env M) (pl_tail f) := by
  unfold lp_l_played_0 pl_tail
  rw [sSeq_ap, sSeq_ap, nextS_nextS]
  rfl
theorem turn_ok {f : Fn} {r : Rule} (hp : r ≠ .point) (hg : r.good) (h12 : r.depth ≤ 12) (ih : ∀ q : Rule, q.depth < r.depth → q.good → PlayedOk f q) {xs : List Bool} {rw_ a e c : Nat} {E : List Nat} {M : Mem} (hne : rw_ ≠ e) (hce : c ≠ e) (hcr : c ≠ rw_) (hcM : M.length ≤ c) (hx : xs.length ≤ 1000)
    {i : Nat} {d : D} {ds : List D} {env : TL.Env} {M' : Mem} (h : PInv r xs rw_ a e c E M i (d :: ds) env M') :
    ∃ env1, gOne 5 d env = some env1 ∧ ((∃ env2 M2, lp_l_played_0 f env1 M' = .next env2 M2 ∧ PInv r xs rw_ a e c E M (i + 1) ds env2 M2) ∨ (PEnd r xs a e E M (lp_l_played_0 f env1 M') ∧ ∀ e' M'', lp_l_played_0 f env1 M' ≠ .next e' M'')) := by
  obtain ⟨⟨z, o, b, E', e5, e6, e7, e8, rfl, hc, hz, ho, hcap, hab, hbx, he, hE, hF, hEE⟩, hrow, hk, hit⟩ := h
  refine ⟨_, rfl, ?_⟩
  have hd := depth_within hp z o
  have hdue := due_ok (f := f) (e1 := some (.ref rw_)) (e2 := some (.int (b : Nat))) (e3 := some (.ref e)) (e5 := some d) (e6 := e6) (e7 := e7) (e8 := e8) hp hc
  obtain ⟨dd, M1, ef, hq1, hq2, hq3⟩ := ih (within r z o) hd (good_within hg z o) xs rw_ b e E' M' hrow he hne hbx hx hE
  subst hq1
  have hfl := feed_le (r := within r z o) (xs.drop b) (begunR (within r z o))
  have hfe := feedE_len (good_within hg z o) (xs.drop b) (begunR (within r z o)) b (open_begun _ _ (Nat.le_refl _)) (below_begun _ _ (Nat.le_refl _) (good_within hg z o))
  have hFu := feed_unit (r := r) z o (xs.drop b) (begunR (within r z o))
  have hEu := feedE_unit (r := r) z o (xs.drop b) (begunR (within r z o)) b
  have hc1 := hq3.at hc hce
  have hlt1 := lt_of_at hc1
  have hrow1 := hq3.at hrow hne
  rw [List.length_drop] at hfl
  generalize hfg : feed (within r z o) (begunR (within r z o)) (xs.drop b) = g at *
  obtain ⟨side, w', n⟩ := g
  simp only at hfl hFu hEu ef hfe
  rw [show ([some r.toD, some (.ref rw_), some (.int (b : Nat)), some (.ref e), some (.ref c), e5, e6, e7, e8] : TL.Env).set 5 (some d) = [some r.toD, some (.ref rw_), some (.int (b : Nat)), some (.ref e), some (.ref c), some d, e6, e7, e8] from rfl, lp_played_eq, hdue]
  cases side with
  | none =>
    right
    simp only at hFu hEu
    have hres : pl_tail f [some r.toD, some (.ref rw_), some (.int (b : Nat)), some (.ref e), some (.ref c), some d, some (within r z o).toD, e7, e8] M' = .ret (.tup [.non, (Stand.st z o w').toD, .int ((b + n : Nat))]) M1 := by
      unfold pl_tail
      simp [ef, optD, seqAt, hc1, Stand.toD]
    rw [hres]
    refine ⟨⟨_, M1, rfl, ?_, ?_, ?_⟩, fun _ _ h => by cases h⟩
    · obtain ⟨f1, f2, f3⟩ := hF
      rw [hFu] at f1 f2 f3
      simp only at f1 f2 f3
      rw [← f1, ← f2, ← f3]; rfl
    · rw [← hEE, hEu]; exact hq2
    · exact hk.trans hq3
  | some x =>
    obtain ⟨hn1, _, hn2⟩ := hfl
    have hn3 := hn2 rfl
    simp only at hFu hEu
    have hp1 : (RL.bump z o x).1 ≥ 0 ∧ (RL.bump z o x).2 ≥ 0 := by cases x <;> simp [RL.bump] <;> omega
    have hle : ∀ k, r.cap = some k → ownC (RL.bump z o x) x ≤ k := fun k hk => by have := hcap k hk; cases x <;> simp [RL.bump, ownC] <;> omega
    have hset : setD (.ref c) (sideD x) (.int (ownC (RL.bump z o x) x)) M1 = some (M1.set c (.lst [.int (RL.bump z o x).1, .int (RL.bump z o x).2])) := by
      cases x <;> simp [setD, hc1, sideD, ixN, RL.bump, ownC]
    have hget : mIdx (.ref c) (sideD x) M1 = some (.int (if x then o else z), M1) := by cases x <;> simp [seqAt, hc1, sideD]
    have hown : (if x then o else z) + 1 = ownC (RL.bump z o x) x := by cases x <;> simp [RL.bump, ownC]
    have hc2 : (M1.set c (.lst [.int (RL.bump z o x).1, .int (RL.bump z o x).2]))[c]? = some (.lst [.int (RL.bump z o x).1, .int (RL.bump z o x).2]) := List.getElem?_set_self hlt1
    have hg1 : mIdx (.ref c) (sideD x) (M1.set c (.lst [.int (RL.bump z o x).1, .int (RL.bump z o x).2])) = some (.int (ownC (RL.bump z o x) x), M1.set c (.lst [.int (RL.bump z o x).1, .int (RL.bump z o x).2])) := by cases x <;> simp [seqAt, hc2, sideD, ownC]
    have hsub : mSub (.int 1) (sideD x) (M1.set c (.lst [.int (RL.bump z o x).1, .int (RL.bump z o x).2])) = some (sideD (!x), M1.set c (.lst [.int (RL.bump z o x).1, .int (RL.bump z o x).2])) := by cases x <;> simp [sideD]
    have hg2 : mIdx (.ref c) (sideD (!x)) (M1.set c (.lst [.int (RL.bump z o x).1, .int (RL.bump z o x).2])) = some (.int (otherC (RL.bump z o x) x), M1.set c (.lst [.int (RL.bump z o x).1, .int (RL.bump z o x).2])) := by cases x <;> simp [seqAt, hc2, sideD, otherC]
    have hnn : isNon (sideD x) = false := rfl
    have hk2 : KeepX e M (M1.set c (.lst [.int (RL.bump z o x).1, .int (RL.bump z o x).2])) := (hk.trans hq3).setNew hcM
    have he2 : (M1.set c (.lst [.int (RL.bump z o x).1, .int (RL.bump z o x).2]))[e]? = some (.lst ((E' ++ feedE (within r z o) (begunR (within r z o)) (xs.drop b) b).map natD)) := by
      rw [List.getElem?_set_ne hce]; exact hq2
    have hrow2 : (M1.set c (.lst [.int (RL.bump z o x).1, .int (RL.bump z o x).2]))[rw_]? = some (.lst (xs.map sideD)) := by
      rw [List.getElem?_set_ne hcr]; exact hrow1
    have hElen : (E' ++ feedE (within r z o) (begunR (within r z o)) (xs.drop b) b).length ≤ E'.length + 12 * n := by
      rw [List.length_append]
      have h1 := Nat.mul_le_mul_right n (show (within r z o).depth ≤ 11 by omega)
      omega
    generalize hM2 : M1.set c (.lst [.int (RL.bump z o x).1, .int (RL.bump z o x).2]) = M2 at *
    generalize hEl : E' ++ feedE (within r z o) (begunR (within r z o)) (xs.drop b) b = E2 at *
    have hwl := l_won_ok hp (ownC (RL.bump z o x) x) (otherC (RL.bump z o x) x) M2
    rw [wonL_eq hle] at hwl
    obtain ⟨f1, f2, f3⟩ := hF
    rw [hFu] at f1 f2 f3
    rw [hEu, ← List.append_assoc, hEl] at hEE
    cases hwon : wonR r (ownC (RL.bump z o x) x) (otherC (RL.bump z o x) x) with
    | true =>
      right
      rw [hwon] at hwl
      simp only [hwon, if_true] at f1 f2 f3 hEE
      have hres : pl_tail f [some r.toD, some (.ref rw_), some (.int (b : Nat)), some (.ref e), some (.ref c), some d, some (within r z o).toD, e7, e8] M' = .ret (.tup [sideD x, (Stand.st (RL.bump z o x).1 (RL.bump z o x).2 .nil).toD, .int ((b + n : Nat))]) (M2.set e (.lst ((E2 ++ [b + n]).map natD))) := by
        unfold pl_tail
        have hap : mAppend (.ref e) [.int ((b : Int) + (n : Int))] M2 = some (.non, M2.set e (.lst ((E2 ++ [b + n]).map natD))) := by
          rw [mAppend_ok he2 (by rw [List.length_map]; omega)]
          simp [natD]
        have hc3 : (M2.set e (.lst ((E2 ++ [b + n]).map natD)))[c]? = some (.lst [.int (RL.bump z o x).1, .int (RL.bump z o x).2]) := by rw [List.getElem?_set_ne (Ne.symm hce)]; exact hc2
        simp [-mIdx_ref, ef, optD, hnn, hget, hown, hset, hg1, hsub, hg2, hwl, tyD_list (seqAt_lst he2), hap]
        simp [mIdx_ref, seqAt, List.getElem?_set_ne (Ne.symm hce), hc2, Stand.toD]
      rw [hres]
      refine ⟨⟨_, _, rfl, ?_, ?_, hk2.trans (KeepX.set e M2 _)⟩, fun _ _ h => by cases h⟩
      · rw [← f1, ← f2, ← f3]; rfl
      · rw [List.getElem?_set_self (lt_of_at he2), ← hEE]
    | false =>
      left
      rw [hwon] at hwl
      simp only [hwon, Bool.false_eq_true, if_false] at f1 f2 f3 hEE
      have hres : pl_tail f [some r.toD, some (.ref rw_), some (.int (b : Nat)), some (.ref e), some (.ref c), some d, some (within r z o).toD, e7, e8] M' = .next [some r.toD, some (.ref rw_), some (.int ((b + n : Nat))), some (.ref e), some (.ref c), some d, some (within r z o).toD, some (sideD x), some w'.toD] M2 := by
        unfold pl_tail
        simp [-mIdx_ref, ef, optD, hnn, hget, hown, hset, hg1, hsub, hg2, hwl]
      rw [hres]
      refine ⟨_, _, rfl, ⟨(RL.bump z o x).1, (RL.bump z o x).2, b + n, E2, _, _, _, _, rfl, hc2, hp1.1, hp1.2, fun k hk => ?_, by omega, by omega, he2, by omega, ?_, ?_⟩, hrow2, hk2, by simp at hit; omega⟩
      · have h1 := hcap k hk
        unfold wonR at hwon
        rw [hk] at hwon
        cases x <;> simp [RL.bump, ownC, otherC] at hwon ⊢ <;> omega
      · rw [List.drop_drop] at f1 f2 f3
        exact ⟨f1, f2, by rw [← f3]; omega⟩
      · rw [List.drop_drop] at hEE
        exact hEE
theorem played_step {f : Fn} {r : Rule} (hg : r.good) (h12 : r.depth ≤ 12) (ih : ∀ q : Rule, q.depth < r.depth → q.good → PlayedOk f q) : PlayedOk (fnD 4 9 (b_l_played f)) r := by
  intro xs rw_ a e E M hr he hne ha hx hE
  show Ret (endS (b_l_played f [some r.toD, some (.ref rw_), some (.int (a : Nat)), some (.ref e), none, none, none, none, none] M)) _
  unfold b_l_played
  have h60 : r.depth ≤ 60 := by omega
  by_cases hp : r = .point
  · subst hp
    have hs := seqAt_lst hr
    by_cases hal : a = xs.length
    · subst hal
      simp [mEq_point (M := M) (r := .point) h60, hs]
      refine Ret.ok (show PlayedQ _ _ _ _ _ _ _ _ from ⟨?_, ?_, KeepX.refl _ _⟩)
      · simp [feed, begunR_point, optD, Stand.toD]
      · simpa [feedE] using he
    · have hlt : a < xs.length := by omega
      have hd : xs.drop a = xs[a] :: xs.drop (a + 1) := List.drop_eq_getElem_cons hlt
      have hat : atI (xs.map sideD) (a : Int) = some (sideD xs[a]) := atI_nat (by rw [List.getElem?_map, List.getElem?_eq_getElem hlt]; rfl)
      have hne' : ¬ ((a : Int) = (xs.length : Int)) := by omega
      simp [mEq_point (M := M) (r := .point) h60, hs, hal, hne', hat]
      refine .ok ⟨?_, ?_, KeepX.refl _ _⟩
      · rw [hd, begunR_point]
        simp [feed, ralliedR, optD, Stand.toD]
      · rw [hd, begunR_point]
        simp [feedE, stakesR, ralliedR]
        exact he
  · have k1 : Keep M (M ++ [.lst [.int 0, .int 0]]) := Keep.more _ _
    have hrng : RngOk ((xs.length : Int) + 1) := rngOk_of (by omega) (by omega)
    simp [mEq_point (M := M) (r := r) h60, hp, seqAt_lst (k1.at hr), hrng]
    have hpe : M.length ≠ e := fun q => by have := lt_of_at he; omega
    have hpr : M.length ≠ rw_ := fun q => by have := lt_of_at hr; omega
    have h0 : PInv r xs rw_ a e M.length E M 0 (rngItems 0 (xs.length + 1)) [some r.toD, some (.ref rw_), some (.int (a : Nat)), some (.ref e), some (.ref M.length), none, none, none, none] (M ++ [.lst [.int 0, .int 0]]) :=
      ⟨⟨0, 0, a, E, none, none, none, none, rfl, at_len _ _, Int.le_refl _, Int.le_refl _, fun k hk => by have := good_cap hg hp hk; omega, by omega, ha, k1.at he, hE, by rw [begunR_unit hp]; exact ⟨rfl, rfl, rfl⟩, by rw [begunR_unit hp]⟩, k1.at hr, Keep.x k1, by rw [rng_length]⟩
    obtain ⟨d, M', e1, hq⟩ := forL_inv (Q := PEnd r xs a e E M) (good := fun _ => True) (g := gOne 5) (b := lp_l_played_0 f) (PInv r xs rw_ a e M.length E M) (fun _ _ _ _ _ => trivial)
      (fun i d ds env M' h => turn_ok hp hg h12 ih hne hpe hpr (Nat.le_refl _) hx h)
      (fun i env M' h => by
        obtain ⟨⟨z, o, b, _, _, _, _, _, _, _, _, _, _, h1, h2, _⟩, _, _, h3⟩ := h
        simp at h3
        omega) _ 0 _ _ h0
    rw [e1]
    simp
    exact Ret.ok hq
theorem played_ok : ∀ (n : Nat) (r : Rule), r.good → r.depth < n → r.depth ≤ 12 → PlayedOk (m_l_played n) r
  | 0, _, _, h, _ => by omega
  | n + 1, r, hg, h, h12 => played_step hg h12 fun q hq hgq => played_ok n q hgq (by omega) (by omega)
/-! a drawn row -/
def RowQ (t : Nat) (M : Mem) (n : Nat) (d : D) (M' : Mem) : Prop := ∃ (k : Nat) (xs : List Bool), d = .ref k ∧ M.length ≤ k ∧ M'[k]? = some (.lst (xs.map sideD)) ∧ xs.length = n ∧ Adv t M M'
structure RInv (t k n : Nat) (M : Mem) (i : Nat) (ds : List D) (env : TL.Env) (M' : Mem) : Prop where
  ex : ∃ (way size : Int) (b : Bool) (e6 : Option D) (xs : List Bool), env = [some (.ref t), some (.int (n : Nat)), some (.ref k), some (.int way), some (.int size), some (sideD b), e6] ∧ 0 < size ∧ M'[k]? = some (.lst (xs.map sideD)) ∧ xs.length = i
  items : ∀ d ∈ ds, ∃ j : Int, d = .int j
  len : ds.length + i = n
  adv : Adv t M M'
def REnd (t k n : Nat) (M : Mem) (o : SOut) : Prop := ∃ (env : TL.Env) (M' : Mem) (xs : List Bool), o = .next env M' ∧ env[2]? = some (some (.ref k)) ∧ M'[k]? = some (.lst (xs.map sideD)) ∧ xs.length = n ∧ Adv t M M'
theorem side_of {r : Int} (h0 : 0 ≤ r) (h1 : r < 2) : ∃ b : Bool, D.int r = sideD b := by
  rcases (show r = 0 ∨ r = 1 by omega) with rfl | rfl
  · exact ⟨false, rfl⟩
  · exact ⟨true, rfl⟩
theorem Adv.setNew {t : Nat} {M M' : Mem} {k : Nat} {o : MO} (a : Adv t M M') (h : M.length ≤ k) (hk : k ≠ t) (hnl : ∀ s, M'[t]? = some (.lst s) → ∀ q, s[0]? = some (.ref q) → q ≠ k) : Adv t M (M'.set k o) := by
  obtain ⟨⟨s, ns, spot, left, way, ht, hs, hl, hp⟩, h1, h2⟩ := a
  refine ⟨⟨s, ns, spot, left, way, by rw [List.getElem?_set_ne hk]; exact ht, ?_, hl, hp⟩, by rw [List.length_set]; exact h1, fun n hn hne => by rw [List.getElem?_set_ne (by omega)]; exact h2 n hn hne⟩
  rw [List.getElem?_set_ne (Ne.symm (hnl _ ht s rfl))]
  exact hs
/-- a list of ours is no tape's script -/
theorem Adv.setLst {t : Nat} {M M' : Mem} {k : Nat} {xs : List D} {o : MO} (a : Adv t M M') (h : M.length ≤ k) (hk : k ≠ t) (hx : M'[k]? = some (.lst xs)) : Adv t M (M'.set k o) := by
  refine a.setNew h hk fun s hs q hq e => ?_
  obtain ⟨⟨s', ns, spot, left, way, ht, hs', _⟩, _⟩ := a
  rw [ht] at hs
  cases hs
  cases hq
  subst e
  rw [hx] at hs'
  cases hs'
theorem row_turn {t k n : Nat} {M : Mem} (hk : M.length ≤ k) (hkt : k ≠ t) (hn : n ≤ 1000) {i : Nat} {d : D} {ds : List D} {env : TL.Env} {M' : Mem} (h : RInv t k n M i (d :: ds) env M') :
    ∃ env1, gOne 6 d env = some env1 ∧ ((∃ env2 M2, lp_l_row_0 env1 M' = .next env2 M2 ∧ RInv t k n M (i + 1) ds env2 M2) ∨ (REnd t k n M (lp_l_row_0 env1 M') ∧ ∀ e' M'', lp_l_row_0 env1 M' ≠ .next e' M'')) := by
  obtain ⟨⟨way, size, b, e6, xs, rfl, hsz, hx, hxl⟩, hit, hlen, A⟩ := h
  obtain ⟨j, rfl⟩ := hit d List.mem_cons_self
  refine ⟨_, rfl, .inl ?_⟩
  have fin : ∀ (b' : Bool) (M2 : Mem), Adv t M' M2 → ∃ env2 M3, sExpr (eMeth "list" mAppend (eVar 2) (aCons (eVar 5) aNil)) [some (.ref t), some (.int (n : Nat)), some (.ref k), some (.int way), some (.int size), some (sideD b'), some (.int j)] M2 = .next env2 M3 ∧ RInv t k n M (i + 1) ds env2 M3 := by
    intro b' M2 A2
    have hx2 := A2.at hx hkt
    have hap := mAppend_ok (y := sideD b') hx2 (by rw [List.length_map]; simp at hlen; omega)
    refine ⟨[some (.ref t), some (.int (n : Nat)), some (.ref k), some (.int way), some (.int size), some (sideD b'), some (.int j)], M2.set k (.lst (xs.map sideD ++ [sideD b'])), by simp [tyD_list (seqAt_lst hx2), hap], ⟨way, size, b', some (.int j), xs ++ [b'], rfl, hsz, ?_, by simp; omega⟩, fun d hd => hit d (List.mem_cons_of_mem _ hd), by simp at hlen; omega, ?_⟩
    · rw [List.getElem?_set_self (lt_of_at hx2)]; simp
    · exact (A.trans A2).setLst hk hkt hx2
  have e1 : ([some (.ref t), some (.int (n : Nat)), some (.ref k), some (.int way), some (.int size), some (sideD b), e6] : TL.Env).set 6 (some (.int j)) = [some (.ref t), some (.int (n : Nat)), some (.ref k), some (.int way), some (.int size), some (sideD b), some (.int j)] := rfl
  rw [e1]
  unfold lp_l_row_0
  rw [sSeq_ap]
  by_cases h0 : way = 0
  · obtain ⟨_, M2, ed, r, rfl, hr0, hr1, A2⟩ := draw A.tape (show (0 : Int) < 2 by decide) (by decide)
    obtain ⟨b', hb'⟩ := side_of hr0 hr1
    obtain ⟨env2, M3, ee, hI⟩ := fin b' M2 A2
    refine ⟨env2, M3, ?_, hI⟩
    rw [← ee, ← hb']
    subst h0
    simp [ed]
  · by_cases h1 : way = 1
    · obtain ⟨_, M2, ed, r, rfl, hr0, hr1, A2⟩ := draw A.tape (show (0 : Int) < 5 by decide) (by decide)
      obtain ⟨env2, M3, ee, hI⟩ := fin (decide (r = 0)) M2 A2
      refine ⟨env2, M3, ?_, hI⟩
      rw [← ee]
      subst h1
      simp [ed, sideD]
    · have flip : D.int (1 - (if b then 1 else 0)) = sideD (!b) := by cases b <;> simp [sideD]
      by_cases h2 : j % size = 0
      · obtain ⟨env2, M3, ee, hI⟩ := fin (!b) M' (Adv.refl A.tape)
        refine ⟨env2, M3, ?_, hI⟩
        rw [← ee, ← flip]
        simp [h0, h1, h2, hsz, sideD]
      · by_cases h4 : way = 4
        · obtain ⟨_, M2, ed, r, rfl, hr0, hr1, A2⟩ := draw A.tape (show (0 : Int) < 7 by decide) (by decide)
          subst h4
          by_cases h6 : r = 6
          · obtain ⟨env2, M3, ee, hI⟩ := fin (!b) M2 A2
            refine ⟨env2, M3, ?_, hI⟩
            rw [← ee, ← flip]
            simp [h2, hsz, ed, h6, sideD]
          · obtain ⟨env2, M3, ee, hI⟩ := fin b M2 A2
            refine ⟨env2, M3, ?_, hI⟩
            rw [← ee]
            simp [h2, hsz, ed, h6]
        · obtain ⟨env2, M3, ee, hI⟩ := fin b M' (Adv.refl A.tape)
          refine ⟨env2, M3, ?_, hI⟩
          rw [← ee]
          simp [h0, h1, h2, h4, hsz]
theorem row_ok {M : Mem} {t n : Nat} (T : Tape M t) (hn : n ≤ 1000) : Ret (m_l_row [.ref t, .int (n : Nat)] M) (RowQ t M n) := by
  show Ret (endS (b_l_row [some (.ref t), some (.int (n : Nat)), none, none, none, none, none] M)) _
  unfold b_l_row
  have hkt : M.length ≠ t := fun e => by have := T.lt; omega
  simp
  refine Ret.bind (draw (T.keep (Keep.more M _)) (by decide) (by decide)) ?_
  rintro _ M1 ⟨way, rfl, h0, h1, A1⟩
  have a1 := (Adv.of T (Keep.more M _)).trans A1
  have l1 := A1.at (at_len M _) hkt
  refine Ret.bind (draw A1.tape (by decide) (by decide)) ?_
  rintro _ M2 ⟨size, rfl, h2, h3, A2⟩
  have l2 := A2.at l1 hkt
  simp
  refine Ret.bind (draw A2.tape (by decide) (by decide)) ?_
  rintro _ M3 ⟨side, rfl, h4, h5, A3⟩
  have l3 := A3.at l2 hkt
  obtain ⟨b, hb⟩ := side_of h4 h5
  rw [hb]
  simp [rngOk_nat (show n ≤ 1000000 by omega)]
  have h0 : RInv t M.length n M 0 (rngItems 0 n) [some (.ref t), some (.int (n : Nat)), some (.ref M.length), some (.int way), some (.int (1 + size)), some (sideD b), none] M3 :=
    ⟨⟨way, 1 + size, b, none, [], rfl, by omega, l3, rfl⟩, fun d hd => by obtain ⟨k, _, rfl⟩ := mem_rng hd; exact ⟨_, rfl⟩, by rw [rng_length]; omega, a1.trans (A2.trans A3)⟩
  obtain ⟨env, M', xs, e1, e2, e3, e4, e5⟩ := forL_inv (Q := REnd t M.length n M) (good := fun _ => True) (g := gOne 6) (b := lp_l_row_0) (RInv t M.length n M) (fun _ _ _ _ _ => trivial)
    (fun i d ds env M' h => row_turn (Nat.le_refl _) hkt hn h)
    (fun i env M' h => by
      obtain ⟨⟨way, size, b, e6, xs, rfl, _, hx, hxl⟩, _, hlen, A⟩ := h
      exact ⟨_, M', xs, rfl, rfl, hx, by simp at hlen; omega, A⟩) _ 0 _ _ h0
  rw [e1]
  simp [e2]
  exact Ret.ok ⟨_, xs, rfl, Nat.le_refl _, e3, e4, e5⟩
/-! alike -/
/-- tuples of whole numbers and truths -/
inductive Nice : Nat → D → Prop
  | int (n : Nat) (i : Int) : Nice n (.int i)
  | bl (n : Nat) (b : Bool) : Nice n (.bl b)
  | tup (n : Nat) {xs : List D} : xs.length ≤ 1000 → (∀ x ∈ xs, Nice n x) → Nice (n + 1) (.tup xs)
theorem nice_mono {n : Nat} {d : D} (h : Nice n d) : ∀ {m : Nat}, n ≤ m → Nice m d := by
  induction h with
  | int n i => intro m _; exact .int m i
  | bl n b => intro m _; exact .bl m b
  | tup n hl hx ih =>
    intro m hm
    obtain ⟨m, rfl⟩ : ∃ k, m = k + 1 := ⟨m - 1, by omega⟩
    exact .tup m hl fun x hx => ih x hx (by omega)
theorem nice_stand : ∀ s : Stand, Nice (s.depth + 1) s.toD
  | .nil => .tup 0 (by decide) (fun x hx => by simp at hx)
  | .st z o w => .tup (w.depth + 1) (by simp) (fun x hx => by
    simp at hx
    rcases hx with rfl | rfl | rfl
    · exact .int _ _
    · exact .int _ _
    · exact nice_stand w)
theorem alike_ok : ∀ (n k : Nat) (d : D) (M : Mem), Nice k d → k < n → ∃ M', m_l_alike n [d, d] M = .ok (.bl true) M' ∧ Keep M M'
  | 0, _, _, _, _, h => by omega
  | n + 1, k, d, M, hd, h => by
    show ∃ M', endS (b_l_alike (m_l_alike n) [some d, some d, none] M) = _ ∧ _
    unfold b_l_alike
    cases hd with
    | int k i => exact ⟨M, by simp, Keep.refl M⟩
    | bl k b => exact ⟨M, by simp, Keep.refl M⟩
    | tup k hl hx =>
      rename_i xs
      obtain ⟨M2, e2, k2, a2⟩ := eComp_keepY (i := 2) (s := iRange1 (eCallO nLen (aCons (eVar 1) aNil))) (e := eCall (m_l_alike n) (aCons (eBin mIdx (eVar 0) (eVar 2)) (aCons (eBin mIdx (eVar 1) (eVar 2)) aNil)))
        (env := [some (.tup xs), some (.tup xs), none]) (M := M) (M1 := M) (src := ⟨rngItems 0 xs.length, fun _ => True⟩) (fun _ => .bl true) (by simp [rngOk_nat (show xs.length ≤ 1000000 by omega)]) (fun _ _ => trivial) (by rw [rng_length]; omega) (fun d hd M' _ => by
          obtain ⟨j, hj, rfl⟩ := mem_rng hd
          obtain ⟨M3, e3, k3⟩ := alike_ok n k xs[j] M' (hx _ (List.getElem_mem hj)) (by omega)
          have hat : atI xs (j : Int) = some xs[j] := atI_nat (List.getElem?_eq_getElem hj)
          exact ⟨M3, by simp [hat, e3], k3⟩)
      refine ⟨M2, ?_, k2⟩
      simp [-eComp_ap, e2]
      rw [mNotIn_trues (seqAt_lst a2) (by simp)]
      simp
end CM
end
section
set_option maxHeartbeats 4000000
/-! rows walked: what the laws of rallies share -/
namespace CM
open PySem PySem.Spec PyProof.Rows L2 TL RL
theorem cutL_to {α : Type} {xs : List α} {k : Nat} (h : k ≤ xs.length) : cutL xs none (some (k : Int)) = xs.take k := by
  unfold cutL
  rw [HT.sIx_nat, HT.sIx_none, Nat.min_eq_left h]
  simp
theorem cutL_init {α : Type} {xs : List α} : cutL xs none (some (-1)) = xs.dropLast := by
  unfold cutL
  rw [HT.sIx_none, List.dropLast_eq_take]
  have e : HT.sIx xs.length xs.length (some (-1)) = xs.length - 1 := by
    show (if (-1 : Int) < 0 then ((-1 : Int) + (xs.length : Int)).toNat else min (-1 : Int).toNat xs.length) = _
    rw [if_pos (by omega)]; omega
  rw [e]
  simp
theorem atI_side {ys : List Bool} {k : Nat} (h : k < ys.length) : atI (ys.map sideD) (k : Int) = some (sideD ys[k]) :=
  atI_nat (by rw [List.getElem?_map, List.getElem?_eq_getElem h]; rfl)
/-- the stand behind so many rallies -/
def standAt (r : Rule) (ys : List Bool) (k : Nat) : Stand := runS r (begunR r) (ys.take k)
theorem standAt_zero {r : Rule} {ys : List Bool} : standAt r ys 0 = begunR r := rfl
theorem standAt_succ {r : Rule} {ys : List Bool} {k : Nat} (h : k < ys.length) : standAt r ys (k + 1) = (ralliedR r (standAt r ys k) ys[k]).1 := by
  unfold standAt
  rw [List.take_succ_eq_append_getElem h, runS_append]
  rfl
/-- a row that is played on, ended or not -/
structure Walk (r : Rule) (ys : List Bool) (ended : Bool) : Prop where
  alive : ∀ k, k < ys.length → Alive r (begunR r) (ys.take k)
  won : ∀ k (h : k < ys.length), (ralliedR r (standAt r ys k) ys[k]).2 = (ended && decide (k + 1 = ys.length))
theorem alive_take {r : Rule} {s : Stand} {ys : List Bool} (h : Alive r s ys) (k : Nat) : Alive r s (ys.take k) := by
  have e := List.take_append_drop k ys
  rw [← e] at h
  exact ((alive_append _ _ _).mp h).1
theorem alive_won {r : Rule} : ∀ {ys : List Bool} {s : Stand}, Alive r s ys → ∀ k (h : k < ys.length), (ralliedR r (runS r s (ys.take k)) ys[k]).2 = false
  | [], _, _, k, h => absurd h (Nat.not_lt_zero _)
  | y :: ys, s, a, 0, _ => a.1
  | y :: ys, s, a, k + 1, h => alive_won (ys := ys) a.2 k (by simpa using h)
theorem walk_feed {r : Rule} (xs : List Bool) : Walk r (xs.take (feed r (begunR r) xs).2.2) (feed r (begunR r) xs).1.isSome := by
  rcases feed_split (r := r) xs (begunR r) with ⟨a, e⟩ | ⟨ys, x, zs, e1, a, w, e2⟩
  · rw [e]
    simp only [List.take_length, Option.isSome_none]
    exact ⟨fun k _ => alive_take a k, fun k h => by rw [Bool.false_and]; exact alive_won a k h⟩
  · rw [e2]
    simp only [Option.isSome_some, Bool.true_and]
    have e3 : xs.take (ys.length + 1) = ys ++ [x] := by rw [e1, show ys ++ x :: zs = (ys ++ [x]) ++ zs by simp, List.take_append_of_le_length (by simp)]; exact List.take_of_length_le (by simp)
    rw [e3]
    refine ⟨fun k h => ?_, fun k h => ?_⟩
    · rw [List.take_append_of_le_length (by simp at h; omega)]
      exact alive_take a k
    · unfold standAt
      rw [List.take_append_of_le_length (by simp at h; omega)]
      by_cases hk : k < ys.length
      · rw [List.getElem_append_left hk, alive_won a k hk]
        simp; omega
      · have hk' : k = ys.length := by simp at h; omega
        subst hk'
        simp [w]
theorem Walk.feed {r : Rule} {ys : List Bool} {b : Bool} (w : Walk r ys b) {k : Nat} (hk : k ≤ ys.length) : (RL.feed r (begunR r) (ys.take k)).2.1 = standAt r ys k := by
  unfold standAt
  rcases feed_split (r := r) (ys.take k) (begunR r) with ⟨a, e⟩ | ⟨zs, x, ws, e1, a, hw, e2⟩
  · rw [e]
  · rw [e2]
    have hlen : zs.length + 1 + ws.length = k := by
      have := congrArg List.length e1
      rw [List.length_take, Nat.min_eq_left hk] at this
      simp at this; omega
    have hz : zs.length < ys.length := by omega
    have e3 : ys.take zs.length = zs := by
      have : (ys.take k).take zs.length = zs := by rw [e1]; simp
      rw [List.take_take, Nat.min_eq_left (by omega)] at this
      exact this
    have e4 : ys[zs.length] = x := by
      have h1 : (ys.take k)[zs.length]? = some x := by rw [e1]; simp
      rw [List.getElem?_take_of_lt (by omega), List.getElem?_eq_getElem hz] at h1
      exact Option.some.inj h1
    have h2 := w.won zs.length hz
    unfold standAt at h2
    rw [e3, e4, hw] at h2
    have h3 : zs.length + 1 = ys.length := by
      by_cases h : zs.length + 1 = ys.length
      · exact h
      · rw [decide_eq_false h] at h2; simp at h2
    have hws : ws = [] := List.eq_nil_of_length_eq_zero (by omega)
    subst hws
    rw [e1, runS_append]
    rfl
theorem Walk.open {r : Rule} {ys : List Bool} {b : Bool} (w : Walk r ys b) (hg : r.good) {k : Nat} (hk : k < ys.length) : Open r (standAt r ys k) ∧ Below r (standAt r ys k) :=
  alive_open hg (open_begun _ _ (Nat.le_refl _)) (below_begun _ _ (Nat.le_refl _) hg) (w.alive k hk)
theorem fits_rallied : ∀ {s : Stand} {r : Rule} {side : Bool}, Open r s → Fits r (ralliedR r s side).1 ∧ (r = .point ↔ (ralliedR r s side).1 = .nil)
  | .nil, r, side, h => ⟨trivial, fun _ => rfl, fun _ => h⟩
  | .st z o w, r, side, h => by
    have ih := fits_rallied (side := side) h.2
    simp only [ralliedR]
    split
    · split
      · exact ⟨⟨h.1, trivial⟩, fun e => absurd e h.1, fun e => by cases e⟩
      · exact ⟨⟨h.1, CM.Open.fits (open_begun _ _ (Nat.le_refl _))⟩, fun e => absurd e h.1, fun e => by cases e⟩
    · exact ⟨⟨h.1, ih.1⟩, fun e => absurd e h.1, fun e => by cases e⟩
theorem open_nil : ∀ {s : Stand} {r : Rule}, Open r s → (r = .point ↔ s = .nil)
  | .nil, r, h => ⟨fun _ => rfl, fun _ => h⟩
  | .st z o w, r, h => ⟨fun e => absurd e h.1, fun e => by cases e⟩
theorem Walk.fits {r : Rule} {ys : List Bool} {b : Bool} (w : Walk r ys b) (hg : r.good) {k : Nat} (hk : k ≤ ys.length) : Fits r (standAt r ys k) ∧ (r = .point ↔ standAt r ys k = .nil) := by
  cases k with
  | zero =>
    rw [standAt_zero]
    have h := open_begun _ r (Nat.le_refl _)
    exact ⟨CM.Open.fits h, open_nil h⟩
  | succ k =>
    rw [standAt_succ (by omega)]
    exact fits_rallied (w.open hg (by omega)).1
theorem Walk.depth {r : Rule} {ys : List Bool} {b : Bool} (w : Walk r ys b) (hg : r.good) {k : Nat} (hk : k ≤ ys.length) : (standAt r ys k).depth ≤ r.depth := fits_depth (w.fits hg hk).1
/-- a comprehension whose element draws -/
theorem compL_adv {good : Mem → Prop} {i n t : Nat} {e : ME} {env : TL.Env} {P : D → Prop} (M0 : Mem) (hg : ∀ M', Adv t M0 M' → good M') (hn : M0.length ≤ n) (hnt : n ≠ t) : ∀ (ds acc : List D) (M : Mem), Adv t M0 M → M[n]? = some (.lst acc) → (∀ x ∈ acc, P x) → acc.length + ds.length ≤ 1000000 →
    (∀ d ∈ ds, ∀ M', Adv t M0 M' → ∃ x M2, e (env.set i (some d)) M' = .ok x M2 ∧ P x ∧ Adv t M' M2) →
    ∃ xs M2, compL good i tYesD e n env ds M = .ok () M2 ∧ Adv t M0 M2 ∧ M2[n]? = some (.lst xs) ∧ xs.length = acc.length + ds.length ∧ ∀ x ∈ xs, P x
  | [], acc, M, k, ha, hp, _, _ => ⟨acc, M, compL_nil (hg M k), k, ha, rfl, hp⟩
  | d :: ds, acc, M, k, ha, hp, hl, h => by
    obtain ⟨x, M2, e2, px, k2⟩ := h d List.mem_cons_self M k
    have a2 := k2.at ha hnt
    rw [compL_cons (hg M k)]
    simp only [tYesD, Out.nox_ok, Out.bind_ok, if_true, e2, a2]
    rw [if_pos (by rw [sizeLine_eq]; simp at hl; omega)]
    obtain ⟨xs, M3, e3, k3, a3, l3, p3⟩ := compL_adv M0 hg hn hnt ds (acc ++ [x]) (M2.set n (.lst (acc ++ [x]))) ((k.trans k2).setLst hn hnt a2) (List.getElem?_set_self (lt_of_at a2)) (fun y hy => by
      rcases List.mem_append.mp hy with hy | hy
      · exact hp y hy
      · rw [List.mem_singleton.mp hy]; exact px) (by simp at hl ⊢; omega) fun d' hd => h d' (List.mem_cons_of_mem _ hd)
    exact ⟨xs, M3, e3, k3, a3, by rw [l3]; simp; omega, p3⟩
theorem eComp_adv {i t : Nat} {s : MI} {e : ME} {env : TL.Env} {M M1 : Mem} {src : Src} {P : D → Prop} (T : Tape M1 t) (hs : s env M = .ok src M1) (hg : ∀ M', Adv t M1 M' → src.good M') (hl : src.items.length ≤ 1000000)
    (h : ∀ d ∈ src.items, ∀ M', Adv t M1 M' → ∃ x M2, e (env.set i (some d)) M' = .ok x M2 ∧ P x ∧ Adv t M' M2) :
    ∃ xs M2, eComp i s tYesD e env M = .ok (.ref M1.length) M2 ∧ Adv t M1 M2 ∧ M2[M1.length]? = some (.lst xs) ∧ xs.length = src.items.length ∧ ∀ x ∈ xs, P x := by
  obtain ⟨xs, M2, e2, k2, a2, l2, p2⟩ := compL_adv (n := M1.length) (P := P) (e := e) (env := env) (i := i) M1 hg (Nat.le_refl _) (fun e => by have := T.lt; omega) src.items [] (M1 ++ [.lst []]) (Adv.of T (Keep.more _ _)) (at_len _ _) (fun x hx => by cases hx) (by simpa using hl) h
  refine ⟨xs, M2, ?_, k2, a2, by simpa using l2, p2⟩
  show (s env M).bind _ = _
  rw [hs, Out.bind_ok, e2]
  rfl
theorem eqvAll_stands : ∀ ss : List Stand, PyData.eqvAll (pyL (ss.map Stand.toD)) (pyL (ss.map Stand.toD)) = true
  | [] => by simp [pyL, PyData.eqvAll]
  | s :: ss => by simp [pyL, PyData.eqvAll, Stand.eqv_toD, eqvAll_stands ss]
theorem mEq_stands {M : Mem} {n m : Nat} {ss : List Stand} (h1 : seqAt M n = some (ss.map Stand.toD)) (h2 : seqAt M m = some (ss.map Stand.toD)) (hd : ∀ s ∈ ss, s.depth ≤ 60) : mEq (.ref n) (.ref m) M = some (.bl true, M) := by
  have hp : pureL (ss.map Stand.toD) 61 = true := pureL_all fun x hx => by
    obtain ⟨s, hs, rfl⟩ := List.mem_map.mp hx
    exact pure_mono s.pure_toD (by have := hd s hs; omega)
  rw [mEq_eq, eqD_ref h1 h2 hp hp (by omega) (by omega), eqvAll_stands]; rfl
/-- the stands along a row -/
def standsD (r : Rule) (ys : List Bool) (n : Nat) : List D := ((List.range n).map (standAt r ys)).map Stand.toD
theorem standsD_succ {r : Rule} {ys : List Bool} {n : Nat} : standsD r ys (n + 1) = standsD r ys n ++ [(standAt r ys n).toD] := by
  unfold standsD; rw [List.range_succ]; simp
theorem standsD_at {r : Rule} {ys : List Bool} {n k : Nat} (h : k < n) : atI (standsD r ys n) (k : Int) = some (standAt r ys k).toD :=
  atI_nat (by unfold standsD; simp [List.getElem?_range h])
@[simp] theorem standsD_length {r : Rule} {ys : List Bool} {n : Nat} : (standsD r ys n).length = n := by simp [standsD]
def Tru (d : D) (_ : Mem) : Prop := d = .bl true
theorem rng_cons (lo : Int) (n : Nat) : rngItems lo (n + 1) = .int lo :: rngItems (lo + 1) n := by
  unfold rngItems
  rw [List.range_succ_eq_map]
  simp only [List.map_cons, List.map_map]
  congr 1
  · simp
  · refine List.map_congr_left fun k _ => ?_
    simp only [Function.comp]
    congr 1
    omega
def Spot (n : Nat) (d : D) : Prop := ∃ k : Nat, d = .int k ∧ k ≤ n
theorem mIn_ints {M : Mem} {n m : Nat} {xs : List D} (hn : seqAt M n = some xs) (h : ∀ x ∈ xs, Spot m x) (k : Int) : ∃ b, mIn (.int k) (.ref n) M = some (.bl b, M) := by
  have e : inD M (.int k) (.ref n) = some (inF (.int k) xs) := by
    show (match seqAt M n with | some xs => if flatD (.int k) = true ∧ xs.all flatD = true then some (inF (.int k) xs) else none | none => none) = _
    rw [hn]
    have h2 : xs.all flatD = true := List.all_eq_true.mpr fun x hx => by obtain ⟨j, rfl, _⟩ := h x hx; rfl
    simp only [h2, flatD, and_self, if_true]
  exact ⟨_, by show (inD M (.int k) (.ref n)).map _ = _; rw [e]; rfl⟩
/-! stands cut -/
theorem less_within {r : Rule} (z o : Int) : within r (z - lessR r z o) (o - lessR r z o) = within r z o := by
  unfold lessR
  cases hc : r.cap with
  | some c => simp
  | none =>
    cases hl : r.last with
    | none => simp [within, hl]
    | some l => obtain ⟨c, hc'⟩ := cap_last hl; rw [hc] at hc'; cases hc'
theorem fits_cut : ∀ {s : Stand} {r : Rule}, Fits r s → Fits r (cutR r s)
  | .nil, r, _ => by rw [cutR_nil]; exact trivial
  | .st z o w, r, h => ⟨h.1, by rw [less_within]; exact fits_cut h.2⟩
theorem open_cut : ∀ {s : Stand} {r : Rule}, Open r s → Open r (cutR r s)
  | .nil, r, h => by rw [cutR_nil]; exact h
  | .st z o w, r, h => ⟨h.1, by rw [less_within]; exact open_cut h.2⟩
theorem cut_nil {s : Stand} {r : Rule} : cutR r s = .nil ↔ s = .nil := by
  cases s with
  | nil => simp [cutR_nil]
  | st z o w => simp [cutR]
theorem cut_cut : ∀ (s : Stand) (r : Rule), cutR r (cutR r s) = cutR r s
  | .nil, r => by rw [cutR_nil, cutR_nil]
  | .st z o w, r => by
    have e : lessR r (z - lessR r z o) (o - lessR r z o) = 0 := by
      unfold lessR
      cases r.cap with
      | some c => rfl
      | none => simp only; omega
    simp only [cutR]
    rw [e, less_within, cut_cut w]
    simp
/-- a row cut to where the rule is won, the last rally taken off then: nobody wins along it -/
theorem alive_feed {r : Rule} (xs : List Bool) : ∃ zs : List Bool, Alive r (begunR r) zs ∧ zs.length ≤ xs.length ∧
    (if (feed r (begunR r) xs).1.isSome then (xs.take (feed r (begunR r) xs).2.2).dropLast else xs.take (feed r (begunR r) xs).2.2) = zs := by
  rcases feed_split (r := r) xs (begunR r) with ⟨a, e⟩ | ⟨ys, x, zs, e1, a, w, e2⟩
  · exact ⟨xs, a, Nat.le_refl _, by rw [e]; simp⟩
  · refine ⟨ys, a, by rw [e1]; simp, ?_⟩
    rw [e2, e1, show ys ++ x :: zs = (ys ++ [x]) ++ zs by simp, List.take_append_of_le_length (by simp), List.take_of_length_le (by simp)]
    simp
theorem alive_walk {r : Rule} {zs : List Bool} (a : Alive r (begunR r) zs) : Walk r zs false := ⟨fun k _ => alive_take a k, fun k h => by rw [Bool.false_and]; exact alive_won a k h⟩
/-- stands cut to the same one have one future -/
theorem cut_counts {r : Rule} (hg : r.good) (hp : r ≠ .point) {z o z' o' : Int} (h1 : z - lessR r z o = z' - lessR r z' o') (h2 : o - lessR r z o = o' - lessR r z' o') (x : Bool) :
    wonR r (ownC (RL.bump z o x) x) (otherC (RL.bump z o x) x) = wonR r (ownC (RL.bump z' o' x) x) (otherC (RL.bump z' o' x) x) ∧
    (RL.bump z o x).1 - lessR r (RL.bump z o x).1 (RL.bump z o x).2 = (RL.bump z' o' x).1 - lessR r (RL.bump z' o' x).1 (RL.bump z' o' x).2 ∧
    (RL.bump z o x).2 - lessR r (RL.bump z o x).1 (RL.bump z o x).2 = (RL.bump z' o' x).2 - lessR r (RL.bump z' o' x).1 (RL.bump z' o' x).2 := by
  have hn := good_num hg hp
  cases hc : r.cap with
  | some c =>
    have l1 : ∀ a b, lessR r a b = 0 := fun a b => by simp only [lessR, hc]
    rw [l1, l1] at h1 h2
    have e1 : z = z' := by omega
    have e2 : o = o' := by omega
    subst e1; subst e2
    exact ⟨rfl, rfl, rfl⟩
  | none =>
    have l1 : ∀ a b, lessR r a b = max 0 (min a b - r.to + 1) := fun a b => by simp only [lessR, hc]
    rw [l1, l1] at h1 h2
    refine ⟨?_, ?_, ?_⟩
    · unfold wonR
      rw [hc]
      simp only [reduceCtorEq, decide_false, Bool.false_or]
      cases x <;> simp only [RL.bump, ownC, otherC, if_true, Bool.false_eq_true, if_false]
      · have : (r.to ≤ z + 1 ∧ r.lead ≤ z + 1 - o) ↔ (r.to ≤ z' + 1 ∧ r.lead ≤ z' + 1 - o') := by omega
        simp only [← Bool.decide_and]
        exact decide_eq_decide.mpr this
      · have : (r.to ≤ o + 1 ∧ r.lead ≤ o + 1 - z) ↔ (r.to ≤ o' + 1 ∧ r.lead ≤ o' + 1 - z') := by omega
        simp only [← Bool.decide_and]
        exact decide_eq_decide.mpr this
    · rw [l1, l1]; cases x <;> simp only [RL.bump, if_true, Bool.false_eq_true, if_false] <;> omega
    · rw [l1, l1]; cases x <;> simp only [RL.bump, if_true, Bool.false_eq_true, if_false] <;> omega
theorem cut_within {r : Rule} {z o z' o' : Int} (h1 : z - lessR r z o = z' - lessR r z' o') (h2 : o - lessR r z o = o' - lessR r z' o') : within r z o = within r z' o' := by
  rw [← less_within z o, ← less_within z' o', h1, h2]
theorem cut_step : ∀ {s s' : Stand} {r : Rule} {x : Bool}, r.good → Open r s → Open r s' → cutR r s = cutR r s' → (ralliedR r s x).2 = (ralliedR r s' x).2 ∧ cutR r (ralliedR r s x).1 = cutR r (ralliedR r s' x).1
  | .nil, s', r, x, hg, h, h', e => by
    have e1 : s' = .nil := cut_nil.mp (by rw [← e, cutR_nil])
    subst e1
    exact ⟨rfl, rfl⟩
  | .st z o w, .nil, r, x, hg, h, h', e => absurd h' h.1
  | .st z o w, .st z' o' w', r, x, hg, h, h', e => by
    simp only [cutR, Stand.st.injEq] at e
    obtain ⟨h1, h2, h3⟩ := e
    have hw := cut_within h1 h2
    have ih := cut_step (s := w) (s' := w') (r := within r z o) (x := x) (good_within hg z o) h.2 (by rw [hw]; exact h'.2) (by rw [h3, hw])
    obtain ⟨c1, c2, c3⟩ := cut_counts hg h.1 h1 h2 x
    have hw2 := cut_within c2 c3
    have ih2 := ih.2
    simp only [ralliedR]
    rw [← hw, ← ih.1]
    cases hq : (ralliedR (within r z o) w x).2 with
    | false =>
      simp only [Bool.false_eq_true, if_false, true_and, cutR]
      rw [← hw, ih2, h1, h2]
    | true =>
      simp only [if_true]
      rw [← c1]
      cases wonR r (ownC (RL.bump z o x) x) (otherC (RL.bump z o x) x) with
      | true =>
        simp only [if_true, true_and, cutR]
        rw [c2, c3]
      | false =>
        simp only [Bool.false_eq_true, if_false, true_and, cutR]
        rw [c2, c3, hw2]
theorem mNe_bl {M : Mem} (b c : Bool) : mNe (.bl b) (.bl c) M = some (.bl (b != c), M) := by
  rw [mNe_eq, eqD_pure (n := 0) (m := 0) (by simp [pureD]) (by simp [pureD]) (by omega) (by omega)]
  cases b <;> cases c <;> simp [pyD, PyData.eqv]
end CM
end
section
set_option maxHeartbeats 4000000
/-! rows of a lane as data -/
namespace RB
open PySem PySem.Spec PyProof.Rows L2 TL RL CM
structure LRow where
  done : Int
  ball : Int
  up : Int
  near : Int
  far : Int
  extra : Int
  total : Int
def LRow.toD (r : LRow) : D := .tup [.int r.done, .int r.ball, .int r.up, .int r.near, .int r.far, .int r.extra, .int r.total]
/-- the program's step -/
def frameB (P n : Int) (r : LRow) (near far earned : Int) : LRow × Bool :=
  if r.done = n - 1 ∧ 0 < earned then (⟨r.done, 0, P, near, far, earned, r.total⟩, false) else (⟨r.done + 1, 0, P, near, far, 0, r.total⟩, true)
def extraB (P : Int) (r : LRow) : LRow × Bool :=
  if r.extra = 1 then (⟨r.done + 1, 0, P, r.near, r.far, 0, r.total⟩, true) else (⟨r.done, 0, if r.up = 0 then P else r.up, r.near, r.far, r.extra - 1, r.total⟩, false)
def stepR (P n : Int) (r : LRow) (p : Int) : LRow × Bool :=
  if 0 < r.extra then extraB P ⟨r.done, 0, r.up - p, r.far, 0, r.extra, r.total + p * r.near⟩
  else if r.up = p ∧ r.ball = 0 then frameB P n ⟨r.done, r.ball + 1, r.up - p, r.far, 0, 0, r.total + p * r.near + p⟩ (r.far + 1) 1 2
  else if r.up = p then frameB P n ⟨r.done, r.ball + 1, r.up - p, r.far, 0, 0, r.total + p * r.near + p⟩ (r.far + 1) 0 1
  else if r.ball = 1 then frameB P n ⟨r.done, r.ball + 1, r.up - p, r.far, 0, 0, r.total + p * r.near + p⟩ r.far 0 0
  else (⟨r.done, r.ball + 1, r.up - p, r.far, 0, 0, r.total + p * r.near + p⟩, false)
/-- a frame of a sheet: where it begins, where it ends, how many balls it earns -/
structure Fr where
  b : Nat
  e : Nat
  q : Nat
/-- a sheet, read: the frames done, the first ball of one begun -/
structure Sh where
  g : List Fr
  h : Option Int
def push (P : Int) (n L : Nat) (s : Sh) (p : Int) : Sh := match s.h with
  | some a => ⟨s.g ++ [⟨L - 1, L + 1, if a + p = P then 1 else 0⟩], none⟩
  | none => if s.g.length < n then (if p = P then ⟨s.g ++ [⟨L, L + 1, 2⟩], none⟩ else ⟨s.g, some p⟩) else s
/-- of balls, from the first one on -/
def sh (P : Int) (n : Nat) (bs : List Int) : Sh :=
  (bs.foldl (fun (x : Sh × Nat) p => (push P n x.2 x.1 p, x.2 + 1)) (⟨[], none⟩, 0)).1
theorem fold_len {P : Int} {n : Nat} : ∀ (bs : List Int) (x : Sh × Nat), (bs.foldl (fun (x : Sh × Nat) p => (push P n x.2 x.1 p, x.2 + 1)) x).2 = x.2 + bs.length
  | [], x => rfl
  | p :: bs, x => by rw [List.foldl_cons, fold_len bs]; simp; omega
theorem sh_snoc {P : Int} {n : Nat} (bs : List Int) (p : Int) : sh P n (bs ++ [p]) = push P n bs.length (sh P n bs) p := by
  unfold sh
  rw [List.foldl_append]
  simp only [List.foldl_cons, List.foldl_nil]
  rw [fold_len]
  simp
/-- how many frames still earn the ball that comes behind m -/
def cnt (g : List Fr) (m : Nat) : Nat := (g.filter fun f => decide (m < f.e + f.q)).length
def own (bs : List Int) (f : Fr) : Int := ((bs.drop f.b).take (f.e - f.b)).sum
def more (bs : List Int) (f : Fr) : Int := ((bs.drop f.e).take f.q).sum
def tot (bs : List Int) (s : Sh) : Int := (s.g.map fun f => own bs f + more bs f).sum + s.h.getD 0
/-- what is known of a sheet -/
structure Ok (P : Int) (n : Nat) (bs : List Int) (s : Sh) : Prop where
  ends : ∀ f ∈ s.g, f.b ≤ f.e ∧ f.e ≤ bs.length ∧ f.q ≤ 2
  len : s.g.length ≤ n
  half : ∀ a, s.h = some a → s.g.length < n ∧ 1 ≤ bs.length ∧ bs[bs.length - 1]? = some a ∧ 0 ≤ a ∧ a < P
/-- the last frame -/
def lastF (s : Sh) : Fr := s.g.getLastD ⟨0, 0, 0⟩
/-- balls behind the last frame that are still to come -/
def ex (n : Nat) (bs : List Int) (s : Sh) : Int := if s.h = none ∧ s.g.length = n then (lastF s).q - ((bs.length - (lastF s).e : Nat) : Int) else 0
def upR (P : Int) (n : Nat) (bs : List Int) (s : Sh) : Int := match s.h with
  | some a => P - a
  | none => if 0 < ex n bs s ∧ (lastF s).e < bs.length ∧ bs.getLastD 0 < P then P - bs.getLastD 0 else P
def row (P : Int) (n : Nat) (bs : List Int) (s : Sh) : LRow :=
  ⟨s.g.length - (if 0 < ex n bs s then 1 else 0), if s.h.isSome then 1 else 0, upR P n bs s, cnt s.g bs.length, cnt s.g (bs.length + 1), ex n bs s, tot bs s⟩
theorem own_snoc {bs : List Int} {f : Fr} (h1 : f.b ≤ f.e) (h2 : f.e ≤ bs.length) (p : Int) : own (bs ++ [p]) f = own bs f := by
  unfold own
  rw [List.drop_append_of_le_length (by omega), List.take_append_of_le_length (by simp; omega)]
theorem more_snoc {bs : List Int} {f : Fr} (h2 : f.e ≤ bs.length) (p : Int) : more (bs ++ [p]) f = more bs f + (if bs.length < f.e + f.q then p else 0) := by
  unfold more
  rw [List.drop_append_of_le_length h2, List.take_append]
  rw [List.sum_append]
  congr 1
  simp only [List.length_drop]
  by_cases h : bs.length < f.e + f.q
  · rw [if_pos h, List.take_of_length_le (by simp; omega)]; simp
  · rw [if_neg h, show f.q - (bs.length - f.e) = 0 by omega]; simp
theorem tot_snoc {bs : List Int} (p : Int) : ∀ {g : List Fr}, (∀ f ∈ g, f.b ≤ f.e ∧ f.e ≤ bs.length ∧ f.q ≤ 2) → (g.map fun f => own (bs ++ [p]) f + more (bs ++ [p]) f).sum = (g.map fun f => own bs f + more bs f).sum + p * cnt g bs.length
  | [], _ => by simp [cnt]
  | f :: g, h => by
    obtain ⟨h1, h2, _⟩ := h f List.mem_cons_self
    have ih := tot_snoc p (g := g) fun x hx => h x (List.mem_cons_of_mem _ hx)
    simp only [List.map_cons, List.sum_cons]
    rw [ih, own_snoc h1 h2, more_snoc h2]
    by_cases c : bs.length < f.e + f.q
    · rw [if_pos c, show cnt (f :: g) bs.length = cnt g bs.length + 1 by unfold cnt; rw [List.filter_cons_of_pos (by simpa using c)]; rfl]
      rw [Int.natCast_add, Int.mul_add]; omega
    · rw [if_neg c, show cnt (f :: g) bs.length = cnt g bs.length by unfold cnt; rw [List.filter_cons_of_neg (by simpa using c)]]
      omega
theorem cnt_snoc (g : List Fr) (f : Fr) (m : Nat) : cnt (g ++ [f]) m = cnt g m + (if m < f.e + f.q then 1 else 0) := by
  unfold cnt
  rw [List.filter_append, List.length_append]
  congr 1
  by_cases c : m < f.e + f.q
  · rw [if_pos c, List.filter_cons_of_pos (by simpa using c)]; rfl
  · rw [if_neg c, List.filter_cons_of_neg (by simpa using c)]; rfl
theorem cnt_far {g : List Fr} {L : Nat} (h : ∀ f ∈ g, f.b ≤ f.e ∧ f.e ≤ L ∧ f.q ≤ 2) : cnt g (L + 2) = 0 := by
  unfold cnt
  rw [List.filter_eq_nil_iff.mpr fun f hf => by have := h f hf; simp; omega]
  rfl
theorem lastF_snoc (g : List Fr) (f : Fr) (h : Option Int) : lastF ⟨g ++ [f], h⟩ = f := by simp [lastF, List.getLastD_eq_getLast?]
theorem last_mem {s : Sh} (h : s.g ≠ []) : lastF s ∈ s.g := by
  unfold lastF
  rw [List.getLastD_eq_getLast?, List.getLast?_eq_some_getLast h]
  exact List.getLast_mem h
theorem ok_push {P : Int} {n : Nat} {bs : List Int} {s : Sh} (o : Ok P n bs s) {p : Int} (h0 : 0 ≤ p) (hp : s.h = none → s.g.length < n → p ≤ P) : Ok P n (bs ++ [p]) (push P n bs.length s p) := by
  have lift : ∀ f ∈ s.g, f.b ≤ f.e ∧ f.e ≤ (bs ++ [p]).length ∧ f.q ≤ 2 := fun f hf => by have := o.ends f hf; simp; omega
  unfold push
  cases hh : s.h with
  | some a =>
    obtain ⟨h1, h2, _⟩ := o.half a hh
    refine ⟨fun f hf => ?_, by simp; omega, fun a h => by cases h⟩
    rcases List.mem_append.mp hf with hf | hf
    · exact lift f hf
    · rw [List.mem_singleton.mp hf]
      refine ⟨by simp only; omega, by simp, by simp only; split <;> omega⟩
  | none =>
    simp only
    by_cases hl : s.g.length < n
    · rw [if_pos hl]
      by_cases hpP : p = P
      · rw [if_pos hpP]
        refine ⟨fun f hf => ?_, by simp; omega, fun a h => by cases h⟩
        rcases List.mem_append.mp hf with hf | hf
        · exact lift f hf
        · rw [List.mem_singleton.mp hf]
          exact ⟨by simp, by simp, by simp⟩
      · rw [if_neg hpP]
        have := hp hh hl
        exact ⟨lift, o.len, fun a h => by cases h; exact ⟨hl, by simp, by simp, h0, by omega⟩⟩
    · rw [if_neg hl]
      exact ⟨lift, o.len, fun a h => by rw [hh] at h; cases h⟩
/-- a ball more -/
theorem step_ok {P : Int} {n : Nat} {bs : List Int} {s : Sh} {p : Int} (hP : 1 ≤ P) (o : Ok P n bs s) (h0 : 0 ≤ p) (hp : p ≤ (row P n bs s).up) (hd : (row P n bs s).done < n) :
    stepR P n (row P n bs s) p = (row P n (bs ++ [p]) (push P n bs.length s p), decide ((row P n (bs ++ [p]) (push P n bs.length s p)).ball = 0 ∧ (row P n (bs ++ [p]) (push P n bs.length s p)).extra = 0)) := by
  have hlen : (bs ++ [p]).length = bs.length + 1 := by simp
  have hlast : (bs ++ [p]).getLastD 0 = p := by simp [List.getLastD_eq_getLast?]
  have hfar := cnt_far o.ends
  have ht := tot_snoc p o.ends
  have hmul : p * (cnt s.g bs.length : Int) = p * (cnt s.g bs.length : Int) := rfl
  cases hh : s.h with
  | some a =>
    obtain ⟨h1, h2, h3, h4, h5⟩ := o.half a hh
    have hex : ex n bs s = 0 := by unfold ex; rw [if_neg (by rw [hh]; simp)]
    have hup : upR P n bs s = P - a := by unfold upR; rw [hh]
    have hp' : p ≤ P - a := by have := hp; simp only [row, hup] at this; exact this
    have hpush : push P n bs.length s p = ⟨s.g ++ [⟨bs.length - 1, bs.length + 1, if a + p = P then 1 else 0⟩], none⟩ := by unfold push; rw [hh]
    have hown : own (bs ++ [p]) ⟨bs.length - 1, bs.length + 1, if a + p = P then 1 else 0⟩ = a + p := by
      unfold own
      simp only
      have : (bs ++ [p]).drop (bs.length - 1) = [a, p] := by
        rw [List.drop_append_of_le_length (by omega)]
        have : bs.drop (bs.length - 1) = [a] := by
          rw [List.drop_eq_getElem_cons (by omega), List.drop_eq_nil_of_le (by omega)]
          rw [List.getElem?_eq_getElem (by omega)] at h3
          rw [Option.some.inj h3]
        rw [this]; rfl
      rw [this, List.take_of_length_le (by simp; omega)]
      simp
    have hmore : more (bs ++ [p]) ⟨bs.length - 1, bs.length + 1, if a + p = P then 1 else 0⟩ = 0 := by
      unfold more
      simp only
      rw [List.drop_eq_nil_of_le (by simp)]
      simp
    have htot : tot (bs ++ [p]) (push P n bs.length s p) = tot bs s + p * cnt s.g bs.length + p := by
      rw [hpush]
      unfold tot
      rw [hh]
      simp only [List.map_append, List.sum_append, List.map_cons, List.map_nil, List.sum_cons, List.sum_nil, ht, hown, hmore, Option.getD_none, Option.getD_some]
      omega
    have hl1 : (s.g ++ [(⟨bs.length - 1, bs.length + 1, if a + p = P then 1 else 0⟩ : Fr)]).length = s.g.length + 1 := by simp
    have hex' : ex n (bs ++ [p]) (push P n bs.length s p) = if s.g.length + 1 = n then (if a + p = P then 1 else 0) else 0 := by
      rw [hpush]
      unfold ex
      rw [lastF_snoc, hl1, hlen]
      by_cases c : s.g.length + 1 = n
      · rw [if_pos ⟨rfl, c⟩, if_pos c]; simp; split <;> rfl
      · rw [if_neg (by simp [c]), if_neg c]
    have hc1 : cnt (push P n bs.length s p).g (bs.length + 1) = cnt s.g (bs.length + 1) + (if a + p = P then 1 else 0) := by
      rw [hpush, cnt_snoc]
      by_cases c : a + p = P
      · simp [c]
      · simp [c]
    have hc2 : cnt (push P n bs.length s p).g (bs.length + 1 + 1) = 0 := by
      rw [hpush, cnt_snoc, hfar]
      by_cases c : a + p = P
      · simp [c]
      · simp [c]
    have hg : ((push P n bs.length s p).g.length : Int) = s.g.length + 1 := by rw [hpush]; simp
    have hh' : (push P n bs.length s p).h = none := by rw [hpush]
    have hup' : upR P n (bs ++ [p]) (push P n bs.length s p) = P := by
      unfold upR
      rw [hh']
      simp only
      rw [if_neg]
      rintro ⟨_, h, _⟩
      rw [hpush, lastF_snoc, hlen] at h
      simp at h
    unfold stepR row
    simp only [hex, hup, hh, Option.isSome_some, if_true, hex', hh', hup', hlen, hc1, hc2, hg, htot, Option.isSome_none, frameB]
    simp only [Int.lt_irrefl, if_false]
    by_cases c : a + p = P
    · have c' : P - a = p := by omega
      by_cases c2 : s.g.length + 1 = n
      · have c3 : (s.g.length : Int) - 0 = (n : Int) - 1 := by omega
        simp [c, c', c2]
        omega
      · have c3 : ¬ ((s.g.length : Int) = (n : Int) - 1) := by omega
        simp [c, c', c2, c3]
    · have c' : ¬ (P - a = p) := by omega
      by_cases c2 : s.g.length + 1 = n
      · simp [c, c', c2]
      · simp [c, c', c2]
  | none =>
    by_cases hl : s.g.length < n
    · have hex : ex n bs s = 0 := by unfold ex; rw [if_neg (by omega)]
      have hup : upR P n bs s = P := by unfold upR; rw [hh]; simp only; rw [if_neg (by omega)]
      have hp' : p ≤ P := by have := hp; simp only [row, hup] at this; exact this
      by_cases hpP : p = P
      · have hpush : push P n bs.length s p = ⟨s.g ++ [⟨bs.length, bs.length + 1, 2⟩], none⟩ := by unfold push; rw [hh]; simp only; rw [if_pos hl, if_pos hpP]
        have hown : own (bs ++ [p]) ⟨bs.length, bs.length + 1, 2⟩ = p := by
          unfold own; simp
        have hmore : more (bs ++ [p]) ⟨bs.length, bs.length + 1, 2⟩ = 0 := by
          unfold more; simp only; rw [List.drop_eq_nil_of_le (by simp)]; simp
        have htot : tot (bs ++ [p]) (push P n bs.length s p) = tot bs s + p * cnt s.g bs.length + p := by
          rw [hpush]
          unfold tot
          rw [hh]
          simp only [List.map_append, List.sum_append, List.map_cons, List.map_nil, List.sum_cons, List.sum_nil, ht, hown, hmore, Option.getD_none]
          omega
        have hex' : ex n (bs ++ [p]) (push P n bs.length s p) = if s.g.length + 1 = n then 2 else 0 := by
          rw [hpush]
          unfold ex
          rw [lastF_snoc, hlen]
          by_cases c : s.g.length + 1 = n
          · rw [if_pos (by simp [c]), if_pos c]; simp
          · rw [if_neg (by simp [c]), if_neg c]
        have hc1 : cnt (push P n bs.length s p).g (bs.length + 1) = cnt s.g (bs.length + 1) + 1 := by
          rw [hpush, cnt_snoc]; simp
        have hc2 : cnt (push P n bs.length s p).g (bs.length + 1 + 1) = 1 := by
          rw [hpush, cnt_snoc, hfar]; simp
        have hg : ((push P n bs.length s p).g.length : Int) = s.g.length + 1 := by rw [hpush]; simp
        have hh' : (push P n bs.length s p).h = none := by rw [hpush]
        have hup' : upR P n (bs ++ [p]) (push P n bs.length s p) = P := by
          unfold upR
          rw [hh']
          simp only
          rw [if_neg]
          rintro ⟨_, h, _⟩
          rw [hpush, lastF_snoc, hlen] at h
          simp at h
        unfold stepR row
        simp only [hex, hup, hh, Option.isSome_none, hex', hh', hup', hlen, hc1, hc2, hg, htot, frameB, Bool.false_eq_true, if_false]
        simp only [Int.lt_irrefl, if_false]
        by_cases c2 : s.g.length + 1 = n
        · have c3 : (s.g.length : Int) = (n : Int) - 1 := by omega
          simp [hpP, c2]
          omega
        · have c3 : ¬ ((s.g.length : Int) = (n : Int) - 1) := by omega
          simp [hpP, c2, c3]
      · have hpush : push P n bs.length s p = ⟨s.g, some p⟩ := by unfold push; rw [hh]; simp only; rw [if_pos hl, if_neg hpP]
        have htot : tot (bs ++ [p]) (push P n bs.length s p) = tot bs s + p * cnt s.g bs.length + p := by
          rw [hpush]
          unfold tot
          rw [hh]
          simp only [ht, Option.getD_none, Option.getD_some]
          omega
        have hex' : ex n (bs ++ [p]) (push P n bs.length s p) = 0 := by
          rw [hpush]; unfold ex; simp
        have hup' : upR P n (bs ++ [p]) (push P n bs.length s p) = P - p := by rw [hpush]; rfl
        have hg : (push P n bs.length s p).g = s.g := by rw [hpush]
        have hh' : (push P n bs.length s p).h = some p := by rw [hpush]
        have hne : ¬ (P = p) := fun e => hpP e.symm
        unfold stepR row
        simp only [hex, hup, hh, Option.isSome_none, Option.isSome_some, hex', hh', hup', hlen, hg, hfar, htot, Bool.false_eq_true, if_false, if_true]
        simp [hne, show bs.length + 1 + 1 = bs.length + 2 from rfl, hfar]
    · have hln : s.g.length = n := by have := o.len; omega
      have hexd : ex n bs s = (lastF s).q - ((bs.length - (lastF s).e : Nat) : Int) := by unfold ex; rw [if_pos ⟨hh, hln⟩]
      have hexp : 0 < ex n bs s := by
        have := hd
        simp only [row] at this
        by_cases c : 0 < ex n bs s
        · exact c
        · rw [if_neg c] at this; omega
      have hne : s.g ≠ [] := by
        intro e
        have : lastF s = ⟨0, 0, 0⟩ := by unfold lastF; rw [e]; rfl
        rw [hexd, this] at hexp
        simp at hexp
        omega
      have hle := o.ends _ (last_mem hne)
      have hpush : push P n bs.length s p = s := by unfold push; rw [hh]; simp only; rw [if_neg hl]
      have htot : tot (bs ++ [p]) s = tot bs s + p * cnt s.g bs.length := by
        unfold tot; rw [hh]; simp only [ht]; omega
      have hex' : ex n (bs ++ [p]) s = ex n bs s - 1 := by
        rw [hexd]; unfold ex; rw [if_pos ⟨hh, hln⟩, hlen]; omega
      rw [hpush]
      unfold stepR row
      simp only [hexp, if_true, hh, Option.isSome_none, hex', hlen, htot, extraB]
      have hup' : upR P n (bs ++ [p]) s = if ex n bs s = 1 then P else (if upR P n bs s - p = 0 then P else upR P n bs s - p) := by
        by_cases c : ex n bs s = 1
        · rw [if_pos c]; unfold upR; rw [hh]; simp only; rw [hex', if_neg (by omega)]
        · rw [if_neg c]
          have hup : upR P n bs s = P := by unfold upR; rw [hh]; simp only; rw [if_neg (by omega)]
          have hp' : p ≤ P := by have := hp; simp only [row, hup] at this; exact this
          rw [hup]
          unfold upR; rw [hh]; simp only
          rw [hex', hlast, hlen]
          by_cases c2 : p < P
          · rw [if_pos ⟨by omega, by omega, c2⟩, if_neg (by omega)]
          · rw [if_neg (by omega), if_pos (by omega)]
      rw [hup']
      by_cases c : ex n bs s = 1
      · simp [c, show bs.length + 1 + 1 = bs.length + 2 from rfl, hfar]
      · have c2 : 0 < ex n bs s - 1 := by omega
        have c3 : ¬ (ex n bs s - 1 = 0) := by omega
        simp [c, c2, c3, show bs.length + 1 + 1 = bs.length + 2 from rfl, hfar]
        omega
end RB
end
section
set_option maxHeartbeats 4000000
/-! lanes: mirrors, and what they give -/
namespace CM
open PySem PySem.Spec PyProof.Rows L2 TL RL RB
noncomputable section
/- def is_between(thing, low, high): 0=thing 1=low 2=high -/
def b_is_between : MS := (sRet (eAnd (eIsi "int" (eVar 0)) (eAnd (eNot (eIsi "bool" (eVar 0))) (eChain mLe mLe (eVar 1) (eVar 0) (eVar 2)))))
def m_is_between : Fn := fnD 3 3 b_is_between
/- def lane_begun(lane): 0=lane -/
def b_lane_begun : MS := (sRet (eTup (aCons (eBin mMul (eTup (aCons (eTup (aCons (eC (.int 0)) (aCons (eC (.int 0)) (aCons (eBin mIdx (eVar 0) (eC (.int 1))) (aCons (eC (.int 0)) (aCons (eC (.int 0)) (aCons (eC (.int 0)) (aCons (eC (.int 0)) aNil)))))))) aNil)) (eBin mIdx (eVar 0) (eC (.int 0)))) (aCons (eC (.int 0)) aNil))))
def m_lane_begun : Fn := fnD 1 1 b_lane_begun
/- def frame_behind(lane, row, near, far, earned): 0=lane 1=row 2=near 3=far 4=earned -/
def b_frame_behind : MS := (sSeq (sIf (tAnd (tB (eBin mEq (eBin mIdx (eVar 1) (eC (.int 0))) (eBin mSub (eBin mIdx (eVar 0) (eC (.int 2))) (eC (.int 1))))) (tB (eBin mGt (eVar 4) (eC (.int 0))))) (sRet (eTup (aCons (eTup (aCons (eBin mIdx (eVar 1) (eC (.int 0))) (aCons (eC (.int 0)) (aCons (eBin mIdx (eVar 0) (eC (.int 1))) (aCons (eVar 2) (aCons (eVar 3) (aCons (eVar 4) (aCons (eBin mIdx (eVar 1) (eC (.int 6))) aNil)))))))) (aCons (eC (.bl false)) aNil)))) sNil)
    (sRet (eTup (aCons (eTup (aCons (eBin mAdd (eBin mIdx (eVar 1) (eC (.int 0))) (eC (.int 1))) (aCons (eC (.int 0)) (aCons (eBin mIdx (eVar 0) (eC (.int 1))) (aCons (eVar 2) (aCons (eVar 3) (aCons (eC (.int 0)) (aCons (eBin mIdx (eVar 1) (eC (.int 6))) aNil)))))))) (aCons (eC (.bl true)) aNil)))))
def m_frame_behind : Fn := fnD 5 5 b_frame_behind
/- def extra_behind(lane, row): 0=lane 1=row 2=up -/
def b_extra_behind : MS := (sSeq (sIf (tB (eBin mEq (eBin mIdx (eVar 1) (eC (.int 5))) (eC (.int 1)))) (sRet (eTup (aCons (eTup (aCons (eBin mAdd (eBin mIdx (eVar 1) (eC (.int 0))) (eC (.int 1))) (aCons (eC (.int 0)) (aCons (eBin mIdx (eVar 0) (eC (.int 1))) (aCons (eBin mIdx (eVar 1) (eC (.int 3))) (aCons (eBin mIdx (eVar 1) (eC (.int 4))) (aCons (eC (.int 0)) (aCons (eBin mIdx (eVar 1) (eC (.int 6))) aNil)))))))) (aCons (eC (.bl true)) aNil)))) sNil)
    (sSeq (sAsg (gOne 2) (eBin mIdx (eVar 1) (eC (.int 2))))
    (sSeq (sIf (tB (eBin mEq (eVar 2) (eC (.int 0)))) (sAsg (gOne 2) (eBin mIdx (eVar 0) (eC (.int 1)))) sNil)
    (sRet (eTup (aCons (eTup (aCons (eBin mIdx (eVar 1) (eC (.int 0))) (aCons (eC (.int 0)) (aCons (eVar 2) (aCons (eBin mIdx (eVar 1) (eC (.int 3))) (aCons (eBin mIdx (eVar 1) (eC (.int 4))) (aCons (eBin mSub (eBin mIdx (eVar 1) (eC (.int 5))) (eC (.int 1))) (aCons (eBin mIdx (eVar 1) (eC (.int 6))) aNil)))))))) (aCons (eC (.bl false)) aNil)))))))
def m_extra_behind : Fn := fnD 2 3 b_extra_behind
/- def row_behind(lane, row, pins): 0=lane 1=row 2=pins 3=total 4=felled 5=done 6=ball 7=up 8=near 9=far 10=extra -/
def b_row_behind : MS := (sSeq (sAsg (gTupD [5, 6, 7, 8, 9, 10, 3]) (eVar 1))
    (sSeq (sAsg (gOne 3) (eBin mAdd (eVar 3) (eBin mMul (eVar 2) (eVar 8))))
    (sSeq (sIf (tB (eBin mGt (eVar 10) (eC (.int 0)))) (sRet (eCall m_extra_behind (aCons (eVar 0) (aCons (eTup (aCons (eVar 5) (aCons (eC (.int 0)) (aCons (eBin mSub (eVar 7) (eVar 2)) (aCons (eVar 9) (aCons (eC (.int 0)) (aCons (eVar 10) (aCons (eVar 3) aNil)))))))) aNil)))) sNil)
    (sSeq (sAsg (gOne 4) (eTup (aCons (eVar 5) (aCons (eBin mAdd (eVar 6) (eC (.int 1))) (aCons (eBin mSub (eVar 7) (eVar 2)) (aCons (eVar 9) (aCons (eC (.int 0)) (aCons (eC (.int 0)) (aCons (eBin mAdd (eVar 3) (eVar 2)) aNil)))))))))
    (sSeq (sIf (tAnd (tB (eBin mEq (eVar 7) (eVar 2))) (tB (eBin mEq (eVar 6) (eC (.int 0))))) (sRet (eCall m_frame_behind (aCons (eVar 0) (aCons (eVar 4) (aCons (eBin mAdd (eVar 9) (eC (.int 1))) (aCons (eC (.int 1)) (aCons (eC (.int 2)) aNil))))))) sNil)
    (sSeq (sIf (tB (eBin mEq (eVar 7) (eVar 2))) (sRet (eCall m_frame_behind (aCons (eVar 0) (aCons (eVar 4) (aCons (eBin mAdd (eVar 9) (eC (.int 1))) (aCons (eC (.int 0)) (aCons (eC (.int 1)) aNil))))))) sNil)
    (sSeq (sIf (tB (eBin mEq (eVar 6) (eC (.int 1)))) (sRet (eCall m_frame_behind (aCons (eVar 0) (aCons (eVar 4) (aCons (eVar 9) (aCons (eC (.int 0)) (aCons (eC (.int 0)) aNil))))))) sNil)
    (sRet (eTup (aCons (eVar 4) (aCons (eC (.bl false)) aNil)))))))))))
def m_row_behind : Fn := fnD 3 11 b_row_behind
/- def lane_bowled(lane, stand, pins): 0=lane 1=stand 2=pins 3=rows 4=side 5=row 6=ended 7=one -/
def b_lane_bowled : MS := (sSeq (sAsg (gTupD [3, 4]) (eVar 1))
    (sSeq (sIf (tNot (tTru (eCall m_is_between (aCons (eVar 2) (aCons (eC (.int 0)) (aCons (eBin mIdx (eBin mIdx (eVar 3) (eVar 4)) (eC (.int 2))) aNil)))))) (sRaise "NoPins") sNil)
    (sSeq (sAsg (gTupD [5, 6]) (eCall m_row_behind (aCons (eVar 0) (aCons (eBin mIdx (eVar 3) (eVar 4)) (aCons (eVar 2) aNil)))))
    (sSeq (sAsg (gOne 3) (eBin mAdd (eBin mAdd (eSl (eVar 3) oNone (oSome (eVar 4))) (eTup (aCons (eVar 5) aNil))) (eSl (eVar 3) (oSome (eBin mAdd (eVar 4) (eC (.int 1)))) oNone)))
    (sSeq (sIf (tTru (eVar 6)) (sAsg (gOne 4) (eBin mMod (eBin mAdd (eVar 4) (eC (.int 1))) (eBin mIdx (eVar 0) (eC (.int 0))))) sNil)
    (sRet (eTup (aCons (eTup (aCons (eVar 3) (aCons (eVar 4) aNil))) (aCons (eCallO nAll (aCons (eComp 7 (iAny (eVar 3)) tYesD (eBin mEq (eBin mIdx (eVar 7) (eC (.int 0))) (eBin mIdx (eVar 0) (eC (.int 2))))) aNil)) aNil)))))))))
def m_lane_bowled : Fn := fnD 3 8 b_lane_bowled
/- def best_of(stand): 0=stand 1=totals 2=row 3=side -/
def b_best_of : MS := (sSeq (sAsg (gOne 1) (eComp 2 (iAny (eBin mIdx (eVar 0) (eC (.int 0)))) tYesD (eBin mIdx (eVar 2) (eC (.int 6)))))
    (sRet (eCallO nTuple (aCons (eComp 3 (iRange1 (eCallO nLen (aCons (eVar 1) aNil))) (tB (eBin mEq (eBin mIdx (eVar 1) (eVar 3)) (eCallO nMax (aCons (eVar 1) aNil)))) (eVar 3)) aNil))))
def m_best_of : Fn := fnD 1 4 b_best_of
/- def l_lane(_law_tape_here): 0=_law_tape_here 1=_law_pins 2=_law_frames_here -/
def b_l_lane : MS := (sSeq (sAsg (gOne 1) (eBin mIdx (eLst (aCons (eBin mAdd (eC (.int 1)) (eCall m_l_draw (aCons (eVar 0) (aCons (eC (.int 4)) aNil)))) (aCons (eC (.int 10)) (aCons (eBin mAdd (eC (.int 1)) (eCall m_l_draw (aCons (eVar 0) (aCons (eC (.int 20)) aNil)))) aNil)))) (eCall m_l_draw (aCons (eVar 0) (aCons (eC (.int 3)) aNil)))))
    (sSeq (sAsg (gOne 2) (eBin mIdx (eLst (aCons (eBin mAdd (eC (.int 1)) (eCall m_l_draw (aCons (eVar 0) (aCons (eC (.int 3)) aNil)))) (aCons (eBin mAdd (eC (.int 1)) (eCall m_l_draw (aCons (eVar 0) (aCons (eC (.int 12)) aNil)))) aNil))) (eCall m_l_draw (aCons (eVar 0) (aCons (eC (.int 2)) aNil)))))
    (sRet (eTup (aCons (eBin mAdd (eC (.int 1)) (eCall m_l_draw (aCons (eVar 0) (aCons (eC (.int 3)) aNil)))) (aCons (eVar 1) (aCons (eVar 2) aNil)))))))
def m_l_lane : Fn := fnD 1 3 b_l_lane
/- def l_ball(_law_tape_here, _law_up): 0=_law_tape_here 1=_law_up -/
def b_l_ball : MS := (sRet (eBin mIdx (eLst (aCons (eVar 1) (aCons (eVar 1) (aCons (eCall m_l_draw (aCons (eVar 0) (aCons (eBin mAdd (eVar 1) (eC (.int 1))) aNil))) (aCons (eCallO nMax2 (aCons (eC (.int 0)) (aCons (eBin mSub (eVar 1) (eC (.int 1))) aNil))) (aCons (eC (.int 0)) aNil)))))) (eCall m_l_draw (aCons (eVar 0) (aCons (eC (.int 5)) aNil)))))
def m_l_ball : Fn := fnD 2 2 b_l_ball
end

def laneD (k : Nat) (P : Int) (n : Nat) : D := .tup [.int (k : Nat), .int P, .int (n : Nat)]
structure Lane (k : Nat) (P : Int) (n : Nat) : Prop where
  k0 : 1 ≤ k
  k1 : k ≤ 3
  p0 : 1 ≤ P
  p1 : P ≤ 20
  n0 : 1 ≤ n
  n1 : n ≤ 12
theorem between_ok (i lo hi : Int) (M : Mem) : m_is_between [.int i, .int lo, .int hi] M = .ok (.bl (decide (lo ≤ i) && decide (i ≤ hi))) M := by
  show endS (b_is_between [some (.int i), some (.int lo), some (.int hi)] M) = _
  unfold b_is_between
  by_cases c : lo ≤ i <;> simp [c]
def freshR (P : Int) : LRow := ⟨0, 0, P, 0, 0, 0, 0⟩
def standD (rows : List LRow) (side : Nat) : D := .tup [.tup (rows.map LRow.toD), .int (side : Nat)]
theorem lane_begun_ok {k : Nat} {P : Int} {n : Nat} (l : Lane k P n) (M : Mem) : m_lane_begun [laneD k P n] M = .ok (standD (List.replicate k (freshR P)) 0) M := by
  show endS (b_lane_begun [some (laneD k P n)] M) = _
  unfold b_lane_begun laneD
  have h0 := l.k0
  have h1 := l.k1
  rcases (show k = 1 ∨ k = 2 ∨ k = 3 by omega) with rfl | rfl | rfl
  · simp [mMul, standD, freshR, LRow.toD]
  · simp [mMul, standD, freshR, LRow.toD, List.replicate]
  · simp [mMul, standD, freshR, LRow.toD, List.replicate]
theorem frame_ok {k : Nat} {P : Int} {n : Nat} (r : LRow) (near far earned : Int) (M : Mem) : m_frame_behind [laneD k P n, r.toD, .int near, .int far, .int earned] M = .ok (.tup [(frameB P n r near far earned).1.toD, .bl (frameB P n r near far earned).2]) M := by
  show endS (b_frame_behind [some (laneD k P n), some r.toD, some (.int near), some (.int far), some (.int earned)] M) = _
  unfold b_frame_behind laneD LRow.toD frameB
  by_cases c : r.done = (n : Int) - 1
  · by_cases c2 : 0 < earned
    · simp [c, c2]
    · simp [c, c2]
  · simp [c]
theorem extra_ok {k : Nat} {P : Int} {n : Nat} (r : LRow) (M : Mem) : m_extra_behind [laneD k P n, r.toD] M = .ok (.tup [(extraB P r).1.toD, .bl (extraB P r).2]) M := by
  show endS (b_extra_behind [some (laneD k P n), some r.toD, none] M) = _
  unfold b_extra_behind laneD LRow.toD extraB
  by_cases c : r.extra = 1
  · simp [c]
  · by_cases c2 : r.up = 0
    · simp [c, c2]
    · simp [c, c2]
theorem row_behind_ok {k : Nat} {P : Int} {n : Nat} (r : LRow) {p : Int} (h0 : 0 ≤ p) (h1 : p ≤ 100) (M : Mem) : m_row_behind [laneD k P n, r.toD, .int p] M = .ok (.tup [(stepR P n r p).1.toD, .bl (stepR P n r p).2]) M := by
  show endS (b_row_behind [some (laneD k P n), some r.toD, some (.int p), none, none, none, none, none, none, none, none] M) = _
  unfold b_row_behind stepR
  have hm : ∀ M, mMul (.int p) (.int r.near) M = some (.int (p * r.near), M) := fun M => by rw [mMul_int, if_pos (by omega)]
  have hex := fun x => extra_ok (k := k) (P := P) (n := n) x M
  have hfr := fun x a b c => frame_ok (k := k) (P := P) (n := n) x a b c M
  unfold LRow.toD at *
  by_cases c : 0 < r.extra
  · have h := hex ⟨r.done, 0, r.up - p, r.far, 0, r.extra, r.total + p * r.near⟩
    simp only at h
    simp [-mMul_int, hm, c, h]
  · by_cases c2 : r.up = p
    · by_cases c3 : r.ball = 0
      · have h := hfr ⟨r.done, r.ball + 1, r.up - p, r.far, 0, 0, r.total + p * r.near + p⟩ (r.far + 1) 1 2
        simp only [c2, c3] at h
        simp at h
        simp [-mMul_int, hm, c, c2, c3, h]
      · have h := hfr ⟨r.done, r.ball + 1, r.up - p, r.far, 0, 0, r.total + p * r.near + p⟩ (r.far + 1) 0 1
        simp only [c2] at h
        simp at h
        simp [-mMul_int, hm, c, c2, c3, h]
    · by_cases c3 : r.ball = 1
      · have h := hfr ⟨r.done, r.ball + 1, r.up - p, r.far, 0, 0, r.total + p * r.near + p⟩ r.far 0 0
        simp only [c3] at h
        simp at h
        simp [-mMul_int, hm, c, c2, c3, h]
      · simp [-mMul_int, hm, c, c2, c3]
/-! the best sides -/
def isBest (ts : List Int) : D → Bool
  | .int i => decide (ts[i.toNat]? = some (maxI ts))
  | _ => false
def bestD (ts : List Int) : List D := (rngItems 0 ts.length).filter (isBest ts)
theorem best_comp {i j n : Nat} {S : ME} {env : TL.Env} {M : Mem} {ts : List Int} (hS : S env M = .ok (.int (ts.length : Nat)) M) (hj : env[j]? = some (some (.ref n))) (hi : i < env.length) (hij : i ≠ j) (hn : seqAt M n = some (ts.map D.int)) (hne : ts ≠ []) (hl : ts.length ≤ 1000) :
    eComp i (iRange1 S) (TL.tB (eBin mEq (eBin mIdx (eVar j) (eVar i)) (eCallO nMax (aCons (eVar j) aNil)))) (eVar i) env M = .ok (.ref M.length) (M ++ [.lst (bestD ts)]) := by
  have h := eComp_pure (i := i) (s := iRange1 S) (t := TL.tB (eBin mEq (eBin mIdx (eVar j) (eVar i)) (eCallO nMax (aCons (eVar j) aNil)))) (e := eVar i) (env := env) (M := M) (M1 := M) (src := ⟨rngItems 0 ts.length, fun _ => True⟩) (isBest ts) (fun d => d)
    (by simp [hS, rngOk_nat (show ts.length ≤ 1000000 by omega)]) (fun _ => trivial) (by rw [rng_length]; omega) (fun d hd ys => by
      obtain ⟨k, hk, rfl⟩ := mem_rng hd
      have e1 : (env.set i (some (D.int (0 + (k : Int)))))[j]? = some (some (.ref n)) := by rw [List.getElem?_set_ne hij]; exact hj
      have e2 : (env.set i (some (D.int (0 + (k : Int)))))[i]? = some (some (D.int (0 + (k : Int)))) := List.getElem?_set_self hi
      have hs := (Keep.more M [.lst ys]).seq hn
      have hat : atI (ts.map D.int) (k : Int) = some (.int ts[k]) := atI_nat (by rw [List.getElem?_map, List.getElem?_eq_getElem hk]; rfl)
      have hm := nMax_ints hs hne
      have hb : isBest ts (.int (k : Int)) = decide (ts[k] = maxI ts) := by
        simp only [isBest, Int.toNat_natCast, List.getElem?_eq_getElem hk, Option.some.injEq]
      refine ⟨?_, fun _ => ?_⟩
      · simp only [Int.zero_add] at e1 e2 ⊢
        simp [e1, e2, hs, hat, hm, hb]
      · simp only [Int.zero_add] at e1 e2 ⊢
        simp [e2])
  rw [h]
  simp [bestD]
theorem best_of_ok {rows : List LRow} (hr : rows ≠ []) (hl : rows.length ≤ 1000) (side : Nat) (M : Mem) : ∃ M', m_best_of [standD rows side] M = .ok (.tup (bestD (rows.map LRow.total))) M' ∧ Keep M M' := by
  have h1 := eComp_pure (i := 2) (s := iAny (eBin mIdx (eVar 0) (eC (.int 0)))) (t := tYesD) (e := eBin mIdx (eVar 2) (eC (.int 6))) (env := [some (standD rows side), none, none, none]) (M := M) (M1 := M) (src := ⟨rows.map LRow.toD, fun _ => True⟩) (fun _ => true) (fun d => match d with | .tup [_, _, _, _, _, _, x] => x | _ => .non)
    (by simp [standD]) (fun _ => trivial) (by simp; omega) (fun d hd ys => by
      obtain ⟨r, _, rfl⟩ := List.mem_map.mp hd
      exact ⟨rfl, fun _ => by simp [LRow.toD]⟩)
  have e1 : ((rows.map LRow.toD).filter fun _ => true).map (fun d => match d with | .tup [_, _, _, _, _, _, x] => x | _ => D.non) = (rows.map LRow.total).map D.int := by
    rw [List.filter_eq_self.mpr (fun _ _ => rfl), List.map_map, List.map_map]
    exact List.map_congr_left fun r _ => rfl
  simp only [e1] at h1
  obtain ⟨ts, hts⟩ : ∃ ts, ts = rows.map LRow.total := ⟨_, rfl⟩
  have hne : ts ≠ [] := by rw [hts]; simpa using hr
  have htl : ts.length ≤ 1000 := by rw [hts]; simpa using hl
  rw [← hts] at h1 ⊢
  clear e1 hts
  have hs : seqAt (M ++ [.lst (ts.map D.int)]) M.length = some (ts.map D.int) := seqAt_lst (at_len _ _)
  have h2 := best_comp (i := 3) (j := 1) (n := M.length) (S := eCallO nLen (aCons (eVar 1) aNil)) (env := [some (standD rows side), some (.ref M.length), none, none]) (M := M ++ [.lst (ts.map D.int)]) (ts := ts)
    (by simp [hs]) rfl (by simp) (by decide) hs hne htl
  refine ⟨M ++ [.lst (ts.map D.int)] ++ [.lst (bestD ts)], ?_, by rw [List.append_assoc]; exact Keep.more _ _⟩
  show endS (b_best_of [some (standD rows side), none, none, none] M) = _
  unfold b_best_of
  simp [-eComp_ap, h1, h2]
  rw [nTuple_ref (seqAt_lst (xs := bestD ts) (by simp))]
  simp
/-! drawn lanes and balls -/
def LaneQ (t : Nat) (M : Mem) (d : D) (M' : Mem) : Prop := ∃ (k : Nat) (P : Int) (n : Nat), d = laneD k P n ∧ Lane k P n ∧ Adv t M M'
theorem l_lane_ok {M : Mem} {t : Nat} (T : Tape M t) : Ret (m_l_lane [.ref t] M) (LaneQ t M) := by
  show Ret (endS (b_l_lane [some (.ref t), none, none] M)) _
  unfold b_l_lane
  simp
  refine Ret.bind (draw T (by decide) (by decide)) ?_
  rintro _ M1 ⟨r1, rfl, a0, a1, A1⟩
  simp
  refine Ret.bind (draw A1.tape (by decide) (by decide)) ?_
  rintro _ M2 ⟨r2, rfl, b0, b1, A2⟩
  simp
  have n2 : M2.length ≠ t := fun e => by have := A2.tape.lt; omega
  refine Ret.bind (draw (A2.tape.keep (Keep.more M2 _)) (by decide) (by decide)) ?_
  rintro _ M3 ⟨r3, rfl, c0, c1, A3⟩
  have l3 := A3.at (at_len M2 _) n2
  have a3 := A1.trans (A2.trans ((Adv.of A2.tape (Keep.more M2 _)).trans A3))
  obtain ⟨P, eP, hP⟩ : ∃ P : Int, mIdx (.ref M2.length) (.int r3) M3 = some (.int P, M3) ∧ 1 ≤ P ∧ P ≤ 20 := by
    rcases (show r3 = 0 ∨ r3 = 1 ∨ r3 = 2 by omega) with rfl | rfl | rfl
    · exact ⟨1 + r1, by simp [seqAt_lst l3], by omega⟩
    · exact ⟨10, by simp [seqAt_lst l3], by omega⟩
    · exact ⟨1 + r2, by simp [seqAt_lst l3], by omega⟩
  simp [eP]
  refine Ret.bind (draw A3.tape (by decide) (by decide)) ?_
  rintro _ M4 ⟨r4, rfl, d0, d1, A4⟩
  simp
  refine Ret.bind (draw A4.tape (by decide) (by decide)) ?_
  rintro _ M5 ⟨r5, rfl, e0, e1, A5⟩
  simp
  have n5 : M5.length ≠ t := fun e => by have := A5.tape.lt; omega
  refine Ret.bind (draw (A5.tape.keep (Keep.more M5 _)) (by decide) (by decide)) ?_
  rintro _ M6 ⟨r6, rfl, f0, f1, A6⟩
  have l6 := A6.at (at_len M5 _) n5
  have a6 := a3.trans (A4.trans (A5.trans ((Adv.of A5.tape (Keep.more M5 _)).trans A6)))
  obtain ⟨n, en, hn⟩ : ∃ n : Nat, mIdx (.ref M5.length) (.int r6) M6 = some (.int (n : Nat), M6) ∧ 1 ≤ n ∧ n ≤ 12 := by
    rcases (show r6 = 0 ∨ r6 = 1 by omega) with rfl | rfl
    · exact ⟨(1 + r4).toNat, by simp [seqAt_lst l6]; omega, by omega⟩
    · exact ⟨(1 + r5).toNat, by simp [seqAt_lst l6]; omega, by omega⟩
  simp [en]
  refine Ret.bind (draw A6.tape (by decide) (by decide)) ?_
  rintro _ M7 ⟨r7, rfl, g0, g1, A7⟩
  refine .ok ⟨(1 + r7).toNat, P, n, ?_, ⟨by omega, by omega, hP.1, hP.2, hn.1, hn.2⟩, a6.trans A7⟩
  unfold laneD
  rw [show (((1 + r7).toNat : Nat) : Int) = 1 + r7 by omega]
def BallQ (t : Nat) (M : Mem) (up : Int) (d : D) (M' : Mem) : Prop := ∃ p : Int, d = .int p ∧ 0 ≤ p ∧ p ≤ up ∧ Adv t M M'
theorem l_ball_ok {M : Mem} {t : Nat} {up : Int} (T : Tape M t) (h0 : 0 ≤ up) (h1 : up ≤ 100) : Ret (m_l_ball [.ref t, .int up] M) (BallQ t M up) := by
  show Ret (endS (b_l_ball [some (.ref t), some (.int up)] M)) _
  unfold b_l_ball
  simp
  refine Ret.bind (draw T (by omega) (by omega)) ?_
  rintro _ M1 ⟨r1, rfl, a0, a1, A1⟩
  have n1 : M1.length ≠ t := fun e => by have := A1.tape.lt; omega
  refine Ret.bind (draw (A1.tape.keep (Keep.more M1 _)) (by decide) (by decide)) ?_
  rintro _ M2 ⟨r2, rfl, b0, b1, A2⟩
  have l2 := A2.at (at_len M1 _) n1
  have a2 := A1.trans ((Adv.of A1.tape (Keep.more M1 _)).trans A2)
  rcases (show r2 = 0 ∨ r2 = 1 ∨ r2 = 2 ∨ r2 = 3 ∨ r2 = 4 by omega) with rfl | rfl | rfl | rfl | rfl
  · simp [seqAt_lst l2]; exact .ok ⟨_, rfl, h0, Int.le_refl _, a2⟩
  · simp [seqAt_lst l2]; exact .ok ⟨_, rfl, h0, Int.le_refl _, a2⟩
  · simp [seqAt_lst l2]; exact .ok ⟨_, rfl, a0, by omega, a2⟩
  · simp [seqAt_lst l2]; exact .ok ⟨_, rfl, by split <;> omega, by split <;> omega, a2⟩
  · simp [seqAt_lst l2]; exact .ok ⟨_, rfl, Int.le_refl _, h0, a2⟩
end CM
end
section
set_option maxHeartbeats 4000000
/-! two things alike, in kind too: a thing is like itself -/
namespace CF
open PySem PySem.Spec PyProof.Rows L2 TL TLQ
noncomputable section
/- def l_alike(_law_due, _law_found): 0=_law_due 1=_law_found 2=_law_k -/
def b_l_alike (r_l_alike : Fn) : MS := (sSeq (sIf (tOr (tTru (eIsi "tuple" (eVar 0))) (tTru (eIsi "list" (eVar 0)))) (sSeq (sIf (tOr (tB (eBin mNe (eIsi "tuple" (eVar 0)) (eIsi "tuple" (eVar 1)))) (tB (eBin mNe (eIsi "list" (eVar 0)) (eIsi "list" (eVar 1))))) (sRet (eC (.bl false))) sNil)
    (sRet (eAnd (eBin mEq (eCallO nLen (aCons (eVar 0) aNil)) (eCallO nLen (aCons (eVar 1) aNil))) (eCallO nAll (aCons (eComp 2 (iRange1 (eCallO nLen (aCons (eVar 0) aNil))) tYesD (eCall r_l_alike (aCons (eBin mIdx (eVar 0) (eVar 2)) (aCons (eBin mIdx (eVar 1) (eVar 2)) aNil)))) aNil))))) sNil)
    (sSeq (sIf (tB (eBin mIs (eVar 0) (eC .non))) (sRet (eBin mIs (eVar 1) (eC .non))) sNil)
    (sSeq (sIf (tTru (eIsi "str" (eVar 0))) (sRet (eAnd (eIsi "str" (eVar 1)) (eBin mEq (eVar 1) (eVar 0)))) sNil)
    (sSeq (sIf (tTru (eIsi "bool" (eVar 0))) (sRet (eAnd (eIsi "bool" (eVar 1)) (eBin mEq (eVar 1) (eVar 0)))) sNil)
    (sRet (eAnd (eIsi "int" (eVar 1)) (eAnd (eNot (eIsi "bool" (eVar 1))) (eBin mEq (eVar 1) (eVar 0)))))))))
def m_l_alike : Nat → Fn
  | 0 => noFn
  | n + 1 => fnD 2 3 (b_l_alike (m_l_alike n))
end

/-- flat, its text a text -/
def FlatOk : D → Prop
  | .non => True
  | .bl _ => True
  | .int _ => True
  | .str x => PyData.strOk x = true
  | _ => False
/-- the same, lists by what they hold, at most n deep -/
def SameN (M : Mem) : Nat → D → D → Prop
  | 0, d, e => FlatOk d ∧ d = e
  | n + 1, d, e => (FlatOk d ∧ d = e) ∨ ∃ xs ys : List D, ((d = .tup xs ∧ e = .tup ys) ∨ ∃ a b, d = .ref a ∧ e = .ref b ∧ seqAt M a = some xs ∧ seqAt M b = some ys) ∧ xs.length = ys.length ∧ xs.length ≤ 100000 ∧
      ∀ (i : Nat) (x y : D), xs[i]? = some x → ys[i]? = some y → SameN M n x y
theorem SameN.keep {M M' : Mem} (k : Keep M M') : ∀ {n : Nat} {d e : D}, SameN M n d e → SameN M' n d e
  | 0, _, _, h => h
  | n + 1, _, _, .inl h => .inl h
  | n + 1, _, _, .inr ⟨xs, ys, h1, h2, h3, h4⟩ => .inr ⟨xs, ys, h1.imp id fun ⟨a, b, e1, e2, e3, e4⟩ => ⟨a, b, e1, e2, k.seq e3, k.seq e4⟩, h2, h3, fun i x y a b => (h4 i x y a b).keep k⟩
theorem alike_flat {d : D} (h : FlatOk d) (n : Nat) (M : Mem) : m_l_alike (n + 1) [d, d] M = .ok (.bl true) M := by
  show endS (b_l_alike (m_l_alike n) [some d, some d, none] M) = _
  unfold b_l_alike
  cases d with
  | str x =>
    have h' : PyData.strOk x = true := h
    have e : mEq (.str x) (.str x) M = some (.bl true, M) := by
      rw [mEq_eq, eqD_pure (n := 0) (m := 0) (by simpa [pureD] using h') (by simpa [pureD] using h') (by decide) (by decide)]; simp [pyD, PyData.eqv]
    simp [e]
  | tup xs => exact h.elim
  | ref n => exact h.elim
  | err x => exact h.elim
  | _ => simp
theorem alike_same : ∀ (f n : Nat) (d e : D) (M : Mem), n < f → SameN M n d e → Ret (m_l_alike f [d, e] M) (TL.Gives M (.bl true))
  | 0, _, _, _, _, h, _ => by omega
  | f + 1, 0, d, e, M, _, ⟨h, he⟩ => by subst he; rw [alike_flat h]; exact .ok ⟨rfl, Keep.refl _⟩
  | f + 1, n + 1, d, e, M, _, .inl ⟨h, he⟩ => by subst he; rw [alike_flat h]; exact .ok ⟨rfl, Keep.refl _⟩
  | f + 1, n + 1, d, e, M, hf, .inr ⟨xs, ys, hde, hl, hm, hs⟩ => by
    show Ret (endS (b_l_alike (m_l_alike f) [some d, some e, none] M)) _
    have hr : RngOk (ys.length : Int) := rngOk_nat (by omega)
    have fin : ∀ env : TL.Env, env[0]? = some (some d) → env[1]? = some (some e) → env.length = 3 → Ret (compL (fun _ => True) 2 tYesD (eCall (m_l_alike f) (aCons (eBin mIdx (eVar 0) (eVar 2)) (aCons (eBin mIdx (eVar 1) (eVar 2)) aNil))) M.length env (rngItems 0 ys.length) (M ++ [.lst []]))
        (fun _ M2 => Keep M M2 ∧ nAll [.ref M.length] M2 = some (.bl true, M2)) := by
      intro env h0 h1 h3
      refine Ret.comp (fun _ => .bl true) (fun _ _ => trivial) (by rw [rng_length]; omega) (fun x hx M' k' => ?_) fun M2 k2 a2 => ⟨k2, ?_⟩
      · obtain ⟨i, hi, rfl⟩ := mem_rng hx
        have e2 : (env.set 2 (some (D.int (0 + (i : Int)))))[2]? = some (some (D.int (0 + (i : Int)))) := List.getElem?_set_self (by omega)
        have e0 : (env.set 2 (some (D.int (0 + (i : Int)))))[0]? = some (some d) := by rw [List.getElem?_set_ne (by decide)]; exact h0
        have e1 : (env.set 2 (some (D.int (0 + (i : Int)))))[1]? = some (some e) := by rw [List.getElem?_set_ne (by decide)]; exact h1
        have gx : xs[i]? = some xs[i] := List.getElem?_eq_getElem (by omega)
        have gy : ys[i]? = some ys[i] := List.getElem?_eq_getElem hi
        have ix : mIdx d (.int (i : Int)) M' = some (xs[i], M') := by
          rcases hde with ⟨rfl, rfl⟩ | ⟨a, b, rfl, rfl, sa, sb⟩
          · simp [atI_nat gx]
          · simp [k'.seq sa, atI_nat gx]
        have iy : mIdx e (.int (i : Int)) M' = some (ys[i], M') := by
          rcases hde with ⟨rfl, rfl⟩ | ⟨a, b, rfl, rfl, sa, sb⟩
          · simp [atI_nat gy]
          · simp [k'.seq sb, atI_nat gy]
        simp only [Int.zero_add] at e0 e1 e2 ⊢
        simp [e0, e1, e2, ix, iy]
        exact alike_same f n _ _ M' (by omega) ((hs i _ _ gx gy).keep k')
      · have := nAll_bls (M := M2) (n := M.length) (bs := (rngItems 0 ys.length).map fun _ => true) (seqAt_lst (by rw [a2]; simp))
        rw [this]
        simp
    unfold b_l_alike
    rcases hde with ⟨rfl, rfl⟩ | ⟨a, b, rfl, rfl, sa, sb⟩
    · simp [hl, hr]
      refine Ret.bindQ (fin _ rfl rfl rfl) ?_
      rintro _ M2 ⟨k2, e2⟩
      simp [e2]
      exact .ok ⟨rfl, k2⟩
    · simp [hl, hr, mIsi_ref sa, mIsi_ref sb, sa, sb]
      refine Ret.bindQ (fin _ rfl rfl rfl) ?_
      rintro _ M2 ⟨k2, e2⟩
      simp [e2]
      exact .ok ⟨rfl, k2⟩
/-! data without memory are the same as themselves -/
mutual
def smallD : D → Bool
  | .tup xs => decide (xs.length ≤ 1000) && smallL xs
  | _ => true
def smallL : List D → Bool
  | [] => true
  | x :: xs => smallD x && smallL xs
end
theorem small_at : ∀ {xs : List D} {i : Nat} {x : D}, smallL xs = true → xs[i]? = some x → smallD x = true
  | [], _, _, _, h => by simp at h
  | y :: xs, 0, x, h, e => by simp at e; subst e; exact (Bool.and_eq_true_iff.mp (by simpa [smallL] using h)).1
  | y :: xs, i + 1, x, h, e => small_at (Bool.and_eq_true_iff.mp (show (smallD y && smallL xs) = true by simpa [smallL] using h)).2 (by simpa using e)
theorem pure_at : ∀ {xs : List D} {n i : Nat} {x : D}, pureL xs n = true → xs[i]? = some x → pureD x n = true
  | [], _, _, _, _, h => by simp at h
  | y :: xs, n, 0, x, h, e => by simp at e; subst e; exact (Bool.and_eq_true_iff.mp (by simpa [pureL] using h)).1
  | y :: xs, n, i + 1, x, h, e => pure_at (Bool.and_eq_true_iff.mp (show (pureD y n && pureL xs n) = true by simpa [pureL] using h)).2 (by simpa using e)
theorem same_pure {M : Mem} : ∀ (n : Nat) (d : D), pureD d n = true → smallD d = true → SameN M n d d
  | 0, d, h, s => by
    cases d with
    | tup xs => simp [pureD] at h
    | ref n => simp [pureD] at h
    | err n => simp [pureD] at h
    | str x => exact ⟨show PyData.strOk x = true by simpa [pureD] using h, rfl⟩
    | _ => exact ⟨trivial, rfl⟩
  | n + 1, d, h, s => by
    cases d with
    | tup xs =>
      have h' : pureL xs n = true := by simpa [pureD] using h
      have s' : xs.length ≤ 1000 ∧ smallL xs = true := by simpa [smallD] using s
      refine .inr ⟨xs, xs, .inl ⟨rfl, rfl⟩, rfl, (Nat.le_trans s'.1 (by decide)), fun i x y hx hy => ?_⟩
      rw [hx] at hy
      cases hy
      exact same_pure n x (pure_at h' hx) (small_at s'.2 hx)
    | ref n => simp [pureD] at h
    | err n => simp [pureD] at h
    | str x => exact .inl ⟨show PyData.strOk x = true by simpa [pureD] using h, rfl⟩
    | _ => exact .inl ⟨trivial, rfl⟩
/-- a thing without memory is alike to itself -/
theorem alike_pure {d : D} {n f : Nat} (h : pureD d n = true) (s : smallD d = true) (hf : n < f) (M : Mem) : ∃ M', m_l_alike f [d, d] M = .ok (.bl true) M' ∧ Keep M M' :=
  gives_of (alike_same f n d d M hf (same_pure n d h s))
end CF
end
section
/-! downs as data -/
namespace RD
open PySem PySem.Spec PyProof.Rows L2 TL
structure Thr where
  name : Str
  worth : Int
  ends : Bool
  deriving Inhabited
def Thr.toD (t : Thr) : D := .tup [.str t.name, .int t.worth, .bl t.ends]
structure Down where
  sides : Nat
  start : Int
  turn : Nat
  throws : List Thr
def Down.toD (d : Down) : D := .tup [.int (d.sides : Nat), .int d.start, .int (d.turn : Nat), .tup (d.throws.map Thr.toD)]
/-- small letters -/
def letter (c : Nat) : Bool := decide (97 ≤ c) && decide (c ≤ 122)
def figure (c : Nat) : Bool := decide (48 ≤ c) && decide (c ≤ 57)
def sign (c : Nat) : Bool := letter c || figure c
def nameL (l : List Nat) : Bool := (match l with
  | [] => false
  | c :: _ => letter c) && (decide (l.length ≤ 8) && l.all sign)
def nameB (x : Str) : Bool := nameL x.cps.toList
structure Good (ts : List Thr) : Prop where
  nd : (ts.map (·.name)).Nodup
  nm : ∀ t ∈ ts, nameB t.name = true
  w0 : ∀ t ∈ ts, 0 ≤ t.worth ∧ t.worth ≤ 1000000
structure DownOk (d : Down) : Prop where
  s0 : 1 ≤ d.sides
  s1 : d.sides ≤ 3
  b0 : 1 ≤ d.start
  b1 : d.start ≤ 1000000
  t0 : 1 ≤ d.turn
  t1 : d.turn ≤ 3
  n0 : 1 ≤ d.throws.length
  n1 : d.throws.length ≤ 30
  good : Good d.throws
/-! names -/
def S (l : List Nat) : Str := ⟨l.toArray⟩
theorem S_tl (l : List Nat) : (S l).cps.toList = l := by simp [S]
theorem S_inj {a b : List Nat} (h : S a = S b) : a = b := by rw [← S_tl a, h, S_tl]
theorem S_len (l : List Nat) : (S l).length = l.length := by
  show (S l).cps.size = _
  simp [S]
theorem sign_lt {c : Nat} (h : sign c = true) : c < 123 := by
  unfold sign letter figure at h
  simp at h
  omega
theorem name_strOk {x : Str} (h : nameB x = true) : PyData.strOk x = true := by
  unfold nameB nameL at h
  unfold PyData.strOk
  rw [← Array.all_toList]
  obtain ⟨_, h2⟩ := Bool.and_eq_true_iff.mp h
  obtain ⟨_, h3⟩ := Bool.and_eq_true_iff.mp h2
  simp only [List.all_eq_true, decide_eq_true_eq] at h3 ⊢
  exact fun c hc => Nat.lt_trans (sign_lt (h3 c hc)) (by decide)
theorem name_len {x : Str} (h : nameB x = true) : 1 ≤ x.length ∧ x.length ≤ 8 := by
  unfold nameB nameL at h
  show 1 ≤ x.cps.size ∧ x.cps.size ≤ 8
  rw [← Array.length_toList]
  obtain ⟨h1, h2⟩ := Bool.and_eq_true_iff.mp h
  obtain ⟨h3, _⟩ := Bool.and_eq_true_iff.mp h2
  refine ⟨?_, of_decide_eq_true h3⟩
  cases q : x.cps.toList with
  | nil => rw [q] at h1; cases h1
  | cons c l => simp
/-- beginnings of a word -/
def begs (w : List Nat) : List Str := (List.range 8).map fun k => S (w.take (k + 1))
theorem beg_name {w : List Nat} (hl : w.length = 8) (hw : ∀ c ∈ w, letter c = true) {k : Nat} (hk : k < 8) : nameB (S (w.take (k + 1))) = true := by
  unfold nameB
  rw [S_tl]
  unfold nameL
  cases w with
  | nil => simp at hl
  | cons c r =>
    rw [List.take_succ_cons]
    refine Bool.and_eq_true_iff.mpr ⟨hw c List.mem_cons_self, Bool.and_eq_true_iff.mpr ⟨decide_eq_true ?_, ?_⟩⟩
    · simp; omega
    · rw [List.all_eq_true]
      intro x hx
      have : x ∈ c :: r := by
        rcases List.mem_cons.mp hx with rfl | hx
        · exact List.mem_cons_self
        · exact List.mem_cons_of_mem _ (List.mem_of_mem_take hx)
      simp [sign, hw x this]
theorem nodup_map {α β : Type} {f : α → β} : ∀ {l : List α}, (∀ a ∈ l, ∀ b ∈ l, f a = f b → a = b) → l.Nodup → (l.map f).Nodup
  | [], _, _ => List.nodup_nil
  | x :: l, h, nd => by
    obtain ⟨n1, n2⟩ := List.nodup_cons.mp nd
    rw [List.map_cons]
    refine List.nodup_cons.mpr ⟨fun hx => ?_, nodup_map (fun a ha b hb => h a (List.mem_cons_of_mem _ ha) b (List.mem_cons_of_mem _ hb)) n2⟩
    obtain ⟨y, hy, e⟩ := List.mem_map.mp hx
    exact n1 (h y (List.mem_cons_of_mem _ hy) x List.mem_cons_self e ▸ hy)
theorem begs_nodup {w : List Nat} (hl : w.length = 8) : (begs w).Nodup := by
  unfold begs
  refine nodup_map ?_ List.nodup_range
  intro a ha b hb e
  have := congrArg List.length (S_inj e)
  simp [hl] at this
  have ha := List.mem_range.mp ha
  have hb := List.mem_range.mp hb
  omega
theorem begs_len (w : List Nat) : (begs w).length = 8 := by simp [begs]
/-- turned about, cut -/
def turned {α : Type} (xs : List α) (k m : Nat) : List α := (xs.drop k ++ xs.take k).take m
theorem turned_perm {α : Type} (xs : List α) (k : Nat) : (xs.drop k ++ xs.take k).Perm xs := by
  have := List.take_append_drop k xs
  exact (List.perm_append_comm).trans (by rw [this])
theorem turned_nodup {α : Type} {xs : List α} (h : xs.Nodup) (k m : Nat) : (turned xs k m).Nodup := ((turned_perm xs k).nodup_iff.mpr h).sublist (List.take_sublist _ _)
theorem turned_mem {α : Type} {xs : List α} {k m : Nat} {x : α} (h : x ∈ turned xs k m) : x ∈ xs := (turned_perm xs k).mem_iff.mp (List.mem_of_mem_take h)
theorem turned_len {α : Type} {xs : List α} {k m : Nat} (h : m ≤ xs.length) : (turned xs k m).length = m := by
  unfold turned
  rw [List.length_take, (turned_perm xs k).length_eq]
  omega
def signs : List Nat := (List.range 26).map (97 + ·) ++ (List.range 10).map (48 + ·)
theorem signs_len : signs.length = 36 := by decide
theorem signs_nodup : signs.Nodup := by decide
theorem signs_sign : ∀ c ∈ signs, sign c = true := by decide
/-- names that differ at one place -/
def oneAt (w : List Nat) (at_ size : Nat) (c : Nat) : List Nat := w.take at_ ++ [c] ++ (w.drop (at_ + 1)).take (size - (at_ + 1))
def ones (w : List Nat) (at_ size start many : Nat) : List Str := (List.range many).map fun k => S (oneAt w at_ size (signs.getD ((start + 5 * k) % 36) 0))
theorem one_name {w : List Nat} (hl : w.length = 8) (hw : ∀ c ∈ w, letter c = true) {at_ size c : Nat} (h1 : 1 ≤ at_) (h2 : at_ < size) (h3 : size ≤ 8) (hc : sign c = true) : nameB (S (oneAt w at_ size c)) = true := by
  unfold nameB
  rw [S_tl]
  unfold nameL oneAt
  cases w with
  | nil => simp at hl
  | cons d r =>
    obtain ⟨a, rfl⟩ : ∃ a, at_ = a + 1 := ⟨at_ - 1, by omega⟩
    rw [List.take_succ_cons]
    refine Bool.and_eq_true_iff.mpr ⟨hw d List.mem_cons_self, Bool.and_eq_true_iff.mpr ⟨decide_eq_true ?_, ?_⟩⟩
    · simp at hl ⊢; omega
    · rw [List.all_eq_true]
      intro x hx
      have z : x = c ∨ x ∈ d :: r := by
        simp only [List.cons_append, List.mem_cons, List.mem_append, List.append_assoc] at hx
        rcases hx with rfl | hx | rfl | hx | hx
        · exact .inr List.mem_cons_self
        · exact .inr (List.mem_cons_of_mem _ (List.mem_of_mem_take hx))
        · exact .inl rfl
        · cases hx
        · exact .inr (List.mem_of_mem_drop (List.mem_of_mem_take hx))
      rcases z with rfl | z
      · exact hc
      · simp [sign, hw x z]
theorem one_inj {w : List Nat} {at_ size c d : Nat} (ha : at_ < w.length) (h : oneAt w at_ size c = oneAt w at_ size d) : c = d := by
  unfold oneAt at h
  have l1 : (w.take at_).length = at_ := by rw [List.length_take]; omega
  have h1 := congrArg (List.drop at_) h
  rw [List.append_assoc, List.append_assoc, List.drop_append_of_le_length (by omega), List.drop_append_of_le_length (by omega)] at h1
  rw [List.drop_of_length_le (by omega)] at h1
  simpa using h1
theorem five_inj {a b s : Nat} (ha : a < 30) (hb : b < 30) (h : (s + 5 * a) % 36 = (s + 5 * b) % 36) : a = b := by omega
theorem ones_nodup {w : List Nat} {at_ size start many : Nat} (ha : at_ < w.length) (hm : many ≤ 30) : (ones w at_ size start many).Nodup := by
  unfold ones
  refine nodup_map ?_ List.nodup_range
  intro a ha' b hb e
  have ha' := List.mem_range.mp ha'
  have hb := List.mem_range.mp hb
  have h1 := one_inj ha (S_inj e)
  have la : (start + 5 * a) % 36 < signs.length := by rw [signs_len]; exact Nat.mod_lt _ (by decide)
  have lb : (start + 5 * b) % 36 < signs.length := by rw [signs_len]; exact Nat.mod_lt _ (by decide)
  rw [List.getD_eq_getElem?_getD, List.getElem?_eq_getElem la, List.getD_eq_getElem?_getD, List.getElem?_eq_getElem lb] at h1
  simp only [Option.getD_some] at h1
  exact five_inj (by omega) (by omega) ((List.getElem_inj signs_nodup).mp h1)
theorem ones_len (w : List Nat) (at_ size start many : Nat) : (ones w at_ size start many).length = many := by simp [ones]
end RD
end
section
set_option maxHeartbeats 4000000
/-! drawn downs -/
namespace CM
open PySem PySem.Spec PyProof.Rows L2 TL TLQ RD
noncomputable section
/- def l_great(_law_tape_here): 0=_law_tape_here -/
def b_l_great : MS := (sRet (eBin mAdd (eBin mMul (eC (.int 1000)) (eCall m_l_draw (aCons (eVar 0) (aCons (eC (.int 1000)) aNil)))) (eCall m_l_draw (aCons (eVar 0) (aCons (eC (.int 1000)) aNil)))))
def m_l_great : Fn := fnD 1 1 b_l_great
/- def l_names(_law_tape_here, _law_many): 0=_law_tape_here 1=_law_many 2=_law_letters 3=_law_word 4=_law_way 5=_law_turn 6=_law_size 7=_law_at 8=_law_signs 9=_law_start 10=_law_names_here 11=_law_k -/
def b_l_names : MS := (sSeq (sAsg (gOne 2) (eC (.str "abcdefghijklmnopqrstuvwxyz")))
    (sSeq (sAsg (gOne 3) (eMeth "str" mJoin (eC (.str "")) (aCons (eComp 11 (iRange1 (eC (.int 8))) tYesD (eBin mIdx (eVar 2) (eCall m_l_draw (aCons (eVar 0) (aCons (eC (.int 26)) aNil))))) aNil)))
    (sSeq (sAsg (gOne 4) (eCall m_l_draw (aCons (eVar 0) (aCons (eC (.int 2)) aNil))))
    (sSeq (sAsg (gOne 5) (eCall m_l_draw (aCons (eVar 0) (aCons (eC (.int 8)) aNil))))
    (sSeq (sIf (tAnd (tB (eBin mLe (eVar 1) (eC (.int 8)))) (tB (eBin mEq (eVar 4) (eC (.int 0))))) (sSeq (sAsg (gOne 10) (eComp 11 (iRange1 (eC (.int 8))) tYesD (eSl (eVar 3) oNone (oSome (eBin mAdd (eVar 11) (eC (.int 1)))))))
    (sRet (eSl (eBin mAdd (eSl (eVar 10) (oSome (eVar 5)) oNone) (eSl (eVar 10) oNone (oSome (eVar 5)))) oNone (oSome (eVar 1))))) sNil)
    (sSeq (sAsg (gOne 6) (eBin mAdd (eC (.int 2)) (eCall m_l_draw (aCons (eVar 0) (aCons (eC (.int 7)) aNil)))))
    (sSeq (sAsg (gOne 7) (eBin mAdd (eC (.int 1)) (eCall m_l_draw (aCons (eVar 0) (aCons (eBin mSub (eVar 6) (eC (.int 1))) aNil)))))
    (sSeq (sAsg (gOne 8) (eBin mAdd (eVar 2) (eC (.str "0123456789"))))
    (sSeq (sAsg (gOne 9) (eCall m_l_draw (aCons (eVar 0) (aCons (eC (.int 36)) aNil))))
    (sRet (eComp 11 (iRange1 (eVar 1)) tYesD (eBin mAdd (eBin mAdd (eSl (eVar 3) oNone (oSome (eVar 7))) (eBin mIdx (eVar 8) (eBin mMod (eBin mAdd (eVar 9) (eBin mMul (eC (.int 5)) (eVar 11))) (eC (.int 36))))) (eSl (eVar 3) (oSome (eBin mAdd (eVar 7) (eC (.int 1)))) (oSome (eVar 6)))))))))))))))
def m_l_names : Fn := fnD 2 12 b_l_names
/- def l_throws(_law_tape_here, _law_names_here, _law_count): 0=_law_tape_here 1=_law_names_here 2=_law_count 3=_law_throws_here 4=_law_name 5=_law_worths -/
def lp_l_throws_0 : MS := (sSeq (sAsg (gOne 5) (eLst (aCons (eCall m_l_draw (aCons (eVar 0) (aCons (eC (.int 21)) aNil))) (aCons (eCall m_l_draw (aCons (eVar 0) (aCons (eC (.int 21)) aNil))) (aCons (eBin mFdiv (eVar 2) (eC (.int 2))) (aCons (eBin mSub (eVar 2) (eCall m_l_draw (aCons (eVar 0) (aCons (eVar 2) aNil)))) aNil))))))
    (sSeq (sExpr (eMeth "list" mAppend (eVar 5) (aCons (eBin mAdd (eCall m_l_great (aCons (eVar 0) aNil)) (eCall m_l_draw (aCons (eVar 0) (aCons (eC (.int 2)) aNil)))) aNil)))
    (sExpr (eMeth "list" mAppend (eVar 3) (aCons (eTup (aCons (eVar 4) (aCons (eBin mIdx (eVar 5) (eCall m_l_draw (aCons (eVar 0) (aCons (eC (.int 5)) aNil)))) (aCons (eBin mEq (eCall m_l_draw (aCons (eVar 0) (aCons (eC (.int 2)) aNil))) (eC (.int 0))) aNil)))) aNil)))))
def b_l_throws : MS := (sSeq (sAsg (gOne 3) (eLst aNil))
    (sSeq (sFor (iAny (eVar 1)) (gOne 4) lp_l_throws_0)
    (sRet (eCallO nTuple (aCons (eVar 3) aNil)))))
def m_l_throws : Fn := fnD 3 6 b_l_throws
/- def l_down(_law_tape_here): 0=_law_tape_here 1=_law_many 2=_law_begins 3=_law_begin 4=_law_throws_here -/
def b_l_down : MS := (sSeq (sAsg (gOne 1) (eBin mIdx (eLst (aCons (eBin mAdd (eC (.int 1)) (eCall m_l_draw (aCons (eVar 0) (aCons (eC (.int 6)) aNil)))) (aCons (eBin mAdd (eC (.int 1)) (eCall m_l_draw (aCons (eVar 0) (aCons (eC (.int 30)) aNil)))) aNil))) (eBin mFdiv (eCall m_l_draw (aCons (eVar 0) (aCons (eC (.int 8)) aNil))) (eC (.int 7)))))
    (sSeq (sAsg (gOne 2) (eLst (aCons (eBin mAdd (eC (.int 1)) (eCall m_l_draw (aCons (eVar 0) (aCons (eC (.int 30)) aNil)))) (aCons (eBin mAdd (eC (.int 1)) (eCall m_l_draw (aCons (eVar 0) (aCons (eC (.int 501)) aNil)))) (aCons (eBin mAdd (eC (.int 1)) (eCall m_l_great (aCons (eVar 0) aNil))) aNil)))))
    (sSeq (sAsg (gOne 3) (eBin mIdx (eVar 2) (eCall m_l_draw (aCons (eVar 0) (aCons (eC (.int 3)) aNil)))))
    (sSeq (sAsg (gOne 4) (eCall m_l_throws (aCons (eVar 0) (aCons (eCall m_l_names (aCons (eVar 0) (aCons (eVar 1) aNil))) (aCons (eVar 3) aNil)))))
    (sRet (eTup (aCons (eBin mAdd (eC (.int 1)) (eCall m_l_draw (aCons (eVar 0) (aCons (eC (.int 3)) aNil)))) (aCons (eVar 3) (aCons (eBin mAdd (eC (.int 1)) (eCall m_l_draw (aCons (eVar 0) (aCons (eC (.int 3)) aNil)))) (aCons (eVar 4) aNil))))))))))
def m_l_down : Fn := fnD 1 5 b_l_down
end

theorem l_great_ok {M : Mem} {t : Nat} (T : Tape M t) : Ret (m_l_great [.ref t] M) (DrawQ t M 1000000) := by
  show Ret (endS (b_l_great [some (.ref t)] M)) _
  unfold b_l_great
  simp
  refine Ret.bindQ (draw T (by decide) (by decide)) ?_
  rintro _ M1 ⟨a, rfl, a0, a1, A1⟩
  simp [-mMul_int]
  have e : mMul (.int 1000) (.int a) M1 = some (.int (1000 * a), M1) := by rw [mMul_int]; exact if_pos (Or.inl ⟨by decide, by decide⟩)
  simp [e]
  refine Ret.bindQ (draw A1.tape (by decide) (by decide)) ?_
  rintro _ M2 ⟨b, rfl, b0, b1, A2⟩
  simp
  exact .ok ⟨_, rfl, by omega, by omega, A1.trans A2⟩
theorem Adv.putLst {t : Nat} {M M' : Mem} {k : Nat} {xs : List D} {o : MO} (a : Adv t M M') (h : M.length ≤ k) (hk : k ≠ t) (hx : M'[k]? = some (.lst xs)) : Adv t M (M'.set k o) := by
  refine ⟨?_, by rw [List.length_set]; exact a.len, fun m hm hmt => by rw [List.getElem?_set_ne (by omega)]; exact a.keep m hm hmt⟩
  obtain ⟨s, ns, spot, left, way, g1, g2, g3⟩ := a.tape
  refine ⟨s, ns, spot, left, way, by rw [List.getElem?_set_ne hk]; exact g1, ?_, g3⟩
  have : k ≠ s := by
    rintro rfl
    rw [hx] at g2
    cases g2
  rw [List.getElem?_set_ne this]
  exact g2
/-- a comprehension whose elements draw -/
theorem compL_drawn {good : Mem → Prop} {i n t : Nat} {e : ME} {env : TL.Env} {P : D → Prop} (M0 : Mem) (hg : ∀ M', Adv t M0 M' → good M') (hn : M0.length ≤ n) (hnt : n ≠ t) : ∀ (ds acc : List D) (M : Mem), Adv t M0 M → M[n]? = some (.lst acc) → (∀ x ∈ acc, P x) → acc.length + ds.length ≤ 1000000 →
    (∀ d ∈ ds, ∀ M', Adv t M0 M' → Ret (e (env.set i (some d)) M') (fun x M2 => P x ∧ Adv t M' M2)) →
    ∃ xs M2, compL good i tYesD e n env ds M = .ok () M2 ∧ Adv t M0 M2 ∧ M2[n]? = some (.lst xs) ∧ xs.length = acc.length + ds.length ∧ ∀ x ∈ xs, P x
  | [], acc, M, k, ha, hp, _, _ => ⟨acc, M, compL_nil (hg M k), k, ha, rfl, hp⟩
  | d :: ds, acc, M, k, ha, hp, hl, h => by
    obtain ⟨x, M2, e2, px, k2⟩ := h d List.mem_cons_self M k
    rw [compL_cons (hg M k)]
    simp only [tYesD_ap, Out.nox_ok, Out.bind_ok, if_true, e2]
    have a2 := k2.at ha hnt
    simp only [a2]
    rw [if_pos (by rw [sizeLine_eq]; simp at hl; omega)]
    have k3 : Adv t M0 (M2.set n (.lst (acc ++ [x]))) := (k.trans k2).putLst hn hnt a2
    obtain ⟨xs, M3, e3, k3, a3, l3, p3⟩ := compL_drawn M0 hg hn hnt ds (acc ++ [x]) (M2.set n (.lst (acc ++ [x]))) k3 (List.getElem?_set_self (lt_of_at a2)) (fun y hy => by
      rcases List.mem_append.mp hy with hy | hy
      · exact hp y hy
      · cases List.mem_singleton.mp hy
        exact px) (by simp at hl ⊢; omega) fun d' hd => h d' (List.mem_cons_of_mem _ hd)
    exact ⟨xs, M3, e3, k3, a3, by rw [l3]; simp; omega, p3⟩
theorem Ret.drawn {good : Mem → Prop} {i t : Nat} {e : ME} {env : TL.Env} {P : D → Prop} {ds : List D} {M0 : Mem} {Q : Unit → Mem → Prop} (T : Tape M0 t) (hg : ∀ M', Adv t M0 M' → good M') (hl : ds.length ≤ 1000000)
    (h : ∀ d ∈ ds, ∀ M', Adv t M0 M' → Ret (e (env.set i (some d)) M') (fun x M2 => P x ∧ Adv t M' M2))
    (k : ∀ xs M2, Adv t M0 M2 → M2[M0.length]? = some (.lst xs) → xs.length = ds.length → (∀ x ∈ xs, P x) → Q () M2) : Ret (compL good i tYesD e M0.length env ds (M0 ++ [.lst []])) Q := by
  obtain ⟨xs, M2, e2, k2, a2, l2, p2⟩ := compL_drawn (n := M0.length) (P := P) (e := e) (env := env) (i := i) M0 hg (Nat.le_refl _) (fun e => by have := T.lt; omega) ds [] (M0 ++ [.lst []]) (Adv.of T (Keep.more _ _)) (at_len _ _) (fun x hx => by cases hx) (by simpa using hl) h
  exact ⟨(), M2, e2, k xs M2 k2 a2 (by simpa using l2) p2⟩
def lettersS : Str := Str.ofString "abcdefghijklmnopqrstuvwxyz"
theorem letters_tl : lettersS.cps.toList = (List.range 26).map (97 + ·) := by decide +kernel
theorem figs_tl : (Str.ofString "0123456789").cps.toList = (List.range 10).map (48 + ·) := by decide +kernel
theorem letter_at {r : Int} (h0 : 0 ≤ r) (h1 : r < 26) (M : Mem) : ∃ c, letter c = true ∧ mIdx (.str lettersS) (.int r) M = some (.str (S [c]), M) := by
  obtain ⟨c, g1, g2⟩ := atI_ok (xs := lettersS.cps.toList) h0 (by rw [letters_tl]; simpa using h1)
  refine ⟨c, ?_, ?_⟩
  · rw [letters_tl, List.getElem?_map] at g1
    have : r.toNat < 26 := by omega
    rw [List.getElem?_range this] at g1
    cases g1
    simp [letter]
    omega
  · show (if lettersS.length ≤ sizeLine then (atI lettersS.cps.toList r).map fun c => (D.str ⟨#[c]⟩, M) else none) = _
    rw [if_pos (by rw [sizeLine_eq]; decide +kernel), g2]
    rfl
theorem append_tl (a b : Str) : (a ++ b).cps.toList = a.cps.toList ++ b.cps.toList := by
  show (a.cps ++ b.cps).toList = _
  simp
theorem S_append (a b : List Nat) : S a ++ S b = S (a ++ b) := by
  show (⟨(S a).cps ++ (S b).cps⟩ : Str) = _
  simp [S]
theorem S_of (x : Str) : S x.cps.toList = x := by simp [S]
theorem signs_tl : (lettersS ++ Str.ofString "0123456789").cps.toList = RD.signs := by rw [append_tl, letters_tl, figs_tl]; rfl
theorem sign_at {j : Nat} (h : j < 36) (M : Mem) : mIdx (.str (lettersS ++ Str.ofString "0123456789")) (.int (j : Nat)) M = some (.str (S [RD.signs.getD j 0]), M) := by
  show (if (lettersS ++ Str.ofString "0123456789").length ≤ sizeLine then (atI (lettersS ++ Str.ofString "0123456789").cps.toList (j : Int)).map fun c => (D.str ⟨#[c]⟩, M) else none) = _
  rw [if_pos (by rw [sizeLine_eq]; decide +kernel), signs_tl]
  have hl : j < RD.signs.length := by rw [signs_len]; exact h
  rw [atI_nat (List.getElem?_eq_getElem hl), List.getD_eq_getElem?_getD, List.getElem?_eq_getElem hl]
  rfl
/-- texts of one sign, put together -/
theorem join_signs : ∀ cs : List Nat, Txt.join (Str.ofString "") (cs.map fun c => S [c]) = S cs := by
  intro cs
  rw [join_eq]
  induction cs with
  | nil => rfl
  | cons c cs ih =>
    cases cs with
    | nil => rfl
    | cons d cs =>
      show S [c] ++ Str.ofString "" ++ Str.join (Str.ofString "") ((d :: cs).map fun c => S [c]) = _
      rw [ih]
      have e : Str.ofString "" = S [] := by decide +kernel
      rw [e, S_append, S_append]
      rfl
theorem signs_of {P : Nat → Prop} : ∀ {xs : List D}, (∀ x ∈ xs, ∃ c, P c ∧ x = .str (S [c])) → ∃ cs : List Nat, xs = (cs.map fun c => S [c]).map D.str ∧ ∀ c ∈ cs, P c
  | [], _ => ⟨[], rfl, fun _ h => nomatch h⟩
  | x :: xs, h => by
    obtain ⟨c, pc, rfl⟩ := h x List.mem_cons_self
    obtain ⟨cs, rfl, pcs⟩ := signs_of (xs := xs) fun y hy => h y (List.mem_cons_of_mem _ hy)
    refine ⟨c :: cs, rfl, fun d hd => ?_⟩
    rcases List.mem_cons.mp hd with rfl | hd
    · exact pc
    · exact pcs d hd
theorem join1_ok {M : Mem} {n : Nat} {cs : List Nat} (h : seqAt M n = some ((cs.map fun c => S [c]).map D.str)) (hl : cs.length ≤ 1000) : mJoin (.str (Str.ofString "")) [.ref n] M = some (.str (S cs), M) := by
  have e0 : (Str.ofString "").length = 0 := by decide +kernel
  have e1 : ((cs.map fun c => S [c]).map (·.length)).sum = cs.length := by
    clear h hl
    induction cs with
    | nil => rfl
    | cons c cs ih =>
      rw [List.map_cons, List.map_cons, List.sum_cons, ih, S_len]
      simp; omega
  rw [mJoin_ref, h]
  simp only
  rw [joinO_strs (by rw [e1, e0]; omega), join_signs]
  rfl
theorem cutS_S {w : List Nat} {lo hi : Option Int} : cutS (S w) lo hi = S (cutL w lo hi) := by
  unfold cutS cutL S
  rw [show (⟨w.toArray⟩ : Str).length = w.length from by rw [show (⟨w.toArray⟩ : Str).length = w.toArray.size from rfl]; simp]
theorem cutL_fr {α : Type} {xs : List α} {k : Nat} (h : k ≤ xs.length) : cutL xs (some (k : Int)) none = xs.drop k := by
  unfold cutL
  rw [HT.sIx_nat, HT.sIx_none, Nat.min_eq_left h, List.take_of_length_le]
  simp
theorem cutL_mid {α : Type} {xs : List α} {k m : Nat} (h : k ≤ xs.length) (hm : m ≤ xs.length) : cutL xs (some (k : Int)) (some (m : Int)) = (xs.drop k).take (m - k) := by
  unfold cutL
  rw [HT.sIx_nat, HT.sIx_nat, Nat.min_eq_left h, Nat.min_eq_left hm]
theorem mSl_S {w : List Nat} {lo hi : Option Int} {M : Mem} (h : w.length ≤ 1000) : mSl (.str (S w)) lo hi M = some (.str (S (cutL w lo hi)), M) := by
  show (if (S w).length ≤ sizeLine then some (D.str (cutS (S w) lo hi), M) else none) = _
  rw [if_pos (by rw [S_len, sizeLine_eq]; omega), cutS_S]
theorem mSl_fr {M : Mem} {n k : Nat} {xs : List D} (h : seqAt M n = some xs) (hk : k ≤ xs.length) : mSl (.ref n) (some (k : Int)) none M = some (.ref M.length, M ++ [.lst (xs.drop k)]) := by rw [mSl_ref, h]; simp only [cutL_fr hk]
theorem mSl_to {M : Mem} {n k : Nat} {xs : List D} (h : seqAt M n = some xs) (hk : k ≤ xs.length) : mSl (.ref n) none (some (k : Int)) M = some (.ref M.length, M ++ [.lst (xs.take k)]) := by rw [mSl_ref, h]; simp only [cutL_to hk]
def NamesQ (t : Nat) (M : Mem) (many : Nat) (d : D) (M' : Mem) : Prop := ∃ (n : Nat) (ys : List Str), d = .ref n ∧ seqAt M' n = some (ys.map D.str) ∧ ys.length = many ∧ ys.Nodup ∧ (∀ y ∈ ys, nameB y = true) ∧ M.length ≤ n ∧ Adv t M M'
theorem l_names_ok {M : Mem} {t many : Nat} (T : Tape M t) (m0 : 1 ≤ many) (m1 : many ≤ 30) : Ret (m_l_names [.ref t, .int (many : Nat)] M) (NamesQ t M many) := by
  show Ret (endS (b_l_names [some (.ref t), some (.int (many : Nat)), none, none, none, none, none, none, none, none, none, none] M)) _
  unfold b_l_names
  simp [rngOk_of]
  refine Ret.bindQ (P := fun _ M1 => ∃ cs : List Nat, seqAt M1 M.length = some ((cs.map fun c => S [c]).map D.str) ∧ cs.length = 8 ∧ (∀ c ∈ cs, letter c = true) ∧ Adv t M M1) ?_ ?_
  · refine Ret.drawn (P := fun x => ∃ c, letter c = true ∧ x = .str (S [c])) T (fun _ _ => trivial) (by simp [rng_length]) (fun d hd M' A => ?_) fun xs M2 A a l p => ?_
    · simp
      refine Ret.bindQ (draw A.tape (by decide) (by decide)) ?_
      rintro _ M3 ⟨r, rfl, r0, r1, A3⟩
      obtain ⟨c, hc, e⟩ := letter_at r0 r1 M3
      rw [lettersS] at e
      simp [e]
      exact .ok ⟨⟨c, hc, rfl⟩, A3⟩
    · obtain ⟨cs, rfl, hc⟩ := signs_of p
      exact ⟨cs, seqAt_lst a, by simpa [rng_length] using l, hc, A⟩
  rintro _ M1 ⟨w, hw, wl, wc, A1⟩
  have ej := join1_ok hw (by omega)
  simp [ej]
  refine Ret.bindQ (draw A1.tape (by decide) (by decide)) ?_
  rintro _ M2 ⟨way, rfl, w0, w1, A2⟩
  simp
  refine Ret.bindQ (draw A2.tape (by decide) (by decide)) ?_
  rintro _ M3 ⟨turn, rfl, t0, t1, A3⟩
  have A := (A1.trans A2).trans A3
  clear A1 A2 A3 ej hw
  by_cases c : (many : Int) ≤ 8 ∧ way = 0
  · obtain ⟨c1, rfl⟩ := c
    obtain ⟨tn, rfl⟩ : ∃ tn : Nat, turn = tn := ⟨turn.toNat, by omega⟩
    simp [c1, rngOk_of]
    refine Ret.bindQ (P := fun _ M4 => Keep M3 M4 ∧ M4[M3.length]? = some (.lst ((begs w).map D.str))) ?_ ?_
    · refine Ret.comp (fun d => match d with | .int i => .str (S (w.take (i.toNat + 1))) | _ => .non) (fun _ _ => trivial) (by simp [rng_length]) (fun d hd M' k => ?_) (fun M4 k a => ?_)
      · obtain ⟨j, hj, rfl⟩ := mem_rng hd
        have e : mSl (.str (S w)) none (some ((j : Int) + 1)) M' = some (.str (S (w.take (j + 1))), M') := by
          rw [mSl_S (by omega), show ((j : Int) + 1) = ((j + 1 : Nat) : Int) from by simp, cutL_to (by omega)]
        simp [e]
        exact .ok ⟨rfl, Keep.refl _⟩
      · refine ⟨k, ?_⟩
        rw [a]
        simp [begs, rngItems, List.map_map, Function.comp_def]
    rintro _ M4 ⟨k4, a4⟩
    have s4 := seqAt_lst a4
    have bl : (begs w).length = 8 := begs_len w
    have e1 := mSl_fr (M := M4) (k := tn) s4 (by simp [bl]; omega)
    have e2 := mSl_to (M := M4 ++ [.lst (((begs w).map D.str).drop tn)]) (k := tn) ((Keep.more M4 _).seq s4) (by simp [bl]; omega)
    have e3 := mAdd_lists (M := M4 ++ [.lst (((begs w).map D.str).drop tn)] ++ [.lst (((begs w).map D.str).take tn)]) (n := M4.length) (m := (M4 ++ [MO.lst (((begs w).map D.str).drop tn)]).length) (xs := ((begs w).map D.str).drop tn) (ys := ((begs w).map D.str).take tn) (by simp) (by simp) (by simp [bl]; omega)
    have e4 := mSl_to (M := M4 ++ [.lst (((begs w).map D.str).drop tn)] ++ [.lst (((begs w).map D.str).take tn)] ++ [.lst (((begs w).map D.str).drop tn ++ ((begs w).map D.str).take tn)]) (k := many) (seqAt_lst (at_len _ _)) (by simp [bl]; omega)
    simp [-mSl_ref, -mAdd_ref, e1]
    simp [-mSl_ref, -mAdd_ref] at e2 e3 e4
    simp [-mSl_ref, -mAdd_ref, e2]
    simp [-mSl_ref, -mAdd_ref, e3]
    simp [-mSl_ref, -mAdd_ref, e4]
    refine .ok ⟨M4.length + 3, turned (begs w) tn many, rfl, ?_, turned_len (by rw [bl]; omega), turned_nodup (begs_nodup wl) _ _, fun y hy => ?_, ?_, A.trans (Adv.of A.tape (k4.trans (Keep.more _ _)))⟩
    · rw [seq_new]
      simp [turned, seqAt]
    · obtain ⟨k, hk, rfl⟩ := List.mem_map.mp (turned_mem hy)
      exact beg_name wl wc (List.mem_range.mp hk)
    · have h1 := A.len
      have h2 := k4.1
      omega
  · obtain ⟨tn, rfl⟩ : ∃ tn : Nat, turn = tn := ⟨turn.toNat, by omega⟩
    have ht : (if (many : Int) ≤ 8 then Out.ok (decide (way = 0)) M3 else Out.ok false M3) = Out.ok false M3 := by
      by_cases q : (many : Int) ≤ 8
      · have hw : way ≠ 0 := fun z => c ⟨q, z⟩
        simp [q, hw]
      · simp [q]
    simp [ht]
    refine Ret.bindQ (draw A.tape (by decide) (by decide)) ?_
    rintro _ M4 ⟨s, rfl, s0, s1, A4⟩
    simp
    obtain ⟨sn, rfl⟩ : ∃ sn : Nat, s = sn := ⟨s.toNat, by omega⟩
    refine Ret.bindQ (draw (many := 2 + (sn : Int) - 1) A4.tape (by omega) (by omega)) ?_
    rintro _ M5 ⟨a, rfl, a0, a1, A5⟩
    obtain ⟨an, rfl⟩ : ∃ an : Nat, a = an := ⟨a.toNat, by omega⟩
    have el : ∀ M, mAdd (.str (Str.ofString "abcdefghijklmnopqrstuvwxyz")) (.str (Str.ofString "0123456789")) M = some (.str (lettersS ++ Str.ofString "0123456789"), M) := fun M => by
      rw [mAdd_str, if_pos (by rw [sizeLine_eq]; decide +kernel)]
      rfl
    simp [-mAdd_str, el]
    refine Ret.bindQ (draw A5.tape (by decide) (by decide)) ?_
    rintro _ M6 ⟨st, rfl, st0, st1, A6⟩
    obtain ⟨stn, rfl⟩ : ∃ stn : Nat, st = stn := ⟨st.toNat, by omega⟩
    have AA := ((A.trans A4).trans A5).trans A6
    simp [rngOk_nat (show many ≤ 1000000 by omega)]
    refine Ret.bindQ (P := fun _ M7 => Keep M6 M7 ∧ M7[M6.length]? = some (.lst ((ones w (1 + an) (2 + sn) stn many).map D.str))) ?_ ?_
    · refine Ret.comp (fun d => match d with | .int i => .str (S (oneAt w (1 + an) (2 + sn) (RD.signs.getD ((stn + 5 * i.toNat) % 36) 0))) | _ => .non) (fun _ _ => trivial) (by rw [rng_length]; omega) (fun d hd M' k => ?_) (fun M7 k a => ?_)
      · obtain ⟨j, hj, rfl⟩ := mem_rng hd
        have e5 : mMul (.int 5) (.int j) M' = some (.int (5 * j), M') := by rw [mMul_int]; exact if_pos (Or.inl ⟨by decide, by decide⟩)
        have e6 := sign_at (j := (stn + 5 * j) % 36) (Nat.mod_lt _ (by decide)) M'
        have e7 : mSl (.str (S w)) none (some (1 + (an : Int))) M' = some (.str (S (w.take (1 + an))), M') := by
          rw [mSl_S (by omega), show (1 + (an : Int)) = ((1 + an : Nat) : Int) from by simp, cutL_to (by omega)]
        have e8 : mSl (.str (S w)) (some (1 + (an : Int) + 1)) (some (2 + (sn : Int))) M' = some (.str (S ((w.drop (1 + an + 1)).take (2 + sn - (1 + an + 1)))), M') := by
          rw [mSl_S (by omega), show (1 + (an : Int) + 1) = ((1 + an + 1 : Nat) : Int) from by simp, show (2 + (sn : Int)) = ((2 + sn : Nat) : Int) from by simp, cutL_mid (by omega) (by omega)]
        have e9 : ∀ a b : List Nat, a.length ≤ 1000 → b.length ≤ 1000 → mAdd (.str (S a)) (.str (S b)) M' = some (.str (S (a ++ b)), M') := fun a b ha hb => by
          rw [mAdd_str, S_append, if_pos (by rw [S_len, S_len, sizeLine_eq]; omega)]
        have l1 : (w.take (1 + an)).length ≤ 1000 := by rw [List.length_take]; omega
        simp [-mIdx_ref, -mMul_int, -mAdd_str, e5, e7]
        have ei : ((stn : Int) + 5 * (j : Int)) % 36 = (((stn + 5 * j) % 36 : Nat) : Int) := by simp
        rw [ei, e6]
        have f1 := e9 (w.take (1 + an)) [RD.signs.getD ((stn + 5 * j) % 36) 0] l1 (by simp)
        have f2 := e9 (w.take (1 + an) ++ [RD.signs.getD ((stn + 5 * j) % 36) 0]) ((w.drop (1 + an + 1)).take (2 + sn - (1 + an + 1))) (by simp; omega) (by rw [List.length_take, List.length_drop]; omega)
        simp only [liftO_some, bindQ_ok, f1]
        simp only [List.append_assoc, List.cons_append, List.nil_append] at f1 f2
        simp [-mAdd_str, -List.getD_eq_getElem?_getD, e8, f2]
        exact .ok ⟨by simp [oneAt], Keep.refl _⟩
      · refine ⟨k, ?_⟩
        rw [a]
        simp [ones, rngItems, List.map_map, Function.comp_def]
    rintro _ M7 ⟨k7, a7⟩
    refine .ok ⟨M6.length, _, rfl, seqAt_lst a7, ones_len .., ones_nodup (by omega) m1, fun y hy => ?_, AA.len, AA.trans (Adv.of AA.tape k7)⟩
    obtain ⟨k, hk, rfl⟩ := List.mem_map.mp hy
    have lt : (stn + 5 * k) % 36 < RD.signs.length := by rw [signs_len]; exact Nat.mod_lt _ (by decide)
    refine one_name wl wc (by omega) (by omega) (by omega) (signs_sign _ ?_)
    rw [List.getD_eq_getElem?_getD, List.getElem?_eq_getElem lt]
    exact List.getElem_mem lt
def TInv (t n m : Nat) (M0 : Mem) (count : Int) (all : List Str) : List D → TL.Env → Mem → Prop := fun ds env M => ∃ (ts : List Thr) (ys : List Str) (e4 e5 : Option D), ds = ys.map D.str ∧
  env = [some (.ref t), some (.ref n), some (.int count), some (.ref m), e4, e5] ∧ M[m]? = some (.lst (ts.map Thr.toD)) ∧ ts.map (·.name) ++ ys = all ∧ (∀ t ∈ ts, 0 ≤ t.worth ∧ t.worth ≤ 1000000) ∧ seqAt M n = some (all.map D.str) ∧ Adv t M0 M
theorem throws_turn {t n m : Nat} {M0 : Mem} {count : Int} {all : List Str} (hmt : m ≠ t) (hnt : n ≠ t) (hnm : n ≠ m) (hm0 : M0.length ≤ m) (c0 : 1 ≤ count) (c1 : count ≤ 1000000) (hl : all.length ≤ 1000) {d : D} {ds : List D} {env : TL.Env} {M : Mem} (h : TInv t n m M0 count all (d :: ds) env M) :
    ∃ env1, gOne 4 d env = some env1 ∧ SRet (lp_l_throws_0 env1 M) (TInv t n m M0 count all ds) (fun _ _ => False) := by
  obtain ⟨ts, ys, e4, e5, hd, rfl, hm, ha, hw, hn, A⟩ := h
  obtain ⟨y, ys, rfl⟩ : ∃ y r, ys = y :: r := by
    cases ys with
    | nil => cases hd
    | cons y r => exact ⟨y, r, rfl⟩
  obtain ⟨rfl, rfl⟩ : d = .str y ∧ ds = ys.map D.str := by simpa using hd
  refine ⟨_, rfl, ?_⟩
  have T := A.tape
  unfold lp_l_throws_0
  simp
  refine SRet.thenQ (draw T (by decide) (by decide)) ?_
  rintro _ M1 ⟨a, rfl, a0, a1, A1⟩
  simp
  refine SRet.thenQ (draw A1.tape (by decide) (by decide)) ?_
  rintro _ M2 ⟨b, rfl, b0, b1, A2⟩
  simp
  refine SRet.thenQ (draw (many := count) A2.tape (by omega) (by omega)) ?_
  rintro _ M3 ⟨c, rfl, d0, d1, A3⟩
  simp
  have sl : ∀ (M : Mem) (xs : List D), seqAt (M ++ [.lst xs]) M.length = some xs := fun M xs => seqAt_lst (at_len _ _)
  simp [sl]
  have A03 := ((A.trans A1).trans A2).trans A3
  have A4 : Adv t M3 (M3 ++ [MO.lst [D.int a, D.int b, D.int (count / 2), D.int (count - c)]]) := Adv.of A3.tape (Keep.more _ _)
  refine SRet.thenQ (l_great_ok A4.tape) ?_
  rintro _ M5 ⟨g, rfl, g0, g1, A5⟩
  simp
  refine SRet.thenQ (draw A5.tape (by decide) (by decide)) ?_
  rintro _ M6 ⟨p, rfl, p0, p1, A6⟩
  have A46 := (A4.trans A5).trans A6
  have t3 := A3.tape.lt
  have hq : M3.length ≠ t := by omega
  have l6 : M6[M3.length]? = some (.lst [D.int a, D.int b, D.int (count / 2), D.int (count - c)]) := (A5.trans A6).at (at_len _ _) hq
  have ap := mAppend_ok (y := .int (g + p)) l6 (by simp)
  simp [ap]
  have hlt := lt_of_at l6
  have A06 := A03.trans A46
  have l03 := A03.len
  have A07 : Adv t M0 (M6.set M3.length (.lst [D.int a, D.int b, D.int (count / 2), D.int (count - c), .int (g + p)])) := A06.putLst l03 hq l6
  have l7 : (M6.set M3.length (MO.lst [D.int a, D.int b, D.int (count / 2), D.int (count - c), .int (g + p)]))[M3.length]? = some (.lst [D.int a, D.int b, D.int (count / 2), D.int (count - c), .int (g + p)]) := List.getElem?_set_self hlt
  have m7 : (M6.set M3.length (MO.lst [D.int a, D.int b, D.int (count / 2), D.int (count - c), .int (g + p)]))[m]? = some (.lst (ts.map Thr.toD)) := by
    have h3 : m < M3.length := by
      have h := lt_of_at hm
      have h1 := A1.len
      have h2 := A2.len
      have h3 := A3.len
      omega
    rw [List.getElem?_set_ne (by omega)]
    exact A46.at (A3.at (A2.at (A1.at hm hmt) hmt) hmt) hmt
  have n7 : seqAt (M6.set M3.length (MO.lst [D.int a, D.int b, D.int (count / 2), D.int (count - c), .int (g + p)])) n = some (all.map D.str) := by
    have h3 : n < M3.length := by
      have h := lt_of_seq hn
      have h1 := A1.len
      have h2 := A2.len
      have h3 := A3.len
      omega
    have h := A46.seq (A3.seq (A2.seq (A1.seq hn hnt) hnt) hnt) hnt
    unfold seqAt at h ⊢
    rw [List.getElem?_set_ne (by omega)]
    exact h
  generalize M6.set M3.length (MO.lst [D.int a, D.int b, D.int (count / 2), D.int (count - c), .int (g + p)]) = M7 at *
  have tm : tyD "list" M7 (.ref m) = true := tyD_list (seqAt_lst m7)
  simp [seqAt_lst m7]
  refine SRet.thenQ (draw A07.tape (by decide) (by decide)) ?_
  rintro _ M8 ⟨q, rfl, q0, q1, A8⟩
  have i8 := A8.seq (seqAt_lst l7) hq
  obtain ⟨w, hw8, ew⟩ := pick_at i8 q0 (by simpa using q1)
  simp [-mIdx_ref, ew]
  refine SRet.thenQ (draw A8.tape (by decide) (by decide)) ?_
  rintro _ M9 ⟨e, rfl, f0, f1, A9⟩
  have m9 := A9.at (A8.at m7 hmt) hmt
  have n9 := A9.seq (A8.seq n7 hnt) hnt
  obtain ⟨wi, rfl, wi0, wi1⟩ : ∃ wi : Int, w = .int wi ∧ 0 ≤ wi ∧ wi ≤ 1000000 := by
    simp only [List.mem_cons, List.not_mem_nil, or_false] at hw8
    rcases hw8 with rfl | rfl | rfl | rfl | rfl <;> exact ⟨_, rfl, by omega, by omega⟩
  have tl : ts.length ≤ 1000 := by
    have := congrArg List.length ha
    simp at this
    omega
  have ap9 := mAppend_ok (y := .tup [.str y, .int wi, .bl (decide (e = 0))]) m9 (by simp; omega)
  simp [ap9]
  refine ⟨ts ++ [⟨y, wi, decide (e = 0)⟩], ys, _, _, rfl, rfl, ?_, ?_, ?_, ?_, ?_⟩
  · rw [List.getElem?_set_self (lt_of_at m9)]
    simp [Thr.toD]
  · simpa using ha
  · intro u hu
    rcases List.mem_append.mp hu with hu | hu
    · exact hw u hu
    · cases List.mem_singleton.mp hu
      exact ⟨wi0, wi1⟩
  · unfold seqAt at n9 ⊢
    rw [List.getElem?_set_ne (Ne.symm hnm)]
    exact n9
  · exact ((A07.trans A8).trans A9).putLst hm0 hmt m9
def ThrowsQ (t : Nat) (M : Mem) (ys : List Str) (d : D) (M' : Mem) : Prop := ∃ ts : List Thr, d = .tup (ts.map Thr.toD) ∧ ts.map (·.name) = ys ∧ (∀ t ∈ ts, 0 ≤ t.worth ∧ t.worth ≤ 1000000) ∧ Adv t M M'
theorem l_throws_ok {M : Mem} {t n : Nat} {count : Int} {ys : List Str} (T : Tape M t) (hn : seqAt M n = some (ys.map D.str)) (hnt : n ≠ t) (hl : ys.length ≤ 1000) (c0 : 1 ≤ count) (c1 : count ≤ 1000000) : Ret (m_l_throws [.ref t, .ref n, .int count] M) (ThrowsQ t M ys) := by
  show Ret (endS (b_l_throws [some (.ref t), some (.ref n), some (.int count), none, none, none] M)) _
  unfold b_l_throws
  have nlt := lt_of_seq hn
  have tl := T.lt
  have h1 := (Keep.more M [MO.lst []]).seq hn
  simp [srcOf_ref h1]
  refine Ret.endS ?_
  refine SRet.forQ (TInv t n M.length M count ys) ⟨[], ys, _, _, rfl, rfl, at_len _ _, rfl, (fun _ h => nomatch h), h1, Adv.of T (Keep.more _ _)⟩ (fun ds env M h => ?_) (fun d ds env M h => (throws_turn (by omega) hnt (by omega) (Nat.le_refl _) c0 c1 hl h).imp fun _ h => ⟨h.1, h.2.imp (fun _ _ h => h) fun _ _ h => h.elim⟩) ?_
  · obtain ⟨_, _, _, _, _, _, _, _, _, h, _⟩ := h
    exact h
  · rintro env M1 ⟨ts, zs, e4, e5, hz, rfl, hm, ha, hw, hn, A⟩
    have hz : zs = [] := by simpa using hz
    subst hz
    simp [nTuple_ref (seqAt_lst hm)]
    exact SRet.ret ⟨ts, rfl, by simpa using ha, hw, A⟩
def DownQ (t : Nat) (M : Mem) (d : D) (M' : Mem) : Prop := ∃ w : Down, d = w.toD ∧ DownOk w ∧ Adv t M M'
theorem l_down_ok {M : Mem} {t : Nat} (T : Tape M t) : Ret (m_l_down [.ref t] M) (DownQ t M) := by
  show Ret (endS (b_l_down [some (.ref t), none, none, none, none] M)) _
  unfold b_l_down
  simp
  refine Ret.bindQ (draw T (by decide) (by decide)) ?_
  rintro _ M1 ⟨a, rfl, a0, a1, A1⟩
  simp
  refine Ret.bindQ (draw A1.tape (by decide) (by decide)) ?_
  rintro _ M2 ⟨b, rfl, b0, b1, A2⟩
  simp
  refine Ret.bindQ (draw (A2.tape.keep (Keep.more _ _)) (by decide) (by decide)) ?_
  rintro _ M3 ⟨c, rfl, c0, c1, A3⟩
  have i3 := A3.seq (seqAt_lst (at_len M2 (MO.lst [D.int (1 + a), D.int (1 + b)]))) (by have := A2.tape.lt; omega)
  obtain ⟨d, hd, ed⟩ := pick_at (r := c / 7) i3 (by omega) (by simp; omega)
  obtain ⟨many, rfl, m0, m1⟩ : ∃ many : Nat, d = .int many ∧ 1 ≤ many ∧ many ≤ 30 := by
    simp only [List.mem_cons, List.not_mem_nil, or_false] at hd
    rcases hd with rfl | rfl
    · exact ⟨(1 + a).toNat, by congr 1; omega, by omega, by omega⟩
    · exact ⟨(1 + b).toNat, by congr 1; omega, by omega, by omega⟩
  simp [-mIdx_ref, ed]
  refine Ret.bindQ (draw A3.tape (by decide) (by decide)) ?_
  rintro _ M4 ⟨e, rfl, e0, e1, A4⟩
  simp
  refine Ret.bindQ (draw A4.tape (by decide) (by decide)) ?_
  rintro _ M5 ⟨f, rfl, f0, f1, A5⟩
  simp
  refine Ret.bindQ (l_great_ok A5.tape) ?_
  rintro _ M6 ⟨g, rfl, g0, g1, A6⟩
  simp
  refine Ret.bindQ (draw (A6.tape.keep (Keep.more _ _)) (by decide) (by decide)) ?_
  rintro _ M7 ⟨h, rfl, h0, h1, A7⟩
  have i7 := A7.seq (seqAt_lst (at_len M6 (MO.lst [D.int (1 + e), D.int (1 + f), D.int (1 + g)]))) (by have := A6.tape.lt; omega)
  obtain ⟨d, hd2, ed2⟩ := pick_at i7 h0 (by simpa using h1)
  obtain ⟨st, rfl, s0, s1⟩ : ∃ st : Int, d = .int st ∧ 1 ≤ st ∧ st ≤ 1000000 := by
    simp only [List.mem_cons, List.not_mem_nil, or_false] at hd2
    rcases hd2 with rfl | rfl | rfl
    · exact ⟨_, rfl, by omega, by omega⟩
    · exact ⟨_, rfl, by omega, by omega⟩
    · exact ⟨_, rfl, by omega, by omega⟩
  simp [-mIdx_ref, ed2]
  refine Ret.bindQ (l_names_ok A7.tape m0 m1) ?_
  rintro _ M8 ⟨n, ys, rfl, hn, hl, nd, nm, nge, A8⟩
  simp
  refine Ret.bindQ (l_throws_ok A8.tape hn (by have := A7.tape.lt; omega) (by omega) s0 s1) ?_
  rintro _ M9 ⟨ts, rfl, hts, hw, A9⟩
  simp
  refine Ret.bindQ (draw A9.tape (by decide) (by decide)) ?_
  rintro _ M10 ⟨i, rfl, i0, i1, A10⟩
  simp
  refine Ret.bindQ (draw A10.tape (by decide) (by decide)) ?_
  rintro _ M11 ⟨j, rfl, j0, j1, A11⟩
  have l1 : ts.length = many := by rw [← hl, ← hts, List.length_map]
  simp
  refine .ok ⟨⟨(1 + i).toNat, st, (1 + j).toNat, ts⟩, ?_, ⟨by simp; omega, by simp; omega, s0, s1, by simp; omega, by simp; omega, by simp; omega, by simp; omega, by rw [hts]; exact nd, fun u hu => nm _ (hts ▸ List.mem_map_of_mem hu), hw⟩, ?_⟩
  · simp only [Down.toD]
    rw [show (((1 + i).toNat : Nat) : Int) = 1 + i from by omega, show (((1 + j).toNat : Nat) : Int) = 1 + j from by omega]
  · exact A1.trans (A2.trans ((Adv.of A2.tape (Keep.more _ _)).trans (A3.trans (A4.trans (A5.trans (A6.trans ((Adv.of A6.tape (Keep.more _ _)).trans (A7.trans (A8.trans (A9.trans (A10.trans A11)))))))))))
end CM
end
section
set_option maxHeartbeats 4000000
/-! downs as the program plays them -/
namespace CM
open PySem PySem.Spec PyProof.Rows L2 TL TLQ RD
noncomputable section
/- def down_begun(down): 0=down -/
def b_down_begun : MS := (sRet (eTup (aCons (eBin mMul (eTup (aCons (eBin mIdx (eVar 0) (eC (.int 1))) aNil)) (eBin mIdx (eVar 0) (eC (.int 0)))) (aCons (eC (.int 0)) (aCons (eC (.int 0)) (aCons (eBin mIdx (eVar 0) (eC (.int 1))) aNil))))))
def m_down_begun : Fn := fnD 1 1 b_down_begun
/- def throw_named(down, name): 0=down 1=name 2=throw -/
def lp_throw_named_0 : MS := (sIf (tB (eBin mEq (eBin mIdx (eVar 2) (eC (.int 0))) (eVar 1))) (sRet (eVar 2)) sNil)
def b_throw_named : MS := (sSeq (sFor (iAny (eBin mIdx (eVar 0) (eC (.int 3)))) (gOne 2) lp_throw_named_0)
    (sRaise "NoThrow"))
def m_throw_named : Fn := fnD 2 3 b_throw_named
/- def with_count(counts, side, count): 0=counts 1=side 2=count -/
def b_with_count : MS := (sRet (eBin mAdd (eBin mAdd (eSl (eVar 0) oNone (oSome (eVar 1))) (eTup (aCons (eVar 2) aNil))) (eSl (eVar 0) (oSome (eBin mAdd (eVar 1) (eC (.int 1)))) oNone)))
def m_with_count : Fn := fnD 3 3 b_with_count
/- def turn_ended(down, counts, side): 0=down 1=counts 2=side 3=other -/
def b_turn_ended : MS := (sSeq (sAsg (gOne 3) (eBin mMod (eBin mAdd (eVar 2) (eC (.int 1))) (eBin mIdx (eVar 0) (eC (.int 0)))))
    (sRet (eTup (aCons (eVar 1) (aCons (eVar 3) (aCons (eC (.int 0)) (aCons (eBin mIdx (eVar 1) (eVar 3)) aNil)))))))
def m_turn_ended : Fn := fnD 3 4 b_turn_ended
/- def down_thrown(down, stand, name): 0=down 1=stand 2=name 3=throw 4=left 5=counts 6=side 7=thrown 8=held -/
def b_down_thrown : MS := (sSeq (sAsg (gTupD [5, 6, 7, 8]) (eVar 1))
    (sSeq (sAsg (gOne 3) (eCall m_throw_named (aCons (eVar 0) (aCons (eVar 2) aNil))))
    (sSeq (sAsg (gOne 4) (eBin mSub (eBin mIdx (eVar 5) (eVar 6)) (eBin mIdx (eVar 3) (eC (.int 1)))))
    (sSeq (sIf (tAnd (tB (eBin mEq (eVar 4) (eC (.int 0)))) (tTru (eBin mIdx (eVar 3) (eC (.int 2))))) (sRet (eTup (aCons (eTup (aCons (eCall m_with_count (aCons (eVar 5) (aCons (eVar 6) (aCons (eC (.int 0)) aNil)))) (aCons (eVar 6) (aCons (eBin mAdd (eVar 7) (eC (.int 1))) (aCons (eVar 8) aNil))))) (aCons (eC (.bl true)) aNil)))) sNil)
    (sSeq (sIf (tB (eBin mLe (eVar 4) (eC (.int 0)))) (sRet (eTup (aCons (eCall m_turn_ended (aCons (eVar 0) (aCons (eCall m_with_count (aCons (eVar 5) (aCons (eVar 6) (aCons (eVar 8) aNil)))) (aCons (eVar 6) aNil)))) (aCons (eC (.bl false)) aNil)))) sNil)
    (sSeq (sAsg (gOne 5) (eCall m_with_count (aCons (eVar 5) (aCons (eVar 6) (aCons (eVar 4) aNil)))))
    (sSeq (sIf (tB (eBin mEq (eBin mAdd (eVar 7) (eC (.int 1))) (eBin mIdx (eVar 0) (eC (.int 2))))) (sRet (eTup (aCons (eCall m_turn_ended (aCons (eVar 0) (aCons (eVar 5) (aCons (eVar 6) aNil)))) (aCons (eC (.bl false)) aNil)))) sNil)
    (sRet (eTup (aCons (eTup (aCons (eVar 5) (aCons (eVar 6) (aCons (eBin mAdd (eVar 7) (eC (.int 1))) (aCons (eVar 8) aNil))))) (aCons (eC (.bl false)) aNil)))))))))))
def m_down_thrown : Fn := fnD 3 9 b_down_thrown
end

/-- a stand of a down -/
structure DSt where
  counts : List Int
  side : Nat
  thrown : Nat
  held : Int
def DSt.toD (s : DSt) : D := .tup [.tup (s.counts.map D.int), .int (s.side : Nat), .int (s.thrown : Nat), .int s.held]
structure DStOk (w : Down) (s : DSt) : Prop where
  len : s.counts.length = w.sides
  side : s.side < w.sides
  thr : s.thrown < w.turn
def firstS (w : Down) : DSt := ⟨List.replicate w.sides w.start, 0, 0, w.start⟩
theorem firstS_ok {w : Down} (h : DownOk w) : DStOk w (firstS w) := ⟨by simp [firstS], by show 0 < _; have := h.s0; omega, by show 0 < _; have := h.t0; omega⟩
/-- whose turn comes: at the next side -/
def nextS' (w : Down) (counts : List Int) (side : Nat) : DSt := ⟨counts, (side + 1) % w.sides, 0, counts.getD ((side + 1) % w.sides) 0⟩
/-- behind a throw -/
def thrownS (w : Down) (s : DSt) (t : Thr) : DSt × Bool :=
  let left := s.counts.getD s.side 0 - t.worth
  if left = 0 ∧ t.ends = true then (⟨s.counts.set s.side 0, s.side, s.thrown + 1, s.held⟩, true)
  else if left ≤ 0 then (nextS' w (s.counts.set s.side s.held) s.side, false)
  else if s.thrown + 1 = w.turn then (nextS' w (s.counts.set s.side left) s.side, false)
  else (⟨s.counts.set s.side left, s.side, s.thrown + 1, s.held⟩, false)
theorem nextS_ok {w : Down} (h : DownOk w) {counts : List Int} {side : Nat} (hl : counts.length = w.sides) : DStOk w (nextS' w counts side) := ⟨hl, Nat.mod_lt _ (by have := h.s0; omega), by show 0 < _; have := h.t0; omega⟩
theorem thrownS_ok {w : Down} (h : DownOk w) {s : DSt} (o : DStOk w s) (t : Thr) (hw : (thrownS w s t).2 = false) : DStOk w (thrownS w s t).1 := by
  unfold thrownS at hw ⊢
  have hl : ∀ c, (s.counts.set s.side c).length = w.sides := fun c => by rw [List.length_set]; exact o.len
  dsimp only at hw ⊢
  by_cases c1 : s.counts.getD s.side 0 - t.worth = 0 ∧ t.ends = true
  · rw [if_pos c1] at hw; cases hw
  · rw [if_neg c1]
    by_cases c2 : s.counts.getD s.side 0 - t.worth ≤ 0
    · rw [if_pos c2]; exact nextS_ok h (hl _)
    · rw [if_neg c2]
      by_cases c3 : s.thrown + 1 = w.turn
      · rw [if_pos c3]; exact nextS_ok h (hl _)
      · rw [if_neg c3]
        exact ⟨hl _, o.side, by have := o.thr; show s.thrown + 1 < _; omega⟩
theorem down_begun_ok {w : Down} (h : DownOk w) (M : Mem) : m_down_begun [w.toD] M = .ok (firstS w).toD M := by
  show endS (b_down_begun [some w.toD] M) = _
  unfold b_down_begun
  have hm : mMul (.tup [.int w.start]) (.int (w.sides : Nat)) M = some (.tup (List.replicate w.sides (D.int w.start)), M) := by
    show (if (w.sides : Int) = 1 then some (D.tup [.int w.start], M) else if _ then some (D.tup (List.replicate ((w.sides : Int)).toNat [D.int w.start]).flatten, M) else none) = _
    have := h.s0
    have := h.s1
    by_cases q : (w.sides : Int) = 1
    · rw [if_pos q]
      have : w.sides = 1 := by omega
      rw [this]; rfl
    · rw [if_neg q, if_pos ⟨by simp, by omega, by omega, by simp⟩]
      simp
  simp [Down.toD, hm, firstS, DSt.toD]
/-- the throw of that name -/
def named (ts : List Thr) (x : Str) : Option Thr := ts.find? fun t => decide (t.name = x)
/-- any thing, held against a name -/
def isName (x : D) (t : Thr) : Bool := match x with
  | .str y => decide (t.name = y)
  | _ => false
/-- a thing that is held against names -/
def Held' (M : Mem) (x : D) : Prop := (∃ z, x = .str z) ∨ ((toP 64 M x).isSome = true ∧ ∀ p, toP 64 M x = some p → SeqAt.shaped p = true)
theorem throws_eq {M : Mem} {t : Thr} {x : D} (hx : Held' M x) (hn : nameB t.name = true) : mEq (.str t.name) x M = some (.bl (isName x t), M) := by
  rcases hx with ⟨z, rfl⟩ | hx
  · exact mEq_text
  rw [mEq_eq]
  obtain ⟨p, hp⟩ := Option.isSome_iff_exists.mp hx.1
  have sp := hx.2 p hp
  have sn : SeqAt.shaped (.str t.name) = true := by
    unfold SeqAt.shaped
    have := name_strOk hn
    simp [PyData.canLay0, PyData.depth, this]
  have e : eqD M (.str t.name) x = some (PyData.eqv (.str t.name) p) := by
    unfold eqD
    rw [hp]
    show (if SeqAt.shaped (.str t.name) = true ∧ SeqAt.shaped p = true then some (PyData.eqv (.str t.name) p) else strEq (.str t.name) x) = _
    rw [if_pos ⟨sn, sp⟩]
  rw [e]
  have e2 : PyData.eqv (.str t.name) p = isName x t := by
    cases x with
    | non => cases hp; simp [PyData.eqv, isName]
    | bl b => cases hp; simp [PyData.eqv, isName]
    | int i => cases hp; simp [PyData.eqv, isName]
    | str y => cases hp; simp only [PyData.eqv, isName]; rfl
    | err y => cases hp
    | tup xs =>
      have e' : (optAll (toP 63 M) xs).map PyData.tuple = some p := hp
      cases q : optAll (toP 63 M) xs with
      | none => rw [q] at e'; cases e'
      | some ps => rw [q] at e'; cases e'; simp [PyData.eqv, isName]
    | ref m =>
      have e' : (match seqAt M m with | some xs => (optAll (toP 63 M) xs).map PyData.list | none => none) = some p := hp
      cases q0 : seqAt M m with
      | none => rw [q0] at e'; cases e'
      | some xs =>
        simp only [q0] at e'
        cases q : optAll (toP 63 M) xs with
        | none => rw [q] at e'; cases e'
        | some ps => rw [q] at e'; cases e'; simp [PyData.eqv, isName]
  rw [e2]
  rfl
theorem throw_named_ok {w : Down} (h : DownOk w) {x : D} {M : Mem} (hx : Held' M x) : m_throw_named [w.toD, x] M = match w.throws.find? (isName x) with
    | some t => .ok t.toD M
    | none => .exc ⟨"NoThrow", none⟩ M := by
  show endS (b_throw_named [some w.toD, some x, none] M) = _
  unfold b_throw_named
  have go : ∀ (ts : List Thr) (e : Option D), (∀ t ∈ ts, nameB t.name = true) → forL (fun _ => True) (gOne 2) lp_throw_named_0 (ts.map Thr.toD) [some w.toD, some x, e] M = match ts.find? (isName x) with
      | some t => .ret t.toD M
      | none => .next [some w.toD, some x, if ts = [] then e else (ts.map fun t => some t.toD).getLastD none] M := by
    intro ts
    induction ts with
    | nil => intro e _; rw [List.map_nil, forL_nil trivial]; rfl
    | cons t ts ih =>
      intro e hn
      rw [List.map_cons, forL_cons (env1 := [some w.toD, some x, some t.toD]) trivial rfl]
      have he := throws_eq hx (hn t List.mem_cons_self)
      unfold lp_throw_named_0
      cases q : isName x t with
      | true =>
        rw [q] at he
        simp [Thr.toD, he, List.find?_cons, q]
      | false =>
        rw [q] at he
        rw [List.find?_cons, q]
        have step : nextS (sIf (TL.tB (eBin mEq (eBin mIdx (eVar 2) (eC (.int 0))) (eVar 1))) (sRet (eVar 2)) sNil [some w.toD, some x, some t.toD] M) (forL (fun _ => True) (gOne 2) lp_throw_named_0 (ts.map Thr.toD)) = forL (fun _ => True) (gOne 2) lp_throw_named_0 (ts.map Thr.toD) [some w.toD, some x, some t.toD] M := by
          simp [Thr.toD, he]
        unfold lp_throw_named_0 at step
        rw [step]
        have := ih (some t.toD) fun u hu => hn u (List.mem_cons_of_mem _ hu)
        unfold lp_throw_named_0 at this
        rw [this]
        cases ts.find? (isName x) with
        | some u => rfl
        | none =>
          cases ts with
          | nil => rfl
          | cons u us => rfl
  have g := go w.throws none fun t ht => h.good.nm t ht
  simp [Down.toD] at g ⊢
  rw [g]
  cases w.throws.find? (isName x) with
  | some t => rfl
  | none => rfl
theorem set_cut {α : Type} {xs : List α} {k : Nat} {y : α} (h : k < xs.length) : xs.take k ++ [y] ++ xs.drop (k + 1) = xs.set k y := by
  rw [List.set_eq_take_append_cons_drop, if_pos h]
  simp
theorem with_count_ok {cs : List Int} {k : Nat} (h : k < cs.length) (hl : cs.length ≤ 1000) (c : Int) (M : Mem) : m_with_count [.tup (cs.map D.int), .int (k : Nat), .int c] M = .ok (.tup ((cs.set k c).map D.int)) M := by
  show endS (b_with_count [some (.tup (cs.map D.int)), some (.int (k : Nat)), some (.int c)] M) = _
  unfold b_with_count
  have e1 : cutL (cs.map D.int) none (some (k : Int)) = (cs.take k).map D.int := by rw [cutL_to (by simp; omega), List.map_take]
  have e2 : cutL (cs.map D.int) (some ((k : Int) + 1)) none = (cs.drop (k + 1)).map D.int := by rw [show ((k : Int) + 1) = ((k + 1 : Nat) : Int) from by simp, cutL_fr (by simp; omega), List.map_drop]
  have e3 : (cs.take k).map D.int ++ [D.int c] ++ (cs.drop (k + 1)).map D.int = (cs.set k c).map D.int := by
    rw [← set_cut h]
    simp
  have l1 : ((cs.take k).map D.int).length ≤ 1000 := by rw [List.length_map, List.length_take]; omega
  have l2 : ((cs.drop (k + 1)).map D.int).length ≤ 1000 := by rw [List.length_map, List.length_drop]; omega
  generalize hA : (cs.take k).map D.int = A at *
  generalize hB : (cs.drop (k + 1)).map D.int = B at *
  have s1 : mAdd (.tup A) (.tup [.int c]) M = some (.tup (A ++ [.int c]), M) := by rw [mAdd_tup, if_pos (by rw [sizeLine_eq]; simp; omega)]
  have s2 : mAdd (.tup (A ++ [.int c])) (.tup B) M = some (.tup (A ++ [.int c] ++ B), M) := by rw [mAdd_tup, if_pos (by rw [sizeLine_eq]; simp; omega)]
  rw [e3] at s2
  simp [-mAdd_tup, e1, e2, s1, s2]
theorem at_ints {cs : List Int} {k : Nat} (h : k < cs.length) : atI (cs.map D.int) (k : Int) = some (.int (cs.getD k 0)) := by
  refine atI_nat ?_
  rw [List.getElem?_map, List.getElem?_eq_getElem h, List.getD_eq_getElem?_getD, List.getElem?_eq_getElem h]
  rfl
theorem turn_ended_ok {w : Down} (h : DownOk w) {cs : List Int} {side : Nat} (hl : cs.length = w.sides) (M : Mem) : m_turn_ended [w.toD, .tup (cs.map D.int), .int (side : Nat)] M = .ok (nextS' w cs side).toD M := by
  show endS (b_turn_ended [some w.toD, some (.tup (cs.map D.int)), some (.int (side : Nat)), none] M) = _
  unfold b_turn_ended
  have s0 := h.s0
  have e0 : ((side : Int) + 1) % (w.sides : Int) = (((side + 1) % w.sides : Nat) : Int) := by simp
  have e1 := at_ints (cs := cs) (k := (side + 1) % w.sides) (by rw [hl]; exact Nat.mod_lt _ (by omega))
  rw [← e0] at e1
  have c0 : 0 < w.sides := s0
  simp [Down.toD, e1, c0, nextS', DSt.toD]
theorem down_thrown_ok {w : Down} (h : DownOk w) {s : DSt} (o : DStOk w s) {x : D} {M : Mem} (hx : Held' M x) : m_down_thrown [w.toD, s.toD, x] M = match w.throws.find? (isName x) with
    | some t => .ok (.tup [(thrownS w s t).1.toD, .bl (thrownS w s t).2]) M
    | none => .exc ⟨"NoThrow", none⟩ M := by
  show endS (b_down_thrown [some w.toD, some s.toD, some x, none, none, none, none, none, none] M) = _
  unfold b_down_thrown
  have e1 := throw_named_ok h hx
  have s3 := h.s1
  have hlt : s.side < s.counts.length := by rw [o.len]; exact o.side
  have hl : s.counts.length ≤ 1000 := by rw [o.len]; omega
  have ha := at_ints hlt
  cases q : w.throws.find? (isName x) with
  | none =>
    rw [q] at e1
    simp [DSt.toD, e1]
  | some t =>
    rw [q] at e1
    have wc := fun c => with_count_ok hlt hl c M
    have te := fun c => turn_ended_ok h (cs := s.counts.set s.side c) (side := s.side) (by rw [List.length_set]; exact o.len) M
    unfold thrownS
    dsimp only
    generalize s.counts.getD s.side 0 = cnt at *
    have e1 : m_throw_named [w.toD, x] M = .ok (.tup [.str t.name, .int t.worth, .bl t.ends]) M := e1
    by_cases c1 : cnt - t.worth = 0
    · cases c0 : t.ends with
      | true =>
        simp [DSt.toD, e1, ha, c1, c0, wc]
      | false =>
        have te' := te s.held
        simp [DSt.toD] at te'
        simp [DSt.toD, e1, ha, c1, c0, wc, te']
    · by_cases c2 : cnt - t.worth ≤ 0
      · have te' := te s.held
        simp [DSt.toD] at te'
        simp [DSt.toD, e1, ha, c1, c2, wc, te']
      · have c2' : cnt - t.worth > 0 := by omega
        by_cases c3 : s.thrown + 1 = w.turn
        · have te' := te (cnt - t.worth)
          simp [DSt.toD, Down.toD] at te'
          have c3' : (s.thrown : Int) + 1 = (w.turn : Int) := by omega
          simp [DSt.toD, Down.toD] at e1
          simp [DSt.toD, Down.toD, e1, ha, c1, c2, c3, c3', wc, te']
        · have c3' : ¬ ((s.thrown : Int) + 1 = (w.turn : Int)) := by omega
          simp [DSt.toD, Down.toD] at e1
          simp [DSt.toD, Down.toD, e1, ha, c1, c2, c3, c3', wc]
/-- the parts of counts, put together with another one -/
structure Parts (cs : List Int) (k : Nat) (A B : List D) : Prop where
  lo : cutL (cs.map D.int) none (some (k : Int)) = A
  hi : cutL (cs.map D.int) (some ((k : Int) + 1)) none = B
  one : ∀ (c : Int) (M : Mem), mAdd (.tup A) (.tup [.int c]) M = some (.tup (A ++ [.int c]), M)
  two : ∀ (c : Int) (M : Mem), mAdd (.tup (A ++ [.int c])) (.tup B) M = some (.tup ((cs.set k c).map D.int), M)
theorem parts {cs : List Int} {k : Nat} (h : k < cs.length) (hl : cs.length ≤ 1000) : ∃ A B, Parts cs k A B := by
  refine ⟨(cs.take k).map D.int, (cs.drop (k + 1)).map D.int, ?_, ?_, fun c M => ?_, fun c M => ?_⟩
  · rw [cutL_to (by simp; omega), List.map_take]
  · rw [show ((k : Int) + 1) = ((k + 1 : Nat) : Int) from by simp, cutL_fr (by simp; omega), List.map_drop]
  · rw [mAdd_tup, if_pos (by rw [sizeLine_eq]; simp; omega)]
  · rw [mAdd_tup, if_pos (by rw [sizeLine_eq]; simp; omega)]
    have e3 : (cs.take k).map D.int ++ [D.int c] ++ (cs.drop (k + 1)).map D.int = (cs.set k c).map D.int := by
      rw [← set_cut h]
      simp
    rw [e3]
/-- worth and end of the throws of a name -/
def wEnds (t : Thr) : D := .tup [.int t.worth, .bl t.ends]
theorem named_comp {i c : Nat} {x : Str} {ts : List Thr} {env : TL.Env} {M : Mem} (hc : env[c]? = some (some (.str x))) (hi : i < env.length) (hne : i ≠ c) (hl : ts.length ≤ 1000) :
    Ret (compL (fun _ => True) i (TL.tB (eBin mEq (eBin mIdx (eVar i) (eC (D.int 0))) (eVar c))) (eSl (eVar i) (oSome (eC (D.int 1))) oNone) M.length env (ts.map Thr.toD) (M ++ [.lst []]))
      (fun _ M1 => Keep M M1 ∧ seqAt M1 M.length = some ((ts.filter fun t => decide (t.name = x)).map wEnds)) := by
  refine Ret.compF (fun d => match d with | .tup (.str y :: _) => decide (y = x) | _ => false) (fun d => match d with | .tup (_ :: r) => .tup r | _ => .non) (fun _ _ => trivial) (by simp; omega) (fun d hd M' k => ?_) fun M2 k a => ⟨k, ?_⟩
  · obtain ⟨t, ht, rfl⟩ := List.mem_map.mp hd
    have h1 : (env.set i (some t.toD))[i]? = some (some t.toD) := List.getElem?_set_self hi
    have h2 : (env.set i (some t.toD))[c]? = some (some (.str x)) := by rw [List.getElem?_set_ne hne]; exact hc
    generalize env.set i (some t.toD) = env' at *
    simp [h1, h2, Thr.toD, mEq_text]
    refine .ok ⟨rfl, Keep.refl _, fun _ => ?_⟩
    have e : cutL [D.str t.name, D.int t.worth, D.bl t.ends] (some 1) none = [D.int t.worth, D.bl t.ends] := rfl
    simp [h1, Thr.toD, e]
    exact .ok ⟨rfl, Keep.refl _⟩
  · rw [seqAt_lst a, List.filter_map, List.map_map]
    rfl
theorem filter_find {α : Type} {p : α → Bool} : ∀ {l : List α} {a : α}, l.find? p = some a → ∃ r, l.filter p = a :: r
  | [], _, h => nomatch h
  | x :: l, a, h => by
    rw [List.find?_cons] at h
    cases q : p x with
    | true => rw [q] at h; cases h; exact ⟨l.filter p, by rw [List.filter_cons_of_pos q]⟩
    | false =>
      rw [q] at h
      obtain ⟨r, e⟩ := filter_find h
      exact ⟨r, by rw [List.filter_cons_of_neg (by rw [q]; simp)]; exact e⟩
end CM
end
section
set_option maxHeartbeats 4000000
/-! things of a menu -/
namespace CM
open PySem PySem.Spec PyProof.Rows L2 TL TLQ
noncomputable section
/- def l_thing(_law_tape_here, _law_kept): 0=_law_tape_here 1=_law_kept 2=_law_some -/
def b_l_thing : MS := (sSeq (sAsg (gOne 2) (eLst (aCons (eC .non) (aCons (eC (.bl true)) (aCons (eC (.bl false)) (aCons (eUn mNeg (eC (.int 1))) (aCons (eC (.int 0)) (aCons (eC (.int 1)) (aCons (eBin mPow (eC (.int 10)) (eC (.int 40))) (aCons (eC (.str "")) (aCons (eC (.str "down")) (aCons (eC (.str "Point")) (aCons (eTup (aCons (eC (.str "point")) aNil)) (aCons (eLst aNil) (aCons (eTup aNil) (aCons (eTup (aCons (eVar 1) aNil)) (aCons (eLst (aCons (eVar 1) (aCons (eC (.int 1)) aNil))) aNil)))))))))))))))))
    (sSeq (sAsg (gOne 2) (eBin mAdd (eVar 2) (eLst (aCons (eTup (aCons (eVar 1) (aCons (eC (.int 1)) aNil))) (aCons (eTup (aCons (eTup (aCons (eVar 1) aNil)) (aCons (eLst (aCons (eVar 1) aNil)) aNil))) (aCons (eTup (aCons (eC (.int 1)) (aCons (eC (.int 1)) (aCons (eC (.int 1)) aNil)))) (aCons (eLst (aCons (eC (.int 1)) (aCons (eC (.int 10)) (aCons (eC (.int 10)) aNil)))) (aCons (eTup (aCons (eC (.str "lane")) (aCons (eC (.int 1)) aNil))) (aCons (eC (.int 7)) (aCons (eTup (aCons (eC (.int 1)) (aCons (eC (.int 10)) (aCons (eC (.int 10)) (aCons (eC (.str "x")) aNil))))) aNil))))))))))
    (sSeq (sAsg (gOne 2) (eBin mAdd (eVar 2) (eLst (aCons (eTup (aCons (eC (.str "rally")) (aCons (eVar 1) aNil))) (aCons (eC (.str "12")) aNil)))))
    (sRet (eBin mIdx (eVar 2) (eCall m_l_draw (aCons (eVar 0) (aCons (eC (.int 24)) aNil))))))))
def m_l_thing : Fn := fnD 2 3 b_l_thing
end

/-- a thing whose kind is known, and those in it -/
def Kinds (M : Mem) : D → Prop
  | .tup xs => ∀ x ∈ xs, (tyName M x).isSome = true
  | d => (tyName M d).isSome = true
theorem tyName_keep {M M' : Mem} (k : Keep M M') {d : D} (h : (tyName M d).isSome = true) : (tyName M' d).isSome = true := by
  cases d with
  | ref n =>
    cases q : seqAt M n with
    | none => simp [tyName, q] at h
    | some xs => simp [tyName, k.seq q]
  | _ => exact h
theorem Kinds.keep {M M' : Mem} (k : Keep M M') {d : D} (h : Kinds M d) : Kinds M' d := by
  cases d with
  | tup xs => exact fun x hx => tyName_keep k (h x hx)
  | _ => exact tyName_keep k h
theorem small_sh {M : Mem} {n : Nat} {i : Int} (h0 : -100 ≤ i) (h1 : i ≤ 100) : Sh M (n + 1) 201 (.int i) := Sh.int (by omega)
def things (kept : D) (m : Nat) : List D := [D.non, D.bl true, D.bl false, D.int (-1), D.int 0, D.int 1,
                D.int 10000000000000000000000000000000000000000, D.str (Str.ofString ""), D.str (Str.ofString "down"),
                D.str (Str.ofString "Point"), D.tup [D.str (Str.ofString "point")], D.ref m, D.tup [],
                D.tup [kept], D.ref (m + 1), D.tup [kept, D.int 1],
                D.tup [D.tup [kept], D.ref (m + 3)], D.tup [D.int 1, D.int 1, D.int 1],
                D.ref (m + 4), D.tup [D.str (Str.ofString "lane"), D.int 1], D.int 7,
                D.tup [D.int 1, D.int 10, D.int 10, D.str (Str.ofString "x")],
                D.tup [D.str (Str.ofString "rally"), kept], D.str (Str.ofString "12")]
/-- the lists that things hold -/
structure ThingM (M : Mem) (kept : D) (m : Nat) : Prop where
  a : seqAt M m = some []
  b : seqAt M (m + 1) = some [kept, .int 1]
  c : seqAt M (m + 3) = some [kept]
  d : seqAt M (m + 4) = some [.int 1, .int 10, .int 10]
def ThingQ (t : Nat) (kept : D) (M : Mem) (d : D) (M' : Mem) : Prop := ∃ m, d ∈ things kept m ∧ ThingM M' kept m ∧ Adv t M M'
theorem l_thing_ok {M : Mem} {t : Nat} (kept : D) (T : Tape M t) : Ret (m_l_thing [.ref t, kept] M) (ThingQ t kept M) := by
  show Ret (endS (b_l_thing [some (.ref t), some kept, none] M)) _
  unfold b_l_thing
  simp [at_newK]
  have tl := T.lt
  have go : ∀ G : Mem, G[0]? = some (.lst []) → G[1]? = some (.lst [kept, .int 1]) → G[3]? = some (.lst [kept]) → G[4]? = some (.lst [.int 1, .int 10, .int 10]) → G[8]? = some (.lst (things kept M.length)) →
      Ret (m_l_draw [.ref t, .int 24] (M ++ G)) (fun y M3 => ∃ d, mIdx (.ref (M.length + 8)) y M3 = some (d, M3) ∧ ThingQ t kept M d M3) := by
    intro G g0 g1 g3 g4 g8
    refine (draw (T.keep (Keep.more M G)) (by decide) (by decide)).imp ?_
    rintro _ M3 ⟨r, rfl, q0, q1, A⟩
    have at_ : ∀ k xs, G[k]? = some (.lst xs) → seqAt M3 (M.length + k) = some xs := fun k xs h => A.seq (seqAt_lst (by rw [at_newK, h])) (by omega)
    obtain ⟨d, hd, ed⟩ := pick_at (at_ 8 _ g8) q0 (by simpa [things] using q1)
    exact ⟨d, ed, M.length, hd, ⟨at_ 0 _ g0, at_ 1 _ g1, at_ 3 _ g3, at_ 4 _ g4⟩, (Adv.of T (Keep.more _ _)).trans A⟩
  refine Ret.bindQ (go _ rfl rfl rfl rfl rfl) ?_
  rintro y M4 ⟨d, ed, h⟩
  simp [ed]
  exact .ok h
theorem things_kinds {M : Mem} {kept d : D} {m : Nat} (T : ThingM M kept m) (hk : (tyName M kept).isSome = true) (h : d ∈ things kept m) : Kinds M d := by
  have t1 : ∀ n xs, seqAt M n = some xs → (tyName M (.ref n)).isSome = true := fun n xs e => by simp [tyName, e]
  simp only [things, List.mem_cons, List.not_mem_nil, or_false] at h
  rcases h with rfl | rfl | rfl | rfl | rfl | rfl | rfl | rfl | rfl | rfl | rfl | rfl | rfl | rfl | rfl | rfl | rfl | rfl | rfl | rfl | rfl | rfl | rfl | rfl
  all_goals first
    | rfl
    | exact t1 _ _ T.a
    | exact t1 _ _ T.b
    | exact t1 _ _ T.d
    | (intro x hx; cases hx; done)
    | (intro x hx
       simp only [List.mem_cons, List.not_mem_nil, or_false] at hx
       first
        | (rcases hx with rfl | rfl | rfl | rfl <;> first | rfl | exact hk | exact t1 _ _ T.c)
        | (rcases hx with rfl | rfl | rfl <;> first | rfl | exact hk | exact t1 _ _ T.c)
        | (rcases hx with rfl | rfl <;> first | rfl | exact hk | exact t1 _ _ T.c)
        | (rcases hx with rfl <;> first | rfl | exact hk | exact t1 _ _ T.c))
theorem str_sh {M : Mem} {n : Nat} (s : String) (h : (Str.ofString s).cps.size ≤ 10) : TL.Sh M (n + 1) 10 (.str (Str.ofString s)) := Sh.le (Sh.str (strOk_of s)) h
theorem things_sh {M : Mem} {kept d : D} {m w : Nat} (T : ThingM M kept m) (hk : ∀ n, TL.Sh M (n + 20) w kept) (h : d ∈ things kept m) : TL.Sh M 40 (2 * w + 1000) d := by
  have si : ∀ (i : Int) (n : Nat), -100 ≤ i → i ≤ 100 → TL.Sh M (n + 1) 201 (.int i) := fun i n => small_sh
  have k1 : ∀ n, ShL M (n + 20) (w + 1) [kept] := fun n => (ShL.cons (hk n) .nil).le (by omega)
  have k2 : ∀ n, ShL M (n + 20) (w + 203) [kept, .int 1] := fun n => (ShL.cons (hk n) (.cons (si 1 _ (by decide) (by decide)) .nil)).le (by omega)
  simp only [things, List.mem_cons, List.not_mem_nil, or_false] at h
  rcases h with rfl | rfl | rfl | rfl | rfl | rfl | rfl | rfl | rfl | rfl | rfl | rfl | rfl | rfl | rfl | rfl | rfl | rfl | rfl | rfl | rfl | rfl | rfl | rfl
  · exact Sh.le Sh.non (by omega)
  · exact Sh.le Sh.bl (by omega)
  · exact Sh.le Sh.bl (by omega)
  · exact Sh.le (si _ _ (by decide) (by decide)) (by omega)
  · exact Sh.le (si _ _ (by decide) (by decide)) (by omega)
  · exact Sh.le (si _ _ (by decide) (by decide)) (by omega)
  · exact Sh.le (Sh.int (by decide)) (by omega)
  · exact Sh.le (str_sh _ (by decide +kernel)) (by omega)
  · exact Sh.le (str_sh _ (by decide +kernel)) (by omega)
  · exact Sh.le (str_sh _ (by decide +kernel)) (by omega)
  · exact Sh.le (Sh.tup (.cons (str_sh _ (by decide +kernel)) .nil)) (by omega)
  · exact Sh.le (Sh.ref T.a .nil) (by omega)
  · exact Sh.le (Sh.tup .nil) (by omega)
  · exact Sh.le (Sh.tup (k1 19)) (by omega)
  · exact Sh.le (Sh.ref T.b (k2 19)) (by omega)
  · exact Sh.le (Sh.tup (k2 19)) (by omega)
  · exact Sh.le (Sh.tup (.cons (Sh.tup (k1 18)) (.cons (Sh.ref T.c (k1 18)) .nil))) (by omega)
  · exact Sh.le (Sh.tup (.cons (si _ _ (by decide) (by decide)) (.cons (si _ _ (by decide) (by decide)) (.cons (si _ _ (by decide) (by decide)) .nil)))) (by omega)
  · exact Sh.le (Sh.ref T.d (.cons (si _ _ (by decide) (by decide)) (.cons (si _ _ (by decide) (by decide)) (.cons (si _ _ (by decide) (by decide)) .nil)))) (by omega)
  · exact Sh.le (Sh.tup (.cons (str_sh _ (by decide +kernel)) (.cons (si _ _ (by decide) (by decide)) .nil))) (by omega)
  · exact Sh.le (si _ _ (by decide) (by decide)) (by omega)
  · exact Sh.le (Sh.tup (.cons (si _ _ (by decide) (by decide)) (.cons (si _ _ (by decide) (by decide)) (.cons (si _ _ (by decide) (by decide)) (.cons (str_sh _ (by decide +kernel)) .nil))))) (by omega)
  · exact Sh.le (Sh.tup (.cons (str_sh _ (by decide +kernel)) (.cons (hk 19) .nil))) (by omega)
  · exact Sh.le (str_sh _ (by decide +kernel)) (by omega)
theorem Tape.not4 {M : Mem} {t n : Nat} {xs : List D} (T : Tape M t) (h : seqAt M n = some xs) (hl : xs.length ≠ 4) : n ≠ t := by
  obtain ⟨s, ns, spot, left, way, ht, _⟩ := T
  rintro rfl
  rw [seqAt_lst ht] at h
  cases h
  exact hl rfl
theorem ThingM.adv {M M' : Mem} {kept : D} {m t : Nat} (T : ThingM M kept m) (Tp : Tape M t) (A : Adv t M M') : ThingM M' kept m :=
  ⟨A.seq T.a (Tp.not4 T.a (by simp)), A.seq T.b (Tp.not4 T.b (by simp)), A.seq T.c (Tp.not4 T.c (by simp)), A.seq T.d (Tp.not4 T.d (by simp))⟩
end CM
end
section
set_option maxHeartbeats 4000000
namespace CM
open PySem PySem.Spec PyProof.Rows L2 TL RL RB TLQ
theorem rows_at {rows : List LRow} {side : Nat} (h : side < rows.length) : atI (rows.map LRow.toD) (side : Int) = some rows[side].toD :=
  atI_nat (by rw [List.getElem?_map, List.getElem?_eq_getElem h]; rfl)
theorem cutL_from {α : Type} {xs : List α} {k : Nat} (h : k ≤ xs.length) : cutL xs (some (k : Int)) none = xs.drop k := by
  unfold cutL
  rw [HT.sIx_nat, HT.sIx_none, Nat.min_eq_left h]
  exact List.take_of_length_le (by simp)
theorem set_split {α : Type} {xs : List α} {k : Nat} {y : α} (h : k < xs.length) : xs.take k ++ [y] ++ xs.drop (k + 1) = xs.set k y := by
  rw [List.set_eq_take_append_cons_drop, if_pos h]; simp
/-- all sides through -/
def overR (n : Nat) (rows : List LRow) : Bool := rows.all fun r => decide (r.done = (n : Int))
/-- a number of pins -/
def pinsB (up : Int) : D → Bool
  | .int i => decide (0 ≤ i) && decide (i ≤ up)
  | _ => false
theorem between_D {d : D} {lo hi : Int} {M : Mem} (h : (tyName M d).isSome = true) : m_is_between [d, .int lo, .int hi] M = .ok (.bl (match d with | .int i => decide (lo ≤ i) && decide (i ≤ hi) | _ => false)) M := by
  show endS (b_is_between [some d, some (.int lo), some (.int hi)] M) = _
  unfold b_is_between
  cases d with
  | int i => by_cases c : lo ≤ i <;> simp [c]
  | ref n =>
    cases q : seqAt M n with
    | none => simp [tyName, q] at h
    | some xs => simp [mIsi_ref q]
  | err x => simp [tyName] at h
  | _ => simp
theorem bowled_ok {k : Nat} {P : Int} {n : Nat} (l : Lane k P n) {rows : List LRow} {side : Nat} {p : Int} (hk : rows.length = k) (hs : side < k) (h0 : 0 ≤ p) (hp : p ≤ (rows[side]'(by omega)).up) (h1 : p ≤ 100) (M : Mem) :
    Ret (m_lane_bowled [laneD k P n, standD rows side, .int p] M) (TL.Gives M (.tup [standD (rows.set side (stepR P n (rows[side]'(by omega)) p).1) (if (stepR P n (rows[side]'(by omega)) p).2 then (side + 1) % k else side), .bl (overR n (rows.set side (stepR P n (rows[side]'(by omega)) p).1))])) := by
  have hsl : side < rows.length := by omega
  generalize hr : rows[side] = r at *
  have hrb := row_behind_ok (k := k) (P := P) (n := n) r h0 (by omega) M
  obtain ⟨r', ended, hq⟩ : ∃ a b, stepR P n r p = (a, b) := ⟨_, _, rfl⟩
  rw [hq] at hrb ⊢
  simp only at hrb ⊢
  have hat := rows_at hsl
  rw [hr] at hat
  have hb := between_ok p 0 r.up M
  have hcut1 : cutL (rows.map LRow.toD) none (some (side : Int)) = (rows.map LRow.toD).take side := cutL_to (by simp; omega)
  have hcut2 : cutL (rows.map LRow.toD) (some ((side : Int) + 1)) none = (rows.map LRow.toD).drop (side + 1) := by
    rw [show ((side : Int) + 1) = ((side + 1 : Nat) : Int) by omega, cutL_from (by simp; omega)]
  have hset : (rows.map LRow.toD).take side ++ [r'.toD] ++ (rows.map LRow.toD).drop (side + 1) = (rows.set side r').map LRow.toD := by
    rw [set_split (by simpa using hsl), List.map_set]
  have hrl : (rows.set side r').length ≤ 3 := by rw [List.length_set]; have := l.k1; omega
  generalize rows.set side r' = rows' at *
  have hup : mIdx r.toD (.int 2) M = some (.int r.up, M) := by simp [LRow.toD]
  have hk0 := l.k0
  have hkn : mIdx (laneD k P n) (.int 0) M = some (.int (k : Nat), M) := by simp [laneD]
  have hsum : mAdd (.tup ((rows.map LRow.toD).take side)) (.tup [r'.toD]) M = some (.tup ((rows.map LRow.toD).take side ++ [r'.toD]), M) := by
    rw [mAdd_tup, if_pos (by rw [sizeLine_eq]; simp; have := l.k1; omega)]
  have hsum2 : mAdd (.tup ((rows.map LRow.toD).take side ++ [r'.toD])) (.tup ((rows.map LRow.toD).drop (side + 1))) M = some (.tup (rows'.map LRow.toD), M) := by
    rw [mAdd_tup, if_pos (by rw [sizeLine_eq]; simp; have := l.k1; omega), hset]
  have hmod : ((side : Int) + 1) % (k : Int) = (((side + 1) % k : Nat) : Int) := by rw [Int.natCast_emod]; rfl
  have hk' : (0 : Int) < (k : Int) := by omega
  show Ret (endS (b_lane_bowled [some (laneD k P n), some (standD rows side), some (.int p), none, none, none, none, none] M)) _
  unfold b_lane_bowled standD
  have fin : ∀ env : TL.Env, env[0]? = some (some (laneD k P n)) → env.length = 8 → Ret (compL (fun _ => True) 7 tYesD (eBin mEq (eBin mIdx (eVar 7) (eC (.int 0))) (eBin mIdx (eVar 0) (eC (.int 2)))) M.length env (rows'.map LRow.toD) (M ++ [.lst []]))
      (fun _ M2 => Keep M M2 ∧ nAll [.ref M.length] M2 = some (.bl (overR n rows'), M2)) := by
    intro env h0 hl
    refine Ret.comp (fun d => match d with | D.tup (D.int x :: _) => D.bl (decide (x = (n : Int))) | _ => D.non) (fun _ _ => trivial) (by simp; omega) (fun d hd M' _ => ?_) fun M2 k2 a2 => ⟨k2, ?_⟩
    · obtain ⟨x, _, rfl⟩ := List.mem_map.mp hd
      have e7 : (env.set 7 (some x.toD))[7]? = some (some x.toD) := List.getElem?_set_self (by omega)
      have e0 : (env.set 7 (some x.toD))[0]? = some (some (laneD k P n)) := by rw [List.getElem?_set_ne (by decide)]; exact h0
      simp [e7, e0, h0]
      simp [LRow.toD, h0]; simp [laneD]
      exact .ok ⟨rfl, Keep.refl _⟩
    · have := nAll_bls (M := M2) (n := M.length) (bs := rows'.map fun r => decide (r.done = (n : Int))) (seqAt_lst (by rw [a2]; congr 2; rw [List.map_map, List.map_map]; exact List.map_congr_left fun r _ => rfl))
      rw [this, List.all_map]; rfl
  cases ended with
  | false =>
    simp [-mAdd_tup, hat, hup, hb, h0, hp, hrb, hcut1, hcut2, hsum, hsum2]
    refine Ret.bindQ (fin _ rfl rfl) ?_
    rintro _ M2 ⟨k2, e2⟩
    simp [e2]
    exact .ok ⟨rfl, k2⟩
  | true =>
    have hk2 : 0 < k := by omega
    simp [-mAdd_tup, hat, hup, hb, h0, hp, hrb, hcut1, hcut2, hsum, hsum2, hkn, hk2]
    refine Ret.bindQ (fin _ rfl rfl) ?_
    rintro _ M2 ⟨k2, e2⟩
    simp [e2]
    exact .ok ⟨rfl, k2⟩
/-- what is no number of pins that are up -/
theorem bowled_no {k : Nat} {P : Int} {n : Nat} {rows : List LRow} {side : Nat} (hs : side < rows.length) {d : D} {M : Mem} (hd : (tyName M d).isSome = true) (hn : pinsB (rows[side]).up d = false) :
    m_lane_bowled [laneD k P n, standD rows side, d] M = .exc ⟨"NoPins", none⟩ M := by
  have hat := rows_at hs
  have hb := between_D (lo := 0) (hi := (rows[side]).up) hd
  generalize rows[side] = r at *
  have hup : mIdx r.toD (.int 2) M = some (.int r.up, M) := by simp [LRow.toD]
  have hb2 : m_is_between [d, .int 0, .int r.up] M = .ok (.bl false) M := by
    rw [hb]
    cases d <;> first | rfl | (simp [pinsB] at hn ⊢; exact hn)
  show endS (b_lane_bowled [some (laneD k P n), some (standD rows side), some d, none, none, none, none, none] M) = _
  unfold b_lane_bowled standD
  simp [hat, hup, hb2]
@[simp] theorem stand_idx0 {rows : List LRow} {side : Nat} {M : Mem} : mIdx (standD rows side) (.int 0) M = some (.tup (rows.map LRow.toD), M) := by simp [standD]
@[simp] theorem stand_idx1 {rows : List LRow} {side : Nat} {M : Mem} : mIdx (standD rows side) (.int 1) M = some (.int (side : Nat), M) := by simp [standD]
/-- new empty lists -/
theorem comp_new_go {i n : Nat} {env : TL.Env} {M0 : Mem} (hn : n = M0.length) : ∀ (ds : List D) (acc : List D) (j : Nat), acc.length + ds.length ≤ 1000000 →
    compL (fun _ => True) i tYesD (eLst aNil) n env ds (M0 ++ ([.lst acc] ++ List.replicate j (.lst []))) = .ok () (M0 ++ ([.lst (acc ++ (List.range ds.length).map fun x => .ref (M0.length + 1 + (j + x)))] ++ List.replicate (j + ds.length) (.lst [])))
  | [], acc, j, _ => by rw [compL_nil trivial]; simp
  | d :: ds, acc, j, hl => by
    rw [compL_cons trivial]
    simp only [tYesD_ap, Out.nox_ok, Out.bind_ok, if_true, eLst_ap, aNil_ap, List.length_nil, Nat.zero_le]
    have e1 : M0 ++ ([MO.lst acc] ++ List.replicate j (MO.lst [])) ++ [.lst []] = M0 ++ ([MO.lst acc] ++ List.replicate (j + 1) (MO.lst [])) := by
      rw [List.replicate_succ', List.append_assoc, List.append_assoc]
    have e2 : (M0 ++ ([MO.lst acc] ++ List.replicate (j + 1) (MO.lst [])))[n]? = some (.lst acc) := by subst hn; rw [List.getElem?_append_right (Nat.le_refl _)]; simp
    rw [e1]
    simp only [e2]
    rw [if_pos (by rw [sizeLine_eq]; simp at hl; omega)]
    have e3 : (M0 ++ ([MO.lst acc] ++ List.replicate (j + 1) (MO.lst []))).set n (.lst (acc ++ [.ref (M0 ++ ([MO.lst acc] ++ List.replicate j (MO.lst []))).length])) = M0 ++ ([MO.lst (acc ++ [.ref (M0.length + 1 + j)])] ++ List.replicate (j + 1) (MO.lst [])) := by
      subst hn
      rw [List.set_append_right _ _ (Nat.le_refl _)]
      simp
      omega
    rw [e3, comp_new_go hn ds _ (j + 1) (by simp at hl ⊢; omega)]
    have ea : acc ++ [D.ref (M0.length + 1 + j)] ++ ((List.range ds.length).map fun x => D.ref (M0.length + 1 + (j + 1 + x))) = acc ++ (List.range (d :: ds).length).map fun x => D.ref (M0.length + 1 + (j + x)) := by
      rw [List.append_assoc, List.length_cons, List.range_succ_eq_map, List.map_cons, List.map_map]
      congr 1
      simp only [List.singleton_append, Nat.add_zero, List.cons.injEq, true_and]
      refine List.map_congr_left fun x _ => ?_
      simp only [Function.comp, D.ref.injEq]
      omega
    have en : j + 1 + ds.length = j + (d :: ds).length := by simp; omega
    rw [ea, en]
theorem comp_new {i : Nat} {env : TL.Env} {M0 : Mem} {ds : List D} (hl : ds.length ≤ 1000000) :
    compL (fun _ => True) i tYesD (eLst aNil) M0.length env ds (M0 ++ [.lst []]) = .ok () (M0 ++ ([.lst ((List.range ds.length).map fun x => .ref (M0.length + 1 + x))] ++ List.replicate ds.length (.lst []))) := by
  have := comp_new_go (i := i) (env := env) (M0 := M0) rfl ds [] 0 (by simpa using hl)
  simpa using this
theorem best_compL {i j n : Nat} {env : TL.Env} {M : Mem} {ts : List Int} (hj : env[j]? = some (some (.ref n))) (hi : i < env.length) (hij : i ≠ j) (hn : seqAt M n = some (ts.map D.int)) (hne : ts ≠ []) (hl : ts.length ≤ 1000) :
    compL (fun _ => True) i (TL.tB (eBin mEq (eBin mIdx (eVar j) (eVar i)) (eCallO nMax (aCons (eVar j) aNil)))) (eVar i) M.length env (rngItems 0 ts.length) (M ++ [.lst []]) = .ok () (M ++ [.lst (bestD ts)]) := by
  have h := compL_pure (good := fun _ => True) (i := i) (t := TL.tB (eBin mEq (eBin mIdx (eVar j) (eVar i)) (eCallO nMax (aCons (eVar j) aNil)))) (e := eVar i) (env := env) (M := M) (isBest ts) (fun d => d) (fun _ => trivial) (rngItems 0 ts.length) [] (by simp [rng_length]; omega) (fun d hd ys => by
      obtain ⟨k, hk, rfl⟩ := mem_rng hd
      have e1 : (env.set i (some (D.int (0 + (k : Int)))))[j]? = some (some (.ref n)) := by rw [List.getElem?_set_ne hij]; exact hj
      have e2 : (env.set i (some (D.int (0 + (k : Int)))))[i]? = some (some (D.int (0 + (k : Int)))) := List.getElem?_set_self hi
      have hs := (Keep.more M [.lst ys]).seq hn
      have hat : atI (ts.map D.int) (k : Int) = some (.int ts[k]) := atI_nat (by rw [List.getElem?_map, List.getElem?_eq_getElem hk]; rfl)
      have hm := nMax_ints hs hne
      have hb : isBest ts (.int (k : Int)) = decide (ts[k] = maxI ts) := by
        simp only [isBest, Int.toNat_natCast, List.getElem?_eq_getElem hk, Option.some.injEq]
      simp only [Int.zero_add] at e1 e2 ⊢
      refine ⟨?_, fun _ => ?_⟩
      · simp [e1, e2, hs, hat, hm, hb]
      · simp [e2])
  rw [h]
  simp [bestD]
/-! numbers of pins that are up -/
def UpOk (P : Int) (r : LRow) : Prop := 0 ≤ r.up ∧ r.up ≤ P
theorem step_up {P n : Int} {r : LRow} {p : Int} (hP : 1 ≤ P) (h : UpOk P r) (h0 : 0 ≤ p) (hp : p ≤ r.up) : UpOk P (stepR P n r p).1 := by
  obtain ⟨h1, h2⟩ := h
  unfold stepR extraB frameB
  split
  · simp only
    split
    · exact ⟨by show 0 ≤ P; omega, Int.le_refl _⟩
    · show 0 ≤ (if r.up - p = 0 then P else r.up - p) ∧ (if r.up - p = 0 then P else r.up - p) ≤ P
      split <;> omega
  · split
    · split
      · exact ⟨by show 0 ≤ P; omega, Int.le_refl _⟩
      · exact ⟨by show 0 ≤ P; omega, Int.le_refl _⟩
    · split
      · split
        · exact ⟨by show 0 ≤ P; omega, Int.le_refl _⟩
        · exact ⟨by show 0 ≤ P; omega, Int.le_refl _⟩
      · split
        · split
          · exact ⟨by show 0 ≤ P; omega, Int.le_refl _⟩
          · exact ⟨by show 0 ≤ P; omega, Int.le_refl _⟩
        · exact ⟨by show 0 ≤ r.up - p; omega, by show r.up - p ≤ P; omega⟩
theorem row_pure (r : LRow) : pureD r.toD 1 = true := by simp [LRow.toD, pureD, pureL]
theorem rows_pure : ∀ rows : List LRow, pureL (rows.map LRow.toD) 1 = true
  | [] => by simp [pureL]
  | r :: rows => by simp [pureL, row_pure r, rows_pure rows]
theorem stand_pure (rows : List LRow) (side : Nat) : pureD (standD rows side) 3 = true := by
  have := rows_pure rows
  have h2 : pureD (.tup (rows.map LRow.toD)) 2 = true := by simpa [pureD] using this
  simp [standD, pureD, pureL] at h2 ⊢
  exact h2
theorem best_ints (ts : List Int) : ∃ bs : List Int, bestD ts = bs.map D.int ∧ bs.length ≤ ts.length := by
  unfold bestD
  have h : ∀ l : List D, (∀ d ∈ l, ∃ i : Int, d = .int i) → ∃ bs : List Int, l = bs.map D.int := by
    intro l
    induction l with
    | nil => exact fun _ => ⟨[], rfl⟩
    | cons d l ih =>
      intro h
      obtain ⟨i, rfl⟩ := h d List.mem_cons_self
      obtain ⟨bs, e⟩ := ih fun x hx => h x (List.mem_cons_of_mem _ hx)
      exact ⟨i :: bs, by rw [e]; rfl⟩
  obtain ⟨bs, e⟩ := h ((rngItems 0 ts.length).filter (isBest ts)) (fun d hd => by
    obtain ⟨k, _, rfl⟩ := mem_rng (List.mem_filter.mp hd).1
    exact ⟨_, rfl⟩)
  refine ⟨bs, e, ?_⟩
  have h1 : bs.length = ((rngItems 0 ts.length).filter (isBest ts)).length := by rw [e]; simp
  have h2 := List.length_filter_le (isBest ts) (rngItems 0 ts.length)
  rw [rng_length] at h2
  omega
theorem ints_pure : ∀ bs : List Int, pureL (bs.map D.int) 0 = true
  | [] => by simp [pureL]
  | b :: bs => by simp [pureL, pureD, ints_pure bs]
end CM
namespace CF
open PySem PySem.Spec PyProof.Rows L2 TL
theorem rows_small : ∀ rows : List RB.LRow, smallL (rows.map RB.LRow.toD) = true
  | [] => by simp [smallL]
  | r :: rows => by simp [smallL, smallD, RB.LRow.toD, rows_small rows]
theorem ints_small : ∀ bs : List Int, smallL (bs.map D.int) = true
  | [] => by simp [smallL]
  | b :: bs => by simp [smallL, smallD, ints_small bs]
end CF
namespace TL
open PySem PySem.Spec PyProof.Rows L2
theorem mEq_refl {d : D} {n : Nat} {M : Mem} (h : pureD d n = true) (hn : n ≤ 63) : mEq d d M = some (.bl true, M) := by
  rw [mEq_eq, eqD_pure h h hn hn, SeqAt.eqv_refl _ (lay_pure d n h).1]; rfl
theorem mNe_refl {d : D} {n : Nat} {M : Mem} (h : pureD d n = true) (hn : n ≤ 63) : mNe d d M = some (.bl false, M) := by
  rw [mNe_eq, eqD_pure h h hn hn, SeqAt.eqv_refl _ (lay_pure d n h).1]; rfl
end TL
end
section
set_option maxHeartbeats 4000000
/-! what is a down, as the program tells -/
namespace CM
open PySem PySem.Spec PyProof.Rows L2 TL TLQ RD
noncomputable section
/- def is_throw_name(thing): 0=thing 1=sign -/
def b_is_throw_name : MS := (sSeq (sIf (tOr (tNot (tTru (eIsi "str" (eVar 0)))) (tOr (tB (eBin mLt (eCallO nLen (aCons (eVar 0) aNil)) (eC (.int 1)))) (tOr (tB (eBin mGt (eCallO nLen (aCons (eVar 0) aNil)) (eC (.int 8)))) (tB (eBin mNotIn (eBin mIdx (eVar 0) (eC (.int 0))) (eC (.str "abcdefghijklmnopqrstuvwxyz"))))))) (sRet (eC (.bl false))) sNil)
    (sRet (eCallO nAll (aCons (eComp 1 (iAny (eVar 0)) tYesD (eOr (eBin mIn (eVar 1) (eC (.str "abcdefghijklmnopqrstuvwxyz"))) (eBin mIn (eVar 1) (eC (.str "0123456789"))))) aNil))))
def m_is_throw_name : Fn := fnD 1 2 b_is_throw_name
/- def is_throw(thing): 0=thing -/
def b_is_throw : MS := (sSeq (sIf (tOr (tNot (tTru (eIsi "tuple" (eVar 0)))) (tOr (tB (eBin mNe (eCallO nLen (aCons (eVar 0) aNil)) (eC (.int 3)))) (tNot (tTru (eCall m_is_throw_name (aCons (eBin mIdx (eVar 0) (eC (.int 0))) aNil)))))) (sRet (eC (.bl false))) sNil)
    (sRet (eAnd (eCall m_is_between (aCons (eBin mIdx (eVar 0) (eC (.int 1))) (aCons (eC (.int 0)) (aCons (eC (.int 1000000)) aNil)))) (eIsi "bool" (eBin mIdx (eVar 0) (eC (.int 2)))))))
def m_is_throw : Fn := fnD 1 1 b_is_throw
/- def is_down(thing): 0=thing 1=throw -/
def b_is_down : MS := (sSeq (sIf (tOr (tNot (tTru (eIsi "tuple" (eVar 0)))) (tOr (tB (eBin mNe (eCallO nLen (aCons (eVar 0) aNil)) (eC (.int 4)))) (tNot (tTru (eIsi "tuple" (eBin mIdx (eVar 0) (eC (.int 3)))))))) (sRet (eC (.bl false))) sNil)
    (sSeq (sIf (tOr (tNot (tTru (eCall m_is_between (aCons (eBin mIdx (eVar 0) (eC (.int 0))) (aCons (eC (.int 1)) (aCons (eC (.int 3)) aNil)))))) (tOr (tNot (tTru (eCall m_is_between (aCons (eBin mIdx (eVar 0) (eC (.int 1))) (aCons (eC (.int 1)) (aCons (eC (.int 1000000)) aNil)))))) (tNot (tTru (eCall m_is_between (aCons (eBin mIdx (eVar 0) (eC (.int 2))) (aCons (eC (.int 1)) (aCons (eC (.int 3)) aNil)))))))) (sRet (eC (.bl false))) sNil)
    (sSeq (sIf (tOr (tB (eBin mLt (eCallO nLen (aCons (eBin mIdx (eVar 0) (eC (.int 3))) aNil)) (eC (.int 1)))) (tOr (tB (eBin mGt (eCallO nLen (aCons (eBin mIdx (eVar 0) (eC (.int 3))) aNil)) (eC (.int 30)))) (tNot (tTru (eCallO nAll (aCons (eComp 1 (iAny (eBin mIdx (eVar 0) (eC (.int 3)))) tYesD (eCall m_is_throw (aCons (eVar 1) aNil))) aNil)))))) (sRet (eC (.bl false))) sNil)
    (sRet (eBin mEq (eLenSet (eComp 1 (iAny (eBin mIdx (eVar 0) (eC (.int 3)))) tYesD (eBin mIdx (eVar 1) (eC (.int 0))))) (eCallO nLen (aCons (eBin mIdx (eVar 0) (eC (.int 3))) aNil)))))))
def m_is_down : Fn := fnD 1 2 b_is_down
end

theorem Sh.ty {M : Mem} {n w : Nat} {d : D} (h : TL.Sh M (n + 1) w d) : (tyName M d).isSome = true := by
  obtain ⟨x, e, _⟩ := h
  cases d with
  | ref m =>
    have e' : (match seqAt M m with | some xs => (datL (dat n M) xs).map PyData.list | none => none) = some x := e
    cases q : seqAt M m with
    | none => rw [q] at e'; cases e'
    | some xs => simp [tyName, q]
  | err y => cases e
  | _ => rfl
theorem Sh.elems {M : Mem} {n w : Nat} {xs : List D} (h : TL.Sh M (n + 1) w (.tup xs)) : ShL M n w xs := by
  obtain ⟨x, e, ⟨b, g⟩, c, l⟩ := h
  obtain ⟨ps, e1, rfl⟩ := Option.map_eq_some_iff.mp (show (datL (dat n M) xs).map PyData.tuple = some x from e)
  exact ⟨ps, e1, ⟨b, g⟩, c, l⟩
theorem Sh.text {M : Mem} {n w : Nat} {x : Str} (h : TL.Sh M (n + 1) w (.str x)) : x.length ≤ w := by
  obtain ⟨p, e, _, _, l⟩ := h
  cases e
  exact l
/-- a whole number between -/
def inB (lo hi : Int) : D → Bool
  | .int i => decide (lo ≤ i) && decide (i ≤ hi)
  | _ => false
theorem between_B {d : D} {lo hi : Int} {M : Mem} (h : (tyName M d).isSome = true) : m_is_between [d, .int lo, .int hi] M = .ok (.bl (inB lo hi d)) M := by
  rw [between_D h]
  cases d <;> rfl
theorem letters_mem {c : Nat} : decide (c ∈ lettersS.cps.toList) = letter c := by
  rw [letters_tl]
  unfold letter
  rw [Bool.eq_iff_iff, decide_eq_true_iff, Bool.and_eq_true_iff, decide_eq_true_iff, decide_eq_true_iff, List.mem_map]
  exact ⟨fun ⟨a, h, e⟩ => by have := List.mem_range.mp h; omega, fun h => ⟨c - 97, List.mem_range.mpr (by omega), by omega⟩⟩
theorem figs_mem {c : Nat} : decide (c ∈ (Str.ofString "0123456789").cps.toList) = figure c := by
  rw [figs_tl]
  unfold figure
  rw [Bool.eq_iff_iff, decide_eq_true_iff, Bool.and_eq_true_iff, decide_eq_true_iff, decide_eq_true_iff, List.mem_map]
  exact ⟨fun ⟨a, h, e⟩ => by have := List.mem_range.mp h; omega, fun h => ⟨c - 48, List.mem_range.mpr (by omega), by omega⟩⟩
theorem in_sign {c : Nat} {z : Str} {M : Mem} : mIn (.str ⟨#[c]⟩) (.str z) M = some (.bl (decide (c ∈ z.cps.toList)), M) := by
  unfold mIn inD
  simp
theorem notIn_sign {c : Nat} {z : Str} {M : Mem} : mNotIn (.str ⟨#[c]⟩) (.str z) M = some (.bl (!decide (c ∈ z.cps.toList)), M) := by
  unfold mNotIn inD
  simp
theorem in_letters {c : Nat} {M : Mem} : mIn (.str ⟨#[c]⟩) (.str (Str.ofString "abcdefghijklmnopqrstuvwxyz")) M = some (.bl (letter c), M) := by
  rw [in_sign, ← letters_mem]; rfl
theorem notIn_letters {c : Nat} {M : Mem} : mNotIn (.str ⟨#[c]⟩) (.str (Str.ofString "abcdefghijklmnopqrstuvwxyz")) M = some (.bl (!letter c), M) := by
  rw [notIn_sign, ← letters_mem]; rfl
theorem in_figs {c : Nat} {M : Mem} : mIn (.str ⟨#[c]⟩) (.str (Str.ofString "0123456789")) M = some (.bl (figure c), M) := by
  rw [in_sign, ← figs_mem]
/-- may it be a name -/
def nameD : D → Bool
  | .str x => nameB x
  | _ => false
theorem str_at0 {x : Str} {c : Nat} {r : List Nat} (h : x.cps.toList = c :: r) (hl : x.length ≤ 10000) (M : Mem) : mIdx (.str x) (.int 0) M = some (.str ⟨#[c]⟩, M) := by
  show (if x.length ≤ sizeLine then (atI x.cps.toList 0).map fun c => (D.str ⟨#[c]⟩, M) else none) = _
  rw [if_pos (by rw [sizeLine_eq]; omega), h, atI_0]
  rfl
theorem is_throw_name_ok {M : Mem} {n w : Nat} {d : D} (h : TL.Sh M (n + 1) w d) (hw : w ≤ 10000) : Ret (m_is_throw_name [d] M) (TL.Gives M (.bl (nameD d))) := by
  show Ret (endS (b_is_throw_name [some d, none] M)) _
  unfold b_is_throw_name
  have ty := Sh.ty h
  cases d with
  | str x =>
    have hl := Sh.text h
    have hls : x.length ≤ 16777216 := by omega
    have hx : x.length = x.cps.toList.length := by show x.cps.size = _; simp
    cases e : x.cps.toList with
    | nil =>
      rw [e] at hx
      simp [hls, hx]
      exact TL.Ret.ok (P := TL.Gives M _) ⟨by simp [nameD, nameB, nameL, e], Keep.refl _⟩
    | cons c r =>
      have l0 : ¬ ((x.length : Nat) : Int) < 1 := by rw [hx, e]; simp; omega
      by_cases l8 : (8 : Int) < ((x.length : Nat) : Int)
      · simp [hls, l0, l8]
        have : ¬ (x.cps.toList.length ≤ 8) := by omega
        rw [e, List.length_cons] at this
        exact TL.Ret.ok (P := TL.Gives M _) ⟨by simp [nameD, nameB, nameL, e]; intros; omega, Keep.refl _⟩
      · have i0 := str_at0 e (by omega) M
        cases hc : letter c with
        | false =>
          simp [hls, l0, l8, i0, notIn_letters, hc]
          exact TL.Ret.ok (P := TL.Gives M _) ⟨by simp [nameD, nameB, nameL, e, hc], Keep.refl _⟩
        | true =>
          simp [hls, l0, l8, i0, notIn_letters, hc]
          refine Ret.bindQ (P := fun _ M1 => Keep M M1 ∧ seqAt M1 M.length = some ((x.cps.toList.map sign).map D.bl)) ?_ ?_
          · refine Ret.comp (fun d => match d with | .str y => .bl (y.cps.toList.all sign) | _ => .non) (fun _ _ => trivial) (by show (x.cps.toList.map _).length ≤ _; rw [List.length_map, ← hx]; omega) (fun d hd M' k => ?_) fun M2 k a => ⟨k, ?_⟩
            · obtain ⟨c2, hc2, rfl⟩ := List.mem_map.mp hd
              cases q : letter c2 with
              | true =>
                simp [in_letters, in_figs, q]
                exact TL.Ret.ok (P := TL.Gives M' _) ⟨by simp [sign, q], Keep.refl _⟩
              | false =>
                simp [in_letters, in_figs, q]
                exact TL.Ret.ok (P := TL.Gives M' _) ⟨by simp [sign, q], Keep.refl _⟩
            · rw [seqAt_lst a]
              simp [strItems, List.map_map, Function.comp_def]
          rintro _ M1 ⟨k1, a1⟩
          have na := nAll_bls (M := M1) a1
          simp [na]
          refine .ok ⟨?_, k1⟩
          have l8' : x.cps.toList.length ≤ 8 := by omega
          rw [e, List.length_cons] at l8'
          simp [nameD, nameB, nameL, e, hc, List.all_map, Function.comp_def]
          rw [← Array.all_toList, e, List.all_cons, decide_eq_true (by omega : r.length ≤ 7), Bool.true_and]
  | ref m =>
    cases q : seqAt M m with
    | none => simp [tyName, q] at ty
    | some xs => simp [mIsi_ref q]; exact TL.Ret.ok (P := TL.Gives M _) ⟨rfl, Keep.refl _⟩
  | err y => exact absurd ty (by simp [tyName])
  | _ => simp; exact TL.Ret.ok (P := TL.Gives M _) ⟨rfl, Keep.refl _⟩
def isBl : D → Bool
  | .bl _ => true
  | _ => false
def throwB : D → Bool
  | .tup [a, b, c] => nameD a && (inB 0 1000000 b && isBl c)
  | _ => false
theorem mIsi_bool {M : Mem} {d : D} (h : (tyName M d).isSome = true) : mIsi "bool" d M = some (.bl (isBl d), M) := by
  cases d with
  | ref n =>
    cases q : seqAt M n with
    | none => simp [tyName, q] at h
    | some xs => simp [mIsi_ref q, isBl]
  | err x => exact absurd h (by simp [tyName])
  | _ => simp [isBl]
theorem mIsi_tuple {M : Mem} {d : D} (h : (tyName M d).isSome = true) : mIsi "tuple" d M = some (.bl (match d with | .tup _ => true | _ => false), M) := by
  cases d with
  | ref n =>
    cases q : seqAt M n with
    | none => simp [tyName, q] at h
    | some xs => simp [mIsi_ref q]
  | err x => exact absurd h (by simp [tyName])
  | _ => simp
theorem is_throw_ok {M : Mem} {n w : Nat} {d : D} (h : TL.Sh M (n + 2) w d) (hw : w ≤ 10000) : Ret (m_is_throw [d] M) (TL.Gives M (.bl (throwB d))) := by
  show Ret (endS (b_is_throw [some d] M)) _
  unfold b_is_throw
  have ty := Sh.ty h
  cases d with
  | tup xs =>
    match xs, h with
    | [a, b, c], h =>
      have el := (Sh.elems h).of_all
      obtain ⟨va, la, sa⟩ := el a (by simp)
      obtain ⟨vb, lb, sb⟩ := el b (by simp)
      obtain ⟨vc, lc, sc⟩ := el c (by simp)
      obtain ⟨M1, e1, k1⟩ := gives_of (is_throw_name_ok sa (by omega))
      have e2 := between_B (lo := 0) (hi := 1000000) (Sh.ty (sb.keep k1))
      have e3 := mIsi_bool (Sh.ty (sc.keep k1))
      cases q1 : nameD a <;> cases q2 : inB 0 1000000 b <;> rw [q1] at e1 <;> rw [q2] at e2 <;> simp [e1, e2, e3] <;> exact TL.Ret.ok (P := TL.Gives M _) ⟨by simp [throwB, q1, q2], k1⟩
    | [], h => simp; exact TL.Ret.ok (P := TL.Gives M _) ⟨rfl, Keep.refl _⟩
    | [a], h => simp; exact TL.Ret.ok (P := TL.Gives M _) ⟨rfl, Keep.refl _⟩
    | [a, b], h => simp; exact TL.Ret.ok (P := TL.Gives M _) ⟨rfl, Keep.refl _⟩
    | a :: b :: c :: e :: xs, h =>
      have hl : ¬ ((xs.length : Int) + 1 + 1 + 1 + 1 = 3) := by omega
      simp [hl]
      exact TL.Ret.ok (P := TL.Gives M _) ⟨rfl, Keep.refl _⟩
  | ref m =>
    cases q : seqAt M m with
    | none => simp [tyName, q] at ty
    | some xs => simp [mIsi_ref q]; exact TL.Ret.ok (P := TL.Gives M _) ⟨rfl, Keep.refl _⟩
  | err y => exact absurd ty (by simp [tyName])
  | _ => simp; exact TL.Ret.ok (P := TL.Gives M _) ⟨rfl, Keep.refl _⟩
def nmOf : D → Str
  | .tup (.str x :: _) => x
  | _ => ⟨#[]⟩
def throwsB (ts : List D) : Bool := ts.all throwB && decide (fresh (fun _ => false) (ts.map nmOf) = ts.length)
def downB : D → Bool
  | .tup [a, b, c, .tup ts] => (inB 1 3 a && (inB 1 1000000 b && inB 1 3 c)) && (decide (1 ≤ ts.length) && (decide (ts.length ≤ 30) && throwsB ts))
  | _ => false
theorem throwB_str {d : D} (h : throwB d = true) : ∃ r, d = .tup (.str (nmOf d) :: r) := by
  match d, h with
  | .tup [a, b, c], h =>
    cases a with
    | str x => exact ⟨_, rfl⟩
    | _ => simp [throwB, nameD] at h
/-- names of what are throws -/
theorem names_of {i : Nat} {ts : List D} {env : TL.Env} {M : Mem} (hi : i < env.length) (hl : ts.length ≤ 1000) (ht : ∀ t ∈ ts, throwB t = true) :
    Ret (compL (fun _ => True) i tYesD (eBin mIdx (eVar i) (eC (.int 0))) M.length env ts (M ++ [.lst []])) (fun _ M1 => Keep M M1 ∧ seqAt M1 M.length = some ((ts.map nmOf).map D.str)) := by
  refine Ret.comp (fun d => .str (nmOf d)) (fun _ _ => trivial) (by omega) (fun d hd M' k => ?_) fun M2 k a => ⟨k, ?_⟩
  · have e : (env.set i (some d))[i]? = some (some d) := List.getElem?_set_self hi
    generalize env.set i (some d) = env' at *
    obtain ⟨r, hr⟩ := throwB_str (ht d hd)
    have e0 : mIdx d (.int 0) M' = some (.str (nmOf d), M') := by
      rw [hr]
      simp [nmOf]
    simp [e, e0]
    exact TL.Ret.ok (P := TL.Gives M' _) ⟨rfl, Keep.refl _⟩
  · rw [seqAt_lst a, List.map_map]
    rfl
theorem is_down_ok {M : Mem} {n w : Nat} {d : D} (h : TL.Sh M (n + 4) w d) (hw : w ≤ 10000) : Ret (m_is_down [d] M) (TL.Gives M (.bl (downB d))) := by
  show Ret (endS (b_is_down [some d, none] M)) _
  unfold b_is_down
  have ty := Sh.ty h
  cases d with
  | tup xs =>
    match xs, h with
    | [a, b, c, d], h =>
      have el := (Sh.elems h).of_all
      obtain ⟨va, la, sa⟩ := el a (by simp)
      obtain ⟨vb, lb, sb⟩ := el b (by simp)
      obtain ⟨vc, lc, sc⟩ := el c (by simp)
      obtain ⟨vd, ld, sd⟩ := el d (by simp)
      have td := mIsi_tuple (Sh.ty sd)
      cases d with
      | tup ts =>
        have ea := between_B (lo := 1) (hi := 3) (M := M) (Sh.ty sa)
        have eb := between_B (lo := 1) (hi := 1000000) (M := M) (Sh.ty sb)
        have ec := between_B (lo := 1) (hi := 3) (M := M) (Sh.ty sc)
        by_cases qn : (inB 1 3 a && (inB 1 1000000 b && inB 1 3 c)) = true
        · obtain ⟨qa, qn⟩ := Bool.and_eq_true_iff.mp qn
          obtain ⟨qb, qc⟩ := Bool.and_eq_true_iff.mp qn
          rw [qa] at ea
          rw [qb] at eb
          rw [qc] at ec
          by_cases l1 : ((ts.length : Nat) : Int) < 1
          · have : ¬ 1 ≤ ts.length := by omega
            simp [ea, eb, ec, l1]
            exact TL.Ret.ok (P := TL.Gives M _) ⟨by simp [downB, this], Keep.refl _⟩
          · by_cases l2 : (30 : Int) < ((ts.length : Nat) : Int)
            · have : ¬ ts.length ≤ 30 := by omega
              simp [ea, eb, ec, l1, l2]
              exact TL.Ret.ok (P := TL.Gives M _) ⟨by simp [downB, this], Keep.refl _⟩
            · have l1' : 1 ≤ ts.length := by omega
              have l2' : ts.length ≤ 30 := by omega
              simp [ea, eb, ec, l1, l2]
              refine Ret.bindQ (P := fun _ M1 => Keep M M1 ∧ seqAt M1 M.length = some ((ts.map throwB).map D.bl)) ?_ ?_
              · have elt := (Sh.elems sd).of_all
                refine Ret.comp (fun d => .bl (throwB d)) (fun _ _ => trivial) (by omega) (fun d hd M' k => ?_) fun M2 k a => ⟨k, by rw [seqAt_lst a, List.map_map]; rfl⟩
                obtain ⟨v, lv, sv⟩ := elt d hd
                have := is_throw_ok (sv.keep k) (by omega)
                simpa using this
              rintro _ M1 ⟨k1, a1⟩
              have na := nAll_bls (M := M1) a1
              have all : (ts.map throwB).all id = ts.all throwB := by rw [List.all_map]; rfl
              rw [all] at na
              cases qt : ts.all throwB with
              | false =>
                rw [qt] at na
                simp [na]
                exact TL.Ret.ok (P := TL.Gives M _) ⟨by simp [downB, throwsB, qt], k1⟩
              | true =>
                rw [qt] at na
                simp [na]
                refine Ret.bindQ (names_of (by simp) (by omega) (List.all_eq_true.mp qt)) ?_
                rintro _ M2 ⟨k2, a2⟩
                have ls := mLenSet_ok a2 (by rw [List.length_map]; omega)
                simp [ls]
                refine TL.Ret.ok (P := TL.Gives M _) ⟨?_, k1.trans k2⟩
                have e : (decide ((fresh (fun _ => false) (ts.map nmOf) : Int) = (ts.length : Nat))) = decide (fresh (fun _ => false) (ts.map nmOf) = ts.length) := decide_eq_decide.mpr (by omega)
                simp only [downB, throwsB, qa, qb, qc, qt, l1', l2', decide_true, Bool.true_and]
                rw [e]
        · have dn : downB (.tup [a, b, c, .tup ts]) = false := by
            simp only [Bool.not_eq_true] at qn
            simp only [downB, qn, Bool.false_and]
          cases qa : inB 1 3 a <;> cases qb : inB 1 1000000 b <;> cases qc : inB 1 3 c <;> rw [qa] at ea <;> rw [qb] at eb <;> rw [qc] at ec <;> first
            | (simp [qa, qb, qc] at qn; done)
            | (simp [ea, eb, ec]; exact TL.Ret.ok (P := TL.Gives M _) ⟨by rw [dn], Keep.refl _⟩)
      | _ =>
        simp at td
        simp [td]
        exact TL.Ret.ok (P := TL.Gives M _) ⟨rfl, Keep.refl _⟩
    | [], h => simp; exact TL.Ret.ok (P := TL.Gives M _) ⟨rfl, Keep.refl _⟩
    | [a], h => simp; exact TL.Ret.ok (P := TL.Gives M _) ⟨rfl, Keep.refl _⟩
    | [a, b], h => simp; exact TL.Ret.ok (P := TL.Gives M _) ⟨rfl, Keep.refl _⟩
    | [a, b, c], h => simp; exact TL.Ret.ok (P := TL.Gives M _) ⟨rfl, Keep.refl _⟩
    | a :: b :: c :: d :: e :: xs, h =>
      have hl : ¬ ((xs.length : Int) + 1 + 1 + 1 + 1 + 1 = 4) := by omega
      simp [hl]
      exact TL.Ret.ok (P := TL.Gives M _) ⟨by cases d <;> rfl, Keep.refl _⟩
  | ref m =>
    cases q : seqAt M m with
    | none => simp [tyName, q] at ty
    | some xs => simp [mIsi_ref q]; exact TL.Ret.ok (P := TL.Gives M _) ⟨rfl, Keep.refl _⟩
  | err y => exact absurd ty (by simp [tyName])
  | _ => simp; exact TL.Ret.ok (P := TL.Gives M _) ⟨rfl, Keep.refl _⟩
end CM
end
section
set_option maxHeartbeats 4000000
/-! games: drawn, played, shown -/
namespace CG
open PySem PySem.Spec PyProof.Rows L2 TL
open CM hiding b_l_alike m_l_alike b_l_unit m_l_unit g_l_unit b_l_rule m_l_rule b_l_any_rule m_l_any_rule unit_ok rule_step rule_ok any_rule
open CF
noncomputable section
/- def first(game): 0=game -/
def b_first : MS := (sSeq (sIf (tB (eBin mEq (eBin mIdx (eVar 0) (eC (.int 0))) (eC (.str "rally")))) (sRet (eTup (aCons (eCall (m_begun 14) (aCons (eBin mIdx (eVar 0) (eC (.int 1))) aNil)) (aCons (eC .non) aNil)))) sNil)
    (sSeq (sIf (tB (eBin mEq (eBin mIdx (eVar 0) (eC (.int 0))) (eC (.str "down")))) (sRet (eTup (aCons (eCall m_down_begun (aCons (eBin mIdx (eVar 0) (eC (.int 1))) aNil)) (aCons (eC .non) aNil)))) sNil)
    (sRet (eTup (aCons (eCall m_lane_begun (aCons (eBin mIdx (eVar 0) (eC (.int 1))) aNil)) (aCons (eC .non) aNil))))))
def m_first : Fn := fnD 1 1 b_first
/- def deeds_at(game, stand): 0=game 1=stand 2=rows 3=side 4=throw -/
def b_deeds_at : MS := (sSeq (sIf (tB (eBin mIsNot (eBin mIdx (eVar 1) (eC (.int 1))) (eC .non))) (sRet (eLst aNil)) sNil)
    (sSeq (sIf (tB (eBin mEq (eBin mIdx (eVar 0) (eC (.int 0))) (eC (.str "rally")))) (sRet (eLst (aCons (eC (.int 0)) (aCons (eC (.int 1)) aNil)))) sNil)
    (sSeq (sIf (tB (eBin mEq (eBin mIdx (eVar 0) (eC (.int 0))) (eC (.str "down")))) (sRet (eComp 4 (iAny (eBin mIdx (eBin mIdx (eVar 0) (eC (.int 1))) (eC (.int 3)))) tYesD (eBin mIdx (eVar 4) (eC (.int 0))))) sNil)
    (sSeq (sAsg (gTupD [2, 3]) (eBin mIdx (eVar 1) (eC (.int 0))))
    (sRet (eLstRg1 (eBin mAdd (eBin mIdx (eBin mIdx (eVar 2) (eVar 3)) (eC (.int 2))) (eC (.int 1)))))))))
def m_deeds_at : Fn := fnD 2 5 b_deeds_at
/- def rally_played(rule, stand, deed): 0=rule 1=stand 2=deed 3=found 4=won -/
def b_rally_played : MS := (sSeq (sIf (tNot (tTru (eCall m_is_between (aCons (eVar 2) (aCons (eC (.int 0)) (aCons (eC (.int 1)) aNil)))))) (sRaise "NoSide") sNil)
    (sSeq (sAsg (gTupD [3, 4]) (eCall (m_rallied 14) (aCons (eVar 0) (aCons (eVar 1) (aCons (eVar 2) aNil)))))
    (sSeq (sIf (tTru (eVar 4)) (sRet (eTup (aCons (eVar 3) (aCons (eTup (aCons (eVar 2) aNil)) aNil)))) sNil)
    (sRet (eTup (aCons (eVar 3) (aCons (eC .non) aNil)))))))
def m_rally_played : Fn := fnD 3 5 b_rally_played
/- def down_played(down, stand, deed): 0=down 1=stand 2=deed 3=found 4=won -/
def b_down_played : MS := (sSeq (sAsg (gTupD [3, 4]) (eCall m_down_thrown (aCons (eVar 0) (aCons (eVar 1) (aCons (eVar 2) aNil)))))
    (sSeq (sIf (tTru (eVar 4)) (sRet (eTup (aCons (eVar 3) (aCons (eTup (aCons (eBin mIdx (eVar 3) (eC (.int 1))) aNil)) aNil)))) sNil)
    (sRet (eTup (aCons (eVar 3) (aCons (eC .non) aNil))))))
def m_down_played : Fn := fnD 3 5 b_down_played
/- def lane_played(lane, stand, deed): 0=lane 1=stand 2=deed 3=found 4=over -/
def b_lane_played : MS := (sSeq (sAsg (gTupD [3, 4]) (eCall m_lane_bowled (aCons (eVar 0) (aCons (eVar 1) (aCons (eVar 2) aNil)))))
    (sSeq (sIf (tTru (eVar 4)) (sRet (eTup (aCons (eVar 3) (aCons (eCall m_best_of (aCons (eVar 3) aNil)) aNil)))) sNil)
    (sRet (eTup (aCons (eVar 3) (aCons (eC .non) aNil))))))
def m_lane_played : Fn := fnD 3 5 b_lane_played
/- def played(game, stand, deed): 0=game 1=stand 2=deed -/
def b_played : MS := (sSeq (sIf (tB (eBin mIsNot (eBin mIdx (eVar 1) (eC (.int 1))) (eC .non))) (sRaise "Over") sNil)
    (sSeq (sIf (tB (eBin mEq (eBin mIdx (eVar 0) (eC (.int 0))) (eC (.str "rally")))) (sRet (eCall m_rally_played (aCons (eBin mIdx (eVar 0) (eC (.int 1))) (aCons (eBin mIdx (eVar 1) (eC (.int 0))) (aCons (eVar 2) aNil))))) sNil)
    (sSeq (sIf (tB (eBin mEq (eBin mIdx (eVar 0) (eC (.int 0))) (eC (.str "down")))) (sRet (eCall m_down_played (aCons (eBin mIdx (eVar 0) (eC (.int 1))) (aCons (eBin mIdx (eVar 1) (eC (.int 0))) (aCons (eVar 2) aNil))))) sNil)
    (sRet (eCall m_lane_played (aCons (eBin mIdx (eVar 0) (eC (.int 1))) (aCons (eBin mIdx (eVar 1) (eC (.int 0))) (aCons (eVar 2) aNil))))))))
def m_played : Fn := fnD 3 3 b_played
/- def place_of(game, stand): 0=game 1=stand -/
def b_place_of : MS := (sSeq (sIf (tB (eBin mEq (eBin mIdx (eVar 0) (eC (.int 0))) (eC (.str "rally")))) (sRet (eTup (aCons (eCall (m_cut 14) (aCons (eBin mIdx (eVar 0) (eC (.int 1))) (aCons (eBin mIdx (eVar 1) (eC (.int 0))) aNil))) (aCons (eBin mIdx (eVar 1) (eC (.int 1))) aNil)))) sNil)
    (sRet (eVar 1)))
def m_place_of : Fn := fnD 2 2 b_place_of
/- def rally_words(stand): 0=stand 1=words -/
def lp_rally_words_0 : MS := (sSeq (sExpr (eMeth "list" mAppend (eVar 1) (aCons (eBin mAdd (eBin mAdd (eCallO nStr (aCons (eBin mIdx (eVar 0) (eC (.int 0))) aNil)) (eC (.str "-"))) (eCallO nStr (aCons (eBin mIdx (eVar 0) (eC (.int 1))) aNil))) aNil)))
    (sAsg (gOne 0) (eBin mIdx (eVar 0) (eC (.int 2)))))
def b_rally_words : MS := (sSeq (sIf (tB (eBin mEq (eVar 0) (eTup aNil))) (sRet (eLst (aCons (eC (.str "-")) aNil))) sNil)
    (sSeq (sAsg (gOne 1) (eLst aNil))
    (sSeq (sWhile 100000 (tB (eBin mNe (eVar 0) (eTup aNil))) lp_rally_words_0)
    (sRet (eVar 1)))))
def m_rally_words : Fn := fnD 1 2 b_rally_words
/- def shown(game, stand): 0=game 1=stand 2=words 3=count 4=row 5=side -/
def b_shown : MS := (sSeq (sIf (tB (eBin mEq (eBin mIdx (eVar 0) (eC (.int 0))) (eC (.str "rally")))) (sAsg (gOne 2) (eCall m_rally_words (aCons (eBin mIdx (eVar 1) (eC (.int 0))) aNil))) (sIf (tB (eBin mEq (eBin mIdx (eVar 0) (eC (.int 0))) (eC (.str "down")))) (sAsg (gOne 2) (eComp 3 (iAny (eBin mIdx (eBin mIdx (eVar 1) (eC (.int 0))) (eC (.int 0)))) tYesD (eCallO nStr (aCons (eVar 3) aNil)))) (sAsg (gOne 2) (eComp 4 (iAny (eBin mIdx (eBin mIdx (eVar 1) (eC (.int 0))) (eC (.int 0)))) tYesD (eCallO nStr (aCons (eBin mIdx (eVar 4) (eC (.int 6))) aNil))))))
    (sSeq (sIf (tB (eBin mIsNot (eBin mIdx (eVar 1) (eC (.int 1))) (eC .non))) (sAsg (gOne 2) (eBin mAdd (eBin mAdd (eVar 2) (eLst (aCons (eC (.str "won")) aNil))) (eComp 5 (iAny (eBin mIdx (eVar 1) (eC (.int 1)))) tYesD (eCallO nStr (aCons (eVar 5) aNil))))) sNil)
    (sRet (eMeth "str" mJoin (eC (.str " ")) (aCons (eVar 2) aNil)))))
def m_shown : Fn := fnD 2 6 b_shown
/- def l_unit(_law_tape_here, _law_deep, _law_thin): 0=_law_tape_here 1=_law_deep 2=_law_thin 3=_law_to 4=_law_lead 5=_law_cap 6=_law_last 7=_law_inner -/
def b_l_unit (r_l_unit : Fn) (r_l_rule : Fn) : MS := (sSeq (sAsg (gOne 3) (eBin mAdd (eC (.int 1)) (eCall m_l_draw (aCons (eVar 0) (aCons (eBin mIdx (eLst (aCons (eC (.int 3)) (aCons (eC (.int 5)) (aCons (eC (.int 99)) aNil)))) (eBin mFdiv (eCall m_l_draw (aCons (eVar 0) (aCons (eC (.int 20)) aNil))) (eC (.int 8)))) aNil)))))
    (sSeq (sAsg (gOne 4) (eBin mAdd (eC (.int 1)) (eCall m_l_draw (aCons (eVar 0) (aCons (eBin mIdx (eLst (aCons (eC (.int 2)) (aCons (eC (.int 3)) (aCons (eC (.int 99)) aNil)))) (eBin mFdiv (eCall m_l_draw (aCons (eVar 0) (aCons (eC (.int 20)) aNil))) (eC (.int 9)))) aNil)))))
    (sSeq (sAsg (gOne 5) (eC .non))
    (sSeq (sAsg (gOne 6) (eC .non))
    (sSeq (sIf (tB (eBin mEq (eCall m_l_draw (aCons (eVar 0) (aCons (eC (.int 2)) aNil))) (eC (.int 1)))) (sAsg (gOne 5) (eCallO nMin2 (aCons (eC (.int 99)) (aCons (eBin mAdd (eVar 3) (eCall m_l_draw (aCons (eVar 0) (aCons (eC (.int 4)) aNil)))) aNil)))) sNil)
    (sSeq (sAsg (gOne 7) (eCall r_l_rule (aCons (eVar 0) (aCons (eBin mSub (eVar 1) (eC (.int 1))) (aCons (eVar 2) aNil)))))
    (sSeq (sIf (tAnd (tB (eBin mIsNot (eVar 5) (eC .non))) (tB (eBin mGt (eCall m_l_draw (aCons (eVar 0) (aCons (eC (.int 3)) aNil))) (eC (.int 0))))) (sAsg (gOne 6) (eCall r_l_rule (aCons (eVar 0) (aCons (eCallO nMin2 (aCons (eBin mSub (eVar 1) (eC (.int 1))) (aCons (eVar 2) aNil))) (aCons (eVar 2) aNil))))) sNil)
    (sRet (eTup (aCons (eC (.str "unit")) (aCons (eVar 3) (aCons (eVar 4) (aCons (eVar 5) (aCons (eVar 7) (aCons (eVar 6) aNil)))))))))))))))
/- def l_rule(_law_tape_here, _law_deep, _law_thin): 0=_law_tape_here 1=_law_deep 2=_law_thin -/
def b_l_rule (r_l_unit : Fn) (r_l_rule : Fn) : MS := (sSeq (sIf (tOr (tB (eBin mEq (eVar 1) (eC (.int 0)))) (tB (eBin mEq (eCall m_l_draw (aCons (eVar 0) (aCons (eC (.int 7)) aNil))) (eC (.int 6))))) (sRet (eTup (aCons (eC (.str "point")) aNil))) sNil)
    (sRet (eCall r_l_unit (aCons (eVar 0) (aCons (eVar 1) (aCons (eVar 2) aNil))))))
def g_l_unit : Nat → Fn × Fn
  | 0 => (noFn, noFn)
  | n + 1 => (fnD 3 8 (b_l_unit ((g_l_unit n).1) ((g_l_unit n).2)), fnD 3 3 (b_l_rule ((g_l_unit n).1) ((g_l_unit n).2)))
def m_l_unit (n : Nat) : Fn := (g_l_unit n).1
def m_l_rule (n : Nat) : Fn := (g_l_unit n).2
/- def l_any_rule(_law_tape_here): 0=_law_tape_here 1=_law_way -/
def b_l_any_rule : MS := (sSeq (sAsg (gOne 1) (eCall m_l_draw (aCons (eVar 0) (aCons (eC (.int 6)) aNil))))
    (sRet (eCall (m_l_rule 14) (aCons (eVar 0) (aCons (eBin mIdx (eLst (aCons (eC (.int 2)) (aCons (eC (.int 1)) (aCons (eC (.int 2)) (aCons (eC (.int 3)) (aCons (eC (.int 3)) (aCons (eC (.int 4)) aNil))))))) (eVar 1)) (aCons (eBin mIdx (eLst (aCons (eC (.int 3)) (aCons (eC (.int 3)) (aCons (eC (.int 3)) (aCons (eC (.int 3)) (aCons (eC (.int 1)) (aCons (eC (.int 1)) aNil))))))) (eVar 1)) aNil))))))
def m_l_any_rule : Fn := fnD 1 2 b_l_any_rule
/- def l_game(_law_tape_here): 0=_law_tape_here 1=_law_kind -/
def b_l_game : MS := (sSeq (sAsg (gOne 1) (eCall m_l_draw (aCons (eVar 0) (aCons (eC (.int 3)) aNil))))
    (sSeq (sIf (tB (eBin mEq (eVar 1) (eC (.int 0)))) (sRet (eTup (aCons (eC (.str "rally")) (aCons (eCall m_l_any_rule (aCons (eVar 0) aNil)) aNil)))) sNil)
    (sSeq (sIf (tB (eBin mEq (eVar 1) (eC (.int 1)))) (sRet (eTup (aCons (eC (.str "down")) (aCons (eCall m_l_down (aCons (eVar 0) aNil)) aNil)))) sNil)
    (sRet (eTup (aCons (eC (.str "lane")) (aCons (eCall m_l_lane (aCons (eVar 0) aNil)) aNil)))))))
def m_l_game : Fn := fnD 1 2 b_l_game
end

open RL RB TLQ RD
theorem unit_ok {ru rr : Fn} {deep : Nat} (ih : ∀ d ≤ deep, RuleOk rr d) : RuleOk (fnD 3 8 (b_l_unit ru rr)) (deep + 1) := CM.unit_ok (ru := ru) ih
theorem rule_step {ru rr : Fn} {deep : Nat} (ih : ∀ d, deep = d + 1 → RuleOk ru deep) : RuleOk (fnD 3 3 (b_l_rule ru rr)) deep := by
  intro M t thin T
  show Ret (endS (b_l_rule ru rr [some (.ref t), some (.int (deep : Nat)), some (.int (thin : Nat))] M)) _
  unfold b_l_rule
  cases deep with
  | zero =>
    simp
    exact .ok ⟨.point, rfl, trivial, Nat.le_refl _, Nat.zero_le _, .refl T⟩
  | succ deep =>
    have ne : ¬ ((deep : Int) + 1 = 0) := by omega
    simp [ne]
    refine Ret.bindQ (draw T (by decide) (by decide)) ?_
    rintro _ M1 ⟨r1, rfl, h0, h1, A1⟩
    by_cases c : r1 = 6
    · simp [c]
      exact .ok ⟨.point, rfl, trivial, Nat.zero_le _, Nat.zero_le _, A1⟩
    · simp [c]
      obtain ⟨d, M2, e, r, h1, h2, h3, h4, A2⟩ := ih deep rfl M1 t thin A1.tape
      rw [show ((deep + 1 : Nat) : Int) = (deep : Int) + 1 from by omega] at e
      rw [e]
      simp
      exact .ok ⟨r, h1, h2, h3, h4, A1.trans A2⟩
theorem rule_ok : ∀ (n deep : Nat), 2 * deep + 1 ≤ n → RuleOk (m_l_rule n) deep
  | 0, deep, h => by omega
  | n + 1, deep, h => by
    refine rule_step fun d hd => ?_
    match n, h with
    | 0, h => omega
    | n + 1, h =>
      subst hd
      exact unit_ok fun d' hd' => rule_ok n d' (by omega)
theorem any_rule {M : Mem} {t : Nat} (T : Tape M t) : Ret (m_l_any_rule [.ref t] M) (AnyRuleQ t M) := by
  show Ret (endS (b_l_any_rule [some (.ref t), none] M)) _
  unfold b_l_any_rule
  simp
  refine Ret.bindQ (draw T (by decide) (by decide)) ?_
  rintro _ M1 ⟨r1, rfl, h0, h1, A1⟩
  obtain ⟨dp, th, e1, e2, hdp, hub⟩ : ∃ dp th : Nat, atI [D.int 2, D.int 1, D.int 2, D.int 3, D.int 3, D.int 4] r1 = some (.int dp) ∧ atI [D.int 3, D.int 3, D.int 3, D.int 3, D.int 1, D.int 1] r1 = some (.int th) ∧ dp ≤ 4 ∧ ub dp th ≤ 7 := by
    rcases (show r1 = 0 ∨ r1 = 1 ∨ r1 = 2 ∨ r1 = 3 ∨ r1 = 4 ∨ r1 = 5 by omega) with rfl | rfl | rfl | rfl | rfl | rfl
    · exact ⟨2, 3, by simp, by simp, by decide, by simp [ub]⟩
    · exact ⟨1, 3, by simp, by simp, by decide, by simp [ub]⟩
    · exact ⟨2, 3, by simp, by simp, by decide, by simp [ub]⟩
    · exact ⟨3, 3, by simp, by simp, by decide, by simp [ub]⟩
    · exact ⟨3, 1, by simp, by simp, by decide, by simp [ub]⟩
    · exact ⟨4, 1, by simp, by simp, by decide, by simp [ub]⟩
  simp [seqAt, e1, e2]
  refine Ret.bindQ (rule_ok 14 dp (by omega) _ t th (A1.tape.keep (Keep.more _ _))) ?_
  rintro _ M2 ⟨r, rfl, g1, g2, g3, A2⟩
  exact .ok ⟨r, rfl, g1, by omega, by omega, A1.trans ((Adv.of A1.tape (Keep.more _ _)).trans A2)⟩
inductive Gm where
  | rally (r : Rule)
  | down (w : Down)
  | lane (k : Nat) (P : Int) (n : Nat)
def Gm.toD : Gm → D
  | .rally r => .tup [.str (Str.ofString "rally"), r.toD]
  | .down w => .tup [.str (Str.ofString "down"), w.toD]
  | .lane k P n => .tup [.str (Str.ofString "lane"), laneD k P n]
def Gm.Ok : Gm → Prop
  | .rally r => r.good ∧ r.depth ≤ 4
  | .down w => DownOk w
  | .lane k P n => Lane k P n
def GameQ (t : Nat) (M : Mem) (d : D) (M' : Mem) : Prop := ∃ g : Gm, d = g.toD ∧ g.Ok ∧ Adv t M M'
theorem l_game_ok {M : Mem} {t : Nat} (T : Tape M t) : Ret (m_l_game [.ref t] M) (GameQ t M) := by
  show Ret (endS (b_l_game [some (.ref t), none] M)) _
  unfold b_l_game
  simp
  refine Ret.bindQ (draw T (by decide) (by decide)) ?_
  rintro _ M1 ⟨r, rfl, h0, h1, A1⟩
  have hr : r = 0 ∨ r = 1 ∨ r = 2 := by omega
  rcases hr with rfl | rfl | rfl
  · simp
    refine Ret.bindQ (any_rule A1.tape) ?_
    rintro _ M2 ⟨r, rfl, g, d, u, A2⟩
    exact .ok ⟨.rally r, rfl, ⟨g, d⟩, A1.trans A2⟩
  · simp
    refine Ret.bindQ (l_down_ok A1.tape) ?_
    rintro _ M2 ⟨w, rfl, o, A2⟩
    exact .ok ⟨.down w, rfl, o, A1.trans A2⟩
  · simp
    refine Ret.bindQ (l_lane_ok A1.tape) ?_
    rintro _ M2 ⟨k, P, n, rfl, l, A2⟩
    exact .ok ⟨.lane k P n, rfl, l, A1.trans A2⟩
def tS (i : Int) : Str := Str.ofString (toString i)
def SmI (i : Int) : Prop := i.natAbs < 10 ^ 60
theorem tS_len {i : Int} (h : SmI i) : (tS i).length ≤ 200 := of_decide_eq_true (int_short h)
theorem nS {i : Int} (h : SmI i) (M : Mem) : nStr [.int i] M = some (.str (tS i), M) := by
  rw [nStr_int, if_pos]
  · rfl
  · by_cases z : i.natAbs = 0
    · rw [z]; decide
    · exact Nat.lt_trans ((Nat.log2_lt z).mpr (Nat.lt_trans h (by decide : 10 ^ 60 < 2 ^ 200))) (by decide)
def wonD : Option (List Int) → D
  | none => .non
  | some bs => .tup (bs.map D.int)
def wonW : Option (List Int) → List Str
  | none => []
  | some bs => Str.ofString "won" :: bs.map tS
def textOf (ws : List Str) (won : Option (List Int)) : Str := Txt.join (Str.ofString " ") (ws ++ wonW won)
structure WordsOk (ws : List Str) : Prop where
  n : ws.length ≤ 100
  l : ∀ x ∈ ws, x.length ≤ 1000
def WonOk (won : Option (List Int)) : Prop := ∀ bs, won = some bs → bs.length ≤ 100 ∧ ∀ i ∈ bs, SmI i
theorem sum_le : ∀ {ws : List Str}, (∀ x ∈ ws, x.length ≤ 1000) → (ws.map (·.length)).sum ≤ 1000 * ws.length
  | [], _ => Nat.le_refl _
  | x :: ws, h => by
    have := sum_le (ws := ws) fun y hy => h y (List.mem_cons_of_mem _ hy)
    have := h x List.mem_cons_self
    rw [List.map_cons, List.sum_cons, List.length_cons]
    omega
theorem join_ok {M : Mem} {n : Nat} {ws : List Str} (hn : seqAt M n = some (ws.map D.str)) (hl : ws.length ≤ 300) (h : ∀ x ∈ ws, x.length ≤ 1000) : mJoin (.str (Str.ofString " ")) [.ref n] M = some (.str (Txt.join (Str.ofString " ") ws), M) := by
  have := sum_le h
  have e0 : (Str.ofString " ").length = 1 := by decide +kernel
  rw [mJoin_ref, hn]
  simp only
  rw [joinO_strs (by rw [e0]; omega)]
  rfl
theorem ints_comp {i : Nat} {bs : List Int} {env : TL.Env} {M : Mem} (hi : i < env.length) (hl : bs.length ≤ 1000) (hb : ∀ b ∈ bs, SmI b) :
    Ret (compL (fun _ => True) i tYesD (eCallO nStr (aCons (eVar i) aNil)) M.length env (bs.map D.int) (M ++ [.lst []])) (fun _ M1 => Keep M M1 ∧ M1[M.length]? = some (.lst ((bs.map tS).map D.str))) := by
  refine Ret.comp (fun d => match d with | .int b => .str (tS b) | _ => .non) (fun _ _ => trivial) (by rw [List.length_map]; omega) (fun d hd M' k => ?_) fun M2 k a => ⟨k, ?_⟩
  · obtain ⟨b, hb', rfl⟩ := List.mem_map.mp hd
    have e : (env.set i (some (.int b)))[i]? = some (some (.int b)) := List.getElem?_set_self hi
    generalize env.set i (some (.int b)) = env' at *
    simp [-nStr_int, e, nS (hb b hb')]
    exact TL.Ret.ok (P := TL.Gives M' _) ⟨rfl, Keep.refl _⟩
  · rw [a, List.map_map, List.map_map]
    rfl
noncomputable def tailS (i : Nat) : MS := (sSeq (sIf (TL.tB (eBin mIsNot (eBin mIdx (eVar 1) (eC (.int 1))) (eC .non))) (sAsg (gOne 2) (eBin mAdd (eBin mAdd (eVar 2) (eLst (aCons (eC (.str (Str.ofString "won"))) aNil))) (eComp i (iAny (eBin mIdx (eVar 1) (eC (.int 1)))) tYesD (eCallO nStr (aCons (eVar i) aNil))))) sNil)
    (sRet (eMeth "str" mJoin (eC (.str (Str.ofString " "))) (aCons (eVar 2) aNil))))
theorem tail_ok {i n : Nat} {env : TL.Env} {M : Mem} {x : D} {ws : List Str} {won : Option (List Int)} (h1 : env[1]? = some (some (.tup [x, wonD won]))) (h2 : env[2]? = some (some (.ref n))) (hi : i < env.length) (i3 : 3 ≤ i)
    (hn : M[n]? = some (.lst (ws.map D.str))) (hw : WordsOk ws) (ho : WonOk won) : Ret (endS (tailS i env M)) (TL.Gives M (.str (textOf ws won))) := by
  unfold tailS
  cases won with
  | none =>
    have j := join_ok (seqAt_lst hn) (by have := hw.n; omega) hw.l
    simp [h1, h2, wonD, j]
    exact TL.Ret.ok (P := TL.Gives M _) ⟨by simp [textOf, wonW], Keep.refl _⟩
  | some bs =>
    obtain ⟨hb, hs⟩ := ho bs rfl
    have a1 : mAdd (.ref n) (.ref M.length) (M ++ [.lst [.str (Str.ofString "won")]]) = some (.ref (M ++ [MO.lst [.str (Str.ofString "won")]]).length, M ++ [.lst [.str (Str.ofString "won")]] ++ [.lst (ws.map D.str ++ [.str (Str.ofString "won")])]) :=
      mAdd_lists ((Keep.more _ _).at hn) (at_len _ _) (by rw [List.length_map]; have := hw.n; simp; omega)
    simp [-mAdd_ref, h1, h2, wonD, a1]
    have hlt2 : 2 < env.length := by omega
    obtain ⟨L, hL⟩ : ∃ L, L = ws.map D.str ++ [.str (Str.ofString "won")] := ⟨_, rfl⟩
    have lL : L.length ≤ 200 := by rw [hL]; have := hw.n; simp; omega
    rw [← hL]
    have hc := ints_comp (i := i) (bs := bs) (env := env) (M := M ++ [.lst [.str (Str.ofString "won")], .lst L]) hi (by omega) hs
    have e2 : (M ++ [MO.lst [.str (Str.ofString "won")], .lst L]).length = M.length + 2 := by simp
    rw [e2, List.append_assoc] at hc
    refine Ret.bindQ hc ?_
    rintro _ M2 ⟨k2, a2⟩
    have b2 : M2[M.length + 1]? = some (.lst L) := k2.at (by rw [at_newK]; rfl)
    have a3 := mAdd_lists b2 a2 (by rw [List.length_map, List.length_map]; omega)
    have e3 : L ++ (bs.map tS).map D.str = (ws ++ wonW (some bs)).map D.str := by rw [hL]; simp [wonW]
    rw [e3] at a3
    have j := join_ok (M := M2 ++ [.lst ((ws ++ wonW (some bs)).map D.str)]) (n := M2.length) (seqAt_lst (at_len _ _)) (by have := hw.n; simp [wonW]; omega) (fun x hx => by
      rcases List.mem_append.mp hx with hx | hx
      · exact hw.l x hx
      · rcases List.mem_cons.mp hx with rfl | hx
        · decide +kernel
        · obtain ⟨b, hb', rfl⟩ := List.mem_map.mp hx
          have := tS_len (hs b hb')
          omega)
    simp [-mAdd_ref, -List.map_append, a3, hlt2, j]
    exact TL.Ret.ok (P := TL.Gives M _) ⟨rfl, ((Keep.more _ _).trans k2).trans (Keep.more _ _)⟩
def SmS : Stand → Prop
  | .nil => True
  | .st z o w => SmI z ∧ SmI o ∧ SmS w
def pairW (z o : Int) : Str := tS z ++ Str.ofString "-" ++ tS o
def wordsS : Stand → List Str
  | .nil => []
  | .st z o w => pairW z o :: wordsS w
def rWords (s : Stand) : List Str := if s = .nil then [Str.ofString "-"] else wordsS s
theorem wordsS_len : ∀ s : Stand, (wordsS s).length = s.depth
  | .nil => rfl
  | .st z o w => by
    show (wordsS w).length + 1 = _
    rw [wordsS_len w]
    rfl
theorem app_len (a b : Str) : (a ++ b).length = a.length + b.length := by
  show (a.cps ++ b.cps).size = _
  rw [Array.size_append]; rfl
theorem dash_len : (Str.ofString "-").length = 1 := by decide +kernel
theorem pair_len {z o : Int} (hz : SmI z) (ho : SmI o) : (pairW z o).length ≤ 401 := by
  unfold pairW
  rw [app_len, app_len, dash_len]
  have := tS_len hz
  have := tS_len ho
  omega
theorem wordsS_l : ∀ {s : Stand}, SmS s → ∀ x ∈ wordsS s, x.length ≤ 1000
  | .nil, _, x, hx => nomatch hx
  | .st z o w, h, x, hx => by
    rcases List.mem_cons.mp hx with rfl | hx
    · have := pair_len h.1 h.2.1
      omega
    · exact wordsS_l h.2.2 x hx
theorem rWords_ok {s : Stand} (h : SmS s) (hd : s.depth ≤ 60) : WordsOk (rWords s) := by
  unfold rWords
  split
  · exact ⟨by simp, fun x hx => by cases List.mem_singleton.mp hx; decide +kernel⟩
  · exact ⟨by rw [wordsS_len]; omega, wordsS_l h⟩
theorem add1 {z : Int} (hz : SmI z) (M : Mem) : mAdd (.str (tS z)) (.str (Str.ofString "-")) M = some (.str (tS z ++ Str.ofString "-"), M) := by
  rw [mAdd_str, if_pos]
  have := tS_len hz
  rw [dash_len, sizeLine_eq]
  omega
theorem add2 {z o : Int} (hz : SmI z) (ho : SmI o) (M : Mem) : mAdd (.str (tS z ++ Str.ofString "-")) (.str (tS o)) M = some (.str (pairW z o), M) := by
  rw [mAdd_str, if_pos]
  · rfl
  have := tS_len hz
  have := tS_len ho
  rw [app_len, dash_len, sizeLine_eq]
  omega
def WInv (s : Stand) (M0 : Mem) : Nat → TL.Env → Mem → Prop := fun m env M => ∃ (w : Stand) (acc : List Str), env = [some w.toD, some (.ref M0.length)] ∧ m = w.depth ∧ SmS w ∧ acc.length + w.depth ≤ 60 ∧ Keep M0 M ∧ M[M0.length]? = some (.lst (acc.map D.str)) ∧ acc ++ wordsS w = wordsS s
def WordsQ (ws : List Str) (n : Nat) (M0 : Mem) (d : D) (M : Mem) : Prop := d = .ref n ∧ Keep M0 M ∧ M[n]? = some (.lst (ws.map D.str))
theorem rally_words_ok {s : Stand} (h : SmS s) (hd : s.depth ≤ 60) (M0 : Mem) : Ret (m_rally_words [s.toD] M0) (WordsQ (rWords s) M0.length M0) := by
  show Ret (endS (b_rally_words [some s.toD, none] M0)) _
  unfold b_rally_words
  by_cases hs : s = .nil
  · simp [mEq_nilS hd, hs]
    exact .ok ⟨rfl, Keep.more _ _, by simp [rWords]⟩
  · simp [mEq_nilS hd, hs]
    refine Ret.endS ?_
    refine SRet.whileQ (WInv s M0) (m := s.depth) ⟨s, [], rfl, rfl, h, by simpa using hd, Keep.more _ _, at_len _ _, rfl⟩ (by omega) ?_
    rintro m env M ⟨w, acc, rfl, rfl, hw, hl, kk, ha, e⟩
    have hwd : w.depth ≤ 60 := by omega
    cases w with
    | nil =>
      simp [mNe_nilS hwd]
      refine .ok ?_
      simp
      refine SRet.ret ⟨rfl, kk, ?_⟩
      have e' : acc = wordsS s := by simpa [wordsS] using e
      rw [ha, e', rWords, if_neg hs]
    | st z o v =>
      obtain ⟨hz, ho, hv⟩ := hw
      simp [mNe_nilS hwd]
      refine .ok ?_
      simp
      have hlt := lt_of_at ha
      have sq := seqAt_lst ha
      have happ : mAppend (.ref M0.length) [.str (pairW z o)] M = some (.non, M.set M0.length (.lst (acc.map D.str ++ [.str (pairW z o)]))) := mAppend_ok ha (by rw [List.length_map]; omega)
      unfold lp_rally_words_0
      simp [-mAdd_str, -nStr_int, Stand.toD, nS hz, nS ho, add1 hz, add2 hz ho, sq, happ]
      refine SRet.next ⟨v.depth, by simp [Stand.depth], v, acc ++ [pairW z o], rfl, rfl, hv, by simp [Stand.depth] at hl ⊢; omega, kk.setNew (Nat.le_refl _), ?_, ?_⟩
      · rw [List.getElem?_set_self hlt]; simp
      · rw [List.append_assoc]; exact e
theorem of_endS {o : SOut} {N : TL.Env → Mem → Prop} {M : Mem} {x : Str} (h : Ret (endS o) (TL.Gives M (.str x))) : SRet o N (TL.Gives M (.str x)) := by
  cases o with
  | next e M' =>
    obtain ⟨d, M1, e1, h⟩ := h
    cases e1
    exact absurd h.1 (by simp)
  | ret d M' =>
    obtain ⟨d, M1, e1, h⟩ := h
    cases e1
    exact h
  | _ =>
    obtain ⟨d, M1, e1, h⟩ := h
    cases e1
theorem rows_comp {i : Nat} {rows : List LRow} {env : TL.Env} {M : Mem} (hi : i < env.length) (hl : rows.length ≤ 1000) (hb : ∀ r ∈ rows, SmI r.total) :
    Ret (compL (fun _ => True) i tYesD (eCallO nStr (aCons (eBin mIdx (eVar i) (eC (.int 6))) aNil)) M.length env (rows.map LRow.toD) (M ++ [.lst []])) (fun _ M1 => Keep M M1 ∧ M1[M.length]? = some (.lst ((rows.map fun r => tS r.total).map D.str))) := by
  refine Ret.comp (fun d => match d with | .tup [_, _, _, _, _, _, .int b] => .str (tS b) | _ => .non) (fun _ _ => trivial) (by rw [List.length_map]; omega) (fun d hd M' k => ?_) fun M2 k a => ⟨k, ?_⟩
  · obtain ⟨b, hb', rfl⟩ := List.mem_map.mp hd
    have e : (env.set i (some b.toD))[i]? = some (some b.toD) := List.getElem?_set_self hi
    have e6 : ∀ M, mIdx b.toD (.int 6) M = some (.int b.total, M) := fun M => rfl
    generalize env.set i (some b.toD) = env' at *
    simp [-nStr_int, e, e6, nS (hb b hb')]
    exact TL.Ret.ok (P := TL.Gives M' _) ⟨rfl, Keep.refl _⟩
  · rw [a, List.map_map, List.map_map]
    rfl
def intsW (bs : List Int) : List Str := bs.map tS
theorem intsW_ok {bs : List Int} (hl : bs.length ≤ 100) (hb : ∀ b ∈ bs, SmI b) : WordsOk (intsW bs) := ⟨by unfold intsW; rw [List.length_map]; exact hl, fun x hx => by
  obtain ⟨b, hb', rfl⟩ := List.mem_map.mp hx
  have := tS_len (hb b hb')
  omega⟩
theorem keyS {i n : Nat} {g x : D} {ws : List Str} {won : Option (List Int)} {env : TL.Env} {M0 M : Mem} (h1 : env[1]? = some (some (.tup [x, wonD won]))) (h2 : env[2]? = some (some (.ref n))) (hi : i < env.length) (i3 : 3 ≤ i) (k : Keep M0 M)
    (hn : M[n]? = some (.lst (ws.map D.str))) (hw : WordsOk ws) (ho : WonOk won) : SRet (tailS i env M) (fun _ M => TL.Gives M0 (.str (textOf ws won)) .non M) (TL.Gives M0 (.str (textOf ws won))) :=
  (of_endS (tail_ok h1 h2 hi i3 hn hw ho)).imp (fun _ _ h => h) fun d M' g => ⟨g.1, k.trans g.2⟩
noncomputable def shownS (T : MS) : MS := (sSeq (sIf (TL.tB (eBin mEq (eBin mIdx (eVar 0) (eC (.int 0))) (eC (.str (Str.ofString "rally"))))) (sAsg (gOne 2) (eCall m_rally_words (aCons (eBin mIdx (eVar 1) (eC (.int 0))) aNil))) (sIf (TL.tB (eBin mEq (eBin mIdx (eVar 0) (eC (.int 0))) (eC (.str (Str.ofString "down"))))) (sAsg (gOne 2) (eComp 3 (iAny (eBin mIdx (eBin mIdx (eVar 1) (eC (.int 0))) (eC (.int 0)))) tYesD (eCallO nStr (aCons (eVar 3) aNil)))) (sAsg (gOne 2) (eComp 4 (iAny (eBin mIdx (eBin mIdx (eVar 1) (eC (.int 0))) (eC (.int 0)))) tYesD (eCallO nStr (aCons (eBin mIdx (eVar 4) (eC (.int 6))) aNil)))))) T)
theorem shown_eq (g st : D) (M : Mem) : m_shown [g, st] M = endS (shownS (tailS 5) [some g, some st, none, none, none, none] M) := rfl
theorem shown_rally {s : Stand} {r : D} {won : Option (List Int)} (h : SmS s) (hd : s.depth ≤ 60) (ho : WonOk won) (M0 : Mem) :
    Ret (m_shown [.tup [.str (Str.ofString "rally"), r], .tup [s.toD, wonD won]] M0) (TL.Gives M0 (.str (textOf (rWords s) won))) := by
  rw [shown_eq]
  have key := fun (n : Nat) (M : Mem) (k : Keep M0 M) (hn : M[n]? = some (.lst ((rWords s).map D.str))) => keyS (i := 5) (g := .non) (x := s.toD) (env := [some (.tup [.str (Str.ofString "rally"), r]), some (.tup [s.toD, wonD won]), some (.ref n), none, none, none]) rfl rfl (by simp) (by decide) k hn (rWords_ok h hd) ho
  generalize tailS 5 = T at *
  unfold shownS
  refine Ret.endS ?_
  simp
  refine SRet.thenQ (rally_words_ok h hd M0) ?_
  rintro _ M1 ⟨rfl, k1, a1⟩
  exact key _ M1 k1 a1
theorem shown_down {bs : List Int} {xs : List D} {r : D} {won : Option (List Int)} (hl : bs.length ≤ 100) (hb : ∀ b ∈ bs, SmI b) (ho : WonOk won) (M0 : Mem) :
    Ret (m_shown [.tup [.str (Str.ofString "down"), r], .tup [.tup (.tup (bs.map D.int) :: xs), wonD won]] M0) (TL.Gives M0 (.str (textOf (intsW bs) won))) := by
  rw [shown_eq]
  have key := fun (n : Nat) (M : Mem) (k : Keep M0 M) (hn : M[n]? = some (.lst ((intsW bs).map D.str))) => keyS (i := 5) (g := .non) (x := .tup (.tup (bs.map D.int) :: xs)) (env := [some (.tup [.str (Str.ofString "down"), r]), some (.tup [.tup (.tup (bs.map D.int) :: xs), wonD won]), some (.ref n), none, none, none]) rfl rfl (by simp) (by decide) k hn (intsW_ok hl hb) ho
  generalize tailS 5 = T at *
  unfold shownS
  refine Ret.endS ?_
  simp
  refine SRet.thenQ (ints_comp (by simp) (by omega) hb) ?_
  rintro _ M1 ⟨k1, a1⟩
  exact key _ M1 k1 a1
theorem shown_lane {rows : List LRow} {xs : List D} {r : D} {won : Option (List Int)} (hl : rows.length ≤ 100) (hb : ∀ r ∈ rows, SmI r.total) (ho : WonOk won) (M0 : Mem) :
    Ret (m_shown [.tup [.str (Str.ofString "lane"), r], .tup [.tup (.tup (rows.map LRow.toD) :: xs), wonD won]] M0) (TL.Gives M0 (.str (textOf (intsW (rows.map (·.total))) won))) := by
  rw [shown_eq]
  have ei : intsW (rows.map (·.total)) = rows.map fun r => tS r.total := by unfold intsW; rw [List.map_map]; rfl
  have key := fun (n : Nat) (M : Mem) (k : Keep M0 M) (hn : M[n]? = some (.lst ((intsW (rows.map (·.total))).map D.str))) => keyS (i := 5) (g := .non) (x := .tup (.tup (rows.map LRow.toD) :: xs)) (env := [some (.tup [.str (Str.ofString "lane"), r]), some (.tup [.tup (.tup (rows.map LRow.toD) :: xs), wonD won]), some (.ref n), none, none, none]) rfl rfl (by simp) (by decide) k hn (intsW_ok (by rw [List.length_map]; exact hl) (fun b hb' => by
    obtain ⟨r, hr, rfl⟩ := List.mem_map.mp hb'
    exact hb r hr)) ho
  generalize tailS 5 = T at *
  unfold shownS
  refine Ret.endS ?_
  simp
  refine SRet.thenQ (rows_comp (by simp) (by omega) hb) ?_
  rintro _ M1 ⟨k1, a1⟩
  exact key _ M1 k1 (by rw [ei]; exact a1)
theorem within_cut (r : Rule) (z o : Int) : within r (z - lessR r z o) (o - lessR r z o) = within r z o := by
  cases hl : r.last with
  | none => unfold within; rw [hl]
  | some l =>
    obtain ⟨c, hc⟩ := cap_last hl
    have : lessR r z o = 0 := by unfold lessR; rw [hc]
    rw [this]; simp
theorem fits_cut : ∀ {s : Stand} {r : Rule}, Fits r s → Fits r (cutR r s)
  | .nil, r, h => by rw [cutR_nil]; trivial
  | .st z o w, r, h => by
    show Fits r (.st (z - lessR r z o) (o - lessR r z o) (cutR (within r z o) w))
    exact ⟨h.1, by rw [within_cut]; exact fits_cut h.2⟩
theorem less_twice (r : Rule) (z o : Int) : lessR r (z - lessR r z o) (o - lessR r z o) = 0 := by
  cases hc : r.cap with
  | none =>
    unfold lessR
    rw [hc]
    simp only
    omega
  | some c => unfold lessR; rw [hc]
theorem cut_twice : ∀ (s : Stand) (r : Rule), cutR r (cutR r s) = cutR r s
  | .nil, r => by rw [cutR_nil, cutR_nil]
  | .st z o w, r => by
    have ih := cut_twice w (within r z o)
    show cutR r (.st (z - lessR r z o) (o - lessR r z o) (cutR (within r z o) w)) = _
    show Stand.st _ _ _ = Stand.st _ _ _
    rw [less_twice, within_cut, ih]
    simp [cutR]
theorem stand_small : ∀ s : Stand, CF.smallD s.toD = true
  | .nil => rfl
  | .st z o w => by simp [Stand.toD, CF.smallD, CF.smallL, stand_small w]
theorem alike_text (x : Str) (n : Nat) (M : Mem) : CF.m_l_alike (n + 1) [.str x, .str x] M = .ok (.bl true) M := by
  show endS (CF.b_l_alike (CF.m_l_alike n) [some (.str x), some (.str x), none] M) = _
  unfold CF.b_l_alike
  simp [mEq_text]
theorem ints_pureK : ∀ (bs : List Int) (k : Nat), pureL (bs.map D.int) k = true
  | [], _ => by simp [pureL]
  | b :: bs, k => by simp [pureL, pureD, ints_pureK bs k]
theorem won_pure (won : Option (List Int)) (k : Nat) : pureD (wonD won) (k + 1) = true := by
  cases won with
  | none => simp [wonD, pureD]
  | some bs => simp [wonD, pureD, ints_pureK]
theorem ints_sm : ∀ bs : List Int, CF.smallL (bs.map D.int) = true
  | [] => rfl
  | b :: bs => by simp [CF.smallL, CF.smallD, ints_sm bs]
theorem won_small {won : Option (List Int)} (h : WonOk won) : CF.smallD (wonD won) = true := by
  cases won with
  | none => rfl
  | some bs =>
    have := (h bs rfl).1
    have l : (bs.map D.int).length ≤ 1000 := by rw [List.length_map]; omega
    simp [wonD, CF.smallD, ints_sm]
    omega
theorem sides_pure {s : Stand} {won : Option (List Int)} : pureD (.tup [s.toD, wonD won]) (s.depth + 2) = true := by
  have h1 := Stand.pure_toD s
  have h2 := won_pure won s.depth
  simp [pureD, pureL, h1, h2]
theorem sides_small {s : Stand} {won : Option (List Int)} (h : WonOk won) : CF.smallD (.tup [s.toD, wonD won]) = true := by
  have h1 := stand_small s
  have h2 := won_small h
  simp [CF.smallD, CF.smallL, h1, h2]
theorem cut_depth : ∀ (s : Stand) (r : Rule), (cutR r s).depth = s.depth
  | .nil, r => by rw [cutR_nil]
  | .st z o w, r => by
    show (cutR (within r z o) w).depth + 1 = w.depth + 1
    rw [cut_depth w]
theorem cut_nil_iff (s : Stand) (r : Rule) : cutR r s = .nil ↔ s = .nil := by
  cases s with
  | nil => simp [cutR_nil]
  | st z o w => simp [cutR]
structure ROk (r : Rule) (s : Stand) (won : Option (List Int)) : Prop where
  d : r.depth ≤ 4
  f : Fits r s
  p : r = .point ↔ s = .nil
  m : SmS s
  w : WonOk won
  e : won.isSome = true → s.depth ≤ 1
theorem place_rally {r : Rule} {s : Stand} {x : D} (d : r.depth ≤ 4) (f : Fits r s) (p : r = .point ↔ s = .nil) (M : Mem) :
    m_place_of [.tup [.str (Str.ofString "rally"), r.toD], .tup [s.toD, x]] M = .ok (.tup [(cutR r s).toD, x]) M := by
  show endS (b_place_of [some _, some _] M) = _
  unfold b_place_of
  have e := fun M => cut_ok 14 r s M (by omega) (by omega) f p
  simp [e]
def SB (B : Int) : Stand → Prop
  | .nil => True
  | .st z o w => (0 ≤ z ∧ z ≤ B) ∧ (0 ≤ o ∧ o ≤ B) ∧ SB B w
theorem SB.le {B C : Int} (h : B ≤ C) : ∀ {s : Stand}, SB B s → SB C s
  | .nil, _ => trivial
  | .st z o w, ⟨h1, h2, h3⟩ => ⟨⟨h1.1, by omega⟩, ⟨h2.1, by omega⟩, SB.le h h3⟩
theorem smI_of {B i : Int} (hB : B ≤ 1000000) (h0 : 0 ≤ i) (h1 : i ≤ B) : SmI i := by
  have : i.natAbs ≤ 1000000 := by omega
  exact Nat.lt_of_le_of_lt this (by decide)
theorem SB.sm {B : Int} (hB : B ≤ 1000000) : ∀ {s : Stand}, SB B s → SmS s
  | .nil, _ => trivial
  | .st z o w, ⟨h1, h2, h3⟩ => ⟨smI_of hB h1.1 h1.2, smI_of hB h2.1 h2.2, SB.sm hB h3⟩
theorem sb_begun {B : Int} (hB : 0 ≤ B) : ∀ (n : Nat) (r : Rule), r.depth ≤ n → SB B (begunR r)
  | n, r, hn => by
    by_cases h : r = .point
    · subst h; rw [begunR_point]; trivial
    · have hd := depth_within h 0 0
      match n with
      | 0 => omega
      | n + 1 =>
        rw [begunR_unit h]
        exact ⟨⟨Int.le_refl _, hB⟩, ⟨Int.le_refl _, hB⟩, sb_begun hB n _ (by omega)⟩
theorem sb_rallied {B : Int} (hB : 0 ≤ B) : ∀ {s : Stand} {r : Rule} {side : Bool}, SB B s → SB (B + 1) (ralliedR r s side).1
  | .nil, r, side, h => trivial
  | .st z o w, r, side, ⟨h1, h2, h3⟩ => by
    have ih := sb_rallied (r := within r z o) (side := side) hB h3
    simp only [ralliedR]
    have p1 : 0 ≤ (RL.bump z o side).1 ∧ (RL.bump z o side).1 ≤ B + 1 := by unfold RL.bump; cases side <;> simp <;> omega
    have p2 : 0 ≤ (RL.bump z o side).2 ∧ (RL.bump z o side).2 ≤ B + 1 := by unfold RL.bump; cases side <;> simp <;> omega
    split
    · split
      · exact ⟨p1, p2, trivial⟩
      · exact ⟨p1, p2, sb_begun (by omega) _ _ (Nat.le_refl _)⟩
    · exact ⟨⟨h1.1, by show z ≤ B + 1; omega⟩, ⟨h2.1, by show o ≤ B + 1; omega⟩, ih⟩
theorem won_shape : ∀ {s : Stand} {r : Rule} {side : Bool}, Open r s → (ralliedR r s side).2 = true → Fits r (ralliedR r s side).1 ∧ (r = .point ↔ (ralliedR r s side).1 = .nil) ∧ (ralliedR r s side).1.depth ≤ 1
  | .nil, r, side, h, _ => by
    have h : r = .point := h
    subst h
    exact ⟨trivial, by simp [ralliedR], by simp [ralliedR, Stand.depth]⟩
  | .st z o w, r, side, h, e => by
    simp only [ralliedR] at e ⊢
    split at e
    · rename_i hq
      split at e
      · rename_i hw
        rw [if_pos hq, if_pos hw]
        exact ⟨⟨h.1, trivial⟩, by simp [h.1], by simp [Stand.depth]⟩
      · cases e
    · cases e
theorem open_nil {r : Rule} {s : Stand} (h : Open r s) : r = .point ↔ s = .nil := by
  cases s with
  | nil => exact ⟨fun _ => rfl, fun _ => h⟩
  | st z o w => exact ⟨fun e => absurd e h.1, fun e => by cases e⟩
def RGo (r : Rule) (B : Int) (s : Stand) (won : Option (List Int)) : Prop := ROk r s won ∧ SB B s ∧ (won = none → Open r s)
theorem rally_played_ok {r : Rule} {s : Stand} {B : Int} (hB : 0 ≤ B) (hB1 : B < 1000000) (hd : r.depth ≤ 4) (ho : Open r s) (hs : SB B s) (b : Bool) (M : Mem) :
    ∃ s' won', RGo r (B + 1) s' won' ∧ Ret (m_rally_played [r.toD, s.toD, sideD b] M) (TL.Gives M (.tup [s'.toD, wonD won'])) := by
  obtain ⟨M1, e1, k1⟩ := rallied_ok 14 r s b M (by omega) (by omega) ho
  obtain ⟨q, hq⟩ : ∃ q, q = ralliedR r s b := ⟨_, rfl⟩
  have sb := sb_rallied (r := r) (side := b) hB hs
  have sm := SB.sm (by omega) sb
  have run : ∀ w, q.2 = w → Ret (m_rally_played [r.toD, s.toD, sideD b] M) (TL.Gives M (.tup [q.1.toD, wonD (if w = true then some [if b then 1 else 0] else none)])) := by
    rintro w hw
    show Ret (endS (b_rally_played [some r.toD, some s.toD, some (sideD b), none, none] M)) _
    unfold b_rally_played
    have hb : ∀ M, m_is_between [sideD b, .int 0, .int 1] M = .ok (.bl true) M := fun M => by
      unfold sideD
      rw [between_ok]
      cases b <;> rfl
    rw [← hq, hw] at e1
    simp [hb, e1]
    cases w with
    | true =>
      simp
      exact TL.Ret.ok (P := TL.Gives M _) ⟨by simp [wonD, sideD], k1⟩
    | false =>
      simp
      exact TL.Ret.ok (P := TL.Gives M _) ⟨by simp [wonD], k1⟩
  rw [← hq] at sb sm
  cases hw : q.2 with
  | true =>
    obtain ⟨f, p, d1⟩ := won_shape (side := b) ho (by rw [← hq]; exact hw)
    rw [← hq] at f p d1
    have := run true hw
    exact ⟨q.1, some [if b then 1 else 0], ⟨⟨hd, f, p, sm, fun bs e => by
      cases e
      exact ⟨by simp, fun i hi => by
        cases List.mem_singleton.mp hi
        cases b <;> exact smI_of (B := 1) (by decide) (by decide) (by decide)⟩, fun _ => d1⟩, sb, fun e => (by cases e)⟩, by simpa using this⟩
  | false =>
    have op := open_rallied (side := b) ho (by rw [← hq]; exact hw)
    rw [← hq] at op
    have := run false hw
    exact ⟨q.1, none, ⟨⟨hd, Open.fits op, open_nil op, sm, fun bs e => (by cases e), fun e => (by cases e)⟩, sb, fun _ => op⟩, by simpa using this⟩
theorem deeds_won (g x : D) (bs : List Int) (M : Mem) : m_deeds_at [g, .tup [x, wonD (some bs)]] M = .ok (.ref M.length) (M ++ [.lst []]) := by
  show endS (b_deeds_at [some g, some (.tup [x, wonD (some bs)]), none, none, none] M) = _
  unfold b_deeds_at
  simp [wonD]
theorem deeds_rally (r x : D) (M : Mem) : m_deeds_at [.tup [.str (Str.ofString "rally"), r], .tup [x, wonD none]] M = .ok (.ref M.length) (M ++ [.lst [.int 0, .int 1]]) := by
  show endS (b_deeds_at [some (.tup [.str (Str.ofString "rally"), r]), some (.tup [x, wonD none]), none, none, none] M) = _
  unfold b_deeds_at
  simp [wonD]
theorem RGo.le {r : Rule} {B C : Int} {s : Stand} {won : Option (List Int)} (h : B ≤ C) (g : RGo r B s won) : RGo r C s won := ⟨g.1, SB.le h g.2.1, g.2.2⟩
theorem played_rally {r x d : D} {M : Mem} {y : D} (h : Ret (m_rally_played [r, x, d] M) (TL.Gives M y)) : Ret (m_played [.tup [.str (Str.ofString "rally"), r], .tup [x, wonD none], d] M) (TL.Gives M y) := by
  obtain ⟨M1, e1, k1⟩ := gives_of h
  show Ret (endS (b_played [some (.tup [.str (Str.ofString "rally"), r]), some (.tup [x, wonD none]), some d] M)) _
  unfold b_played
  simp [wonD, e1]
  exact TL.Ret.ok (P := TL.Gives M _) ⟨rfl, k1⟩
structure DB (s : DSt) : Prop where
  c : ∀ x ∈ s.counts, 0 ≤ x ∧ x ≤ 1000000
  h : 0 ≤ s.held ∧ s.held ≤ 1000000
theorem getD_mem {α : Type} {P : α → Prop} {xs : List α} {k : Nat} {d : α} (h : ∀ x ∈ xs, P x) (hd : P d) : P (xs.getD k d) := by
  rw [List.getD_eq_getElem?_getD]
  cases q : xs[k]? with
  | none => exact hd
  | some x => exact h x (List.mem_of_getElem? q)
theorem set_mem {α : Type} {P : α → Prop} {xs : List α} {k : Nat} {y : α} (h : ∀ x ∈ xs, P x) (hy : P y) : ∀ x ∈ xs.set k y, P x := fun x hx => by
  rcases List.mem_or_eq_of_mem_set hx with hx | rfl
  · exact h x hx
  · exact hy
theorem db_first {w : Down} (h : DownOk w) : DB (firstS w) := ⟨fun x hx => by
  obtain ⟨_, rfl⟩ := List.mem_replicate.mp hx
  exact ⟨by have := h.b0; omega, h.b1⟩, ⟨by have := h.b0; show 0 ≤ w.start; omega, h.b1⟩⟩
theorem db_next {w : Down} {cs : List Int} {side : Nat} (h : ∀ x ∈ cs, 0 ≤ x ∧ x ≤ 1000000) : DB (nextS' w cs side) := ⟨h, getD_mem (P := fun x : Int => 0 ≤ x ∧ x ≤ 1000000) h ⟨by decide, by decide⟩⟩
theorem db_thrown {w : Down} {s : DSt} {t : Thr} (h : DB s) (hw : 0 ≤ t.worth) : DB (thrownS w s t).1 := by
  have hc := getD_mem (P := fun x : Int => 0 ≤ x ∧ x ≤ 1000000) (k := s.side) (d := 0) h.c ⟨by decide, by decide⟩
  unfold thrownS
  simp only
  split
  · exact ⟨set_mem h.c ⟨by decide, by decide⟩, h.h⟩
  · split
    · exact db_next (set_mem h.c h.h)
    · rename_i hl
      have hl2 : 0 ≤ s.counts.getD s.side 0 - t.worth ∧ s.counts.getD s.side 0 - t.worth ≤ 1000000 := by omega
      split
      · exact db_next (set_mem h.c hl2)
      · exact ⟨set_mem h.c hl2, h.h⟩
theorem thrown_len {w : Down} {s : DSt} {t : Thr} : (thrownS w s t).1.counts.length = s.counts.length := by
  unfold thrownS
  simp only
  split
  · simp
  · split
    · simp [nextS']
    · split <;> simp [nextS']
theorem dst_pure (s : DSt) (won : Option (List Int)) : pureD (.tup [s.toD, wonD won]) 4 = true := by
  have := won_pure won 2
  simp [DSt.toD, pureD, pureL, ints_pureK, this]
theorem dst_small {s : DSt} {won : Option (List Int)} (h : s.counts.length ≤ 1000) (hw : WonOk won) : CF.smallD (.tup [s.toD, wonD won]) = true := by
  have := won_small hw
  simp [DSt.toD, CF.smallD, CF.smallL, ints_sm, h, this]
structure DGo (w : Down) (s : DSt) (won : Option (List Int)) : Prop where
  l : s.counts.length = w.sides
  b : DB s
  v : WonOk won
  o : won = none → DStOk w s
theorem down_played_ok {w : Down} (h : DownOk w) {s : DSt} (g : DGo w s none) {t : Thr} (ht : t ∈ w.throws) (M : Mem) :
    ∃ s' won', DGo w s' won' ∧ m_played [.tup [.str (Str.ofString "down"), w.toD], .tup [s.toD, wonD none], .str t.name] M = .ok (.tup [s'.toD, wonD won']) M := by
  obtain ⟨u, hu⟩ : ∃ u, w.throws.find? (isName (.str t.name)) = some u := by
    cases q : w.throws.find? (isName (.str t.name)) with
    | some u => exact ⟨u, rfl⟩
    | none => exact absurd (List.find?_eq_none.mp q t ht) (by simp [isName])
  have hum := List.mem_of_find?_eq_some hu
  have e1 := down_thrown_ok h (g.o rfl) (x := .str t.name) (M := M) (.inl ⟨_, rfl⟩)
  rw [hu] at e1
  simp only at e1
  have s3 := h.s1
  have ss := (g.o rfl).side
  have db := db_thrown (w := w) (t := u) g.b (h.good.w0 u hum).1
  have tl := thrown_len (w := w) (s := s) (t := u)
  have ok := fun hw => thrownS_ok h (g.o rfl) u hw
  have sid : (thrownS w s u).2 = true → (thrownS w s u).1.side = s.side := by
    unfold thrownS
    simp only
    split
    · exact fun _ => rfl
    · split
      · exact fun h => by cases h
      · split <;> exact fun h => by cases h
  generalize thrownS w s u = q at *
  have pl : ∀ y, m_down_played [w.toD, s.toD, .str t.name] M = .ok y M → m_played [.tup [.str (Str.ofString "down"), w.toD], .tup [s.toD, wonD none], .str t.name] M = .ok y M := fun y hy => by
    show endS (b_played [some (.tup [.str (Str.ofString "down"), w.toD]), some (.tup [s.toD, wonD none]), some (.str t.name)] M) = _
    unfold b_played
    simp [wonD, hy]
  cases hw : q.2 with
  | true =>
    refine ⟨q.1, some [(s.side : Int)], ⟨by rw [tl]; exact g.l, db, fun bs e => (by
      cases e
      exact ⟨by simp, fun i hi => by
        cases List.mem_singleton.mp hi
        exact smI_of (B := 100) (by decide) (by omega) (by omega)⟩), fun e => (by cases e)⟩, pl _ ?_⟩
    show endS (b_down_played [some w.toD, some s.toD, some (.str t.name), none, none] M) = _
    unfold b_down_played
    rw [hw] at e1
    have e2 : mIdx q.1.toD (.int 1) M = some (.int (q.1.side : Nat), M) := rfl
    rw [sid hw] at e2
    simp [e1, e2, wonD]
  | false =>
    refine ⟨q.1, none, ⟨by rw [tl]; exact g.l, db, fun bs e => (by cases e), fun _ => ok hw⟩, pl _ ?_⟩
    show endS (b_down_played [some w.toD, some s.toD, some (.str t.name), none, none] M) = _
    unfold b_down_played
    rw [hw] at e1
    simp [e1, wonD]
theorem deeds_down {w : Down} (h : DownOk w) (x : D) (M : Mem) : Ret (m_deeds_at [.tup [.str (Str.ofString "down"), w.toD], .tup [x, wonD none]] M) (fun d M1 => d = .ref M.length ∧ Keep M M1 ∧ seqAt M1 M.length = some (w.throws.map fun t => .str t.name)) := by
  show Ret (endS (b_deeds_at [some (.tup [.str (Str.ofString "down"), w.toD]), some (.tup [x, wonD none]), none, none, none] M)) _
  unfold b_deeds_at
  have e3 : ∀ M, mIdx w.toD (.int 3) M = some (.tup (w.throws.map Thr.toD), M) := fun M => rfl
  simp [wonD, e3]
  refine Ret.bindQ (P := fun _ M1 => Keep M M1 ∧ seqAt M1 M.length = some (w.throws.map fun t => .str t.name)) ?_ ?_
  · refine Ret.comp (fun d => match d with | .tup (y :: _) => y | _ => .non) (fun _ _ => trivial) (by have := h.n1; rw [List.length_map]; omega) (fun d hd M' k => ?_) fun M2 k a => ⟨k, ?_⟩
    · obtain ⟨u, hu, rfl⟩ := List.mem_map.mp hd
      have e0 : mIdx u.toD (.int 0) M' = some (.str u.name, M') := rfl
      simp [e0]
      exact TL.Ret.ok (P := TL.Gives M' _) ⟨rfl, Keep.refl _⟩
    · rw [seqAt_lst a, List.map_map]
      rfl
  · rintro _ M1 ⟨k1, a1⟩
    exact .ok ⟨rfl, k1, a1⟩
structure RowB (B : Int) (r : LRow) : Prop where
  n : 0 ≤ r.near ∧ r.near ≤ 2
  f : 0 ≤ r.far ∧ r.far ≤ 1
  t : 0 ≤ r.total ∧ r.total ≤ B
theorem RowB.le {B C : Int} (h : B ≤ C) {r : LRow} (g : RowB B r) : RowB C r := ⟨g.n, g.f, g.t.1, by have := g.t.2; omega⟩
theorem mul_near {p n : Int} (h0 : 0 ≤ p) (h1 : p ≤ 20) (n0 : 0 ≤ n) (n2 : n ≤ 2) : 0 ≤ p * n ∧ p * n ≤ 40 := by
  rcases (show n = 0 ∨ n = 1 ∨ n = 2 by omega) with rfl | rfl | rfl <;> omega
theorem frameB_ok {P n B : Int} {r : LRow} {near far earned : Int} (h1 : 0 ≤ near ∧ near ≤ 2) (h2 : 0 ≤ far ∧ far ≤ 1) (h3 : 0 ≤ r.total ∧ r.total ≤ B) : RowB B (frameB P n r near far earned).1 := by
  unfold frameB
  split
  · exact ⟨h1, h2, h3⟩
  · exact ⟨h1, h2, h3⟩
theorem step_row {P n B : Int} {r : LRow} {p : Int} (g : RowB B r) (h0 : 0 ≤ p) (h1 : p ≤ 20) : RowB (B + 100) (stepR P n r p).1 := by
  obtain ⟨gn, gf, gt⟩ := g
  have m := mul_near h0 h1 gn.1 gn.2
  have t1 : 0 ≤ r.total + p * r.near ∧ r.total + p * r.near ≤ B + 100 := by omega
  have t2 : 0 ≤ r.total + p * r.near + p ∧ r.total + p * r.near + p ≤ B + 100 := by omega
  unfold stepR
  split
  · unfold extraB
    simp only
    split
    · exact ⟨by show 0 ≤ r.far ∧ r.far ≤ 2; omega, by show (0 : Int) ≤ 0 ∧ (0 : Int) ≤ 1; omega, t1⟩
    · exact ⟨by show 0 ≤ r.far ∧ r.far ≤ 2; omega, by show (0 : Int) ≤ 0 ∧ (0 : Int) ≤ 1; omega, t1⟩
  · split
    · exact frameB_ok (by omega) (by decide) t2
    · split
      · exact frameB_ok (by omega) (by decide) t2
      · split
        · exact frameB_ok (by omega) (by decide) t2
        · exact ⟨by show 0 ≤ r.far ∧ r.far ≤ 2; omega, by show (0 : Int) ≤ 0 ∧ (0 : Int) ≤ 1; omega, t2⟩
structure LGo (k : Nat) (P : Int) (B : Int) (rows : List LRow) (side : Nat) (won : Option (List Int)) : Prop where
  l : rows.length = k
  s : side < k
  u : ∀ r ∈ rows, UpOk P r
  b : ∀ r ∈ rows, RowB B r
  v : WonOk won
theorem LGo.le {k : Nat} {P B C : Int} {rows : List LRow} {side : Nat} {won : Option (List Int)} (h : B ≤ C) (g : LGo k P B rows side won) : LGo k P C rows side won := ⟨g.l, g.s, g.u, fun r hr => (g.b r hr).le h, g.v⟩
theorem rows_pureK : ∀ (rows : List LRow) (j : Nat), pureL (rows.map LRow.toD) (j + 1) = true
  | [], _ => by simp [pureL]
  | r :: rows, j => by simp [pureL, pureD, LRow.toD, rows_pureK rows j]
theorem rows_sm : ∀ rows : List LRow, CF.smallL (rows.map LRow.toD) = true
  | [] => rfl
  | r :: rows => by simp [CF.smallL, CF.smallD, LRow.toD, rows_sm rows]
theorem lst_pure (rows : List LRow) (side : Nat) (won : Option (List Int)) : pureD (.tup [standD rows side, wonD won]) 4 = true := by
  have h1 := won_pure won 2
  have h2 := rows_pureK rows 0
  simp [standD, pureD, pureL, h1, h2]
theorem lst_small {rows : List LRow} {side : Nat} {won : Option (List Int)} (h : rows.length ≤ 1000) (hw : WonOk won) : CF.smallD (.tup [standD rows side, wonD won]) = true := by
  have := won_small hw
  simp [standD, CF.smallD, CF.smallL, rows_sm, h, this]
theorem best_won {ts : List Int} (hl : ts.length ≤ 100) : ∃ bs : List Int, bestD ts = bs.map D.int ∧ WonOk (some bs) := by
  obtain ⟨bs, e, l⟩ := best_ints ts
  refine ⟨bs, e, fun cs hc => ?_⟩
  cases hc
  refine ⟨by omega, fun i hi => ?_⟩
  have hm : D.int i ∈ bestD ts := by rw [e]; exact List.mem_map_of_mem hi
  obtain ⟨j, hj, ej⟩ := mem_rng (List.mem_filter.mp hm).1
  cases ej
  exact smI_of (B := 100) (by decide) (by omega) (by omega)
theorem lane_played_ok {k : Nat} {P : Int} {n : Nat} (h : Lane k P n) {B : Int} {rows : List LRow} {side : Nat} (g : LGo k P B rows side none) {p : Int} (h0 : 0 ≤ p) (hp : p ≤ (rows[side]'(by rw [g.l]; exact g.s)).up) (M : Mem) :
    ∃ rows' side' won', LGo k P (B + 100) rows' side' won' ∧ Ret (m_played [.tup [.str (Str.ofString "lane"), laneD k P n], .tup [standD rows side, wonD none], .int p] M) (TL.Gives M (.tup [standD rows' side', wonD won'])) := by
  have hs : side < rows.length := by rw [g.l]; exact g.s
  have k1 := h.k1
  have hup := g.u _ (List.getElem_mem hs)
  have p1 := h.p1
  have hu2 := hup.2
  obtain ⟨M1, e1, kk1⟩ := gives_of (bowled_ok h g.l g.s h0 hp (by omega) M)
  have hrow := step_row (P := P) (n := n) (p := p) (g.b _ (List.getElem_mem hs)) h0 (by omega)
  have hupn := step_up (n := n) h.p0 hup h0 hp
  generalize stepR P n rows[side] p = q at *
  obtain ⟨rows', hr'⟩ : ∃ z, z = rows.set side q.1 := ⟨_, rfl⟩
  obtain ⟨side', hs'⟩ : ∃ z : Nat, z = (if q.2 then (side + 1) % k else side) := ⟨_, rfl⟩
  rw [← hr', ← hs'] at e1
  have gl : rows'.length = k := by rw [hr', List.length_set]; exact g.l
  have gs : side' < k := by
    rw [hs']
    split
    · exact Nat.mod_lt _ (by have := h.k0; omega)
    · exact g.s
  have gu : ∀ r ∈ rows', UpOk P r := by rw [hr']; exact set_mem g.u hupn
  have gb : ∀ r ∈ rows', RowB (B + 100) r := by rw [hr']; exact set_mem (fun r hr => (g.b r hr).le (by omega)) hrow
  have pl : ∀ y, Ret (m_lane_played [laneD k P n, standD rows side, .int p] M) (TL.Gives M y) → Ret (m_played [.tup [.str (Str.ofString "lane"), laneD k P n], .tup [standD rows side, wonD none], .int p] M) (TL.Gives M y) := fun y hy => by
    obtain ⟨M9, e9, k9⟩ := gives_of hy
    show Ret (endS (b_played [some (.tup [.str (Str.ofString "lane"), laneD k P n]), some (.tup [standD rows side, wonD none]), some (.int p)] M)) _
    unfold b_played
    simp [wonD, e9]
    exact TL.Ret.ok (P := TL.Gives M _) ⟨rfl, k9⟩
  cases ho : overR n rows' with
  | true =>
    rw [ho] at e1
    obtain ⟨bs, eb, wb⟩ := best_won (ts := rows'.map LRow.total) (by rw [List.length_map]; omega)
    obtain ⟨M2, e2, k2⟩ := best_of_ok (rows := rows') (by intro e; rw [e] at gl; have := h.k0; simp at gl; omega) (by omega) side' M1
    rw [eb] at e2
    refine ⟨rows', side', some bs, ⟨gl, gs, gu, gb, wb⟩, pl _ ?_⟩
    show Ret (endS (b_lane_played [some (laneD k P n), some (standD rows side), some (.int p), none, none] M)) _
    unfold b_lane_played
    simp [e1, e2]
    exact TL.Ret.ok (P := TL.Gives M _) ⟨by simp [wonD], kk1.trans k2⟩
  | false =>
    rw [ho] at e1
    refine ⟨rows', side', none, ⟨gl, gs, gu, gb, fun bs e => (by cases e)⟩, pl _ ?_⟩
    show Ret (endS (b_lane_played [some (laneD k P n), some (standD rows side), some (.int p), none, none] M)) _
    unfold b_lane_played
    simp [e1]
    exact TL.Ret.ok (P := TL.Gives M _) ⟨by simp [wonD], kk1⟩
theorem deeds_lane {rows : List LRow} {side : Nat} (hs : side < rows.length) {u : Nat} (hu : rows[side].up = (u : Int)) (h1 : u ≤ 1000) (g : D) (M : Mem) : m_deeds_at [.tup [.str (Str.ofString "lane"), g], .tup [standD rows side, wonD none]] M = .ok (.ref M.length) (M ++ [.lst (rngItems 0 (u + 1))]) := by
  show endS (b_deeds_at [some (.tup [.str (Str.ofString "lane"), g]), some (.tup [standD rows side, wonD none]), none, none, none] M) = _
  unfold b_deeds_at
  have ha := rows_at hs
  have e2 : mIdx rows[side].toD (.int 2) M = some (.int (u : Nat), M) := by rw [← hu]; rfl
  have rg : RgOk (0 : Int) ((u : Int) + 1) := by have := rgOk_nat (i := 0) (j := u + 1) (by omega) (by omega); simpa using this
  have tn : ((u : Int) + 1).toNat = u + 1 := by omega
  simp [wonD, standD, ha, e2, rg, tn]
theorem atI_last {α : Type} {xs : List α} {x : α} : atI (xs ++ [x]) (-1) = some x := by
  have h : ixN (xs ++ [x]).length (-1) = some xs.length := by
    unfold ixN
    rw [if_neg (by decide), if_pos (by simp; omega)]
    simp
    omega
  unfold atI
  rw [h]
  simp
theorem rng_last (u : Nat) : atI (rngItems 0 (u + 1)) (-1) = some (.int (u : Nat)) := by
  unfold rngItems
  rw [List.range_succ, List.map_append]
  show atI (_ ++ [D.int (0 + (u : Nat))]) (-1) = _
  rw [atI_last]
  simp
end CG
end
section
set_option maxHeartbeats 4000000
/-! what is a game, as the program tells; games as data -/
namespace CI
open PySem PySem.Spec PyProof.Rows L2 TL
open CM hiding b_l_alike m_l_alike b_l_unit m_l_unit g_l_unit b_l_rule m_l_rule b_l_any_rule m_l_any_rule unit_ok rule_step rule_ok any_rule
noncomputable section
/- def is_lane(thing): 0=thing -/
def b_is_lane : MS := (sSeq (sIf (tOr (tNot (tTru (eIsi "tuple" (eVar 0)))) (tB (eBin mNe (eCallO nLen (aCons (eVar 0) aNil)) (eC (.int 3))))) (sRet (eC (.bl false))) sNil)
    (sRet (eAnd (eCall m_is_between (aCons (eBin mIdx (eVar 0) (eC (.int 0))) (aCons (eC (.int 1)) (aCons (eC (.int 3)) aNil)))) (eAnd (eCall m_is_between (aCons (eBin mIdx (eVar 0) (eC (.int 1))) (aCons (eC (.int 1)) (aCons (eC (.int 20)) aNil)))) (eCall m_is_between (aCons (eBin mIdx (eVar 0) (eC (.int 2))) (aCons (eC (.int 1)) (aCons (eC (.int 12)) aNil))))))))
def m_is_lane : Fn := fnD 1 1 b_is_lane
/- def is_count(thing, least): 0=thing 1=least -/
def b_is_count : MS := (sRet (eAnd (eIsi "int" (eVar 0)) (eAnd (eNot (eIsi "bool" (eVar 0))) (eChain mLe mLe (eVar 1) (eVar 0) (eC (.int 99))))))
def m_is_count : Fn := fnD 2 2 b_is_count
/- def has_numbers(unit): 0=unit -/
def b_has_numbers : MS := (sSeq (sIf (tOr (tNot (tTru (eCall m_is_count (aCons (eBin mIdx (eVar 0) (eC (.int 1))) (aCons (eC (.int 1)) aNil))))) (tNot (tTru (eCall m_is_count (aCons (eBin mIdx (eVar 0) (eC (.int 2))) (aCons (eC (.int 1)) aNil)))))) (sRet (eC (.bl false))) sNil)
    (sSeq (sIf (tB (eBin mIs (eBin mIdx (eVar 0) (eC (.int 3))) (eC .non))) (sRet (eBin mIs (eBin mIdx (eVar 0) (eC (.int 5))) (eC .non))) sNil)
    (sRet (eCall m_is_count (aCons (eBin mIdx (eVar 0) (eC (.int 3))) (aCons (eBin mIdx (eVar 0) (eC (.int 1))) aNil))))))
def m_has_numbers : Fn := fnD 1 1 b_has_numbers
/- def units_in(thing, around): 0=thing 1=around 2=many 3=parts 4=part 5=more -/
def lp_units_in_0 (r_units_in : Fn) : MS := (sSeq (sAsg (gOne 5) (eCall r_units_in (aCons (eVar 4) (aCons (eBin mAdd (eVar 1) (eC (.int 1))) aNil))))
    (sSeq (sIf (tB (eBin mIs (eVar 5) (eC .non))) (sRet (eC .non)) sNil)
    (sAsg (gOne 2) (eBin mAdd (eVar 2) (eVar 5)))))
def b_units_in (r_units_in : Fn) : MS := (sSeq (sIf (tB (eBin mEq (eVar 0) (eC (.tup [(.str "point")])))) (sRet (eC (.int 0))) sNil)
    (sSeq (sIf (tOr (tNot (tTru (eIsi "tuple" (eVar 0)))) (tOr (tB (eBin mNe (eCallO nLen (aCons (eVar 0) aNil)) (eC (.int 6)))) (tB (eBin mEq (eVar 1) (eC (.int 4)))))) (sRet (eC .non)) sNil)
    (sSeq (sIf (tOr (tB (eBin mNe (eBin mIdx (eVar 0) (eC (.int 0))) (eC (.str "unit")))) (tNot (tTru (eCall m_has_numbers (aCons (eVar 0) aNil))))) (sRet (eC .non)) sNil)
    (sSeq (sAsg (gOne 2) (eC (.int 1)))
    (sSeq (sAsg (gOne 3) (eLst (aCons (eBin mIdx (eVar 0) (eC (.int 4))) aNil)))
    (sSeq (sIf (tB (eBin mIsNot (eBin mIdx (eVar 0) (eC (.int 5))) (eC .non))) (sExpr (eMeth "list" mAppend (eVar 3) (aCons (eBin mIdx (eVar 0) (eC (.int 5))) aNil))) sNil)
    (sSeq (sFor (iAny (eVar 3)) (gOne 4) (lp_units_in_0 r_units_in))
    (sRet (eVar 2)))))))))
def m_units_in : Nat → Fn
  | 0 => noFn
  | n + 1 => fnD 2 6 (b_units_in (m_units_in n))
/- def is_rule(thing): 0=thing 1=many -/
def b_is_rule : MS := (sSeq (sAsg (gOne 1) (eCall (m_units_in 14) (aCons (eVar 0) (aCons (eC (.int 0)) aNil))))
    (sRet (eAnd (eBin mIsNot (eVar 1) (eC .non)) (eBin mLe (eVar 1) (eC (.int 10))))))
def m_is_rule : Fn := fnD 1 2 b_is_rule
/- def is_game(thing): 0=thing -/
def b_is_game : MS := (sSeq (sIf (tOr (tNot (tTru (eIsi "tuple" (eVar 0)))) (tB (eBin mNe (eCallO nLen (aCons (eVar 0) aNil)) (eC (.int 2))))) (sRet (eC (.bl false))) sNil)
    (sSeq (sIf (tB (eBin mEq (eBin mIdx (eVar 0) (eC (.int 0))) (eC (.str "rally")))) (sRet (eCall m_is_rule (aCons (eBin mIdx (eVar 0) (eC (.int 1))) aNil))) sNil)
    (sSeq (sIf (tB (eBin mEq (eBin mIdx (eVar 0) (eC (.int 0))) (eC (.str "down")))) (sRet (eCall m_is_down (aCons (eBin mIdx (eVar 0) (eC (.int 1))) aNil))) sNil)
    (sRet (eAnd (eBin mEq (eBin mIdx (eVar 0) (eC (.int 0))) (eC (.str "lane"))) (eCall m_is_lane (aCons (eBin mIdx (eVar 0) (eC (.int 1))) aNil)))))))
def m_is_game : Fn := fnD 1 1 b_is_game
/- def sides_of(game): 0=game -/
def b_sides_of : MS := (sSeq (sIf (tB (eBin mEq (eBin mIdx (eVar 0) (eC (.int 0))) (eC (.str "rally")))) (sRet (eC (.int 2))) sNil)
    (sRet (eBin mIdx (eBin mIdx (eVar 0) (eC (.int 1))) (eC (.int 0)))))
def m_sides_of : Fn := fnD 1 1 b_sides_of
end

open RL RB TLQ RD CG
def isPoint : D → Bool
  | .tup [d] => isText (Str.ofString "point") d
  | _ => false
theorem dat_tup {M : Mem} {n : Nat} {xs : List D} {p : PyData} (h : dat (n + 1) M (.tup xs) = some p) : ∃ ps, datL (dat n M) xs = some ps ∧ p = .tuple ps := by
  obtain ⟨ps, e1, rfl⟩ := Option.map_eq_some_iff.mp (show (datL (dat n M) xs).map PyData.tuple = some p from h)
  exact ⟨ps, e1, rfl⟩
theorem eqv_point' {M : Mem} {n : Nat} {d : D} {p : PyData} (h : dat (n + 2) M d = some p) : PyData.eqv p (.tuple [.str (Str.ofString "point")]) = isPoint d := by
  cases d with
  | non => cases h; simp [PyData.eqv, isPoint]
  | bl b => cases h; simp [PyData.eqv, isPoint]
  | int i => cases h; simp [PyData.eqv, isPoint]
  | str y => cases h; simp [PyData.eqv, isPoint]
  | tup xs =>
    obtain ⟨ps, e1, rfl⟩ := dat_tup h
    match xs, e1 with
    | [], e1 => cases e1; simp [PyData.eqv, PyData.eqvAll, isPoint]
    | [a], e1 =>
      unfold datL at e1
      cases q : dat (n + 1) M a with
      | none => rw [q] at e1; cases e1
      | some y =>
        rw [q] at e1
        cases e1
        simp [PyData.eqv, PyData.eqvAll, isPoint, eqv_text q]
    | a :: b :: xs, e1 =>
      unfold datL at e1
      cases q : dat (n + 1) M a with
      | none => rw [q] at e1; cases e1
      | some y =>
        cases q2 : datL (dat (n + 1) M) (b :: xs) with
        | none => rw [q, q2] at e1; cases e1
        | some ys =>
          rw [q, q2] at e1
          cases e1
          unfold datL at q2
          cases q3 : dat (n + 1) M b with
          | none => rw [q3] at q2; cases q2
          | some z =>
            cases q4 : datL (dat (n + 1) M) xs with
            | none => rw [q3, q4] at q2; cases q2
            | some zs =>
              rw [q3, q4] at q2
              cases q2
              simp [PyData.eqv, PyData.eqvAll, isPoint]
  | ref m =>
    have e' : (match seqAt M m with | some xs => (datL (dat (n + 1) M) xs).map PyData.list | none => none) = some p := h
    cases q : seqAt M m with
    | none => rw [q] at e'; cases e'
    | some xs =>
      rw [q] at e'
      obtain ⟨ps, e1, rfl⟩ := Option.map_eq_some_iff.mp e'
      simp [PyData.eqv, isPoint]
  | err y => cases h
theorem mEq_point_sh {M : Mem} {n w : Nat} {d : D} (h : TL.Sh M (n + 2) w d) (hn : n + 2 ≤ 40) : mEq d (.tup [.str (Str.ofString "point")]) M = some (.bl (isPoint d), M) := by
  obtain ⟨p, a, e, s⟩ := h.shapedN hn
  have e2 : toP 64 M (.tup [.str (Str.ofString "point")]) = some (.tuple [.str (Str.ofString "point")]) := rfl
  have s2 : SeqAt.shaped (.tuple [.str (Str.ofString "point")]) = true := by decide +kernel
  unfold mEq eqD
  rw [e, e2]
  simp only [s, s2, and_self, if_true]
  rw [eqv_point' a]
  rfl
theorem unit_strOk : PyData.strOk (Str.ofString "unit") = true := by decide +kernel
/-- how many units; none where it is no rule -/
def okNums (t l c la : D) : Bool := inB 1 99 t && (inB 1 99 l && (match c with
  | .non => isNon la
  | .int i => (match t with | .int j => decide (j ≤ i) && decide (i ≤ 99) | _ => false)
  | _ => false))
def unitsD : Nat → D → Nat → Option Nat
  | 0, _, _ => none
  | n + 1, d, a => if isPoint d = true then some 0 else match d with
    | .tup [u, t, l, c, i, la] => if a = 4 then none else if isText (Str.ofString "unit") u = true ∧ okNums t l c la = true then
        match unitsD n i (a + 1), (if isNon la = true then some 0 else unitsD n la (a + 1)) with
        | some x, some y => some (1 + x + y)
        | _, _ => none
      else none
    | _ => none
theorem is_count_ok {d : D} {lo : Int} {M : Mem} (h : (tyName M d).isSome = true) : m_is_count [d, .int lo] M = .ok (.bl (inB lo 99 d)) M := by
  show endS (b_is_count [some d, some (.int lo)] M) = _
  unfold b_is_count
  cases d with
  | int i => by_cases c : lo ≤ i <;> simp [inB, c]
  | ref m =>
    cases q : seqAt M m with
    | none => simp [tyName, q] at h
    | some xs => simp [mIsi_ref q, inB]
  | err y => exact absurd h (by simp [tyName])
  | _ => simp [inB]
theorem has_numbers_ok {u t l c i la : D} {M : Mem} (ht : (tyName M t).isSome = true) (hl : (tyName M l).isSome = true) (hc : (tyName M c).isSome = true) (hla : (tyName M la).isSome = true) : m_has_numbers [.tup [u, t, l, c, i, la]] M = .ok (.bl (okNums t l c la)) M := by
  show endS (b_has_numbers [some (.tup [u, t, l, c, i, la])] M) = _
  unfold b_has_numbers
  have e1 := is_count_ok (lo := 1) ht
  have e2 := is_count_ok (lo := 1) hl
  cases q1 : inB 1 99 t with
  | false => rw [q1] at e1; simp [e1, okNums, q1]
  | true =>
    cases q2 : inB 1 99 l with
    | false => rw [q1] at e1; rw [q2] at e2; simp [e1, e2, okNums, q1, q2]
    | true =>
      rw [q1] at e1
      rw [q2] at e2
      obtain ⟨j, rfl⟩ : ∃ j, t = .int j := by
        cases t with
        | int j => exact ⟨j, rfl⟩
        | _ => simp [inB] at q1
      have e5 := is_count_ok (lo := j) hc
      cases c with
      | non => simp [e1, e2, okNums, q1, q2]
      | int k => simp [e1, e2, e5, okNums, q1, q2]; simp [inB]
      | ref m => simp [e1, e2, e5, okNums, q1, q2]; simp [inB]
      | _ => simp [e1, e2, e5, okNums, q1, q2]; try simp [inB]
def optN : Option Nat → D
  | none => .non
  | some x => .int (x : Nat)
def UnitsOk (f : Fn) (a : Nat) : Prop := ∀ (n w : Nat) (d : D) (M : Mem) (fu : Nat), TL.Sh M n w d → n ≤ 40 → 7 ≤ n + a → 5 ≤ fu + a → Ret (f [d, .int (a : Nat)] M) (TL.Gives M (optN (unitsD fu d a)))
theorem notTup {d : D} (h : ∀ xs, d ≠ .tup xs) (n a : Nat) : unitsD n d a = none ∧ isPoint d = false := by
  have p : isPoint d = false := by cases d with | tup xs => exact absurd rfl (h xs) | _ => rfl
  refine ⟨?_, p⟩
  cases n with
  | zero => rfl
  | succ n =>
    unfold unitsD
    rw [p]
    cases d with | tup xs => exact absurd rfl (h xs) | _ => rfl
def sumU (fu a : Nat) : List D → Option Nat
  | [] => some 0
  | x :: xs => match unitsD fu x (a + 1), sumU fu a xs with
    | some p, some q => some (p + q)
    | _, _ => none
def UInv (E : Option Nat) (fu a : Nat) (d : D) (M : Mem) (N : Nat) (ps : List D) : List D → TL.Env → Mem → Prop := fun ds env M' => ∃ (m : Nat) (e4 e5 : Option D), env = [some d, some (.int (a : Nat)), some (.int (m : Nat)), some (.ref N), e4, e5] ∧ Keep M M' ∧ seqAt M' N = some ps ∧ E = (sumU fu a ds).map (m + ·) ∧ ∀ x ∈ ds, x ∈ ps
theorem int_ne4 {a : Nat} (h : a ≠ 4) : ¬ ((a : Int) = 4) := by omega
theorem units_in_ok : ∀ (f a : Nat), a ≤ 4 → 5 ≤ f + a → UnitsOk (m_units_in f) a
  | 0, a, ha, hf => by omega
  | f + 1, a, ha, hf => by
    intro n w d M fu h hn h7 hfu
    obtain ⟨n, rfl⟩ : ∃ k, n = k + 3 := ⟨n - 3, by omega⟩
    obtain ⟨fu, rfl⟩ : ∃ k, fu = k + 1 := ⟨fu - 1, by omega⟩
    show Ret (endS (b_units_in (m_units_in f) [some d, some (.int (a : Nat)), none, none, none, none] M)) _
    unfold b_units_in
    have ep := mEq_point_sh (n := n + 1) h hn
    have ty := Sh.ty h
    have et := mIsi_tuple ty
    cases hp : isPoint d with
    | true =>
      rw [hp] at ep
      simp [ep]
      exact TL.Ret.ok (P := TL.Gives M _) ⟨by simp [unitsD, hp, optN], Keep.refl _⟩
    | false =>
      rw [hp] at ep
      have out : ∀ xs, d = .tup xs → xs.length ≠ 6 → unitsD (fu + 1) d a = none := by
        rintro xs rfl hl
        unfold unitsD
        rw [hp]
        match xs, hl with
        | [], _ => rfl
        | [_], _ => rfl
        | [_, _], _ => rfl
        | [_, _, _], _ => rfl
        | [_, _, _, _], _ => rfl
        | [_, _, _, _, _], _ => rfl
        | [_, _, _, _, _, _], hl => exact absurd rfl hl
        | _ :: _ :: _ :: _ :: _ :: _ :: _ :: _, _ => rfl
      by_cases it : ∃ xs, d = .tup xs
      · obtain ⟨xs, rfl⟩ := it
        by_cases h6 : xs.length = 6
        · obtain ⟨u, t, l, c, i, la, rfl⟩ : ∃ u t l c i la, xs = [u, t, l, c, i, la] := by
            match xs, h6 with
            | [u, t, l, c, i, la], _ => exact ⟨u, t, l, c, i, la, rfl⟩
          have el := (Sh.elems h).of_all
          obtain ⟨vu, _, su⟩ := el u (by simp)
          obtain ⟨vt, _, st⟩ := el t (by simp)
          obtain ⟨vl, _, sl⟩ := el l (by simp)
          obtain ⟨vc, _, sc⟩ := el c (by simp)
          obtain ⟨vi, _, si⟩ := el i (by simp)
          obtain ⟨vla, _, sla⟩ := el la (by simp)
          have eu := mNe_text_sh su (by omega) unit_strOk
          have en := has_numbers_ok (u := u) (i := i) (Sh.ty st) (Sh.ty sl) (Sh.ty sc) (Sh.ty sla)
          by_cases h4 : a = 4
          · have h4' : (a : Int) = 4 := by omega
            simp [ep, h4']
            exact TL.Ret.ok (P := TL.Gives M _) ⟨by simp [unitsD, hp, h4, optN], Keep.refl _⟩
          · have h4' := int_ne4 h4
            cases q1 : isText (Str.ofString "unit") u with
            | false =>
              rw [q1] at eu
              simp [ep, h4', eu]
              exact TL.Ret.ok (P := TL.Gives M _) ⟨by simp [unitsD, hp, h4, q1, optN], Keep.refl _⟩
            | true =>
              rw [q1] at eu
              cases q2 : okNums t l c la with
              | false =>
                rw [q2] at en
                simp [ep, h4', eu, en]
                exact TL.Ret.ok (P := TL.Gives M _) ⟨by simp [unitsD, hp, h4, q1, q2, optN], Keep.refl _⟩
              | true =>
                rw [q2] at en
                simp [ep, h4', eu, en]
                have loop : ∀ (ps : List D) (Mx : Mem), Keep M Mx → seqAt Mx M.length = some ps → (∀ x ∈ ps, ∃ v, TL.Sh M (n + 2) v x) → unitsD (fu + 1) (.tup [u, t, l, c, i, la]) a = (sumU fu a ps).map (1 + ·) →
                    SRet (forL (fun M' => seqAt M' M.length = some ps) (gOne 4) (lp_units_in_0 (m_units_in f)) ps [some (.tup [u, t, l, c, i, la]), some (.int (a : Nat)), some (.int 1), some (.ref M.length), none, none] Mx)
                      (fun env M' => ∃ m : Nat, env[2]? = some (some (.int (m : Nat))) ∧ Keep M M' ∧ unitsD (fu + 1) (.tup [u, t, l, c, i, la]) a = some m) (TL.Gives M (optN (unitsD (fu + 1) (.tup [u, t, l, c, i, la]) a))) := by
                  intro ps Mx kx hx hs hE
                  generalize unitsD (fu + 1) (.tup [u, t, l, c, i, la]) a = E at *
                  refine SRet.for_ (UInv E fu a (.tup [u, t, l, c, i, la]) M M.length ps) ⟨1, none, none, rfl, kx, hx, hE, fun _ h => h⟩ (fun _ _ _ h => by
                    obtain ⟨_, _, _, _, _, h, _⟩ := h
                    exact h) ?_ ?_
                  · rintro x ds env M' ⟨m, e4, e5, rfl, k, hq, hEm, hin⟩
                    obtain ⟨v, sx⟩ := hs x (hin x List.mem_cons_self)
                    obtain ⟨M2, e2, k2⟩ := gives_of (units_in_ok f (a + 1) (by omega) (by omega) (n + 2) v x M' fu (sx.keep k) (by omega) (by omega) (by omega))
                    have e2' : m_units_in f [x, .int ((a : Int) + 1)] M' = .ok (optN (unitsD fu x (a + 1))) M2 := by rw [← e2]; congr 1
                    refine ⟨_, rfl, ?_⟩
                    unfold lp_units_in_0
                    cases q : unitsD fu x (a + 1) with
                    | none =>
                      rw [q] at e2'
                      have : E = none := by rw [hEm]; simp [sumU, q]
                      simp [e2', optN]
                      exact SRet.ret ⟨by rw [this], k.trans k2⟩
                    | some y =>
                      rw [q] at e2'
                      simp [e2', optN]
                      refine SRet.next ⟨m + y, some x, some (.int (y : Nat)), by simp, k.trans k2, k2.seq hq, ?_, fun z hz => hin z (List.mem_cons_of_mem _ hz)⟩
                      rw [hEm]
                      cases q2 : sumU fu a ds with
                      | none => simp [sumU, q, q2]
                      | some z => simp [sumU, q, q2]; omega
                  · rintro env M' ⟨m, e4, e5, rfl, k, _, hEm, _⟩
                    exact ⟨m, rfl, k, by rw [hEm]; simp [sumU]⟩
                have fin : ∀ (env : TL.Env) (M' : Mem), (∃ m : Nat, env[2]? = some (some (.int (m : Nat))) ∧ Keep M M' ∧ unitsD (fu + 1) (.tup [u, t, l, c, i, la]) a = some m) → SRet (sRet (eVar 2) env M') (fun _ M1 => TL.Gives M (optN (unitsD (fu + 1) (.tup [u, t, l, c, i, la]) a)) .non M1) (TL.Gives M (optN (unitsD (fu + 1) (.tup [u, t, l, c, i, la]) a))) := by
                  rintro env M' ⟨m, hv, k, hEm⟩
                  simp [hv]
                  exact SRet.ret ⟨by rw [hEm]; rfl, k⟩
                cases q3 : isNon la with
                | true =>
                  have hE : unitsD (fu + 1) (.tup [u, t, l, c, i, la]) a = (sumU fu a [i]).map (1 + ·) := by
                    conv => lhs; unfold unitsD
                    simp only [hp, h4, q1, q2, q3, if_true, if_false, and_self, Bool.false_eq_true, sumU]
                    cases unitsD fu i (a + 1) <;> simp
                  have sq : seqAt (M ++ [MO.lst [i]]) M.length = some [i] := seqAt_lst (at_len _ _)
                  simp [srcOf_ref sq]
                  exact Ret.endS (SRet.nextQ (SRet.imp (loop [i] (M ++ [.lst [i]]) (Keep.more _ _) sq (fun x hx => by
                    cases List.mem_singleton.mp hx
                    exact ⟨vi, si⟩) hE) fin (fun _ _ h => h)))
                | false =>
                  have hE : unitsD (fu + 1) (.tup [u, t, l, c, i, la]) a = (sumU fu a [i, la]).map (1 + ·) := by
                    conv => lhs; unfold unitsD
                    simp only [hp, h4, q1, q2, q3, if_true, if_false, and_self, Bool.false_eq_true, sumU]
                    cases unitsD fu i (a + 1) <;> cases unitsD fu la (a + 1) <;> simp
                    omega
                  have sq : seqAt (M ++ [MO.lst [i]]) M.length = some [i] := seqAt_lst (at_len _ _)
                  have happ : mAppend (.ref M.length) [la] (M ++ [MO.lst [i]]) = some (.non, (M ++ [MO.lst [i]]).set M.length (.lst ([i] ++ [la]))) := mAppend_ok (at_len _ _) (by simp)
                  have es : (M ++ [MO.lst [i]]).set M.length (.lst ([i] ++ [la])) = M ++ [MO.lst [i, la]] := by simp
                  rw [es] at happ
                  have sq2 : seqAt (M ++ [MO.lst [i, la]]) M.length = some [i, la] := seqAt_lst (at_len _ _)
                  simp [sq, happ, srcOf_ref sq2]
                  exact Ret.endS (SRet.nextQ (SRet.imp (loop [i, la] (M ++ [.lst [i, la]]) (Keep.more _ _) sq2 (fun x hx => by
                    rcases List.mem_cons.mp hx with rfl | hx
                    · exact ⟨vi, si⟩
                    · cases List.mem_singleton.mp hx
                      exact ⟨vla, sla⟩) hE) fin (fun _ _ h => h)))
        · have h6' : ¬ ((xs.length : Nat) : Int) = 6 := by omega
          simp [ep, h6']
          exact TL.Ret.ok (P := TL.Gives M _) ⟨by rw [out xs rfl h6]; rfl, Keep.refl _⟩
      · have nt := fun xs e => it ⟨xs, e⟩
        have e1 := (notTup nt (fu + 1) a).1
        have et' : mIsi "tuple" d M = some (.bl false, M) := by
          rw [et]
          cases d with | tup xs => exact absurd rfl (nt xs) | _ => rfl
        simp [ep, et']
        exact TL.Ret.ok (P := TL.Gives M _) ⟨by rw [e1]; rfl, Keep.refl _⟩
def laneB : D → Bool
  | .tup [a, b, c] => inB 1 3 a && (inB 1 20 b && inB 1 12 c)
  | _ => false
theorem is_lane_ok {d : D} {M : Mem} {n w : Nat} (h : TL.Sh M (n + 2) w d) : m_is_lane [d] M = .ok (.bl (laneB d)) M := by
  show endS (b_is_lane [some d] M) = _
  unfold b_is_lane
  have ty := Sh.ty h
  cases d with
  | tup xs =>
    match xs, h with
    | [a, b, c], h =>
      have el := (Sh.elems h).of_all
      obtain ⟨va, _, sa⟩ := el a (by simp)
      obtain ⟨vb, _, sb⟩ := el b (by simp)
      obtain ⟨vc, _, sc⟩ := el c (by simp)
      have ha := between_B (lo := 1) (hi := 3) (M := M) (Sh.ty sa)
      have hb := between_B (lo := 1) (hi := 20) (M := M) (Sh.ty sb)
      have hc := between_B (lo := 1) (hi := 12) (M := M) (Sh.ty sc)
      cases e1 : inB 1 3 a <;> cases e2 : inB 1 20 b <;> cases e3 : inB 1 12 c <;> rw [e1] at ha <;> rw [e2] at hb <;> rw [e3] at hc <;> simp [ha, hb, hc, laneB, e1, e2, e3]
    | [], h => simp [laneB]
    | [a], h => simp [laneB]
    | [a, b], h => simp [laneB]
    | a :: b :: c :: e :: xs, h =>
      have hl : ¬ ((xs.length : Int) + 1 + 1 + 1 + 1 = 3) := by omega
      simp [laneB, hl]
  | ref n =>
    cases q : seqAt M n with
    | none => simp [tyName, q] at ty
    | some xs => simp [mIsi_ref q, laneB]
  | err x => exact absurd ty (by simp [tyName])
  | _ => simp [laneB]
def ruleB (d : D) : Bool := match unitsD 5 d 0 with
  | some y => decide (y ≤ 10)
  | none => false
theorem is_rule_ok {d : D} {M : Mem} {n w : Nat} (h : TL.Sh M n w d) (h7 : 7 ≤ n) (hn : n ≤ 40) : Ret (m_is_rule [d] M) (TL.Gives M (.bl (ruleB d))) := by
  show Ret (endS (b_is_rule [some d, none] M)) _
  unfold b_is_rule
  obtain ⟨M1, e1, k1⟩ := gives_of (units_in_ok 14 0 (by decide) (by decide) n w d M 5 h hn (by omega) (by decide))
  have e1' : m_units_in 14 [d, .int 0] M = .ok (optN (unitsD 5 d 0)) M1 := e1
  cases q : unitsD 5 d 0 with
  | none =>
    rw [q] at e1'
    simp [e1', optN]
    exact TL.Ret.ok (P := TL.Gives M _) ⟨by simp [ruleB, q], k1⟩
  | some y =>
    rw [q] at e1'
    simp [e1', optN]
    exact TL.Ret.ok (P := TL.Gives M _) ⟨by simp [ruleB, q]; omega, k1⟩
def gameB : D → Bool
  | .tup [k, r] => if isText (Str.ofString "rally") k = true then ruleB r else if isText (Str.ofString "down") k = true then downB r else isText (Str.ofString "lane") k && laneB r
  | _ => false
theorem rally_strOk : PyData.strOk (Str.ofString "rally") = true := by decide +kernel
theorem down_strOk : PyData.strOk (Str.ofString "down") = true := by decide +kernel
theorem lane_strOk : PyData.strOk (Str.ofString "lane") = true := by decide +kernel
theorem is_game_ok {d : D} {M : Mem} {w : Nat} (h : TL.Sh M 40 w d) (hw : w ≤ 10000) : Ret (m_is_game [d] M) (TL.Gives M (.bl (gameB d))) := by
  show Ret (endS (b_is_game [some d] M)) _
  unfold b_is_game
  have ty := Sh.ty h
  cases d with
  | tup xs =>
    match xs, h with
    | [a, b], h =>
      have el := (Sh.elems h).of_all
      obtain ⟨va, la, sa⟩ := el a (by simp)
      obtain ⟨vb, lb, sb⟩ := el b (by simp)
      have t1 := mEq_text_sh sa (by omega) rally_strOk
      have t2 := mEq_text_sh sa (by omega) down_strOk
      have t3 := mEq_text_sh sa (by omega) lane_strOk
      cases q1 : isText (Str.ofString "rally") a with
      | true =>
        rw [q1] at t1
        obtain ⟨M1, e1, k1⟩ := gives_of (is_rule_ok sb (by omega) (by omega))
        simp [t1, e1]
        exact TL.Ret.ok (P := TL.Gives M _) ⟨by simp [gameB, q1], k1⟩
      | false =>
        rw [q1] at t1
        cases q2 : isText (Str.ofString "down") a with
        | true =>
          rw [q2] at t2
          obtain ⟨M1, e1, k1⟩ := gives_of (is_down_ok (n := 35) sb (by omega))
          simp [t1, t2, e1]
          exact TL.Ret.ok (P := TL.Gives M _) ⟨by simp [gameB, q1, q2], k1⟩
        | false =>
          rw [q2] at t2
          have e1 := is_lane_ok (n := 37) sb
          cases q3 : isText (Str.ofString "lane") a <;> rw [q3] at t3 <;> simp [t1, t2, t3, e1] <;> exact TL.Ret.ok (P := TL.Gives M _) ⟨by simp [gameB, q1, q2, q3], Keep.refl _⟩
    | [], h => simp; exact TL.Ret.ok (P := TL.Gives M _) ⟨rfl, Keep.refl _⟩
    | [a], h => simp; exact TL.Ret.ok (P := TL.Gives M _) ⟨rfl, Keep.refl _⟩
    | a :: b :: c :: xs, h =>
      have hl : ¬ ((xs.length : Int) + 1 + 1 + 1 = 2) := by omega
      simp [hl]
      exact TL.Ret.ok (P := TL.Gives M _) ⟨rfl, Keep.refl _⟩
  | ref m =>
    cases q : seqAt M m with
    | none => simp [tyName, q] at ty
    | some xs => simp [mIsi_ref q]; exact TL.Ret.ok (P := TL.Gives M _) ⟨rfl, Keep.refl _⟩
  | err y => exact absurd ty (by simp [tyName])
  | _ => simp; exact TL.Ret.ok (P := TL.Gives M _) ⟨rfl, Keep.refl _⟩
theorem shL_inv {M : Mem} {n w : Nat} {d : D} {ds : List D} (h : ShL M n w (d :: ds)) : ∃ v u, TL.Sh M n v d ∧ ShL M n u ds ∧ v + 1 + u ≤ w := by
  obtain ⟨xs, a, ⟨b, g⟩, c, e⟩ := h
  unfold datL at a
  cases q1 : dat n M d with
  | none => rw [q1] at a; cases a
  | some y =>
    cases q2 : datL (dat n M) ds with
    | none => rw [q1, q2] at a; cases a
    | some ys =>
      rw [q1, q2] at a
      cases a
      obtain ⟨b1, b2⟩ := Bool.and_eq_true_iff.mp (show (y.showable && PyData.showableAll ys) = true from b)
      obtain ⟨g1, g2⟩ := Bool.and_eq_true_iff.mp (show (y.canLay0 && PyData.canLayAll0 ys) = true from g)
      obtain ⟨c1, c2⟩ := Bool.and_eq_true_iff.mp (show (y.leavesShort 200 && PyData.leavesShortAll 200 ys) = true from c)
      exact ⟨y.weight, PyData.weightAll ys, ⟨y, q1, ⟨b1, g1⟩, c1, Nat.le_refl _⟩, ⟨ys, q2, ⟨b2, g2⟩, c2, Nat.le_refl _⟩, e⟩
theorem shL_take {M : Mem} {n : Nat} : ∀ {ds : List D} {w : Nat} (k : Nat), ShL M n w ds → ShL M n w (ds.take k)
  | [], w, k, h => by rw [List.take_nil]; exact h
  | d :: ds, w, 0, h => ShL.nil.le (Nat.zero_le _)
  | d :: ds, w, k + 1, h => by
    obtain ⟨v, u, h1, h2, l⟩ := shL_inv h
    exact (ShL.cons h1 (shL_take k h2)).le l
theorem shL_drop {M : Mem} {n : Nat} : ∀ {ds : List D} {w : Nat} (k : Nat), ShL M n w ds → ShL M n w (ds.drop k)
  | ds, w, 0, h => h
  | [], w, k + 1, h => h
  | d :: ds, w, k + 1, h => by
    obtain ⟨v, u, h1, h2, l⟩ := shL_inv h
    exact (shL_drop k h2).le (by omega)
theorem Sh.int20 {M : Mem} {n : Nat} {i : Int} (h : i.natAbs < 2 ^ 20) : TL.Sh M (n + 1) 20 (.int i) := by
  obtain ⟨x, e, b, c, _⟩ := Sh.int (M := M) (n := n) (i := i) (Nat.lt_trans h (by decide))
  cases e
  refine ⟨.int i, rfl, b, c, ?_⟩
  show (if i == 0 then 0 else i.natAbs.log2 + 1) ≤ 20
  split
  · omega
  · rename_i z
    have : i.natAbs ≠ 0 := by simpa using z
    have := (Nat.log2_lt this).mpr h
    omega
/-- what a game's word goes with -/
structure GL (xs : List D) : Prop where
  n0 : 1 ≤ xs.length
  n1 : xs.length ≤ 6
  s : ∀ M n, ShL M (n + 8) 2000 xs
theorem unit_sh {M : Mem} {n : Nat} : TL.Sh M (n + 1) 10 (.str ("unit" : Str)) := str_sh "unit" (by decide +kernel)
theorem point_sh {M : Mem} {n : Nat} : TL.Sh M (n + 1) 10 (.str ("point" : Str)) := str_sh "point" (by decide +kernel)
theorem cap_sh {M : Mem} {n : Nat} {c : Option Int} (h : ∀ i, c = some i → 1 ≤ i ∧ i ≤ 99) : TL.Sh M (n + 1) 20 (capD c) := by
  cases c with
  | none => exact Sh.non.le (by decide)
  | some i => exact Sh.int20 (by have := h i rfl; omega)
theorem rule_sh : ∀ (r : Rule), r.good → ∀ (M : Mem) (n : Nat), TL.Sh M (n + r.depth + 2) (110 * r.units + 12) r.toD
  | .point, _, M, n => (Sh.tup (.cons point_sh .nil)).le (by omega)
  | .unit to lead cap inner, h, M, n => by
    obtain ⟨h1, h2, h3, h4, h5, h6⟩ := h
    have ih := rule_sh inner h6 M n
    have e : n + (Rule.unit to lead cap inner).depth + 2 = (n + inner.depth + 2) + 1 := by simp [Rule.depth]; omega
    rw [e]
    refine (Sh.tup (.cons unit_sh (.cons (Sh.int20 (by omega)) (.cons (Sh.int20 (by omega)) (.cons (cap_sh fun i e => ?_) (.cons ih (.cons Sh.non .nil))))))).le ?_
    · have := h5 i e; omega
    · simp only [Rule.units]; omega
  | .unitL to lead cap inner last, h, M, n => by
    obtain ⟨h1, h2, h3, h4, h5, h6, h7, h8⟩ := h
    have i1 := rule_sh inner h7 M (n + (max inner.depth last.depth - inner.depth))
    have i2 := rule_sh last h8 M (n + (max inner.depth last.depth - last.depth))
    have m1 : inner.depth ≤ max inner.depth last.depth := Nat.le_max_left _ _
    have m2 : last.depth ≤ max inner.depth last.depth := Nat.le_max_right _ _
    rw [show n + (max inner.depth last.depth - inner.depth) + inner.depth + 2 = n + max inner.depth last.depth + 2 from by omega] at i1
    rw [show n + (max inner.depth last.depth - last.depth) + last.depth + 2 = n + max inner.depth last.depth + 2 from by omega] at i2
    have e : n + (Rule.unitL to lead cap inner last).depth + 2 = (n + max inner.depth last.depth + 2) + 1 := by simp [Rule.depth]; omega
    rw [e]
    refine (Sh.tup (.cons unit_sh (.cons (Sh.int20 (by omega)) (.cons (Sh.int20 (by omega)) (.cons (Sh.int20 (by omega)) (.cons i1 (.cons i2 .nil))))))).le ?_
    simp only [Rule.units]; omega
def partL : Rule → List D
  | .point => [.str "point"]
  | .unit to lead cap inner => [.str "unit", .int to, .int lead, capD cap, inner.toD, .non]
  | .unitL to lead cap inner last => [.str "unit", .int to, .int lead, .int cap, inner.toD, last.toD]
theorem rule_GL {r : Rule} (h : r.good) (hd : r.depth ≤ 4) (hu : r.units ≤ 7) : ∃ xs, r.toD = .tup xs ∧ GL xs := by
  have all := rule_sh r h
  have l : r.toD = .tup (partL r) := by cases r <;> rfl
  refine ⟨partL r, l, by cases r <;> simp [partL], by cases r <;> simp [partL], fun M n => ?_⟩
  have := all M (n + 7 - r.depth)
  rw [l, show n + 7 - r.depth + r.depth + 2 = (n + 8) + 1 from by omega] at this
  exact (Sh.elems this).le (by omega)
structure Ths (ts : List Thr) : Prop where
  n0 : 1 ≤ ts.length
  n1 : ts.length ≤ 30
  nm : ∀ t ∈ ts, nameB t.name = true
  w0 : ∀ t ∈ ts, 0 ≤ t.worth ∧ t.worth ≤ 1000000
theorem name_sh {x : Str} (h : nameB x = true) {M : Mem} {n : Nat} : TL.Sh M (n + 1) 8 (.str x) := by
  have h1 := name_len h
  refine (Sh.str (name_strOk h)).le ?_
  exact h1.2
theorem thr_sh {M : Mem} {n : Nat} {t : Thr} (hn : nameB t.name = true) (hw : 0 ≤ t.worth ∧ t.worth ≤ 1000000) : TL.Sh M (n + 2) 31 t.toD :=
  (Sh.tup (.cons (name_sh hn) (.cons (Sh.int20 (by omega)) (.cons Sh.bl .nil)))).le (by decide)
theorem thsL {M : Mem} {n : Nat} {ts : List Thr} (hl : ts.length ≤ 30) (nm : ∀ t ∈ ts, nameB t.name = true) (w0 : ∀ t ∈ ts, 0 ≤ t.worth ∧ t.worth ≤ 1000000) : ShL M (n + 2) 960 (ts.map Thr.toD) := by
  refine (ShL.all (w := 31) fun d hd => ?_).le (by rw [List.length_map]; omega)
  obtain ⟨t, ht, rfl⟩ := List.mem_map.mp hd
  exact thr_sh (nm t ht) (w0 t ht)
theorem down_GL {w : Down} (h : DownOk w) : ∃ xs, w.toD = .tup xs ∧ GL xs := by
  refine ⟨_, rfl, by simp, by simp, fun M n => ?_⟩
  have := h.s0; have := h.s1; have := h.b0; have := h.b1; have := h.t0; have := h.t1
  exact (ShL.cons (small_sh (by omega) (by omega)) (.cons (Sh.int20 (by omega)) (.cons (small_sh (by omega) (by omega)) (.cons (Sh.tup (thsL h.n1 h.good.nm h.good.w0)) .nil)))).le (by decide)
theorem lane_GL {k n : Nat} {P : Int} (l : Lane k P n) : ∃ xs, laneD k P n = .tup xs ∧ GL xs := by
  refine ⟨_, rfl, by simp, by simp, fun M m => ?_⟩
  have := l.k0; have := l.k1; have := l.p0; have := l.p1; have := l.n0; have := l.n1
  exact (ShL.cons (small_sh (by omega) (by omega)) (.cons (small_sh (by omega) (by omega)) (.cons (small_sh (by omega) (by omega)) .nil))).le (by decide)
/-- a game as the law draws it -/
def Gd : Gm → Prop
  | .rally r => r.good ∧ r.depth ≤ 4 ∧ r.units ≤ 7
  | .down w => DownOk w
  | .lane k P n => Lane k P n
theorem gd_form {g : Gm} (h : Gd g) : ∃ (k : String) (xs : List D), g.toD = .tup [.str (Str.ofString k), .tup xs] ∧ k ∈ ["rally", "down", "lane"] ∧ GL xs := by
  cases g with
  | rally r =>
    obtain ⟨h1, h2, h3⟩ := h
    obtain ⟨xs, e, g⟩ := rule_GL h1 h2 h3
    exact ⟨"rally", xs, by rw [← e]; rfl, by simp, g⟩
  | down w =>
    obtain ⟨xs, e, g⟩ := down_GL h
    exact ⟨"down", xs, by rw [← e]; rfl, by simp, g⟩
  | lane k P n =>
    obtain ⟨xs, e, g⟩ := lane_GL h
    exact ⟨"lane", xs, by rw [← e]; rfl, by simp, g⟩
theorem kind_sh {k : String} (h : k ∈ ["rally", "down", "lane"]) {M : Mem} {n : Nat} : TL.Sh M (n + 1) 10 (.str (Str.ofString k)) := by
  simp only [List.mem_cons, List.not_mem_nil, or_false] at h
  rcases h with rfl | rfl | rfl
  · exact str_sh "rally" (by decide +kernel)
  · exact str_sh "down" (by decide +kernel)
  · exact str_sh "lane" (by decide +kernel)
def firstD : Gm → D
  | .rally r => .tup [(begunR r).toD, .non]
  | .down w => .tup [(firstS w).toD, .non]
  | .lane k P n => .tup [standD (List.replicate k (freshR P)) 0, .non]
theorem first_ok {g : Gm} (h : Gd g) (M : Mem) : m_first [g.toD] M = .ok (firstD g) M := by
  show endS (b_first [some g.toD] M) = _
  unfold b_first
  cases g with
  | rally r =>
    obtain ⟨h1, h2, h3⟩ := h
    have e := begun_ok 14 r M (by omega) (by omega)
    simp [Gm.toD, e, firstD]
  | down w =>
    have e := down_begun_ok h M
    simp [Gm.toD, e, firstD]
  | lane k P n =>
    have e := lane_begun_ok h M
    simp [Gm.toD, e, firstD]
theorem first_alike {g : Gm} (h : Gd g) : ∃ n, pureD (firstD g) n = true ∧ CF.smallD (firstD g) = true ∧ n < 14 := by
  have none_ok : WonOk none := fun bs e => by cases e
  cases g with
  | rally r =>
    obtain ⟨h1, h2, h3⟩ := h
    have := begunR_depth _ r (Nat.le_refl _)
    exact ⟨_, sides_pure (won := none), sides_small none_ok, by omega⟩
  | down w =>
    have h : DownOk w := h
    exact ⟨4, dst_pure (firstS w) none, dst_small (by have := h.s1; simp [firstS]; omega) none_ok, by decide⟩
  | lane k P n =>
    have h : Lane k P n := h
    exact ⟨4, lst_pure _ _ none, lst_small (by have := h.k1; simp; omega) none_ok, by decide⟩
def sidesD : Gm → Int
  | .rally _ => 2
  | .down w => w.sides
  | .lane k _ _ => k
theorem sides_of_ok {g : Gm} (M : Mem) : m_sides_of [g.toD] M = .ok (.int (sidesD g)) M := by
  show endS (b_sides_of [some g.toD] M) = _
  unfold b_sides_of
  cases g with
  | rally r => simp [Gm.toD, sidesD]
  | down w => simp [Gm.toD, Down.toD, sidesD]
  | lane k P n => simp [Gm.toD, laneD, sidesD]
/-! right ones -/
theorem isPoint_toD : ∀ r : Rule, isPoint r.toD = decide (r = .point)
  | .point => by simp [Rule.toD, isPoint, isText]
  | .unit .. => by simp [Rule.toD, isPoint]
  | .unitL .. => by simp [Rule.toD, isPoint]
theorem units_right : ∀ (r : Rule) (f a : Nat), r.good → r.depth < f → r.depth + a ≤ 4 → unitsD f r.toD a = some r.units
  | _, 0, _, _, h, _ => by omega
  | .point, f + 1, a, _, _, _ => by simp [unitsD, isPoint_toD, Rule.units]
  | .unit to lead cap inner, f + 1, a, h, hf, ha => by
    obtain ⟨h1, h2, h3, h4, h5, h6⟩ := h
    have d : (Rule.unit to lead cap inner).depth = inner.depth + 1 := rfl
    have ih := units_right inner f (a + 1) h6 (by omega) (by omega)
    have hp := isPoint_toD (.unit to lead cap inner)
    simp only [reduceCtorEq, decide_false] at hp
    have ok : okNums (.int to) (.int lead) (capD cap) .non = true := by
      cases cap with
      | none => simp [okNums, inB, capD, isNon]; omega
      | some c =>
        have := h5 c rfl
        simp [okNums, inB, capD]; omega
    have tx : isText (Str.ofString "unit") (.str "unit") = true := by decide +kernel
    simp only [Rule.toD] at hp
    simp only [unitsD, Rule.toD, hp, Bool.false_eq_true, if_false, show a ≠ 4 from by omega, tx, ok, and_self, if_true, ih, isNon, Rule.units]
    congr 1; omega
  | .unitL to lead cap inner last, f + 1, a, h, hf, ha => by
    obtain ⟨h1, h2, h3, h4, h5, h6, h7, h8⟩ := h
    have d : (Rule.unitL to lead cap inner last).depth = max inner.depth last.depth + 1 := rfl
    have ih := units_right inner f (a + 1) h7 (by omega) (by omega)
    have il := units_right last f (a + 1) h8 (by omega) (by omega)
    have hp := isPoint_toD (.unitL to lead cap inner last)
    simp only [reduceCtorEq, decide_false] at hp
    have ok : okNums (.int to) (.int lead) (.int cap) last.toD = true := by
      simp [okNums, inB]; omega
    have tx : isText (Str.ofString "unit") (.str "unit") = true := by decide +kernel
    have nn : isNon last.toD = false := isNon_toD
    simp only [Rule.toD] at hp
    simp only [unitsD, Rule.toD, hp, Bool.false_eq_true, if_false, show a ≠ 4 from by omega, tx, ok, and_self, if_true, ih, il, nn, Rule.units]
    congr 1; omega
theorem throwB_true {t : Thr} (hn : nameB t.name = true) (hw : 0 ≤ t.worth ∧ t.worth ≤ 1000000) : throwB t.toD = true := by
  simp [throwB, Thr.toD, nameD, hn, inB, isBl, hw.1, hw.2]
theorem downB_true {w : Down} (h : DownOk w) : downB w.toD = true := by
  have h1 : (w.throws.map Thr.toD).all throwB = true := by
    rw [List.all_eq_true]
    intro d hd
    obtain ⟨t, ht, rfl⟩ := List.mem_map.mp hd
    exact throwB_true (h.good.nm t ht) (h.good.w0 t ht)
  have h2 : (w.throws.map Thr.toD).map nmOf = w.throws.map (·.name) := by rw [List.map_map]; rfl
  have h3 : fresh (fun _ => false) (w.throws.map (·.name)) = (w.throws.map (·.name)).length := fresh_nodup _ _ h.good.nd fun _ _ => rfl
  have := h.s0; have := h.s1; have := h.b0; have := h.b1; have := h.t0; have := h.t1; have := h.n0; have := h.n1
  simp only [downB, Down.toD, throwsB, h1, h2, h3, inB, List.length_map, decide_true, Bool.and_true, Bool.true_and, Bool.and_eq_true, decide_eq_true_eq]
  omega
theorem game_right {g : Gm} (h : Gd g) : gameB g.toD = true := by
  have r1 : isText (Str.ofString "rally") (.str (Str.ofString "rally")) = true := by decide +kernel
  have r2 : isText (Str.ofString "rally") (.str (Str.ofString "down")) = false := by decide +kernel
  have r3 : isText (Str.ofString "down") (.str (Str.ofString "down")) = true := by decide +kernel
  have r4 : isText (Str.ofString "rally") (.str (Str.ofString "lane")) = false := by decide +kernel
  have r5 : isText (Str.ofString "down") (.str (Str.ofString "lane")) = false := by decide +kernel
  have r6 : isText (Str.ofString "lane") (.str (Str.ofString "lane")) = true := by decide +kernel
  cases g with
  | rally r =>
    obtain ⟨h1, h2, h3⟩ := h
    have u := units_right r 5 0 h1 (by omega) (by omega)
    simp only [Gm.toD, gameB, r1, if_true, ruleB, u]
    exact decide_eq_true (by omega)
  | down w => simp [Gm.toD, gameB, r2, r3, downB_true h]
  | lane k P n =>
    have h : Lane k P n := h
    have := h.k0; have := h.k1; have := h.p0; have := h.p1; have := h.n0; have := h.n1
    simp [Gm.toD, gameB, r4, r5, r6, laneD, laneB, inB]
    omega
theorem game_sh {g : Gm} (h : Gd g) (M : Mem) (n : Nat) : TL.Sh M (n + 10) 2100 g.toD := by
  obtain ⟨k, xs, e, hk, gl⟩ := gd_form h
  rw [e]
  exact (Sh.tup (.cons (kind_sh hk) (.cons (Sh.tup (gl.s M n)) .nil))).le (by decide)
end CI
end
section
set_option maxHeartbeats 4000000
/-! games by a cell -/
namespace CE
open PySem PySem.Spec PyProof.Rows L2 TL
noncomputable section
/- def l_cell_at(_law_script, _law_k): 0=_law_script 1=_law_k -/
def b_l_cell_at : MS := (sSeq (sIf (tB (eBin mLt (eVar 1) (eCallO nLen (aCons (eVar 0) aNil)))) (sRet (eBin mIdx (eVar 0) (eVar 1))) sNil)
    (sRet (eC (.int 0))))
def m_l_cell_at : Fn := fnD 2 2 b_l_cell_at
/- def l_draws(_law_cell, _law_many): 0=_law_cell 1=_law_many 2=_law_found 3=_law_number 4=_law_k -/
def lp_l_draws_0 : MS := (sSeq (sExpr (eMeth "list" mAppend (eVar 2) (aCons (eBin mMod (eVar 3) (eC (.int 720720))) aNil)))
    (sAsg (gOne 3) (eBin mFdiv (eVar 3) (eC (.int 720720)))))
def lp_l_draws_1 : MS := (sSeq (sAsg (gOne 3) (eBin mMod (eBin mAdd (eBin mAdd (eBin mMul (eVar 3) (eVar 3)) (eBin mMul (eC (.int 48271)) (eVar 3))) (eVar 4)) (eC (.int 2147483647))))
    (sExpr (eMeth "list" mAppend (eVar 2) (aCons (eBin mMod (eBin mAdd (eBin mMul (eVar 3) (eC (.int 69621))) (eBin mMul (eC (.int 7)) (eVar 4))) (eC (.int 2147483629))) aNil))))
def b_l_draws : MS := (sSeq (sAsg (gOne 2) (eLst aNil))
    (sSeq (sIf (tB (eBin mEq (eBin mMod (eVar 0) (eC (.int 2))) (eC (.int 1)))) (sSeq (sAsg (gOne 3) (eBin mFdiv (eVar 0) (eC (.int 2))))
    (sSeq (sFor (iRange1 (eVar 1)) (gOne 4) lp_l_draws_0)
    (sRet (eVar 2)))) sNil)
    (sSeq (sAsg (gOne 3) (eBin mAdd (eBin mMod (eBin mFdiv (eVar 0) (eC (.int 2))) (eC (.int 2147483647))) (eC (.int 48271))))
    (sSeq (sFor (iRange1 (eBin mAdd (eVar 1) (eC (.int 1)))) (gOne 4) lp_l_draws_1)
    (sRet (eSl (eVar 2) (oSome (eC (.int 1))) oNone))))))
def m_l_draws : Fn := fnD 2 5 b_l_draws
/- def l_unit(_law_xs, _law_at, _law_level, _law_levels): 0=_law_xs 1=_law_at 2=_law_level 3=_law_levels 4=_law_to 5=_law_lead 6=_law_cap 7=_law_last -/
def b_l_unit (r_l_unit : Fn) : MS := (sSeq (sIf (tOr (tB (eBin mEq (eVar 2) (eVar 3))) (tAnd (tB (eBin mGt (eVar 1) (eC (.int 0)))) (tB (eBin mEq (eBin mMod (eBin mIdx (eVar 0) (eBin mMul (eC (.int 4)) (eVar 1))) (eC (.int 7))) (eC (.int 0)))))) (sRet (eTup (aCons (eC (.str "point")) aNil))) sNil)
    (sSeq (sAsg (gOne 4) (eBin mAdd (eC (.int 1)) (eBin mMod (eBin mIdx (eVar 0) (eBin mAdd (eBin mMul (eC (.int 4)) (eVar 1)) (eC (.int 1)))) (eBin mIdx (eLst (aCons (eC (.int 3)) (aCons (eC (.int 5)) (aCons (eC (.int 99)) aNil)))) (eBin mMod (eBin mFdiv (eBin mIdx (eVar 0) (eBin mAdd (eBin mMul (eC (.int 4)) (eVar 1)) (eC (.int 1)))) (eC (.int 99))) (eC (.int 3)))))))
    (sSeq (sAsg (gOne 5) (eBin mAdd (eC (.int 1)) (eBin mMod (eBin mIdx (eVar 0) (eBin mAdd (eBin mMul (eC (.int 4)) (eVar 1)) (eC (.int 2)))) (eBin mIdx (eLst (aCons (eC (.int 2)) (aCons (eC (.int 3)) (aCons (eC (.int 99)) aNil)))) (eBin mMod (eBin mFdiv (eBin mIdx (eVar 0) (eBin mAdd (eBin mMul (eC (.int 4)) (eVar 1)) (eC (.int 2)))) (eC (.int 99))) (eC (.int 3)))))))
    (sSeq (sAsg (gOne 6) (eC .non))
    (sSeq (sAsg (gOne 7) (eC .non))
    (sSeq (sIf (tB (eBin mEq (eBin mMod (eBin mIdx (eVar 0) (eBin mAdd (eBin mMul (eC (.int 4)) (eVar 1)) (eC (.int 3)))) (eC (.int 2))) (eC (.int 1)))) (sSeq (sAsg (gOne 6) (eCallO nMin2 (aCons (eC (.int 99)) (aCons (eBin mAdd (eVar 4) (eBin mMod (eBin mFdiv (eBin mIdx (eVar 0) (eBin mAdd (eBin mMul (eC (.int 4)) (eVar 1)) (eC (.int 3)))) (eC (.int 2))) (eC (.int 4)))) aNil))))
    (sIf (tAnd (tB (eBin mEq (eBin mMod (eBin mFdiv (eBin mIdx (eVar 0) (eBin mAdd (eBin mMul (eC (.int 4)) (eVar 1)) (eC (.int 3)))) (eC (.int 8))) (eC (.int 2))) (eC (.int 1)))) (tB (eBin mLt (eVar 3) (eC (.int 4))))) (sAsg (gOne 7) (eCall r_l_unit (aCons (eVar 0) (aCons (eBin mAdd (eBin mMul (eC (.int 2)) (eVar 1)) (eC (.int 2))) (aCons (eBin mAdd (eVar 2) (eC (.int 1))) (aCons (eVar 3) aNil)))))) sNil)) sNil)
    (sRet (eTup (aCons (eC (.str "unit")) (aCons (eVar 4) (aCons (eVar 5) (aCons (eVar 6) (aCons (eCall r_l_unit (aCons (eVar 0) (aCons (eBin mAdd (eBin mMul (eC (.int 2)) (eVar 1)) (eC (.int 1))) (aCons (eBin mAdd (eVar 2) (eC (.int 1))) (aCons (eVar 3) aNil))))) (aCons (eVar 7) aNil))))))))))))))
def m_l_unit : Nat → Fn
  | 0 => noFn
  | n + 1 => fnD 4 8 (b_l_unit (m_l_unit n))
/- def l_throws(_law_xs): 0=_law_xs 1=_law_some 2=_law_names 3=_law_throws_here 4=_law_k -/
def lp_l_throws_0 : MS := (sExpr (eMeth "list" mAppend (eVar 3) (aCons (eTup (aCons (eBin mIdx (eVar 2) (eVar 4)) (aCons (eBin mMod (eBin mIdx (eVar 0) (eBin mAdd (eC (.int 3)) (eBin mMul (eC (.int 2)) (eVar 4)))) (eBin mIdx (eLst (aCons (eC (.int 4)) (aCons (eC (.int 21)) (aCons (eC (.int 1000001)) aNil)))) (eBin mMod (eBin mFdiv (eBin mIdx (eVar 0) (eBin mAdd (eC (.int 4)) (eBin mMul (eC (.int 2)) (eVar 4)))) (eC (.int 2))) (eC (.int 3))))) (aCons (eBin mEq (eBin mMod (eBin mIdx (eVar 0) (eBin mAdd (eC (.int 4)) (eBin mMul (eC (.int 2)) (eVar 4)))) (eC (.int 2))) (eC (.int 1))) aNil)))) aNil)))
def b_l_throws : MS := (sSeq (sAsg (gOne 1) (eLst (aCons (eLst (aCons (eC (.str "a")) (aCons (eC (.str "ab")) (aCons (eC (.str "abc")) (aCons (eC (.str "abcd")) (aCons (eC (.str "b")) aNil)))))) (aCons (eLst (aCons (eC (.str "z9")) (aCons (eC (.str "z")) (aCons (eC (.str "z90")) (aCons (eC (.str "y")) (aCons (eC (.str "zz")) aNil)))))) (aCons (eLst (aCons (eC (.str "t20")) (aCons (eC (.str "d20")) (aCons (eC (.str "t2")) (aCons (eC (.str "d")) (aCons (eC (.str "x0000000")) aNil)))))) aNil)))))
    (sSeq (sAsg (gOne 2) (eBin mIdx (eVar 1) (eBin mMod (eBin mIdx (eVar 0) (eC (.int 1))) (eC (.int 3)))))
    (sSeq (sAsg (gOne 3) (eLst aNil))
    (sSeq (sFor (iRange1 (eBin mAdd (eC (.int 1)) (eBin mMod (eBin mIdx (eVar 0) (eC (.int 2))) (eC (.int 5))))) (gOne 4) lp_l_throws_0)
    (sRet (eCallO nTuple (aCons (eVar 3) aNil)))))))
def m_l_throws : Fn := fnD 1 5 b_l_throws
/- def l_game(_law_cell): 0=_law_cell 1=_law_xs 2=_law_begin -/
def b_l_game : MS := (sSeq (sAsg (gOne 1) (eCall m_l_draws (aCons (eVar 0) (aCons (eC (.int 34)) aNil))))
    (sSeq (sIf (tB (eBin mEq (eBin mMod (eBin mIdx (eVar 1) (eC (.int 33))) (eC (.int 3))) (eC (.int 0)))) (sRet (eTup (aCons (eC (.str "rally")) (aCons (eCall (m_l_unit 14) (aCons (eVar 1) (aCons (eC (.int 0)) (aCons (eC (.int 0)) (aCons (eBin mMod (eBin mIdx (eVar 1) (eC (.int 32))) (eC (.int 5))) aNil))))) aNil)))) sNil)
    (sSeq (sIf (tB (eBin mEq (eBin mMod (eBin mIdx (eVar 1) (eC (.int 33))) (eC (.int 3))) (eC (.int 1)))) (sSeq (sAsg (gOne 2) (eBin mAdd (eC (.int 1)) (eBin mMod (eBin mIdx (eVar 1) (eC (.int 11))) (eBin mIdx (eLst (aCons (eC (.int 9)) (aCons (eC (.int 60)) (aCons (eC (.int 1000000)) aNil)))) (eBin mMod (eBin mIdx (eVar 1) (eC (.int 13))) (eC (.int 3)))))))
    (sRet (eTup (aCons (eC (.str "down")) (aCons (eTup (aCons (eBin mAdd (eC (.int 1)) (eBin mMod (eBin mIdx (eVar 1) (eC (.int 0))) (eC (.int 3)))) (aCons (eVar 2) (aCons (eBin mAdd (eC (.int 1)) (eBin mMod (eBin mIdx (eVar 1) (eC (.int 12))) (eC (.int 3)))) (aCons (eCall m_l_throws (aCons (eVar 1) aNil)) aNil))))) aNil))))) sNil)
    (sRet (eTup (aCons (eC (.str "lane")) (aCons (eTup (aCons (eBin mAdd (eC (.int 1)) (eBin mMod (eBin mIdx (eVar 1) (eC (.int 0))) (eC (.int 3)))) (aCons (eBin mAdd (eC (.int 1)) (eBin mMod (eBin mIdx (eVar 1) (eC (.int 1))) (eBin mIdx (eLst (aCons (eC (.int 3)) (aCons (eC (.int 10)) (aCons (eC (.int 20)) aNil)))) (eBin mMod (eBin mIdx (eVar 1) (eC (.int 3))) (eC (.int 3)))))) (aCons (eBin mAdd (eC (.int 1)) (eBin mMod (eBin mIdx (eVar 1) (eC (.int 2))) (eBin mIdx (eLst (aCons (eC (.int 2)) (aCons (eC (.int 3)) (aCons (eC (.int 12)) aNil)))) (eBin mMod (eBin mIdx (eVar 1) (eC (.int 4))) (eC (.int 3)))))) aNil)))) aNil)))))))
def m_l_game : Fn := fnD 1 3 b_l_game
end

open RL RB TLQ RD CI
open CM hiding b_l_alike m_l_alike b_l_unit m_l_unit g_l_unit b_l_rule m_l_rule b_l_any_rule m_l_any_rule unit_ok rule_step rule_ok any_rule
open CG (Gm)
theorem asg_step {i : Nat} {e : ME} {env : TL.Env} {M M' : Mem} {v : D} {rest : MS} (h : e env M = .ok v M') : (sSeq (sAsg (gOne i) e) rest) env M = rest (env.set i (some v)) M' := by
  show nextS (thenS env (e env M) fun d M1 => match gOne i d env with | some env' => .next env' M1 | none => .stuck) rest = _
  rw [h]
  rfl
theorem cell_at_ok {ns : List Int} {S : Nat} {M : Mem} {k : Nat} (hS : seqAt M S = some (ns.map D.int)) : m_l_cell_at [.ref S, .int (k : Nat)] M = .ok (.int (ns.getD k 0)) M := by
  show endS (b_l_cell_at [some (.ref S), some (.int (k : Nat))] M) = _
  unfold b_l_cell_at
  by_cases c : k < ns.length
  · have c' : (k : Int) < (ns.length : Nat) := by omega
    have i1 : atI (ns.map D.int) (k : Int) = some (.int (ns.getD k 0)) := atI_nat (by rw [List.getElem?_map, List.getD_eq_getElem?_getD, List.getElem?_eq_getElem c]; rfl)
    simp [hS, c', i1, c]
  · have c' : ¬ ((k : Int) < (ns.length : Nat)) := by omega
    have d0 : ns.getD k 0 = 0 := by rw [List.getD_eq_getElem?_getD, List.getElem?_eq_none (by omega)]; rfl
    simp [hS, c', d0, c]
theorem mul_in {M : Mem} {i j : Int} (h0 : -100000000000 ≤ i) (h1 : i ≤ 100000000000) : mMul (.int i) (.int j) M = some (.int (i * j), M) := by
  rw [mMul_int, if_pos]; omega
/-- a list of numbers, drawn -/
def DrawsQ (many : Nat) (M : Mem) (d : D) (M' : Mem) : Prop := ∃ (n : Nat) (xs : List Nat), d = .ref n ∧ M.length ≤ n ∧ Keep M M' ∧ M'[n]? = some (.lst (xs.map fun x => D.int (x : Nat))) ∧ xs.length = many
def OInv (M : Mem) (many : Nat) : List D → TL.Env → Mem → Prop := fun ds env M' => ∃ (e0 e1 e4 : Option D) (num : Int) (xs : List Nat), env = [e0, e1, some (.ref M.length), some (.int num), e4] ∧ Keep M M' ∧ M'[M.length]? = some (.lst (xs.map fun x => D.int (x : Nat))) ∧ xs.length + ds.length = many
def EvInv (M : Mem) (many : Nat) : List D → TL.Env → Mem → Prop := fun ds env M' => ∃ (e0 e1 e4 : Option D) (num : Int) (xs : List Nat), env = [e0, e1, some (.ref M.length), some (.int num), e4] ∧ Keep M M' ∧ M'[M.length]? = some (.lst (xs.map fun x => D.int (x : Nat))) ∧ xs.length + ds.length = many ∧ 0 ≤ num ∧ num ≤ 3000000000 ∧ ∀ d ∈ ds, ∃ i : Int, d = .int i ∧ 0 ≤ i
theorem draws_ok {c : Int} {many : Nat} (hm : many ≤ 1000) (M : Mem) : Ret (m_l_draws [.int c, .int (many : Nat)] M) (DrawsQ many M) := by
  show Ret (endS (b_l_draws [some (.int c), some (.int (many : Nat)), none, none, none] M)) _
  unfold b_l_draws
  have ro : RngOk (many : Int) := rngOk_nat (by omega)
  have ro1 : RngOk ((many : Int) + 1) := rngOk_nat (n := many + 1) (by omega)
  have tn : ((many : Int) + 1).toNat = many + 1 := by omega
  by_cases q : c % 2 = 1
  · simp [q, ro]
    refine Ret.endS ?_
    refine SRet.forQ (OInv M many) ⟨_, _, _, c / 2, [], rfl, Keep.more _ _, at_len _ _, by simp [rng_length]⟩ (fun _ _ _ _ => trivial) ?_ ?_
    · rintro d ds env M' ⟨e0, e1, e4, num, xs, rfl, k, h, hl⟩
      refine ⟨_, rfl, ?_⟩
      unfold lp_l_draws_0
      obtain ⟨y, hy⟩ : ∃ y : Nat, num % 720720 = (y : Int) := ⟨(num % 720720).toNat, by omega⟩
      have ap := mAppend_ok (y := .int (y : Nat)) h (by rw [List.length_map]; rw [List.length_cons] at hl; omega)
      have sq := seqAt_lst h
      have lt := lt_of_at h
      simp [sq, hy, ap]
      refine SRet.next ⟨_, _, _, num / 720720, xs ++ [y], rfl, k.setNew (Nat.le_refl _), ?_, ?_⟩
      · rw [List.getElem?_set_self lt]; simp
      · rw [List.length_append, List.length_singleton]; rw [List.length_cons] at hl; omega
    · rintro env M' ⟨e0, e1, e4, num, xs, rfl, k, h, hl⟩
      simp
      exact SRet.ret ⟨M.length, xs, rfl, Nat.le_refl _, k, h, by simpa using hl⟩
  · have q' : ¬ (c % 2 = 1) := q
    simp [q', ro1, tn]
    refine Ret.endS ?_
    refine SRet.forQ (EvInv M (many + 1)) ⟨_, _, _, c / 2 % 2147483647 + 48271, [], rfl, Keep.more _ _, at_len _ _, by simp [rng_length], by omega, by omega, fun d hd => ?_⟩ (fun _ _ _ _ => trivial) ?_ ?_
    · obtain ⟨i, hi, rfl⟩ := mem_rng hd
      exact ⟨_, rfl, by omega⟩
    · rintro d ds env M' ⟨e0, e1, e4, num, xs, rfl, k, h, hl, n0, n1, hd⟩
      obtain ⟨i, rfl, i0⟩ := hd d List.mem_cons_self
      refine ⟨_, rfl, ?_⟩
      unfold lp_l_draws_1
      have m1 := mul_in (M := M') (i := num) (j := num) (by omega) (by omega)
      have m2 := mul_in (M := M') (i := 48271) (j := num) (by omega) (by omega)
      obtain ⟨nu, hnu⟩ : ∃ nu, nu = (num * num + 48271 * num + i) % 2147483647 := ⟨_, rfl⟩
      have b0 : 0 ≤ nu ∧ nu < 2147483647 := by rw [hnu]; omega
      have m3 := mul_in (M := M') (i := nu) (j := 69621) (by omega) (by omega)
      have m4 := mul_in (M := M') (i := 7) (j := i) (by omega) (by omega)
      obtain ⟨y, hy⟩ : ∃ y : Nat, (nu * 69621 + 7 * i) % 2147483629 = (y : Int) := ⟨((nu * 69621 + 7 * i) % 2147483629).toNat, by omega⟩
      have ap := mAppend_ok (y := .int (y : Nat)) h (by rw [List.length_map]; rw [List.length_cons] at hl; omega)
      have sq := seqAt_lst h
      have lt := lt_of_at h
      simp [-mMul_int, m1, m2, ← hnu, m3, m4, sq, hy, ap]
      refine SRet.next ⟨_, _, _, nu, xs ++ [y], rfl, k.setNew (Nat.le_refl _), ?_, ?_, b0.1, by omega, fun d hd' => hd d (List.mem_cons_of_mem _ hd')⟩
      · rw [List.getElem?_set_self lt]; simp
      · rw [List.length_append, List.length_singleton]; rw [List.length_cons] at hl; omega
    · rintro env M' ⟨e0, e1, e4, num, xs, rfl, k, h, hl, _⟩
      have sl : mSl (.ref M.length) (some 1) none M' = some (.ref M'.length, M' ++ [.lst ((xs.drop 1).map fun x => D.int (x : Nat))]) := by
        rw [show (1 : Int) = ((1 : Nat) : Int) from rfl, mSl_fr (seqAt_lst h) (by rw [List.length_map]; simp at hl; omega), List.map_drop]
      simp [-List.drop_one, sl]
      exact SRet.ret ⟨M'.length, xs.drop 1, rfl, k.1, k.trans (Keep.more _ _), by rw [← List.map_drop]; exact at_len _ _, by rw [List.length_drop]; simp at hl; omega⟩
/-! ### a rule by numbers -/
structure Xs (M : Mem) (X : Nat) (xs : List Nat) : Prop where
  s : seqAt M X = some (xs.map fun x => D.int (x : Nat))
  l : xs.length = 34
theorem Xs.at_ {M : Mem} {X : Nat} {xs : List Nat} (h : Xs M X xs) {i : Nat} (hi : i < 34) : ∃ v : Nat, ∀ M', Keep M M' → mIdx (.ref X) (.int (i : Nat)) M' = some (.int (v : Nat), M') := by
  obtain ⟨v, hv⟩ : ∃ v, xs[i]? = some v := ⟨xs[i]'(by rw [h.l]; exact hi), List.getElem?_eq_getElem _⟩
  refine ⟨v, fun M' k => ?_⟩
  have := atI_nat (xs := xs.map fun x => D.int (x : Nat)) (j := i) (v := .int (v : Nat)) (by rw [List.getElem?_map, hv]; rfl)
  show (match seqAt M' X with | some xs => (atI xs (i : Int)).map fun d => (d, M') | none => none) = _
  rw [k.seq h.s]
  simp only [this]
  rfl
theorem Xs.keep {M M' : Mem} {X : Nat} {xs : List Nat} (h : Xs M X xs) (k : Keep M M') : Xs M' X xs := ⟨k.seq h.s, h.l⟩
theorem pick3 {a b c : Int} {i : Int} (h0 : 0 ≤ i) (h1 : i < 3) (P : Int → Prop) (pa : P a) (pb : P b) (pc : P c) : ∃ v, atI [D.int a, .int b, .int c] i = some (.int v) ∧ P v := by
  rcases (show i = 0 ∨ i = 1 ∨ i = 2 by omega) with rfl | rfl | rfl
  · exact ⟨a, by simp, pa⟩
  · exact ⟨b, by simp, pb⟩
  · exact ⟨c, by simp, pc⟩
/-- a number drawn below one of three -/
def e3 (ix : ME) (dv : ME → ME) (a b c : Int) : ME := (eBin mAdd (eC (.int 1)) (eBin mMod (eBin mIdx (eVar 0) ix) (eBin mIdx (eLst (aCons (eC (.int a)) (aCons (eC (.int b)) (aCons (eC (.int c)) aNil)))) (eBin mMod (dv (eBin mIdx (eVar 0) ix)) (eC (.int 3))))))
theorem e3_ok {ix : ME} {a b c : Int} {X i v : Nat} {env : TL.Env} {M : Mem} (h0 : env[0]? = some (some (.ref X))) (hi : ∀ M', ix env M' = .ok (.int (i : Nat)) M') (hv : ∀ M', Keep M M' → mIdx (.ref X) (.int (i : Nat)) M' = some (.int (v : Nat), M'))
    (ha : 1 ≤ a ∧ a ≤ 99) (hb : 1 ≤ b ∧ b ≤ 99) (hc : 1 ≤ c ∧ c ≤ 99) : ∃ r : Int, 1 ≤ r ∧ r ≤ 99 ∧ e3 ix (fun e => eBin mFdiv e (eC (.int 99))) a b c env M = .ok (.int r) (M ++ [.lst [.int a, .int b, .int c]]) := by
  obtain ⟨m, e1, g1, g2⟩ := pick3 (a := a) (b := b) (c := c) (i := (v : Int) / 99 % 3) (by omega) (by omega) (fun m => 1 ≤ m ∧ m ≤ 99) ha hb hc
  have v1 := hv M (Keep.refl _)
  have v2 := hv (M ++ [.lst [.int a, .int b, .int c]]) (Keep.more _ _)
  have sq : seqAt (M ++ [MO.lst [D.int a, .int b, .int c]]) M.length = some [.int a, .int b, .int c] := seqAt_lst (at_len _ _)
  have p0 : 0 < m := by omega
  have ix2 : mIdx (.ref M.length) (.int ((v : Int) / 99 % 3)) (M ++ [MO.lst [D.int a, .int b, .int c]]) = some (.int m, M ++ [MO.lst [D.int a, .int b, .int c]]) := by
    show (match seqAt (M ++ [MO.lst [D.int a, .int b, .int c]]) M.length with | some xs => (atI xs ((v : Int) / 99 % 3)).map fun d => (d, M ++ [MO.lst [D.int a, .int b, .int c]]) | none => none) = _
    rw [sq]; simp only [e1]; rfl
  refine ⟨1 + (v : Int) % m, ?_, ?_, ?_⟩
  · have := Int.emod_nonneg (v : Int) (show m ≠ 0 by omega); omega
  · have := Int.emod_lt_of_pos (v : Int) p0; omega
  · unfold e3
    simp [-mIdx_ref, h0, hi, v1, v2, ix2, p0]
def uLim (levels level at_ : Nat) : Prop := level ≤ levels ∧ levels ≤ 4 ∧ (levels = 4 → at_ + 1 = 2 ^ level) ∧ (levels ≤ 3 → at_ + 2 ≤ 2 ^ (level + 1))
def ubL (levels level : Nat) : Nat := if levels = 4 then 4 - level else 2 ^ (levels - level) - 1
theorem uLim.seven {levels level at_ : Nat} (h : uLim levels level at_) (hl : level < levels) : at_ ≤ 7 := by
  obtain ⟨h1, h2, h3, h4⟩ := h
  rcases (show levels = 4 ∨ levels ≤ 3 by omega) with c | c
  · have := h3 c
    have : level = 0 ∨ level = 1 ∨ level = 2 ∨ level = 3 := by omega
    rcases this with rfl | rfl | rfl | rfl <;> simp at * <;> omega
  · have := h4 c
    have : level = 0 ∨ level = 1 ∨ level = 2 := by omega
    rcases this with rfl | rfl | rfl <;> simp at * <;> omega
theorem uLim.next {levels level at_ : Nat} (h : uLim levels level at_) (hl : level < levels) : uLim levels (level + 1) (2 * at_ + 1) := by
  obtain ⟨h1, h2, h3, h4⟩ := h
  refine ⟨by omega, h2, fun c => ?_, fun c => ?_⟩
  · have := h3 c; rw [Nat.pow_succ]; omega
  · have := h4 c; rw [Nat.pow_succ]; omega
theorem uLim.nextL {levels level at_ : Nat} (h : uLim levels level at_) (hl : level < levels) (h3 : levels ≤ 3) : uLim levels (level + 1) (2 * at_ + 2) := by
  obtain ⟨h1, h2, _, h4⟩ := h
  refine ⟨by omega, h2, fun c => by omega, fun c => ?_⟩
  have := h4 c; rw [Nat.pow_succ]; omega
def UnitQ (levels level : Nat) (M : Mem) (d : D) (M' : Mem) : Prop := ∃ r : Rule, d = r.toD ∧ r.good ∧ r.depth ≤ levels - level ∧ r.units ≤ ubL levels level ∧ Keep M M'
theorem unit_ok {X : Nat} {xs : List Nat} : ∀ (n levels level at_ : Nat) (M : Mem), levels - level < n → uLim levels level at_ → Xs M X xs → Ret (m_l_unit n [.ref X, .int (at_ : Nat), .int (level : Nat), .int (levels : Nat)] M) (UnitQ levels level M)
  | 0, _, _, _, _, h, _, _ => by omega
  | n + 1, levels, level, at_, M, hn, lim, hx => by
    show Ret (endS (b_l_unit (m_l_unit n) [some (.ref X), some (.int (at_ : Nat)), some (.int (level : Nat)), some (.int (levels : Nat)), none, none, none, none] M)) _
    have eb : b_l_unit (m_l_unit n) = sSeq (sIf (tOr (TL.tB (eBin mEq (eVar 2) (eVar 3))) (tAnd (TL.tB (eBin mGt (eVar 1) (eC (.int 0)))) (TL.tB (eBin mEq (eBin mMod (eBin mIdx (eVar 0) (eBin mMul (eC (.int 4)) (eVar 1))) (eC (.int 7))) (eC (.int 0)))))) (sRet (eTup (aCons (eC (.str "point")) aNil))) sNil)
      (sSeq (sAsg (gOne 4) (e3 (eBin mAdd (eBin mMul (eC (.int 4)) (eVar 1)) (eC (.int 1))) (fun e => eBin mFdiv e (eC (.int 99))) 3 5 99))
      (sSeq (sAsg (gOne 5) (e3 (eBin mAdd (eBin mMul (eC (.int 4)) (eVar 1)) (eC (.int 2))) (fun e => eBin mFdiv e (eC (.int 99))) 2 3 99)) _)) := rfl
    rw [eb]
    have le := lim.1
    by_cases c0 : level = levels
    · subst c0
      simp
      exact TL.Ret.ok (P := UnitQ level level M) ⟨.point, rfl, trivial, Nat.zero_le _, Nat.zero_le _, Keep.refl _⟩
    · have c0' : ¬ ((level : Int) = (levels : Nat)) := by omega
      have a7 := lim.seven (by omega)
      have m4 : ∀ M', mMul (.int 4) (.int (at_ : Nat)) M' = some (.int (4 * (at_ : Int)), M') := fun M' => mul_in (by decide) (by decide)
      have m2 : ∀ M', mMul (.int 2) (.int (at_ : Nat)) M' = some (.int (2 * (at_ : Int)), M') := fun M' => mul_in (by decide) (by decide)
      obtain ⟨v0, h0⟩ := hx.at_ (i := 4 * at_) (by omega)
      have v0' : mIdx (.ref X) (.int (4 * (at_ : Int))) M = some (.int (v0 : Nat), M) := by have := h0 M (Keep.refl _); rwa [show ((4 * at_ : Nat) : Int) = 4 * (at_ : Int) from by omega] at this
      have isP : Ret (.ok (.tup [.str (Str.ofString "point")]) M) (UnitQ levels level M) := .ok ⟨.point, rfl, trivial, Nat.zero_le _, Nat.zero_le _, Keep.refl _⟩
      by_cases cP : 0 < at_ ∧ (v0 : Int) % 7 = 0
      · have cp1 : 0 < (at_ : Int) := by omega
        simp [-mIdx_ref, -mMul_int, c0', cp1, m4, v0', cP.1, cP.2]
        exact isP
      · have first : ∀ rest : MS, (sSeq (sIf (tOr (TL.tB (eBin mEq (eVar 2) (eVar 3))) (tAnd (TL.tB (eBin mGt (eVar 1) (eC (.int 0)))) (TL.tB (eBin mEq (eBin mMod (eBin mIdx (eVar 0) (eBin mMul (eC (.int 4)) (eVar 1))) (eC (.int 7))) (eC (.int 0)))))) (sRet (eTup (aCons (eC (.str "point")) aNil))) sNil) rest) [some (.ref X), some (.int (at_ : Nat)), some (.int (level : Nat)), some (.int (levels : Nat)), none, none, none, none] M = rest [some (.ref X), some (.int (at_ : Nat)), some (.int (level : Nat)), some (.int (levels : Nat)), none, none, none, none] M := by
          intro rest
          by_cases c1 : 0 < at_
          · have c1' : 0 < (at_ : Int) := by omega
            have c2 : ¬ ((v0 : Int) % 7 = 0) := fun e => cP ⟨c1, e⟩
            simp [-mIdx_ref, -mMul_int, c0', c1, c1', m4, v0', c2]
          · have c1' : ¬ 0 < (at_ : Int) := by omega
            simp [c0', c1, c1']
        rw [first]
        obtain ⟨v1, h1⟩ := hx.at_ (i := 4 * at_ + 1) (by omega)
        obtain ⟨to, t0, t1, et⟩ := e3_ok (ix := eBin mAdd (eBin mMul (eC (.int 4)) (eVar 1)) (eC (.int 1))) (a := 3) (b := 5) (c := 99) (env := [some (.ref X), some (.int (at_ : Nat)), some (.int (level : Nat)), some (.int (levels : Nat)), none, none, none, none]) (i := 4 * at_ + 1) (M := M) rfl (fun M' => by simp [-mMul_int, m4]) h1 (by decide) (by decide) (by decide)
        rw [asg_step et]
        have k1 := Keep.more M [MO.lst [.int 3, .int 5, .int 99]]
        have hx1 := hx.keep k1
        obtain ⟨v2, h2⟩ := hx1.at_ (i := 4 * at_ + 2) (by omega)
        generalize M ++ [MO.lst [.int 3, .int 5, .int 99]] = M1 at *
        obtain ⟨lead, l0, l1, el⟩ := e3_ok (ix := eBin mAdd (eBin mMul (eC (.int 4)) (eVar 1)) (eC (.int 2))) (a := 2) (b := 3) (c := 99) (env := [some (.ref X), some (.int (at_ : Nat)), some (.int (level : Nat)), some (.int (levels : Nat)), some (.int to), none, none, none]) (i := 4 * at_ + 2) (M := M1) rfl (fun M' => by simp [-mMul_int, m4]) h2 (by decide) (by decide) (by decide)
        have el' : e3 (eBin mAdd (eBin mMul (eC (.int 4)) (eVar 1)) (eC (.int 2))) (fun e => eBin mFdiv e (eC (.int 99))) 2 3 99 ([some (.ref X), some (.int (at_ : Nat)), some (.int (level : Nat)), some (.int (levels : Nat)), none, none, none, none].set 4 (some (.int to))) M1 = .ok (.int lead) (M1 ++ [.lst [.int 2, .int 3, .int 99]]) := el
        rw [asg_step el']
        have k2 := k1.trans (Keep.more M1 [MO.lst [.int 2, .int 3, .int 99]])
        have hx2 := hx.keep k2
        generalize M1 ++ [MO.lst [.int 2, .int 3, .int 99]] = M2 at *
        obtain ⟨v3, h3⟩ := hx2.at_ (i := 4 * at_ + 3) (by omega)
        have v3' : mIdx (.ref X) (.int (4 * (at_ : Int) + 3)) M2 = some (.int (v3 : Nat), M2) := by have := h3 M2 (Keep.refl _); rwa [show ((4 * at_ + 3 : Nat) : Int) = 4 * (at_ : Int) + 3 from by omega] at this
        have lt : level < levels := by omega
        have c1 : ((2 * at_ + 1 : Nat) : Int) = 2 * (at_ : Int) + 1 := by omega
        have c2 : ((2 * at_ + 2 : Nat) : Int) = 2 * (at_ : Int) + 2 := by omega
        have c3 : ((level + 1 : Nat) : Int) = (level : Int) + 1 := by omega
        have inner : ∀ M', Keep M M' → Ret (m_l_unit n [.ref X, .int (2 * (at_ : Int) + 1), .int ((level : Int) + 1), .int (levels : Nat)] M') (UnitQ levels (level + 1) M') := by
          intro M' k'
          have := unit_ok n levels (level + 1) (2 * at_ + 1) M' (by omega) (lim.next lt) (hx.keep k')
          rwa [c1, c3] at this
        have done0 : ∀ (cap : Option Int) (inn : Rule) (M' : Mem), (∀ c, cap = some c → to ≤ c ∧ c ≤ 99) → inn.good → inn.depth ≤ levels - (level + 1) → inn.units ≤ ubL levels (level + 1) → Keep M M' → Ret (.ok (Rule.unit to lead cap inn).toD M') (UnitQ levels level M) := by
          intro cap inn M' hc hg hd hu k'
          refine .ok ⟨_, rfl, ⟨t0, t1, l0, l1, hc, hg⟩, by simp only [Rule.depth]; omega, ?_, k'⟩
          simp only [Rule.units, ubL] at hu ⊢
          split at hu
          · rename_i e; rw [if_pos e]; omega
          · rename_i e
            rw [if_neg e]
            have : 2 ^ (levels - level) = 2 * 2 ^ (levels - (level + 1)) := by rw [show levels - level = (levels - (level + 1)) + 1 from by omega, Nat.pow_succ]; omega
            have := Nat.one_le_two_pow (n := levels - (level + 1))
            omega
        have done1 : ∀ (cap : Int) (inn la : Rule) (M' : Mem), (to ≤ cap ∧ cap ≤ 99) → inn.good → la.good → inn.depth ≤ levels - (level + 1) → la.depth ≤ levels - (level + 1) → levels ≤ 3 → inn.units ≤ ubL levels (level + 1) → la.units ≤ ubL levels (level + 1) → Keep M M' → Ret (.ok (Rule.unitL to lead cap inn la).toD M') (UnitQ levels level M) := by
          intro cap inn la M' hc hg hg2 hd hd2 h3 hu hu2 k'
          refine .ok ⟨_, rfl, ⟨t0, t1, l0, l1, hc.1, hc.2, hg, hg2⟩, by simp only [Rule.depth]; omega, ?_, k'⟩
          have e : levels ≠ 4 := by omega
          simp only [Rule.units, ubL, if_neg e] at hu hu2 ⊢
          have : 2 ^ (levels - level) = 2 * 2 ^ (levels - (level + 1)) := by rw [show levels - level = (levels - (level + 1)) + 1 from by omega, Nat.pow_succ]; omega
          have := Nat.one_le_two_pow (n := levels - (level + 1))
          omega
        by_cases q1 : (v3 : Int) % 2 = 1
        · obtain ⟨cap, hcap⟩ : ∃ cap : Int, cap = (if to + (v3 : Int) / 2 % 4 < 99 then to + (v3 : Int) / 2 % 4 else 99) := ⟨_, rfl⟩
          have hc : to ≤ cap ∧ cap ≤ 99 := by rw [hcap]; split <;> omega
          by_cases q2 : (v3 : Int) / 8 % 2 = 1 ∧ (levels : Int) < 4
          · have l3 : levels ≤ 3 := by omega
            have lastR : Ret (m_l_unit n [.ref X, .int (2 * (at_ : Int) + 2), .int ((level : Int) + 1), .int (levels : Nat)] M2) (UnitQ levels (level + 1) M2) := by
              have := unit_ok n levels (level + 1) (2 * at_ + 2) M2 (by omega) (lim.nextL lt l3) hx2
              rwa [c2, c3] at this
            simp [-mIdx_ref, -mMul_int, m4, m2, v3', q1, q2.1, q2.2, ← hcap, l3]
            refine Ret.bindQ lastR ?_
            rintro _ M3 ⟨la, rfl, ga, da, ua, k3⟩
            simp [-mMul_int, m2]
            refine Ret.bindQ (inner M3 (k2.trans k3)) ?_
            rintro _ M4 ⟨inn, rfl, gi, di, ui, k4⟩
            simp
            exact done1 cap inn la M4 hc gi ga di da l3 ui ua ((k2.trans k3).trans k4)
          · have fin : Ret (m_l_unit n [.ref X, .int (2 * (at_ : Int) + 1), .int ((level : Int) + 1), .int (levels : Nat)] M2) (UnitQ levels (level + 1) M2) := inner M2 k2
            by_cases q3 : (v3 : Int) / 8 % 2 = 1
            · have q4 : ¬ (levels : Int) < 4 := fun e => q2 ⟨q3, e⟩
              have q5 : ¬ levels ≤ 3 := by omega
              have q6 : ¬ levels < 4 := by omega
              simp [-mIdx_ref, -mMul_int, m4, m2, v3', q1, q3, q4, q6, ← hcap]
              refine Ret.bindQ fin ?_
              rintro _ M4 ⟨inn, rfl, gi, di, ui, k4⟩
              simp
              exact done0 (some cap) inn M4 (fun c e => by cases e; exact hc) gi di ui (k2.trans k4)
            · simp [-mIdx_ref, -mMul_int, m4, m2, v3', q1, q3, ← hcap]
              refine Ret.bindQ fin ?_
              rintro _ M4 ⟨inn, rfl, gi, di, ui, k4⟩
              simp
              exact done0 (some cap) inn M4 (fun c e => by cases e; exact hc) gi di ui (k2.trans k4)
        · have fin : Ret (m_l_unit n [.ref X, .int (2 * (at_ : Int) + 1), .int ((level : Int) + 1), .int (levels : Nat)] M2) (UnitQ levels (level + 1) M2) := inner M2 k2
          simp [-mIdx_ref, -mMul_int, m4, m2, v3', q1]
          refine Ret.bindQ fin ?_
          rintro _ M4 ⟨inn, rfl, gi, di, ui, k4⟩
          simp
          exact done0 none inn M4 (fun c e => by cases e) gi di ui (k2.trans k4)
/-- the rule of a game by a cell -/
theorem rule_ok {X : Nat} {xs : List Nat} {M : Mem} (hx : Xs M X xs) {levels : Nat} (hl : levels ≤ 4) : Ret (m_l_unit 14 [.ref X, .int 0, .int 0, .int (levels : Nat)] M) (fun d M' => ∃ r : Rule, d = r.toD ∧ (r.good ∧ r.depth ≤ 4 ∧ r.units ≤ 7) ∧ Keep M M') := by
  refine (unit_ok 14 levels 0 0 M (by omega) ⟨Nat.zero_le _, hl, fun _ => rfl, fun _ => by decide⟩ hx).imp ?_
  rintro d M' ⟨r, e, g, dd, u, k⟩
  refine ⟨r, e, ⟨g, by omega, ?_⟩, k⟩
  unfold ubL at u
  split at u
  · omega
  · have : levels = 0 ∨ levels = 1 ∨ levels = 2 ∨ levels = 3 := by omega
    rcases this with rfl | rfl | rfl | rfl <;> simp at u <;> omega
end CE
end
section
set_option maxHeartbeats 4000000
/-! games by a cell: throws, the game -/
namespace CE
open PySem PySem.Spec PyProof.Rows L2 TL
open RL RB TLQ RD CI
open CM hiding b_l_alike m_l_alike b_l_unit m_l_unit g_l_unit b_l_rule m_l_rule b_l_any_rule m_l_any_rule unit_ok rule_step rule_ok any_rule
open CG (Gm)
/-! ### throws -/
def nameLs : List (List Str) := [[Str.ofString "a", Str.ofString "ab", Str.ofString "abc", Str.ofString "abcd", Str.ofString "b"], [Str.ofString "z9", Str.ofString "z", Str.ofString "z90", Str.ofString "y", Str.ofString "zz"], [Str.ofString "t20", Str.ofString "d20", Str.ofString "t2", Str.ofString "d", Str.ofString "x0000000"]]
theorem names_good : ∀ ns ∈ nameLs, ns.length = 5 ∧ ns.Nodup ∧ ∀ x ∈ ns, nameB x = true := by decide +kernel
def ThsQ (M : Mem) (d : D) (M' : Mem) : Prop := ∃ ts : List Thr, d = .tup (ts.map Thr.toD) ∧ 1 ≤ ts.length ∧ ts.length ≤ 5 ∧ (ts.map (·.name)).Nodup ∧ (∀ t ∈ ts, nameB t.name = true ∧ 0 ≤ t.worth ∧ t.worth ≤ 1000000) ∧ Keep M M'
theorem rng_cons (lo : Int) (n : Nat) : rngItems lo (n + 1) = .int lo :: rngItems (lo + 1) n := by
  unfold rngItems
  rw [List.range_succ_eq_map]
  simp [List.map_map, Function.comp_def]
  intro a _
  omega
theorem idx_of {M : Mem} {n : Nat} {xs : List D} {i : Int} {v : D} (h : seqAt M n = some xs) (e : atI xs i = some v) : mIdx (.ref n) (.int i) M = some (v, M) := by
  show (match seqAt M n with | some xs => (atI xs i).map fun d => (d, M) | none => none) = _
  rw [h]; simp only [e]; rfl
structure ThB (t : Thr) : Prop where
  nm : nameB t.name = true
  w0 : 0 ≤ t.worth
  w1 : t.worth ≤ 1000000
def ThInv (M : Mem) (X S NM T : Nat) (ns : List Str) (many : Nat) : List D → TL.Env → Mem → Prop := fun ds env M' => ∃ (e4 : Option D) (ts : List Thr) (left : Nat), env = [some (.ref X), some (.ref S), some (.ref NM), some (.ref T), e4] ∧ ds = rngItems (ts.length : Nat) left ∧ ts.length + left = many ∧ Keep M M' ∧ M'[T]? = some (.lst (ts.map Thr.toD)) ∧ seqAt M' NM = some (ns.map D.str) ∧ ts.map (·.name) = ns.take ts.length ∧ ∀ t ∈ ts, ThB t
theorem throw_step {M : Mem} {X S NM T many : Nat} {xs : List Nat} {ns : List Str} (hx : Xs M X xs) (hT : M.length ≤ T) (hNM : NM ≠ T) (hm : many ≤ 5) (hn : ns.length = 5 ∧ ns.Nodup ∧ ∀ x ∈ ns, nameB x = true) {d : D} {ds : List D} {env : TL.Env} {M' : Mem} (h : ThInv M X S NM T ns many (d :: ds) env M') :
    ∃ env1, gOne 4 d env = some env1 ∧ SRet (lp_l_throws_0 env1 M') (ThInv M X S NM T ns many ds) (fun _ _ => False) := by
  obtain ⟨e4, ts, left, rfl, hds, hl, k, hT', hN, hnm, hts⟩ := h
  cases left with
  | zero => cases hds
  | succ left =>
    rw [rng_cons] at hds
    cases hds
    refine ⟨_, rfl, ?_⟩
    unfold lp_l_throws_0
    have l5 : ts.length < 5 := by omega
    obtain ⟨v1, h1⟩ := hx.at_ (i := 3 + 2 * ts.length) (by omega)
    obtain ⟨v2, h2⟩ := hx.at_ (i := 4 + 2 * ts.length) (by omega)
    have K2 := Keep.more M' [MO.lst [.int 4, .int 21, .int 1000001]]
    have c1 : ((3 + 2 * ts.length : Nat) : Int) = 3 + 2 * (ts.length : Int) := by omega
    have c2 : ((4 + 2 * ts.length : Nat) : Int) = 4 + 2 * (ts.length : Int) := by omega
    have x1 := h1 M' k
    have x2 := h2 _ (k.trans K2)
    rw [c1] at x1
    rw [c2] at x2
    obtain ⟨m, e1, g1, g2⟩ := pick3 (a := 4) (b := 21) (c := 1000001) (i := (v2 : Int) / 2 % 3) (by omega) (by omega) (fun m => 1 ≤ m ∧ m ≤ 1000001) (by decide) (by decide) (by decide)
    have p3 := idx_of (seqAt_lst (at_len M' (.lst [.int 4, .int 21, .int 1000001]))) e1
    have gm : 0 < m := by omega
    have n1 : mIdx (.ref NM) (.int (ts.length : Nat)) M' = some (.str (ns[ts.length]'(by omega)), M') := idx_of hN (atI_nat (by rw [List.getElem?_map, List.getElem?_eq_getElem (by omega)]; rfl))
    have nmB : nameB (ns[ts.length]'(by omega)) = true := hn.2.2 _ (List.getElem_mem _)
    have tk : ns.take (ts.length + 1) = ns.take ts.length ++ [ns[ts.length]'(by omega)] := by rw [List.take_succ, List.getElem?_eq_getElem (by omega)]; rfl
    generalize ns[ts.length]'(by omega) = nm at *
    have m2 : ∀ M', mMul (.int 2) (.int (ts.length : Nat)) M' = some (.int (2 * (ts.length : Int)), M') := fun M' => mul_in (by decide) (by decide)
    have ap := mAppend_ok (y := .tup [.str nm, .int ((v1 : Int) % m), .bl (decide ((v2 : Int) % 2 = 1))]) (K2.at hT') (by rw [List.length_map]; omega)
    have sT := seqAt_lst hT'
    have lt := lt_of_at (K2.at hT')
    simp [-mIdx_ref, -mMul_int, sT, n1, x1, m2, x2, p3, gm, ap]
    refine SRet.next ⟨_, ts ++ [⟨nm, (v1 : Int) % m, decide ((v2 : Int) % 2 = 1)⟩], left, rfl, ?_, by simp; omega, (k.trans K2).setNew hT, ?_, ?_, ?_, ?_⟩
    · simp
    · rw [List.getElem?_set_self lt]; simp [Thr.toD]
    · have := K2.seq hN
      unfold seqAt at this ⊢
      rw [List.getElem?_set_ne (Ne.symm hNM)]
      exact this
    · rw [List.length_append, List.length_singleton, tk, List.map_append, hnm]; rfl
    · intro t ht
      rcases List.mem_append.mp ht with ht | ht
      · exact hts t ht
      · cases List.mem_singleton.mp ht
        have := Int.emod_nonneg (v1 : Int) (show m ≠ 0 by omega)
        have := Int.emod_lt_of_pos (v1 : Int) gm
        exact ⟨nmB, by show 0 ≤ (v1 : Int) % m; omega, by show (v1 : Int) % m ≤ 1000000; omega⟩
theorem throws_ok {X : Nat} {xs : List Nat} {M : Mem} (hx : Xs M X xs) : Ret (m_l_throws [.ref X] M) (ThsQ M) := by
  show Ret (endS (b_l_throws [some (.ref X), none, none, none, none] M)) _
  unfold b_l_throws
  obtain ⟨v1, h1⟩ := hx.at_ (i := 1) (by omega)
  obtain ⟨v2, h2⟩ := hx.at_ (i := 2) (by omega)
  obtain ⟨j, hj, hj3⟩ : ∃ j : Nat, (v1 : Int) % 3 = (j : Int) ∧ j < 3 := ⟨v1 % 3, by omega, by omega⟩
  obtain ⟨many, hmany, hm0, hm1⟩ : ∃ many : Nat, (1 + (v2 : Int) % 5) = (many : Int) ∧ 1 ≤ many ∧ many ≤ 5 := ⟨1 + v2 % 5, by omega, by omega, by omega⟩
  obtain ⟨G, hG⟩ : ∃ G : Mem, G = [.lst ([Str.ofString "a", Str.ofString "ab", Str.ofString "abc", Str.ofString "abcd", Str.ofString "b"].map D.str), .lst ([Str.ofString "z9", Str.ofString "z", Str.ofString "z90", Str.ofString "y", Str.ofString "zz"].map D.str), .lst ([Str.ofString "t20", Str.ofString "d20", Str.ofString "t2", Str.ofString "d", Str.ofString "x0000000"].map D.str), .lst [.ref M.length, .ref (M.length + 1), .ref (M.length + 2)]] := ⟨_, rfl⟩
  have hG' := hG
  simp only [List.map_cons, List.map_nil] at hG'
  have KG := Keep.more M G
  have x1 : mIdx (.ref X) (.int 1) (M ++ G) = some (.int (v1 : Nat), M ++ G) := h1 _ KG
  have s3 : seqAt (M ++ G) (M.length + 3) = some [.ref M.length, .ref (M.length + 1), .ref (M.length + 2)] := seqAt_lst (by rw [at_newK, hG]; rfl)
  have p3 : mIdx (.ref (M.length + 3)) (.int (j : Nat)) (M ++ G) = some (.ref (M.length + j), M ++ G) := idx_of s3 (atI_nat (by
    match j, hj3 with
    | 0, _ => rfl
    | 1, _ => rfl
    | 2, _ => rfl))
  obtain ⟨ns, hns, hnl⟩ : ∃ ns, ns ∈ nameLs ∧ seqAt (M ++ G ++ [.lst []]) (M.length + j) = some (ns.map D.str) := by
    have kk := Keep.more (M ++ G) [MO.lst []]
    match j, hj3 with
    | 0, _ => exact ⟨_, by simp [nameLs], kk.seq (seqAt_lst (xs := [Str.ofString "a", Str.ofString "ab", Str.ofString "abc", Str.ofString "abcd", Str.ofString "b"].map D.str) (by rw [at_newK, hG]; rfl))⟩
    | 1, _ => exact ⟨_, by simp [nameLs], kk.seq (seqAt_lst (xs := [Str.ofString "z9", Str.ofString "z", Str.ofString "z90", Str.ofString "y", Str.ofString "zz"].map D.str) (by rw [at_newK, hG]; rfl))⟩
    | 2, _ => exact ⟨_, by simp [nameLs], kk.seq (seqAt_lst (xs := [Str.ofString "t20", Str.ofString "d20", Str.ofString "t2", Str.ofString "d", Str.ofString "x0000000"].map D.str) (by rw [at_newK, hG]; rfl))⟩
  have x2 : mIdx (.ref X) (.int 2) (M ++ G ++ [.lst []]) = some (.int (v2 : Nat), M ++ G ++ [.lst []]) := h2 _ (KG.trans (Keep.more _ _))
  have lG : (M ++ G).length = M.length + 4 := by rw [hG]; simp
  have ro : RngOk (many : Int) := rngOk_nat (by omega)
  have hT0 := at_len (M ++ G) (.lst [])
  rw [lG] at hT0
  have KT : Keep M (M ++ G ++ [.lst []]) := KG.trans (Keep.more _ _)
  have lS : (M ++ G).length = M.length + G.length := List.length_append
  have lG4 : G.length = 4 := by rw [hG]; rfl
  rw [List.append_assoc] at x2 hnl hT0 KT
  have lp := SRet.for_ (g := gOne 4) (good := fun _ => True) (R := fun _ _ => False) (ThInv M X (M.length + 3) (M.length + j) (M.length + 4) ns many) (b := lp_l_throws_0) (ds := rngItems 0 many) (env := [some (.ref X), some (.ref (M.length + 3)), some (.ref (M.length + j)), some (.ref (M.length + 4)), none]) (M := M ++ (G ++ [.lst []]))
    (N := fun env M' => ∃ (e4 : Option D) (ts : List Thr), env = [some (.ref X), some (.ref (M.length + 3)), some (.ref (M.length + j)), some (.ref (M.length + 4)), e4] ∧ Keep M M' ∧ M'[M.length + 4]? = some (.lst (ts.map Thr.toD)) ∧ ts.length = many ∧ ts.map (·.name) = ns.take ts.length ∧ ∀ t ∈ ts, ThB t)
    ⟨none, [], many, rfl, rfl, by simp, KT, hT0, hnl, by simp, fun t ht => by cases ht⟩ (fun _ _ _ _ => trivial) (fun d ds env M' h => throw_step hx (by omega) (by omega) hm1 (names_good ns hns) h) (fun env M' h => by
      obtain ⟨e4, ts, left, rfl, hds, hl, k, hT', hN, hnm, hts⟩ := h
      cases left with
      | succ left => rw [rng_cons] at hds; cases hds
      | zero => exact ⟨e4, ts, rfl, k, hT', by omega, hnm, hts⟩)
  simp [-mIdx_ref, ← hG', x1, hj, p3, lG4, x2, hmany, ro]
  refine Ret.endS (SRet.nextQ (SRet.imp lp ?_ (fun _ _ z => z.elim)))
  rintro env M2 ⟨e4, ts, rfl, k2, h2', hl, hnm, hts⟩
  have nt : nTuple [.ref (M.length + 4)] M2 = some (.tup (ts.map Thr.toD), M2) := by
    show (seqAt M2 (M.length + 4)).map _ = _
    rw [seqAt_lst h2']; rfl
  simp [nt]
  refine ⟨ts, rfl, by omega, by omega, ?_, fun t ht => ⟨(hts t ht).nm, (hts t ht).w0, (hts t ht).w1⟩, k2⟩
  rw [hnm]
  exact ((names_good ns hns).2.1).sublist (List.take_sublist _ _)
/-- a number drawn below one of three, by another number -/
def g3 (i j a b c : Int) : ME := (eBin mAdd (eC (.int 1)) (eBin mMod (eBin mIdx (eVar 1) (eC (.int i))) (eBin mIdx (eLst (aCons (eC (.int a)) (aCons (eC (.int b)) (aCons (eC (.int c)) aNil)))) (eBin mMod (eBin mIdx (eVar 1) (eC (.int j))) (eC (.int 3))))))
theorem g3_ok {a b c m : Int} {X i j v w : Nat} {env : TL.Env} {M : Mem} (h0 : env[1]? = some (some (.ref X))) (hv : ∀ M', Keep M M' → mIdx (.ref X) (.int (i : Nat)) M' = some (.int (v : Nat), M')) (hw : ∀ M', Keep M M' → mIdx (.ref X) (.int (j : Nat)) M' = some (.int (w : Nat), M'))
    (ha : 1 ≤ a ∧ a ≤ m) (hb : 1 ≤ b ∧ b ≤ m) (hc : 1 ≤ c ∧ c ≤ m) : ∃ r : Int, 1 ≤ r ∧ r ≤ m ∧ g3 i j a b c env M = .ok (.int r) (M ++ [.lst [.int a, .int b, .int c]]) := by
  obtain ⟨q, e1, g1, g2⟩ := pick3 (a := a) (b := b) (c := c) (i := (w : Int) % 3) (by omega) (by omega) (fun q => 1 ≤ q ∧ q ≤ m) ha hb hc
  have v1 := hv M (Keep.refl _)
  have w2 := hw (M ++ [.lst [.int a, .int b, .int c]]) (Keep.more _ _)
  have ix2 := idx_of (seqAt_lst (at_len M (.lst [D.int a, .int b, .int c]))) e1
  have p0 : 0 < q := by omega
  refine ⟨1 + (v : Int) % q, ?_, ?_, ?_⟩
  · have := Int.emod_nonneg (v : Int) (show q ≠ 0 by omega); omega
  · have := Int.emod_lt_of_pos (v : Int) p0; omega
  · unfold g3
    simp [-mIdx_ref, h0, v1, w2, ix2, p0]
def GameQ (M : Mem) (d : D) (M' : Mem) : Prop := ∃ g : Gm, d = g.toD ∧ Gd g ∧ Keep M M'
theorem game_ok {cell : Int} (M : Mem) : Ret (m_l_game [.int cell] M) (GameQ M) := by
  show Ret (endS (b_l_game [some (.int cell), none, none] M)) _
  have eb : b_l_game = sSeq (sAsg (gOne 1) (eCall m_l_draws (aCons (eVar 0) (aCons (eC (.int 34)) aNil))))
    (sSeq (sIf (TL.tB (eBin mEq (eBin mMod (eBin mIdx (eVar 1) (eC (.int 33))) (eC (.int 3))) (eC (.int 0)))) (sRet (eTup (aCons (eC (.str (Str.ofString "rally"))) (aCons (eCall (m_l_unit 14) (aCons (eVar 1) (aCons (eC (.int 0)) (aCons (eC (.int 0)) (aCons (eBin mMod (eBin mIdx (eVar 1) (eC (.int 32))) (eC (.int 5))) aNil))))) aNil)))) sNil)
    (sSeq (sIf (TL.tB (eBin mEq (eBin mMod (eBin mIdx (eVar 1) (eC (.int 33))) (eC (.int 3))) (eC (.int 1)))) (sSeq (sAsg (gOne 2) (g3 11 13 9 60 1000000))
    (sRet (eTup (aCons (eC (.str (Str.ofString "down"))) (aCons (eTup (aCons (eBin mAdd (eC (.int 1)) (eBin mMod (eBin mIdx (eVar 1) (eC (.int 0))) (eC (.int 3)))) (aCons (eVar 2) (aCons (eBin mAdd (eC (.int 1)) (eBin mMod (eBin mIdx (eVar 1) (eC (.int 12))) (eC (.int 3)))) (aCons (eCall m_l_throws (aCons (eVar 1) aNil)) aNil))))) aNil))))) sNil)
    (sRet (eTup (aCons (eC (.str (Str.ofString "lane"))) (aCons (eTup (aCons (eBin mAdd (eC (.int 1)) (eBin mMod (eBin mIdx (eVar 1) (eC (.int 0))) (eC (.int 3)))) (aCons (g3 1 3 3 10 20) (aCons (g3 2 4 2 3 12) aNil)))) aNil)))))) := rfl
  rw [eb]
  obtain ⟨_, M1, e1, n, xs, rfl, hn, k1, h1, hl⟩ := draws_ok (c := cell) (many := 34) (by decide) M
  have e1' : m_l_draws [.int cell, .int 34] M = .ok (.ref n) M1 := e1
  have hx : Xs M1 n xs := ⟨seqAt_lst h1, hl⟩
  have fx : ∀ i : Nat, i < 34 → ∃ v : Nat, ∀ M', Keep M1 M' → mIdx (.ref n) (.int (i : Nat)) M' = some (.int (v : Nat), M') := fun i hi => hx.at_ hi
  obtain ⟨v33, h33⟩ := fx 33 (by decide)
  have x33 : mIdx (.ref n) (.int 33) M1 = some (.int (v33 : Nat), M1) := h33 M1 (Keep.refl _)
  have hr : (v33 : Int) % 3 = 0 ∨ (v33 : Int) % 3 = 1 ∨ (v33 : Int) % 3 = 2 := by omega
  obtain ⟨v0, h0⟩ := fx 0 (by decide)
  rcases hr with hr | hr | hr
  · obtain ⟨v32, h32⟩ := fx 32 (by decide)
    have x32 : mIdx (.ref n) (.int 32) M1 = some (.int (v32 : Nat), M1) := h32 M1 (Keep.refl _)
    obtain ⟨lv, hlv, hl4⟩ : ∃ lv : Nat, (v32 : Int) % 5 = (lv : Int) ∧ lv ≤ 4 := ⟨v32 % 5, by omega, by omega⟩
    simp [-mIdx_ref, e1', x33, hr, x32, hlv]
    refine Ret.bindQ (rule_ok hx hl4) ?_
    rintro _ M2 ⟨r, rfl, g, k2⟩
    exact .ok ⟨.rally r, rfl, g, k1.trans k2⟩
  · obtain ⟨v11, h11⟩ := fx 11 (by decide)
    obtain ⟨v13, h13⟩ := fx 13 (by decide)
    obtain ⟨v12, h12⟩ := fx 12 (by decide)
    obtain ⟨bg, b0, b1, eg⟩ := g3_ok (a := 9) (b := 60) (c := 1000000) (m := 1000000) (env := [some (.int cell), some (.ref n), none]) (M := M1) rfl h11 h13 (by decide) (by decide) (by decide)
    have eg' : g3 11 13 9 60 1000000 [some (.int cell), some (.ref n), none] M1 = .ok (.int bg) (M1 ++ [.lst [.int 9, .int 60, .int 1000000]]) := eg
    have K2 := Keep.more M1 [MO.lst [.int 9, .int 60, .int 1000000]]
    have x0 : mIdx (.ref n) (.int 0) (M1 ++ [MO.lst [.int 9, .int 60, .int 1000000]]) = some (.int (v0 : Nat), _) := h0 _ K2
    have x12 : mIdx (.ref n) (.int 12) (M1 ++ [MO.lst [.int 9, .int 60, .int 1000000]]) = some (.int (v12 : Nat), _) := h12 _ K2
    have th := throws_ok (hx.keep K2)
    generalize M1 ++ [MO.lst [.int 9, .int 60, .int 1000000]] = M2 at *
    generalize g3 11 13 9 60 1000000 = G at *
    simp [-mIdx_ref, e1', x33, hr, eg', x0, x12]
    refine Ret.bindQ th ?_
    rintro _ M3 ⟨ts, rfl, t0, t1, nd, good, k3⟩
    obtain ⟨a, ha, a0, a1⟩ : ∃ a : Nat, 1 + (v0 : Int) % 3 = (a : Int) ∧ 1 ≤ a ∧ a ≤ 3 := ⟨1 + v0 % 3, by omega, by omega, by omega⟩
    obtain ⟨c, hc, c0, c1⟩ : ∃ c : Nat, 1 + (v12 : Int) % 3 = (c : Int) ∧ 1 ≤ c ∧ c ≤ 3 := ⟨1 + v12 % 3, by omega, by omega, by omega⟩
    rw [ha, hc]
    refine .ok ⟨.down ⟨a, bg, c, ts⟩, rfl, ?_, (k1.trans K2).trans k3⟩
    exact ⟨a0, a1, b0, b1, c0, c1, t0, Nat.le_trans t1 (by decide), ⟨nd, fun t ht => (good t ht).1, fun t ht => ⟨(good t ht).2.1, (good t ht).2.2⟩⟩⟩
  · obtain ⟨v1, h1'⟩ := fx 1 (by decide)
    obtain ⟨v2, h2⟩ := fx 2 (by decide)
    obtain ⟨v3, h3⟩ := fx 3 (by decide)
    obtain ⟨v4, h4⟩ := fx 4 (by decide)
    obtain ⟨p, p0, p1, eg⟩ := g3_ok (a := 3) (b := 10) (c := 20) (m := 20) (env := [some (.int cell), some (.ref n), none]) (M := M1) rfl h1' h3 (by decide) (by decide) (by decide)
    have eg' : g3 1 3 3 10 20 [some (.int cell), some (.ref n), none] M1 = .ok (.int p) (M1 ++ [.lst [.int 3, .int 10, .int 20]]) := eg
    have K2 := Keep.more M1 [MO.lst [.int 3, .int 10, .int 20]]
    have x0 : mIdx (.ref n) (.int 0) M1 = some (.int (v0 : Nat), M1) := h0 _ (Keep.refl _)
    generalize M1 ++ [MO.lst [.int 3, .int 10, .int 20]] = M2 at *
    obtain ⟨f, f0, f1, ef⟩ := g3_ok (a := 2) (b := 3) (c := 12) (m := 12) (env := [some (.int cell), some (.ref n), none]) (M := M2) rfl (fun M' k => h2 M' (K2.trans k)) (fun M' k => h4 M' (K2.trans k)) (by decide) (by decide) (by decide)
    have ef' : g3 2 4 2 3 12 [some (.int cell), some (.ref n), none] M2 = .ok (.int f) (M2 ++ [.lst [.int 2, .int 3, .int 12]]) := ef
    have K3 := Keep.more M2 [MO.lst [.int 2, .int 3, .int 12]]
    generalize M2 ++ [MO.lst [.int 2, .int 3, .int 12]] = M3 at *
    generalize g3 1 3 3 10 20 = G1 at *
    generalize g3 2 4 2 3 12 = G2 at *
    simp [-mIdx_ref, e1', x33, hr, x0, eg', ef']
    obtain ⟨a, ha, a0, a1⟩ : ∃ a : Nat, 1 + (v0 : Int) % 3 = (a : Int) ∧ 1 ≤ a ∧ a ≤ 3 := ⟨1 + v0 % 3, by omega, by omega, by omega⟩
    obtain ⟨f', hf⟩ : ∃ k : Nat, f = (k : Int) := ⟨f.toNat, by omega⟩
    subst hf
    rw [ha]
    exact .ok ⟨.lane a p f', rfl, ⟨a0, a1, p0, p1, by omega, by omega⟩, (k1.trans K2).trans K3⟩
end CE
end
section
set_option maxHeartbeats 4000000
/-! games played: a stand, a deed, the stand behind it -/
namespace CP
open PySem PySem.Spec PyProof.Rows L2 TL
open RL RB TLQ RD CI CG
open CM hiding b_l_alike m_l_alike b_l_unit m_l_unit g_l_unit b_l_rule m_l_rule b_l_any_rule m_l_any_rule unit_ok rule_step rule_ok any_rule
abbrev Won := Option (List Int)
/-- what a rally tells -/
def rWon (q : Stand × Bool) (b : Bool) : Won := if q.2 = true then some [if b then 1 else 0] else none
theorem rally_next {r : Rule} {s : Stand} {B : Int} (hB : 0 ≤ B) (hB1 : B < 1000000) (hd : r.depth ≤ 4) (ho : Open r s) (hs : SB B s) (b : Bool) :
    RGo r (B + 1) (ralliedR r s b).1 (rWon (ralliedR r s b) b) ∧ ∀ M, Ret (m_rally_played [r.toD, s.toD, sideD b] M) (TL.Gives M (.tup [(ralliedR r s b).1.toD, wonD (rWon (ralliedR r s b) b)])) := by
  have sb := sb_rallied (r := r) (side := b) hB hs
  have sm := SB.sm (by omega) sb
  refine ⟨?_, fun M => ?_⟩
  · cases hw : (ralliedR r s b).2 with
    | true =>
      obtain ⟨f, p, d1⟩ := won_shape (side := b) ho hw
      refine ⟨⟨hd, f, p, sm, fun bs e => ?_, fun _ => d1⟩, sb, fun e => ?_⟩
      · simp only [rWon, hw, if_true] at e
        cases e
        exact ⟨by simp, fun i hi => by
          cases List.mem_singleton.mp hi
          cases b <;> exact smI_of (B := 1) (by decide) (by decide) (by decide)⟩
      · simp [rWon, hw] at e
    | false =>
      have op := open_rallied (side := b) ho hw
      exact ⟨⟨hd, Open.fits op, CG.open_nil op, sm, fun bs e => (by simp [rWon, hw] at e), fun e => (by simp [rWon, hw] at e)⟩, sb, fun _ => op⟩
  · obtain ⟨M1, e1, k1⟩ := rallied_ok 14 r s b M (by omega) (by omega) ho
    show Ret (endS (b_rally_played [some r.toD, some s.toD, some (sideD b), none, none] M)) _
    unfold b_rally_played
    have hb : ∀ M, m_is_between [sideD b, .int 0, .int 1] M = .ok (.bl true) M := fun M => by
      unfold sideD
      rw [between_ok]
      cases b <;> rfl
    unfold rWon
    generalize ralliedR r s b = q at *
    cases hw : q.2 with
    | true =>
      rw [hw] at e1
      simp [hb, e1]
      exact TL.Ret.ok (P := TL.Gives M _) ⟨by simp [wonD, sideD], k1⟩
    | false =>
      rw [hw] at e1
      simp [hb, e1]
      exact TL.Ret.ok (P := TL.Gives M _) ⟨by simp [wonD], k1⟩
theorem down_next {w : Down} (h : DownOk w) {s : DSt} (g : DGo w s none) {t : Thr} (ht : t ∈ w.throws) :
    ∃ s' won', DGo w s' won' ∧ ∀ M, Ret (m_played [.tup [.str (Str.ofString "down"), w.toD], .tup [s.toD, wonD none], .str t.name] M) (TL.Gives M (.tup [s'.toD, wonD won'])) := by
  obtain ⟨u, hu⟩ : ∃ u, w.throws.find? (isName (.str t.name)) = some u := by
    cases q : w.throws.find? (isName (.str t.name)) with
    | some u => exact ⟨u, rfl⟩
    | none => exact absurd (List.find?_eq_none.mp q t ht) (by simp [isName])
  have hum := List.mem_of_find?_eq_some hu
  have e1 := fun M => down_thrown_ok h (g.o rfl) (x := .str t.name) (M := M) (.inl ⟨_, rfl⟩)
  simp only [hu] at e1
  have s3 := h.s1
  have ss := (g.o rfl).side
  have db := db_thrown (w := w) (t := u) g.b (h.good.w0 u hum).1
  have tl := thrown_len (w := w) (s := s) (t := u)
  have ok := fun hw => thrownS_ok h (g.o rfl) u hw
  have sid : (thrownS w s u).2 = true → (thrownS w s u).1.side = s.side := by
    unfold thrownS
    simp only
    split
    · exact fun _ => rfl
    · split
      · exact fun h => by cases h
      · split <;> exact fun h => by cases h
  generalize thrownS w s u = q at *
  have pl : ∀ y M, m_down_played [w.toD, s.toD, .str t.name] M = .ok y M → Ret (m_played [.tup [.str (Str.ofString "down"), w.toD], .tup [s.toD, wonD none], .str t.name] M) (TL.Gives M y) := fun y M hy => by
    show Ret (endS (b_played [some (.tup [.str (Str.ofString "down"), w.toD]), some (.tup [s.toD, wonD none]), some (.str t.name)] M)) _
    unfold b_played
    simp [wonD, hy]
    exact TL.Ret.ok (P := TL.Gives M _) ⟨rfl, Keep.refl _⟩
  cases hw : q.2 with
  | true =>
    refine ⟨q.1, some [(s.side : Int)], ⟨by rw [tl]; exact g.l, db, fun bs e => (by
      cases e
      exact ⟨by simp, fun i hi => by
        cases List.mem_singleton.mp hi
        exact smI_of (B := 100) (by decide) (by omega) (by omega)⟩), fun e => (by cases e)⟩, fun M => pl _ M ?_⟩
    show endS (b_down_played [some w.toD, some s.toD, some (.str t.name), none, none] M) = _
    unfold b_down_played
    have e1 := e1 M
    rw [hw] at e1
    have e2 : mIdx q.1.toD (.int 1) M = some (.int (q.1.side : Nat), M) := rfl
    rw [sid hw] at e2
    simp [e1, e2, wonD]
  | false =>
    refine ⟨q.1, none, ⟨by rw [tl]; exact g.l, db, fun bs e => (by cases e), fun _ => ok hw⟩, fun M => pl _ M ?_⟩
    show endS (b_down_played [some w.toD, some s.toD, some (.str t.name), none, none] M) = _
    unfold b_down_played
    have e1 := e1 M
    rw [hw] at e1
    simp [e1, wonD]
theorem lane_next {k : Nat} {P : Int} {n : Nat} (h : Lane k P n) {B : Int} {rows : List LRow} {side : Nat} (g : LGo k P B rows side none) {p : Int} (h0 : 0 ≤ p) (hp : p ≤ (rows[side]'(by rw [g.l]; exact g.s)).up) :
    ∃ rows' side' won', LGo k P (B + 100) rows' side' won' ∧ ∀ M, Ret (m_played [.tup [.str (Str.ofString "lane"), laneD k P n], .tup [standD rows side, wonD none], .int p] M) (TL.Gives M (.tup [standD rows' side', wonD won'])) := by
  have hs : side < rows.length := by rw [g.l]; exact g.s
  have k1 := h.k1
  have hup := g.u _ (List.getElem_mem hs)
  have p1 := h.p1
  have hu2 := hup.2
  have e1 := fun M => bowled_ok h g.l g.s h0 hp (by omega) M
  have hrow := step_row (P := P) (n := n) (p := p) (g.b _ (List.getElem_mem hs)) h0 (by omega)
  have hupn := step_up (n := n) h.p0 hup h0 hp
  generalize stepR P n rows[side] p = q at *
  obtain ⟨rows', hr'⟩ : ∃ z, z = rows.set side q.1 := ⟨_, rfl⟩
  obtain ⟨side', hs'⟩ : ∃ z : Nat, z = (if q.2 then (side + 1) % k else side) := ⟨_, rfl⟩
  rw [← hr', ← hs'] at e1
  have gl : rows'.length = k := by rw [hr', List.length_set]; exact g.l
  have gs : side' < k := by
    rw [hs']
    split
    · exact Nat.mod_lt _ (by have := h.k0; omega)
    · exact g.s
  have gu : ∀ r ∈ rows', UpOk P r := by rw [hr']; exact set_mem g.u hupn
  have gb : ∀ r ∈ rows', RowB (B + 100) r := by rw [hr']; exact set_mem (fun r hr => (g.b r hr).le (by omega)) hrow
  have pl : ∀ y M, Ret (m_lane_played [laneD k P n, standD rows side, .int p] M) (TL.Gives M y) → Ret (m_played [.tup [.str (Str.ofString "lane"), laneD k P n], .tup [standD rows side, wonD none], .int p] M) (TL.Gives M y) := fun y M hy => by
    obtain ⟨M9, e9, k9⟩ := gives_of hy
    show Ret (endS (b_played [some (.tup [.str (Str.ofString "lane"), laneD k P n]), some (.tup [standD rows side, wonD none]), some (.int p)] M)) _
    unfold b_played
    simp [wonD, e9]
    exact TL.Ret.ok (P := TL.Gives M _) ⟨rfl, k9⟩
  cases ho : overR n rows' with
  | true =>
    rw [ho] at e1
    obtain ⟨bs, eb, wb⟩ := best_won (ts := rows'.map LRow.total) (by rw [List.length_map]; omega)
    refine ⟨rows', side', some bs, ⟨gl, gs, gu, gb, wb⟩, fun M => pl _ M ?_⟩
    obtain ⟨M1, e1, kk1⟩ := gives_of (e1 M)
    obtain ⟨M2, e2, k2⟩ := best_of_ok (rows := rows') (by intro e; rw [e] at gl; have := h.k0; simp at gl; omega) (by omega) side' M1
    rw [eb] at e2
    show Ret (endS (b_lane_played [some (laneD k P n), some (standD rows side), some (.int p), none, none] M)) _
    unfold b_lane_played
    simp [e1, e2]
    exact TL.Ret.ok (P := TL.Gives M _) ⟨by simp [wonD], kk1.trans k2⟩
  | false =>
    rw [ho] at e1
    refine ⟨rows', side', none, ⟨gl, gs, gu, gb, fun bs e => (by cases e)⟩, fun M => pl _ M ?_⟩
    obtain ⟨M1, e1, kk1⟩ := gives_of (e1 M)
    show Ret (endS (b_lane_played [some (laneD k P n), some (standD rows side), some (.int p), none, none] M)) _
    unfold b_lane_played
    simp [e1]
    exact TL.Ret.ok (P := TL.Gives M _) ⟨by simp [wonD], kk1⟩
/-! ### a stand of a game -/
def Sd (B : Int) : Gm → D → Won → Prop
  | .rally r, st, won => ∃ s : Stand, st = .tup [s.toD, wonD won] ∧ RGo r B s won
  | .down w, st, won => ∃ s : DSt, st = .tup [s.toD, wonD won] ∧ DGo w s won
  | .lane k P n, st, won => ∃ (rows : List LRow) (side : Nat), st = .tup [standD rows side, wonD won] ∧ LGo k P B rows side won
theorem Sd.form {B : Int} {g : Gm} {st : D} {won : Won} (h : Sd B g st won) : ∃ x, st = .tup [x, wonD won] := by
  cases g with
  | rally r => obtain ⟨s, e, _⟩ := h; exact ⟨_, e⟩
  | down w => obtain ⟨s, e, _⟩ := h; exact ⟨_, e⟩
  | lane k P n => obtain ⟨rows, side, e, _⟩ := h; exact ⟨_, e⟩
theorem Sd.le {B C : Int} (hl : B ≤ C) {g : Gm} {st : D} {won : Won} (h : Sd B g st won) : Sd C g st won := by
  cases g with
  | rally r => obtain ⟨s, e, g⟩ := h; exact ⟨s, e, g.le hl⟩
  | down w => exact h
  | lane k P n => obtain ⟨rows, side, e, g⟩ := h; exact ⟨rows, side, e, g.le hl⟩
/-- a deed that is let -/
def LetD : Gm → D → D → Prop
  | .rally _, _, d => ∃ b : Bool, d = sideD b
  | .down w, _, d => ∃ t ∈ w.throws, d = .str t.name
  | .lane _ _ _, st, d => ∃ (rows : List LRow) (side : Nat) (p : Int) (hs : side < rows.length), st = .tup [standD rows side, wonD none] ∧ d = .int p ∧ 0 ≤ p ∧ p ≤ (rows[side]).up
/-- from a stand to the one behind a deed -/
structure Stp (g : Gm) (B : Int) (a d b : D) : Prop where
  sa : Sd B g a none
  sd : LetD g a d
  sb : ∃ won, Sd (B + 100) g b won
  run : ∀ M, Ret (m_played [g.toD, a, d] M) (TL.Gives M b)
theorem standD_inj {rows rows' : List LRow} {side side' : Nat} (h : standD rows side = standD rows' side') : rows = rows' ∧ side = side' := by
  simp only [standD, D.tup.injEq, List.cons.injEq, D.int.injEq, and_true] at h
  refine ⟨?_, by have := h.2; omega⟩
  have inj : ∀ a b : LRow, a.toD = b.toD → a = b := fun a b e => by
    cases a; cases b
    simp [LRow.toD] at e
    simp [e]
  exact (List.map_inj_right inj).mp h.1
theorem step_ok {g : Gm} (hg : Gd g) {B : Int} (h0 : 0 ≤ B) (h1 : B < 1000000) {a d : D} (ha : Sd B g a none) (hd : LetD g a d) : ∃ b, Stp g B a d b := by
  cases g with
  | rally r =>
    obtain ⟨s, rfl, go⟩ := ha
    obtain ⟨b, rfl⟩ := hd
    obtain ⟨go', run⟩ := rally_next h0 h1 hg.2.1 (go.2.2 rfl) go.2.1 b
    exact ⟨_, ⟨s, rfl, go⟩, ⟨b, rfl⟩, ⟨_, _, rfl, go'.le (by omega)⟩, fun M => played_rally (run M)⟩
  | down w =>
    obtain ⟨s, rfl, go⟩ := ha
    obtain ⟨t, ht, rfl⟩ := hd
    obtain ⟨s', won', go', run⟩ := down_next hg go ht
    exact ⟨_, ⟨s, rfl, go⟩, ⟨t, ht, rfl⟩, ⟨_, s', rfl, go'⟩, run⟩
  | lane k P n =>
    obtain ⟨rows, side, rfl, go⟩ := ha
    obtain ⟨rows', side', p, hs, e, rfl, p0, p1⟩ := hd
    have e' : standD rows side = standD rows' side' := by simpa using e
    obtain ⟨rfl, rfl⟩ := standD_inj e'
    obtain ⟨r2, s2, won2, go2, run⟩ := lane_next hg go p0 p1
    exact ⟨_, ⟨rows, side, rfl, go⟩, ⟨rows, side, p, hs, rfl, rfl, p0, p1⟩, ⟨_, r2, s2, rfl, go2⟩, run⟩
theorem first_sd {g : Gm} (hg : Gd g) : Sd 0 g (firstD g) none := by
  cases g with
  | rally r =>
    obtain ⟨h1, h2, h3⟩ := hg
    have op := open_begun _ r (Nat.le_refl _)
    have sb := sb_begun (B := 0) (Int.le_refl 0) _ r (Nat.le_refl _)
    exact ⟨begunR r, rfl, ⟨h2, Open.fits op, CG.open_nil op, SB.sm (by decide) sb, fun bs e => (by cases e), fun e => (by cases e)⟩, sb, fun _ => op⟩
  | down w =>
    have h : DownOk w := hg
    exact ⟨firstS w, rfl, (firstS_ok h).len, db_first h, fun bs e => (by cases e), fun _ => firstS_ok h⟩
  | lane k P n =>
    have h : Lane k P n := hg
    have p0 := h.p0
    refine ⟨_, 0, rfl, List.length_replicate, by have := h.k0; omega, fun r hr => ?_, fun r hr => ?_, fun bs e => (by cases e)⟩
    · obtain ⟨_, rfl⟩ := List.mem_replicate.mp hr
      exact ⟨by show 0 ≤ P; omega, Int.le_refl _⟩
    · obtain ⟨_, rfl⟩ := List.mem_replicate.mp hr
      exact ⟨by show (0 : Int) ≤ 0 ∧ (0 : Int) ≤ 2; decide, by show (0 : Int) ≤ 0 ∧ (0 : Int) ≤ 1; decide, by show (0 : Int) ≤ 0 ∧ (0 : Int) ≤ 0; decide⟩
/-! ### deeds -/
def DeedsQ (M : Mem) (xs : List D) (d : D) (M' : Mem) : Prop := ∃ n, d = .ref n ∧ M.length ≤ n ∧ Keep M M' ∧ seqAt M' n = some xs
theorem deeds_ok {g : Gm} (hg : Gd g) {B : Int} {st : D} {won : Won} (h : Sd B g st won) : ∃ xs : List D, xs.length ≤ 1000 ∧ (won = none → xs ≠ [] ∧ ∀ x ∈ xs, LetD g st x) ∧ (won ≠ none → xs = []) ∧ ∀ M, Ret (m_deeds_at [g.toD, st] M) (DeedsQ M xs) := by
  cases won with
  | some bs =>
    obtain ⟨x, rfl⟩ := h.form
    exact ⟨[], by simp, fun e => (by cases e), fun _ => rfl, fun M => by rw [deeds_won]; exact .ok ⟨_, rfl, Nat.le_refl _, Keep.more _ _, seqAt_lst (at_len _ _)⟩⟩
  | none =>
    cases g with
    | rally r =>
      obtain ⟨s, rfl, go⟩ := h
      refine ⟨[.int 0, .int 1], by simp, fun _ => ⟨by simp, fun x hx => ?_⟩, fun e => absurd rfl e, fun M => by rw [Gm.toD, deeds_rally]; exact .ok ⟨_, rfl, Nat.le_refl _, Keep.more _ _, seqAt_lst (at_len _ _)⟩⟩
      simp only [List.mem_cons, List.not_mem_nil, or_false] at hx
      rcases hx with rfl | rfl
      · exact ⟨false, rfl⟩
      · exact ⟨true, rfl⟩
    | down w =>
      obtain ⟨s, rfl, go⟩ := h
      have hw : DownOk w := hg
      refine ⟨w.throws.map fun t => .str t.name, by rw [List.length_map]; have := hw.n1; omega, fun _ => ⟨by intro e; have := hw.n0; have e2 := congrArg List.length e; simp at e2; rw [e2] at this; simp at this, fun x hx => ?_⟩, fun e => absurd rfl e, fun M => ?_⟩
      · obtain ⟨t, ht, rfl⟩ := List.mem_map.mp hx
        exact ⟨t, ht, rfl⟩
      · refine (deeds_down hw s.toD M).imp ?_
        rintro d M1 ⟨rfl, k1, a1⟩
        exact ⟨_, rfl, Nat.le_refl _, k1, a1⟩
    | lane k P n =>
      obtain ⟨rows, side, rfl, go⟩ := h
      have hw : Lane k P n := hg
      have hs : side < rows.length := by rw [go.l]; exact go.s
      have hup := go.u _ (List.getElem_mem hs)
      have p1 := hw.p1
      obtain ⟨u, hu⟩ : ∃ u : Nat, rows[side].up = (u : Int) := ⟨rows[side].up.toNat, by have := hup.1; omega⟩
      have hu2 := hup.2
      refine ⟨rngItems 0 (u + 1), by rw [rng_length]; omega, fun _ => ⟨by intro e; have := congrArg List.length e; rw [rng_length] at this; simp at this, fun x hx => ?_⟩, fun e => absurd rfl e, fun M => by rw [Gm.toD, deeds_lane hs hu (by omega)]; exact .ok ⟨_, rfl, Nat.le_refl _, Keep.more _ _, seqAt_lst (at_len _ _)⟩⟩
      obtain ⟨j, hj, rfl⟩ := mem_rng hx
      exact ⟨rows, side, _, hs, rfl, rfl, by omega, by rw [hu]; omega⟩
end CP
end
section
set_option maxHeartbeats 4000000
/-! books -/
namespace CQ
open PySem PySem.Spec PyProof.Rows L2 TL
open CM hiding b_l_alike m_l_alike b_l_unit m_l_unit g_l_unit b_l_rule m_l_rule b_l_any_rule m_l_any_rule unit_ok rule_step rule_ok any_rule
open CG CI
noncomputable section
/- def stands_of(game, row): 0=game 1=row 2=stands 3=number 4=deed 5=e -/
def lp_stands_of_0 : MS := (sTry ["NoThrow", "NoPins", "NoSide", "Over", "NoGame", "NoDeed", "Falls"] (sExpr (eMeth "list" mAppend (eVar 2) (aCons (eCall m_played (aCons (eVar 0) (aCons (eBin mIdx (eVar 2) (eVar 3)) (aCons (eVar 4) aNil)))) aNil))) [⟨"ScoreError", (some 5), sStk⟩])
def b_stands_of : MS := (sSeq (sAsg (gOne 2) (eLst (aCons (eCall m_first (aCons (eVar 0) aNil)) aNil)))
    (sSeq (sFor (iEnumD (eVar 1)) (gTupD [3, 4]) lp_stands_of_0)
    (sRet (eVar 2))))
def m_stands_of : Fn := fnD 2 6 b_stands_of
/- def Book_new(self, game): 0=self 1=game -/
def b_Book_new : MS := (sSeq (sIf (tNot (tTru (eCall m_is_game (aCons (eVar 1) aNil)))) (sRaise "NoGame") sNil)
    (sSeq (sFldD "Book" "kept_game" (eVar 0) (eVar 1))
    (sSeq (sFldD "Book" "kept_deeds" (eVar 0) (eLst aNil))
    (sFldD "Book" "kept_stands" (eVar 0) (eLst (aCons (eCall m_first (aCons (eVar 1) aNil)) aNil))))))
def m_Book_new : Fn := fnD 2 2 b_Book_new
/- def Book_add(self, deed): 0=self 1=deed -/
def b_Book_add : MS := (sSeq (sExpr (eMeth "list" mAppend (eFld "Book" "kept_stands" (eVar 0)) (aCons (eCall m_played (aCons (eFld "Book" "kept_game" (eVar 0)) (aCons (eBin mIdx (eFld "Book" "kept_stands" (eVar 0)) (eUn mNeg (eC (.int 1)))) (aCons (eVar 1) aNil)))) aNil)))
    (sSeq (sExpr (eMeth "list" mAppend (eFld "Book" "kept_deeds" (eVar 0)) (aCons (eVar 1) aNil)))
    (sRet (eCallO nLen (aCons (eFld "Book" "kept_deeds" (eVar 0)) aNil)))))
def m_Book_add : Fn := fnD 2 2 b_Book_add
/- def Book_back(self): 0=self -/
def b_Book_back : MS := (sSeq (sIf (tB (eBin mEq (eCallO nLen (aCons (eFld "Book" "kept_deeds" (eVar 0)) aNil)) (eC (.int 0)))) (sRaise "NoDeed") sNil)
    (sSeq (sExpr (eMeth "list" mPop (eFld "Book" "kept_stands" (eVar 0)) aNil))
    (sRet (eMeth "list" mPop (eFld "Book" "kept_deeds" (eVar 0)) aNil))))
def m_Book_back : Fn := fnD 1 1 b_Book_back
/- def Book_hold_number(self, number, most): 0=self 1=number 2=most -/
def b_Book_hold_number : MS := (sIf (tOr (tB (eBin mLt (eVar 1) (eC (.int 1)))) (tB (eBin mGt (eVar 1) (eVar 2)))) (sRaise "NoDeed") sNil)
def m_Book_hold_number : Fn := fnD 3 3 b_Book_hold_number
/- def Book_written_anew(self, row): 0=self 1=row -/
def b_Book_written_anew : MS := (sSeq (sFldD "Book" "kept_stands" (eVar 0) (eCall m_stands_of (aCons (eFld "Book" "kept_game" (eVar 0)) (aCons (eVar 1) aNil))))
    (sFldD "Book" "kept_deeds" (eVar 0) (eVar 1)))
def m_Book_written_anew : Fn := fnD 2 2 b_Book_written_anew
/- def Book_put_right(self, number, deed): 0=self 1=number 2=deed -/
def b_Book_put_right : MS := (sSeq (sExpr (eMeM "Book" "hold_number" [] m_Book_hold_number (eVar 0) (aCons (eVar 1) (aCons (eCallO nLen (aCons (eFld "Book" "kept_deeds" (eVar 0)) aNil)) aNil))))
    (sExpr (eMeM "Book" "written_anew" [] m_Book_written_anew (eVar 0) (aCons (eBin mAdd (eBin mAdd (eSl (eFld "Book" "kept_deeds" (eVar 0)) oNone (oSome (eBin mSub (eVar 1) (eC (.int 1))))) (eLst (aCons (eVar 2) aNil))) (eSl (eFld "Book" "kept_deeds" (eVar 0)) (oSome (eVar 1)) oNone)) aNil))))
def m_Book_put_right : Fn := fnD 3 3 b_Book_put_right
/- def Book_put_in(self, number, deed): 0=self 1=number 2=deed -/
def b_Book_put_in : MS := (sSeq (sExpr (eMeM "Book" "hold_number" [] m_Book_hold_number (eVar 0) (aCons (eVar 1) (aCons (eBin mAdd (eCallO nLen (aCons (eFld "Book" "kept_deeds" (eVar 0)) aNil)) (eC (.int 1))) aNil))))
    (sExpr (eMeM "Book" "written_anew" [] m_Book_written_anew (eVar 0) (aCons (eBin mAdd (eBin mAdd (eSl (eFld "Book" "kept_deeds" (eVar 0)) oNone (oSome (eBin mSub (eVar 1) (eC (.int 1))))) (eLst (aCons (eVar 2) aNil))) (eSl (eFld "Book" "kept_deeds" (eVar 0)) (oSome (eBin mSub (eVar 1) (eC (.int 1)))) oNone)) aNil))))
def m_Book_put_in : Fn := fnD 3 3 b_Book_put_in
/- def Book_leave_out(self, number): 0=self 1=number -/
def b_Book_leave_out : MS := (sSeq (sExpr (eMeM "Book" "hold_number" [] m_Book_hold_number (eVar 0) (aCons (eVar 1) (aCons (eCallO nLen (aCons (eFld "Book" "kept_deeds" (eVar 0)) aNil)) aNil))))
    (sExpr (eMeM "Book" "written_anew" [] m_Book_written_anew (eVar 0) (aCons (eBin mAdd (eSl (eFld "Book" "kept_deeds" (eVar 0)) oNone (oSome (eBin mSub (eVar 1) (eC (.int 1))))) (eSl (eFld "Book" "kept_deeds" (eVar 0)) (oSome (eVar 1)) oNone)) aNil))))
def m_Book_leave_out : Fn := fnD 2 2 b_Book_leave_out
/- def Book_stand(self, number): 0=self 1=number -/
def b_Book_stand : MS := (sSeq (sIf (tB (eBin mIs (eVar 1) (eC .non))) (sRet (eBin mIdx (eFld "Book" "kept_stands" (eVar 0)) (eUn mNeg (eC (.int 1))))) sNil)
    (sSeq (sIf (tOr (tB (eBin mLt (eVar 1) (eC (.int 0)))) (tB (eBin mGt (eVar 1) (eCallO nLen (aCons (eFld "Book" "kept_deeds" (eVar 0)) aNil))))) (sRaise "NoDeed") sNil)
    (sRet (eBin mIdx (eFld "Book" "kept_stands" (eVar 0)) (eVar 1)))))
def m_Book_stand : Fn := fnD 2 2 b_Book_stand
/- def Book_units(self): 0=self 1=found 2=number 3=deed 4=many -/
def lp_Book_units_0 : MS := (sSeq (sAsg (gOne 4) (eCall (m_stakes 14) (aCons (eBin mIdx (eFld "Book" "kept_game" (eVar 0)) (eC (.int 1))) (aCons (eBin mIdx (eBin mIdx (eFld "Book" "kept_stands" (eVar 0)) (eVar 2)) (eC (.int 0))) (aCons (eVar 3) aNil)))))
    (sIf (tB (eBin mGt (eVar 4) (eC (.int 0)))) (sExpr (eMeth "list" mAppend (eVar 1) (aCons (eTup (aCons (eBin mAdd (eVar 2) (eC (.int 1))) (aCons (eVar 3) (aCons (eVar 4) aNil)))) aNil))) sNil))
def b_Book_units : MS := (sSeq (sAsg (gOne 1) (eLst aNil))
    (sSeq (sIf (tB (eBin mNe (eBin mIdx (eFld "Book" "kept_game" (eVar 0)) (eC (.int 0))) (eC (.str "rally")))) (sRet (eVar 1)) sNil)
    (sSeq (sFor (iEnumD (eFld "Book" "kept_deeds" (eVar 0))) (gTupD [2, 3]) lp_Book_units_0)
    (sRet (eVar 1)))))
def m_Book_units : Fn := fnD 1 5 b_Book_units
/- def Book_game(self): 0=self -/
def b_Book_game : MS := (sRet (eFld "Book" "kept_game" (eVar 0)))
def m_Book_game : Fn := fnD 1 1 b_Book_game
/- def Book_deeds(self): 0=self -/
def b_Book_deeds : MS := (sRet (eCallO nList (aCons (eFld "Book" "kept_deeds" (eVar 0)) aNil)))
def m_Book_deeds : Fn := fnD 1 1 b_Book_deeds
end

open RL RB TLQ RD CP
/-! ### a row of deeds and its stands -/
structure Run (g : Gm) (ds sts : List D) : Prop where
  len : sts.length = ds.length + 1
  first : sts[0]? = some (firstD g)
  step : ∀ (i : Nat) (d : D), ds[i]? = some d → ∃ a b, sts[i]? = some a ∧ sts[i + 1]? = some b ∧ Stp g (100 * (i : Int)) a d b
theorem Run.nil {g : Gm} : Run g [] [firstD g] := ⟨rfl, rfl, fun i d h => by simp at h⟩
theorem Run.at_ {g : Gm} {ds sts : List D} (hg : Gd g) (h : Run g ds sts) {i : Nat} (hi : i ≤ ds.length) : ∃ st won, sts[i]? = some st ∧ Sd (100 * (i : Int)) g st won ∧ (i < ds.length → won = none) := by
  by_cases c : i < ds.length
  · obtain ⟨a, b, h1, h2, h3⟩ := h.step i ds[i] (List.getElem?_eq_getElem c)
    exact ⟨a, none, h1, h3.sa, fun _ => rfl⟩
  · have e : i = ds.length := by omega
    subst e
    cases hl : ds.length with
    | zero => exact ⟨firstD g, none, h.first, first_sd hg, fun e => absurd e (by omega)⟩
    | succ n =>
      obtain ⟨a, b, h1, h2, h3⟩ := h.step n ds[n] (List.getElem?_eq_getElem (by omega))
      obtain ⟨won, hw⟩ := h3.sb
      exact ⟨b, won, h2, by have e : 100 * ((n + 1 : Nat) : Int) = 100 * (n : Int) + 100 := by omega
                            rw [e]; exact hw, fun e => absurd e (by omega)⟩
theorem Run.snoc {g : Gm} {ds sts : List D} (h : Run g ds sts) {a d b : D} (ha : sts[ds.length]? = some a) (st : Stp g (100 * (ds.length : Int)) a d b) : Run g (ds ++ [d]) (sts ++ [b]) := by
  have hl := h.len
  refine ⟨by simp [hl], by rw [List.getElem?_append_left (by omega)]; exact h.first, fun i x hx => ?_⟩
  by_cases c : i < ds.length
  · rw [List.getElem?_append_left c] at hx
    obtain ⟨p, q, h1, h2, h3⟩ := h.step i x hx
    exact ⟨p, q, by rw [List.getElem?_append_left (by omega)]; exact h1, by rw [List.getElem?_append_left (by omega)]; exact h2, h3⟩
  · have e : i = ds.length := by
      have := (List.getElem?_eq_some_iff.mp hx).1
      simp at this; omega
    subst e
    have hx' : d = x := by simpa using hx
    subst hx'
    refine ⟨a, b, by rw [List.getElem?_append_left (by omega)]; exact ha, ?_, st⟩
    rw [List.getElem?_append_right (by omega), hl]
    simp
theorem Run.pre {g : Gm} {ds sts : List D} (h : Run g ds sts) (n : Nat) (hn : n ≤ ds.length) : Run g (ds.take n) (sts.take (n + 1)) := by
  have hl := h.len
  refine ⟨by rw [List.length_take, List.length_take]; omega, by rw [List.getElem?_take, if_pos (by omega)]; exact h.first, fun i d hd => ?_⟩
  rw [List.getElem?_take] at hd
  split at hd
  · rename_i c
    obtain ⟨p, q, h1, h2, h3⟩ := h.step i d hd
    exact ⟨p, q, by rw [List.getElem?_take, if_pos (by omega)]; exact h1, by rw [List.getElem?_take, if_pos (by omega)]; exact h2, h3⟩
  · cases hd
theorem Stp.uniq {g : Gm} {B C : Int} {a d b b' : D} (h : Stp g B a d b) (h' : Stp g C a d b') : b = b' := by
  obtain ⟨M1, e1, _⟩ := gives_of (h.run [])
  obtain ⟨M2, e2, _⟩ := gives_of (h'.run [])
  rw [e1] at e2
  cases e2
  rfl
theorem Run.uniq {g : Gm} {ds sts sts' : List D} (h : Run g ds sts) (h' : Run g ds sts') : sts = sts' := by
  have key : ∀ i : Nat, i ≤ ds.length → sts[i]? = sts'[i]? := by
    intro i
    induction i with
    | zero => intro _; rw [h.first, h'.first]
    | succ i ih =>
      intro hi
      have hd := List.getElem?_eq_getElem (l := ds) (i := i) (by omega)
      obtain ⟨a, b, h1, h2, h3⟩ := h.step i _ hd
      obtain ⟨a', b', h1', h2', h3'⟩ := h'.step i _ hd
      have := ih (by omega)
      rw [h1, h1'] at this
      cases this
      rw [h2, h2', Stp.uniq h3 h3']
  refine List.ext_getElem? fun i => ?_
  by_cases c : i ≤ ds.length
  · exact key i c
  · rw [List.getElem?_eq_none (by have := h.len; omega), List.getElem?_eq_none (by have := h'.len; omega)]
theorem drop_cons {α : Type} {xs : List α} {i : Nat} {x : α} (h : xs[i]? = some x) : xs.drop i = x :: xs.drop (i + 1) := by
  obtain ⟨hl, e⟩ := List.getElem?_eq_some_iff.mp h
  rw [List.drop_eq_getElem_cons hl, e]
theorem take_snoc {α : Type} {xs : List α} {i : Nat} {x : α} (h : xs[i]? = some x) : xs.take (i + 1) = xs.take i ++ [x] := by
  rw [List.take_succ, h]; rfl
/-! ### a row played anew -/
def SInv (M : Mem) (g : Gm) (R : Nat) (ds sts : List D) : List D → TL.Env → Mem → Prop := fun rest env M' => ∃ (e3 e4 e5 : Option D) (i : Nat), env = [some g.toD, some (.ref R), some (.ref M.length), e3, e4, e5] ∧ i ≤ ds.length ∧ rest = enumItems i (ds.drop i) ∧ Keep M M' ∧ M'[M.length]? = some (.lst (sts.take (i + 1)))
theorem stands_of_ok {g : Gm} (hg : Gd g) {ds sts : List D} (h : Run g ds sts) (hn : ds.length ≤ 1000) {R : Nat} {M : Mem} (hR : seqAt M R = some ds) :
    Ret (m_stands_of [g.toD, .ref R] M) (fun d M' => d = .ref M.length ∧ Keep M M' ∧ M'[M.length]? = some (.lst sts)) := by
  show Ret (endS (b_stands_of [some g.toD, some (.ref R), none, none, none, none] M)) _
  unfold b_stands_of
  have hl := h.len
  have e1 := first_ok hg M
  have K0 := Keep.more M [MO.lst [firstD g]]
  have h0 : sts.take 1 = [firstD g] := by
    have := take_snoc (i := 0) h.first
    simpa using this
  simp [e1, enumOf_ref (K0.seq hR)]
  refine Ret.endS ?_
  refine SRet.forQ (SInv M g R ds sts) ⟨_, _, _, 0, rfl, Nat.zero_le _, by simp, K0, by rw [h0]; exact at_len _ _⟩ (fun rest env M' hi => by
    obtain ⟨_, _, _, _, _, _, _, k, _⟩ := hi
    exact k.seq hR) ?_ ?_
  · rintro d rest env M' ⟨e3, e4, e5, i, rfl, hi, hr, k, hS⟩
    by_cases c : i < ds.length
    · have hd := List.getElem?_eq_getElem (l := ds) (i := i) c
      obtain ⟨a, b, h1, h2, h3⟩ := h.step i _ hd
      rw [drop_cons hd] at hr
      simp only [enumItems] at hr
      cases hr
      refine ⟨_, rfl, ?_⟩
      unfold lp_stands_of_0
      obtain ⟨M1, e2, k1⟩ := gives_of (h3.run M')
      have sS := seqAt_lst hS
      have ix : atI (sts.take (i + 1)) (i : Int) = some a := atI_nat (by rw [List.getElem?_take, if_pos (by omega)]; exact h1)
      have ap := mAppend_ok (y := b) (k1.at hS) (by rw [List.length_take]; omega)
      have lt := lt_of_at (k1.at hS)
      generalize ds[i] = x at *
      simp [setAll, sTry, sS, ix, e2, ap]
      exact SRet.next ⟨_, _, _, i + 1, rfl, c, rfl, (k.trans k1).setNew (Nat.le_refl _), by rw [List.getElem?_set_self lt, take_snoc (i := i + 1) h2]⟩
    · have e : ds.drop i = [] := List.drop_eq_nil_of_le (by omega)
      rw [e] at hr
      cases hr
  · rintro env M' ⟨e3, e4, e5, i, rfl, hi, hr, k, hS⟩
    have e : i = ds.length := by
      by_cases c : i < ds.length
      · rw [drop_cons (List.getElem?_eq_getElem c)] at hr
        cases hr
      · omega
    subst e
    simp
    refine SRet.ret ⟨rfl, k, ?_⟩
    rw [hS, List.take_of_length_le (by omega)]
/-! ### the book in memory -/
def bF (g : Gm) (Dn S : Nat) : List (Str × D) := [(Str.ofString "kept_game", g.toD), (Str.ofString "kept_deeds", .ref Dn), (Str.ofString "kept_stands", .ref S)]
abbrev bS : Str := Str.ofString "Book"
structure BookAt (M : Mem) (b Dn S : Nat) (g : Gm) (ds sts : List D) : Prop where
  o : M[b]? = some (.ins bS (bF g Dn S))
  d : M[Dn]? = some (.lst ds)
  s : M[S]? = some (.lst sts)
/-- but for these, what stood stands -/
structure Fr (L : List Nat) (M M' : Mem) : Prop where
  len : M.length ≤ M'.length
  at_ : ∀ n, n < M.length → n ∉ L → M'[n]? = M[n]?
theorem Fr.of {L : List Nat} {M M' : Mem} (k : Keep M M') : Fr L M M' := ⟨k.1, fun n h _ => k.2 n h⟩
theorem Fr.trans {L : List Nat} {M M1 M2 : Mem} (a : Fr L M M1) (b : Fr L M1 M2) : Fr L M M2 := ⟨Nat.le_trans a.len b.len, fun n h hn => (b.at_ n (Nat.lt_of_lt_of_le h a.len) hn).trans (a.at_ n h hn)⟩
theorem Fr.mono {L L' : List Nat} {M M' : Mem} (h : ∀ n ∈ L, n ∈ L' ∨ M.length ≤ n) (a : Fr L M M') : Fr L' M M' := ⟨a.len, fun n hl hn => a.at_ n hl fun hm => by
  rcases h n hm with h | h
  · exact hn h
  · omega⟩
theorem Fr.set {L : List Nat} {M M' : Mem} {n : Nat} {o : MO} (a : Fr L M M') (h : n ∈ L ∨ M.length ≤ n) : Fr L M (M'.set n o) := ⟨by rw [List.length_set]; exact a.len, fun m hm hn => by
  rw [List.getElem?_set_ne (fun e => by subst e; rcases h with h | h; exact hn h; omega)]
  exact a.at_ m hm hn⟩
theorem Fr.get {L : List Nat} {M M' : Mem} (a : Fr L M M') {n : Nat} {o : MO} (h : M[n]? = some o) (hn : n ∉ L) : M'[n]? = some o := (a.at_ n (lt_of_at h) hn).trans h
theorem Fr.seq {L : List Nat} {M M' : Mem} (a : Fr L M M') {n : Nat} {xs : List D} (h : seqAt M n = some xs) (hn : n ∉ L) : seqAt M' n = some xs := by
  have lt := lt_of_seq h
  unfold seqAt at h ⊢
  rw [a.at_ n lt hn]
  exact h
section
variable {M M' : Mem} {b Dn S : Nat} {g : Gm} {ds sts : List D}
theorem BookAt.keep (h : BookAt M b Dn S g ds sts) (k : Keep M M') : BookAt M' b Dn S g ds sts := ⟨k.at h.o, k.at h.d, k.at h.s⟩
theorem BookAt.fr {L : List Nat} (h : BookAt M b Dn S g ds sts) (f : Fr L M M') (h1 : b ∉ L) (h2 : Dn ∉ L) (h3 : S ∉ L) : BookAt M' b Dn S g ds sts := ⟨f.get h.o h1, f.get h.d h2, f.get h.s h3⟩
theorem BookAt.bd (h : BookAt M b Dn S g ds sts) : b ≠ Dn := fun e => by have := h.o; rw [e, h.d] at this; cases this
theorem BookAt.bs (h : BookAt M b Dn S g ds sts) : b ≠ S := fun e => by have := h.o; rw [e, h.s] at this; cases this
theorem BookAt.ds_ (h : BookAt M b Dn S g ds sts) (r : Run g ds sts) : Dn ≠ S := fun e => by
  have := h.d
  rw [e, h.s] at this
  have e2 : sts = ds := by injection this with this; injection this
  have := r.len
  rw [e2] at this
  omega
theorem BookAt.fg (h : BookAt M b Dn S g ds sts) : mFld bS (Str.ofString "kept_game") (.ref b) M = some (g.toD, M) := mFld_at h.o rfl
theorem BookAt.fd (h : BookAt M b Dn S g ds sts) : mFld bS (Str.ofString "kept_deeds") (.ref b) M = some (.ref Dn, M) := mFld_at h.o (by simp [bF, List.lookup])
theorem BookAt.fs (h : BookAt M b Dn S g ds sts) : mFld bS (Str.ofString "kept_stands") (.ref b) M = some (.ref S, M) := mFld_at h.o (by simp [bF, List.lookup])
theorem BookAt.me (h : BookAt M b Dn S g ds sts) {m : String} (hm : m ∉ ["kept_game", "kept_deeds", "kept_stands"]) {dd : List D} {fn : Fn} {mas : MA} {env : TL.Env} :
    meR bS (Str.ofString m) dd fn mas env (.ref b) M = (mas env M).bind fun ds M2 => fn (.ref b :: (ds ++ dd)) M2 := by
  refine meR_at h.o ?_
  simp only [List.mem_cons, List.not_mem_nil, or_false, not_or] at hm
  simp [bF, List.lookup, hm.1, hm.2.1, hm.2.2]
theorem atI_last {α : Type} {xs : List α} {x : α} {n : Nat} (hl : xs.length = n + 1) (h : xs[n]? = some x) : atI xs (-1) = some x := by
  have e : ixN xs.length (-1) = some n := by
    unfold ixN
    rw [if_neg (by decide), if_pos (by omega)]
    congr 1
    omega
  unfold atI
  rw [e]
  exact h
theorem mPop_ok {n : Nat} {xs : List D} {y : D} (h : M[n]? = some (.lst (xs ++ [y]))) : mPop (.ref n) [] M = some (y, M.set n (.lst xs)) := by
  show (match M[n]? with | some (.lst xs) => (xs[xs.length - 1]?).map fun y => (y, M.set n (.lst xs.dropLast)) | _ => none) = _
  rw [h]
  simp
end
end CQ
end
section
set_option maxHeartbeats 4000000
namespace LW
open PySem PySem.Spec PyProof.Rows L2 TL
open CM hiding any_rule b_l_any_rule b_l_rule b_l_throws b_l_unit g_l_unit lp_l_throws_0 m_l_any_rule m_l_rule m_l_throws m_l_unit pick3 rng_cons rule_ok rule_step unit_ok
open CG hiding m_l_game b_l_game m_l_unit b_l_unit GameQ rule_ok unit_ok atI_last
open CI
open CE
open CQ
/-! the text -/
/-! the mirrors -/
noncomputable section
/- def l_counts(_law_stand): 0=_law_stand 1=_law_counts_here -/
def lp_l_counts_0 : MS := (sSeq (sExpr (eMeth "list" mAppend (eVar 1) (aCons (eBin mAdd (eBin mIdx (eVar 0) (eC (.int 0))) (eBin mIdx (eVar 0) (eC (.int 1)))) aNil)))
    (sAsg (gOne 0) (eBin mIdx (eVar 0) (eC (.int 2)))))
def b_l_counts : MS := (sSeq (sAsg (gOne 1) (eLst aNil))
    (sSeq (sWhile 100000 (tB (eBin mNe (eVar 0) (eTup aNil))) lp_l_counts_0)
    (sRet (eVar 1))))
def m_l_counts : Fn := fnD 1 2 b_l_counts
/- def l_won(_law_game_here, _law_stand, _law_later): 0=_law_game_here 1=_law_stand 2=_law_later 3=_law_counts_here 4=_law_behind_it 5=_law_deep -/
def lp_l_won_0 : MS := (sIf (tAnd (tB (eBin mLt (eVar 5) (eCallO nLen (aCons (eVar 4) aNil)))) (tB (eBin mGt (eBin mIdx (eVar 4) (eVar 5)) (eBin mIdx (eVar 3) (eVar 5))))) (sRet (eBin mSub (eBin mSub (eCallO nLen (aCons (eVar 3) aNil)) (eVar 5)) (eC (.int 1)))) sNil)
def b_l_won : MS := (sSeq (sAsg (gOne 3) (eCall m_l_counts (aCons (eBin mIdx (eVar 1) (eC (.int 0))) aNil)))
    (sSeq (sIf (tB (eBin mIsNot (eBin mIdx (eVar 2) (eC (.int 1))) (eC .non))) (sRet (eCallO nLen (aCons (eVar 3) aNil))) sNil)
    (sSeq (sAsg (gOne 4) (eCall m_l_counts (aCons (eBin mIdx (eVar 2) (eC (.int 0))) aNil)))
    (sSeq (sFor (iRange1 (eCallO nLen (aCons (eVar 3) aNil))) (gOne 5) lp_l_won_0)
    (sRet (eC (.int 0)))))))
def m_l_won : Fn := fnD 3 6 b_l_won
/- def l_units(_law_game_here, _law_row): 0=_law_game_here 1=_law_row 2=_law_stand 3=_law_found 4=_law_k 5=_law_later 6=_law_many -/
def lp_l_units_0 : MS := (sSeq (sAsg (gOne 5) (eCall m_played (aCons (eVar 0) (aCons (eVar 2) (aCons (eBin mIdx (eVar 1) (eVar 4)) aNil)))))
    (sSeq (sAsg (gOne 6) (eCall m_l_won (aCons (eVar 0) (aCons (eVar 2) (aCons (eVar 5) aNil)))))
    (sSeq (sIf (tB (eBin mGt (eVar 6) (eC (.int 0)))) (sExpr (eMeth "list" mAppend (eVar 3) (aCons (eTup (aCons (eBin mAdd (eVar 4) (eC (.int 1))) (aCons (eBin mIdx (eVar 1) (eVar 4)) (aCons (eVar 6) aNil)))) aNil))) sNil)
    (sAsg (gOne 2) (eVar 5)))))
def b_l_units : MS := (sSeq (sAsg (gOne 2) (eCall m_first (aCons (eVar 0) aNil)))
    (sSeq (sAsg (gOne 3) (eLst aNil))
    (sSeq (sFor (iRange1 (eCallO nLen (aCons (eVar 1) aNil))) (gOne 4) lp_l_units_0)
    (sRet (eVar 3)))))
def m_l_units : Fn := fnD 2 7 b_l_units
/- def l_right(_law_book, _law_game_here, _law_row): 0=_law_book 1=_law_game_here 2=_law_row 3=_law_due 4=_law_turn 5=_law_found -/
def lp_l_right_0 : MS := (sSeq (sAsg (gOne 5) (eMeM "Book" "units" [] m_Book_units (eVar 0) aNil))
    (sSeq (sIf (tOr (tNot (tTru (eIsi "list" (eVar 5)))) (tB (eBin mNe (eCallO nRepr (aCons (eVar 5) aNil)) (eCallO nRepr (aCons (eVar 3) aNil))))) (sRet (eC (.bl false))) sNil)
    (sExpr (eMeth "list" mAppend (eVar 5) (aCons (eTup (aCons (eC (.int 0)) (aCons (eC (.int 0)) (aCons (eC (.int 0)) aNil)))) aNil)))))
def b_l_right : MS := (sSeq (sAsg (gOne 3) (eCall m_l_units (aCons (eVar 1) (aCons (eVar 2) aNil))))
    (sSeq (sFor (iRange1 (eC (.int 2))) (gOne 4) lp_l_right_0)
    (sRet (eC (.bl true)))))
def m_l_right : Fn := fnD 3 6 b_l_right
/- def l_let(_law_game_here, _law_row): 0=_law_game_here 1=_law_row 2=_law_stand 3=_law_side -/
def lp_l_let_0 : MS := (sSeq (sIf (tB (eBin mIsNot (eBin mIdx (eVar 2) (eC (.int 1))) (eC .non))) (sRet (eC (.bl false))) sNil)
    (sAsg (gOne 2) (eCall m_played (aCons (eVar 0) (aCons (eVar 2) (aCons (eVar 3) aNil))))))
def b_l_let : MS := (sSeq (sAsg (gOne 2) (eCall m_first (aCons (eVar 0) aNil)))
    (sSeq (sFor (iAny (eVar 1)) (gOne 3) lp_l_let_0)
    (sRet (eC (.bl true)))))
def m_l_let : Fn := fnD 2 4 b_l_let
/- def l_written(_law_book, _law_game_here, _law_row, _law_cell): 0=_law_book 1=_law_game_here 2=_law_row 3=_law_cell 4=_law_at 5=_law_side 6=_law_way 7=_law_later -/
def b_l_written : MS := (sSeq (sAsg (gOne 4) (eBin mMod (eBin mFdiv (eVar 3) (eC (.int 6))) (eBin mAdd (eCallO nLen (aCons (eVar 2) aNil)) (eC (.int 1)))))
    (sSeq (sAsg (gOne 5) (eBin mMod (eVar 3) (eC (.int 2))))
    (sSeq (sAsg (gOne 6) (eBin mMod (eBin mFdiv (eVar 3) (eC (.int 2))) (eC (.int 3))))
    (sSeq (sAsg (gOne 7) (eBin mAdd (eBin mAdd (eSl (eVar 2) oNone (oSome (eVar 4))) (eLst (aCons (eVar 5) aNil))) (eSl (eVar 2) (oSome (eVar 4)) oNone)))
    (sSeq (sIf (tB (eBin mEq (eVar 6) (eC (.int 1)))) (sAsg (gOne 7) (eBin mAdd (eBin mAdd (eSl (eVar 2) oNone (oSome (eVar 4))) (eBin mMul (eLst (aCons (eVar 5) aNil)) (eCallO nInt (aCons (eBin mLt (eVar 4) (eCallO nLen (aCons (eVar 2) aNil))) aNil)))) (eSl (eVar 2) (oSome (eBin mAdd (eVar 4) (eC (.int 1)))) oNone))) sNil)
    (sSeq (sIf (tB (eBin mEq (eVar 6) (eC (.int 2)))) (sAsg (gOne 7) (eBin mAdd (eSl (eVar 2) oNone (oSome (eVar 4))) (eSl (eVar 2) (oSome (eBin mAdd (eVar 4) (eC (.int 1)))) oNone))) sNil)
    (sSeq (sIf (tOr (tNot (tTru (eCall m_l_let (aCons (eVar 1) (aCons (eVar 7) aNil))))) (tAnd (tB (eBin mGt (eVar 6) (eC (.int 0)))) (tB (eBin mEq (eVar 4) (eCallO nLen (aCons (eVar 2) aNil)))))) (sRet (eVar 2)) sNil)
    (sSeq (sIf (tB (eBin mEq (eVar 6) (eC (.int 0)))) (sExpr (eMeM "Book" "put_in" [] m_Book_put_in (eVar 0) (aCons (eBin mAdd (eVar 4) (eC (.int 1))) (aCons (eVar 5) aNil)))) (sIf (tB (eBin mEq (eVar 6) (eC (.int 1)))) (sExpr (eMeM "Book" "put_right" [] m_Book_put_right (eVar 0) (aCons (eBin mAdd (eVar 4) (eC (.int 1))) (aCons (eVar 5) aNil)))) (sExpr (eMeM "Book" "leave_out" [] m_Book_leave_out (eVar 0) (aCons (eBin mAdd (eVar 4) (eC (.int 1))) aNil)))))
    (sRet (eVar 7))))))))))
def m_l_written : Fn := fnD 4 8 b_l_written
/- def l_others_right(_law_cell): 0=_law_cell 1=_law_game_here 2=_law_book 3=_law_k 4=_law_some -/
def lp_l_others_right_0 : MS := (sSeq (sAsg (gOne 4) (eCall m_deeds_at (aCons (eVar 1) (aCons (eMeM "Book" "stand" [.non] m_Book_stand (eVar 2) aNil) aNil))))
    (sIf (tB (eBin mNe (eVar 4) (eLst aNil))) (sExpr (eMeM "Book" "add" [] m_Book_add (eVar 2) (aCons (eBin mIdx (eVar 4) (eBin mMod (eBin mAdd (eVar 0) (eVar 3)) (eCallO nLen (aCons (eVar 4) aNil)))) aNil))) sNil))
def b_l_others_right : MS := (sSeq (sAsg (gOne 1) (eCall m_l_game (aCons (eVar 0) aNil)))
    (sSeq (sIf (tB (eBin mEq (eBin mIdx (eVar 1) (eC (.int 0))) (eC (.str "rally")))) (sRet (eC (.bl true))) sNil)
    (sSeq (sAsg (gOne 2) (eMake "Book" [] m_Book_new (aCons (eVar 1) aNil)))
    (sSeq (sFor (iRange1 (eC (.int 4))) (gOne 3) lp_l_others_right_0)
    (sRet (eBin mEq (eMeM "Book" "units" [] m_Book_units (eVar 2) aNil) (eLst aNil)))))))
def m_l_others_right : Fn := fnD 1 5 b_l_others_right
/- def law(_law_script): 0=_law_script 1=_law_xs 2=_law_game_here 3=_law_book 4=_law_row 5=_law_stand 6=_law_number 7=_law_cell 8=_law_side -/
def lp_law_0 : MS := (sSeq (sAsg (gOne 8) (eBin mMod (eVar 7) (eC (.int 2))))
    (sSeq (sIf (tAnd (tB (eBin mEq (eBin mMod (eVar 6) (eC (.int 2))) (eC (.int 0)))) (tB (eBin mGt (eBin mMod (eVar 7) (eC (.int 7))) (eC (.int 1))))) (sAsg (gOne 8) (eBin mMod (eBin mFdiv (eCallO nLen (aCons (eVar 4) aNil)) (eC (.int 5))) (eC (.int 2)))) sNil)
    (sIf (tB (eBin mIs (eBin mIdx (eVar 5) (eC (.int 1))) (eC .non))) (sSeq (sAsg (gOne 5) (eCall m_played (aCons (eVar 2) (aCons (eVar 5) (aCons (eVar 8) aNil)))))
    (sSeq (sExpr (eMeth "list" mAppend (eVar 4) (aCons (eVar 8) aNil)))
    (sSeq (sExpr (eMeM "Book" "add" [] m_Book_add (eVar 3) (aCons (eVar 8) aNil)))
    (sIf (tAnd (tB (eBin mEq (eBin mMod (eCallO nLen (aCons (eVar 4) aNil)) (eC (.int 9))) (eC (.int 4)))) (tNot (tTru (eCall m_l_right (aCons (eVar 3) (aCons (eVar 2) (aCons (eVar 4) aNil))))))) (sRet (eC (.bl false))) sNil)))) sNil)))
def lp_law_1 : MS := (sSeq (sAsg (gOne 4) (eCall m_l_written (aCons (eVar 3) (aCons (eVar 2) (aCons (eVar 4) (aCons (eVar 7) aNil))))))
    (sIf (tNot (tTru (eCall m_l_right (aCons (eVar 3) (aCons (eVar 2) (aCons (eVar 4) aNil)))))) (sRet (eC (.bl false))) sNil))
def b_law : MS := (sSeq (sAsg (gOne 1) (eCall m_l_draws (aCons (eCall m_l_cell_at (aCons (eVar 0) (aCons (eC (.int 0)) aNil))) (aCons (eC (.int 34)) aNil))))
    (sSeq (sAsg (gOne 2) (eTup (aCons (eC (.str "rally")) (aCons (eCall (m_l_unit 14) (aCons (eVar 1) (aCons (eC (.int 0)) (aCons (eC (.int 0)) (aCons (eBin mMod (eBin mIdx (eVar 1) (eC (.int 32))) (eC (.int 5))) aNil))))) aNil))))
    (sSeq (sAsg (gOne 3) (eMake "Book" [] m_Book_new (aCons (eVar 2) aNil)))
    (sSeq (sAsg (gOne 4) (eLst aNil))
    (sSeq (sAsg (gOne 5) (eCall m_first (aCons (eVar 2) aNil)))
    (sSeq (sAsg (gOne 6) (eCall m_l_cell_at (aCons (eVar 0) (aCons (eC (.int 1)) aNil))))
    (sSeq (sIf (tNot (tTru (eCall m_l_right (aCons (eVar 3) (aCons (eVar 2) (aCons (eVar 4) aNil)))))) (sRet (eC (.bl false))) sNil)
    (sSeq (sFor (iAny (eBin mAdd (eSl (eCall m_l_draws (aCons (eVar 6) (aCons (eC (.int 20)) aNil))) oNone (oSome (eBin mMod (eBin mFdiv (eVar 6) (eC (.int 2))) (eC (.int 21))))) (eSl (eVar 0) (oSome (eC (.int 2))) (oSome (eC (.int 62)))))) (gOne 7) lp_law_0)
    (sSeq (sIf (tNot (tTru (eCall m_l_right (aCons (eVar 3) (aCons (eVar 2) (aCons (eVar 4) aNil)))))) (sRet (eC (.bl false))) sNil)
    (sSeq (sIf (tB (eBin mNe (eVar 4) (eLst aNil))) (sSeq (sExpr (eMeM "Book" "back" [] m_Book_back (eVar 3) aNil))
    (sSeq (sExpr (eMeth "list" mPop (eVar 4) aNil))
    (sIf (tNot (tTru (eCall m_l_right (aCons (eVar 3) (aCons (eVar 2) (aCons (eVar 4) aNil)))))) (sRet (eC (.bl false))) sNil))) sNil)
    (sSeq (sFor (iAny (eCall m_l_draws (aCons (eBin mFdiv (eVar 6) (eC (.int 42))) (aCons (eC (.int 4)) aNil)))) (gOne 7) lp_law_1)
    (sRet (eCall m_l_others_right (aCons (eVar 6) aNil))))))))))))))
def m_law : Fn := fnD 1 9 b_law
end
/-! the facts of the top -/
structure Facts (K : PySem.W.Frag) (mg : Str → Option Value) : Prop where
  fn_is_between : ∃ fd, FunD K "is_between" "is_between" (defArgs st_is_between) (defBody st_is_between) (defScope st_is_between) [] [] (He.ga K "is_between") fd
  mg_is_between : mg "is_between" = some (.ref (He.ga K "is_between"))
  fn_is_throw_name : ∃ fd, FunD K "is_throw_name" "is_throw_name" (defArgs st_is_throw_name) (defBody st_is_throw_name) (defScope st_is_throw_name) [] [] (He.ga K "is_throw_name") fd
  mg_is_throw_name : mg "is_throw_name" = some (.ref (He.ga K "is_throw_name"))
  fn_is_throw : ∃ fd, FunD K "is_throw" "is_throw" (defArgs st_is_throw) (defBody st_is_throw) (defScope st_is_throw) [] [] (He.ga K "is_throw") fd
  mg_is_throw : mg "is_throw" = some (.ref (He.ga K "is_throw"))
  fn_is_down : ∃ fd, FunD K "is_down" "is_down" (defArgs st_is_down) (defBody st_is_down) (defScope st_is_down) [] [] (He.ga K "is_down") fd
  mg_is_down : mg "is_down" = some (.ref (He.ga K "is_down"))
  fn_down_begun : ∃ fd, FunD K "down_begun" "down_begun" (defArgs st_down_begun) (defBody st_down_begun) (defScope st_down_begun) [] [] (He.ga K "down_begun") fd
  mg_down_begun : mg "down_begun" = some (.ref (He.ga K "down_begun"))
  fn_throw_named : ∃ fd, FunD K "throw_named" "throw_named" (defArgs st_throw_named) (defBody st_throw_named) (defScope st_throw_named) [] [] (He.ga K "throw_named") fd
  mg_throw_named : mg "throw_named" = some (.ref (He.ga K "throw_named"))
  fn_with_count : ∃ fd, FunD K "with_count" "with_count" (defArgs st_with_count) (defBody st_with_count) (defScope st_with_count) [] [] (He.ga K "with_count") fd
  mg_with_count : mg "with_count" = some (.ref (He.ga K "with_count"))
  fn_turn_ended : ∃ fd, FunD K "turn_ended" "turn_ended" (defArgs st_turn_ended) (defBody st_turn_ended) (defScope st_turn_ended) [] [] (He.ga K "turn_ended") fd
  mg_turn_ended : mg "turn_ended" = some (.ref (He.ga K "turn_ended"))
  fn_down_thrown : ∃ fd, FunD K "down_thrown" "down_thrown" (defArgs st_down_thrown) (defBody st_down_thrown) (defScope st_down_thrown) [] [] (He.ga K "down_thrown") fd
  mg_down_thrown : mg "down_thrown" = some (.ref (He.ga K "down_thrown"))
  fn_is_lane : ∃ fd, FunD K "is_lane" "is_lane" (defArgs st_is_lane) (defBody st_is_lane) (defScope st_is_lane) [] [] (He.ga K "is_lane") fd
  mg_is_lane : mg "is_lane" = some (.ref (He.ga K "is_lane"))
  fn_lane_begun : ∃ fd, FunD K "lane_begun" "lane_begun" (defArgs st_lane_begun) (defBody st_lane_begun) (defScope st_lane_begun) [] [] (He.ga K "lane_begun") fd
  mg_lane_begun : mg "lane_begun" = some (.ref (He.ga K "lane_begun"))
  fn_frame_behind : ∃ fd, FunD K "frame_behind" "frame_behind" (defArgs st_frame_behind) (defBody st_frame_behind) (defScope st_frame_behind) [] [] (He.ga K "frame_behind") fd
  mg_frame_behind : mg "frame_behind" = some (.ref (He.ga K "frame_behind"))
  fn_extra_behind : ∃ fd, FunD K "extra_behind" "extra_behind" (defArgs st_extra_behind) (defBody st_extra_behind) (defScope st_extra_behind) [] [] (He.ga K "extra_behind") fd
  mg_extra_behind : mg "extra_behind" = some (.ref (He.ga K "extra_behind"))
  fn_row_behind : ∃ fd, FunD K "row_behind" "row_behind" (defArgs st_row_behind) (defBody st_row_behind) (defScope st_row_behind) [] [] (He.ga K "row_behind") fd
  mg_row_behind : mg "row_behind" = some (.ref (He.ga K "row_behind"))
  fn_lane_bowled : ∃ fd, FunD K "lane_bowled" "lane_bowled" (defArgs st_lane_bowled) (defBody st_lane_bowled) (defScope st_lane_bowled) [] [] (He.ga K "lane_bowled") fd
  mg_lane_bowled : mg "lane_bowled" = some (.ref (He.ga K "lane_bowled"))
  fn_best_of : ∃ fd, FunD K "best_of" "best_of" (defArgs st_best_of) (defBody st_best_of) (defScope st_best_of) [] [] (He.ga K "best_of") fd
  mg_best_of : mg "best_of" = some (.ref (He.ga K "best_of"))
  fn_is_count : ∃ fd, FunD K "is_count" "is_count" (defArgs st_is_count) (defBody st_is_count) (defScope st_is_count) [] [] (He.ga K "is_count") fd
  mg_is_count : mg "is_count" = some (.ref (He.ga K "is_count"))
  fn_has_numbers : ∃ fd, FunD K "has_numbers" "has_numbers" (defArgs st_has_numbers) (defBody st_has_numbers) (defScope st_has_numbers) [] [] (He.ga K "has_numbers") fd
  mg_has_numbers : mg "has_numbers" = some (.ref (He.ga K "has_numbers"))
  fn_units_in : ∃ fd, FunD K "units_in" "units_in" (defArgs st_units_in) (defBody st_units_in) (defScope st_units_in) [] [] (He.ga K "units_in") fd
  mg_units_in : mg "units_in" = some (.ref (He.ga K "units_in"))
  fn_is_rule : ∃ fd, FunD K "is_rule" "is_rule" (defArgs st_is_rule) (defBody st_is_rule) (defScope st_is_rule) [] [] (He.ga K "is_rule") fd
  mg_is_rule : mg "is_rule" = some (.ref (He.ga K "is_rule"))
  fn_rule_within : ∃ fd, FunD K "rule_within" "rule_within" (defArgs st_rule_within) (defBody st_rule_within) (defScope st_rule_within) [] [] (He.ga K "rule_within") fd
  mg_rule_within : mg "rule_within" = some (.ref (He.ga K "rule_within"))
  fn_begun : ∃ fd, FunD K "begun" "begun" (defArgs st_begun) (defBody st_begun) (defScope st_begun) [] [] (He.ga K "begun") fd
  mg_begun : mg "begun" = some (.ref (He.ga K "begun"))
  fn_is_won : ∃ fd, FunD K "is_won" "is_won" (defArgs st_is_won) (defBody st_is_won) (defScope st_is_won) [] [] (He.ga K "is_won") fd
  mg_is_won : mg "is_won" = some (.ref (He.ga K "is_won"))
  fn_rallied : ∃ fd, FunD K "rallied" "rallied" (defArgs st_rallied) (defBody st_rallied) (defScope st_rallied) [] [] (He.ga K "rallied") fd
  mg_rallied : mg "rallied" = some (.ref (He.ga K "rallied"))
  fn_is_game : ∃ fd, FunD K "is_game" "is_game" (defArgs st_is_game) (defBody st_is_game) (defScope st_is_game) [] [] (He.ga K "is_game") fd
  mg_is_game : mg "is_game" = some (.ref (He.ga K "is_game"))
  fn_first : ∃ fd, FunD K "first" "first" (defArgs st_first) (defBody st_first) (defScope st_first) [] [] (He.ga K "first") fd
  mg_first : mg "first" = some (.ref (He.ga K "first"))
  fn_deeds_at : ∃ fd, FunD K "deeds_at" "deeds_at" (defArgs st_deeds_at) (defBody st_deeds_at) (defScope st_deeds_at) [] [] (He.ga K "deeds_at") fd
  mg_deeds_at : mg "deeds_at" = some (.ref (He.ga K "deeds_at"))
  fn_rally_played : ∃ fd, FunD K "rally_played" "rally_played" (defArgs st_rally_played) (defBody st_rally_played) (defScope st_rally_played) [] [] (He.ga K "rally_played") fd
  mg_rally_played : mg "rally_played" = some (.ref (He.ga K "rally_played"))
  fn_down_played : ∃ fd, FunD K "down_played" "down_played" (defArgs st_down_played) (defBody st_down_played) (defScope st_down_played) [] [] (He.ga K "down_played") fd
  mg_down_played : mg "down_played" = some (.ref (He.ga K "down_played"))
  fn_lane_played : ∃ fd, FunD K "lane_played" "lane_played" (defArgs st_lane_played) (defBody st_lane_played) (defScope st_lane_played) [] [] (He.ga K "lane_played") fd
  mg_lane_played : mg "lane_played" = some (.ref (He.ga K "lane_played"))
  fn_played : ∃ fd, FunD K "played" "played" (defArgs st_played) (defBody st_played) (defScope st_played) [] [] (He.ga K "played") fd
  mg_played : mg "played" = some (.ref (He.ga K "played"))
  fn_stakes : ∃ fd, FunD K "stakes" "stakes" (defArgs st_stakes) (defBody st_stakes) (defScope st_stakes) [] [] (He.ga K "stakes") fd
  mg_stakes : mg "stakes" = some (.ref (He.ga K "stakes"))
  fn_stands_of : ∃ fd, FunD K "stands_of" "stands_of" (defArgs st_stands_of) (defBody st_stands_of) (defScope st_stands_of) [] [] (He.ga K "stands_of") fd
  mg_stands_of : mg "stands_of" = some (.ref (He.ga K "stands_of"))
  fn_Book_new : ∃ fd, FunD K "__init__" "Book.__init__" (defArgs st_Book_new) (defBody st_Book_new) (defScope st_Book_new) [] [] (He.ma K (He.ga K "Book") "__init__") fd
  meth_Book_new : Meth K (He.ga K "Book") "__init__" (He.ma K (He.ga K "Book") "__init__")
  fn_Book_add : ∃ fd, FunD K "add" "Book.add" (defArgs st_Book_add) (defBody st_Book_add) (defScope st_Book_add) [] [] (He.ma K (He.ga K "Book") "add") fd
  meth_Book_add : Meth K (He.ga K "Book") "add" (He.ma K (He.ga K "Book") "add")
  fn_Book_back : ∃ fd, FunD K "back" "Book.back" (defArgs st_Book_back) (defBody st_Book_back) (defScope st_Book_back) [] [] (He.ma K (He.ga K "Book") "back") fd
  meth_Book_back : Meth K (He.ga K "Book") "back" (He.ma K (He.ga K "Book") "back")
  fn_Book_hold_number : ∃ fd, FunD K "hold_number" "Book.hold_number" (defArgs st_Book_hold_number) (defBody st_Book_hold_number) (defScope st_Book_hold_number) [] [] (He.ma K (He.ga K "Book") "hold_number") fd
  meth_Book_hold_number : Meth K (He.ga K "Book") "hold_number" (He.ma K (He.ga K "Book") "hold_number")
  fn_Book_written_anew : ∃ fd, FunD K "written_anew" "Book.written_anew" (defArgs st_Book_written_anew) (defBody st_Book_written_anew) (defScope st_Book_written_anew) [] [] (He.ma K (He.ga K "Book") "written_anew") fd
  meth_Book_written_anew : Meth K (He.ga K "Book") "written_anew" (He.ma K (He.ga K "Book") "written_anew")
  fn_Book_put_right : ∃ fd, FunD K "put_right" "Book.put_right" (defArgs st_Book_put_right) (defBody st_Book_put_right) (defScope st_Book_put_right) [] [] (He.ma K (He.ga K "Book") "put_right") fd
  meth_Book_put_right : Meth K (He.ga K "Book") "put_right" (He.ma K (He.ga K "Book") "put_right")
  fn_Book_put_in : ∃ fd, FunD K "put_in" "Book.put_in" (defArgs st_Book_put_in) (defBody st_Book_put_in) (defScope st_Book_put_in) [] [] (He.ma K (He.ga K "Book") "put_in") fd
  meth_Book_put_in : Meth K (He.ga K "Book") "put_in" (He.ma K (He.ga K "Book") "put_in")
  fn_Book_leave_out : ∃ fd, FunD K "leave_out" "Book.leave_out" (defArgs st_Book_leave_out) (defBody st_Book_leave_out) (defScope st_Book_leave_out) [] [] (He.ma K (He.ga K "Book") "leave_out") fd
  meth_Book_leave_out : Meth K (He.ga K "Book") "leave_out" (He.ma K (He.ga K "Book") "leave_out")
  fn_Book_stand : ∃ fd, FunD K "stand" "Book.stand" (defArgs st_Book_stand) (defBody st_Book_stand) (defScope st_Book_stand) [.non] [] (He.ma K (He.ga K "Book") "stand") fd
  meth_Book_stand : Meth K (He.ga K "Book") "stand" (He.ma K (He.ga K "Book") "stand")
  fn_Book_units : ∃ fd, FunD K "units" "Book.units" (defArgs st_Book_units) (defBody st_Book_units) (defScope st_Book_units) [] [] (He.ma K (He.ga K "Book") "units") fd
  meth_Book_units : Meth K (He.ga K "Book") "units" (He.ma K (He.ga K "Book") "units")
  fn_l_cell_at : ∃ fd, FunD K "_law_cell_at" "_law_cell_at" (defArgs st_l_cell_at) (defBody st_l_cell_at) (defScope st_l_cell_at) [] [] (He.ga K "_law_cell_at") fd
  mg_l_cell_at : mg "_law_cell_at" = some (.ref (He.ga K "_law_cell_at"))
  fn_l_draws : ∃ fd, FunD K "_law_draws" "_law_draws" (defArgs st_l_draws) (defBody st_l_draws) (defScope st_l_draws) [] [] (He.ga K "_law_draws") fd
  mg_l_draws : mg "_law_draws" = some (.ref (He.ga K "_law_draws"))
  fn_l_unit : ∃ fd, FunD K "_law_unit" "_law_unit" (defArgs st_l_unit) (defBody st_l_unit) (defScope st_l_unit) [] [] (He.ga K "_law_unit") fd
  mg_l_unit : mg "_law_unit" = some (.ref (He.ga K "_law_unit"))
  fn_l_throws : ∃ fd, FunD K "_law_throws" "_law_throws" (defArgs st_l_throws) (defBody st_l_throws) (defScope st_l_throws) [] [] (He.ga K "_law_throws") fd
  mg_l_throws : mg "_law_throws" = some (.ref (He.ga K "_law_throws"))
  fn_l_game : ∃ fd, FunD K "_law_game" "_law_game" (defArgs st_l_game) (defBody st_l_game) (defScope st_l_game) [] [] (He.ga K "_law_game") fd
  mg_l_game : mg "_law_game" = some (.ref (He.ga K "_law_game"))
  fn_l_counts : ∃ fd, FunD K "_law_counts" "_law_counts" (defArgs st_l_counts) (defBody st_l_counts) (defScope st_l_counts) [] [] (He.ga K "_law_counts") fd
  mg_l_counts : mg "_law_counts" = some (.ref (He.ga K "_law_counts"))
  fn_l_won : ∃ fd, FunD K "_law_won" "_law_won" (defArgs st_l_won) (defBody st_l_won) (defScope st_l_won) [] [] (He.ga K "_law_won") fd
  mg_l_won : mg "_law_won" = some (.ref (He.ga K "_law_won"))
  fn_l_units : ∃ fd, FunD K "_law_units" "_law_units" (defArgs st_l_units) (defBody st_l_units) (defScope st_l_units) [] [] (He.ga K "_law_units") fd
  mg_l_units : mg "_law_units" = some (.ref (He.ga K "_law_units"))
  fn_l_right : ∃ fd, FunD K "_law_right" "_law_right" (defArgs st_l_right) (defBody st_l_right) (defScope st_l_right) [] [] (He.ga K "_law_right") fd
  mg_l_right : mg "_law_right" = some (.ref (He.ga K "_law_right"))
  fn_l_let : ∃ fd, FunD K "_law_let" "_law_let" (defArgs st_l_let) (defBody st_l_let) (defScope st_l_let) [] [] (He.ga K "_law_let") fd
  mg_l_let : mg "_law_let" = some (.ref (He.ga K "_law_let"))
  fn_l_written : ∃ fd, FunD K "_law_written" "_law_written" (defArgs st_l_written) (defBody st_l_written) (defScope st_l_written) [] [] (He.ga K "_law_written") fd
  mg_l_written : mg "_law_written" = some (.ref (He.ga K "_law_written"))
  fn_l_others_right : ∃ fd, FunD K "_law_others_right" "_law_others_right" (defArgs st_l_others_right) (defBody st_l_others_right) (defScope st_l_others_right) [] [] (He.ga K "_law_others_right") fd
  mg_l_others_right : mg "_law_others_right" = some (.ref (He.ga K "_law_others_right"))
  fn_law : ∃ fd, FunD K "law" "law" (defArgs st_law) (defBody st_law) (defScope st_law) [] [] (He.ga K "law") fd
  mg_law : mg "law" = some (.ref (He.ga K "law"))
  no_all : mg "all" = none
  no_bool : mg "bool" = none
  no_enumerate : mg "enumerate" = none
  no_int : mg "int" = none
  no_isinstance : mg "isinstance" = none
  no_len : mg "len" = none
  no_list : mg "list" = none
  no_max : mg "max" = none
  no_min : mg "min" = none
  no_range : mg "range" = none
  no_repr : mg "repr" = none
  no_set : mg "set" = none
  no_str : mg "str" = none
  no_tuple : mg "tuple" = none
  cls_Book : Cls K (He.ga K "Book")
  noat_Book_kept_deeds : NoAttr K (He.ga K "Book") "kept_deeds"
  noat_Book_kept_game : NoAttr K (He.ga K "Book") "kept_game"
  noat_Book_kept_stands : NoAttr K (He.ga K "Book") "kept_stands"
  mkr_Book : Mk K (He.ga K "Book") (He.ma K (He.ga K "Book") "__init__")
  mk_Book : mg "Book" = some (.ref (He.ga K "Book"))
  mc_NoDeed : mg "NoDeed" = some (.ref (He.ga K "NoDeed"))
  mc_NoGame : mg "NoGame" = some (.ref (He.ga K "NoGame"))
  mc_NoPins : mg "NoPins" = some (.ref (He.ga K "NoPins"))
  mc_NoSide : mg "NoSide" = some (.ref (He.ga K "NoSide"))
  mc_NoThrow : mg "NoThrow" = some (.ref (He.ga K "NoThrow"))
  mc_Over : mg "Over" = some (.ref (He.ga K "Over"))
  mc_ScoreError : mg "ScoreError" = some (.ref (He.ga K "ScoreError"))
  ex_NoDeed : ExF K mg "NoDeed"
  ex_NoGame : ExF K mg "NoGame"
  ex_NoPins : ExF K mg "NoPins"
  ex_NoSide : ExF K mg "NoSide"
  ex_NoThrow : ExF K mg "NoThrow"
  ex_Over : ExF K mg "Over"
  exsub : ExSub K ["NoThrow", "NoPins", "NoSide", "Over", "NoGame", "NoDeed", "Falls"] hcls
  gl_LETTERS : Glob K mg "LETTERS" (.str "abcdefghijklmnopqrstuvwxyz")
  gl_FIGURES : Glob K mg "FIGURES" (.str "0123456789")
  gl_POINT : Glob K mg "POINT" (.tup [(.str "point")])
  gl_GREATEST : Glob K mg "GREATEST" (.int 99)
  gl_MOST_UNITS : Glob K mg "MOST_UNITS" (.int 10)
  gl_MOST_DEEP : Glob K mg "MOST_DEEP" (.int 4)
/-! each def keeps its promise -/
section
variable {P : Program} {w : World} {K : PySem.W.Frag} {mg : Str → Option Value} {base : Heap}
theorem sc_is_between : FnScope ["thing", "low", "high"] ["thing", "low", "high"] (defScope st_is_between) := ⟨rfl, rfl, rfl, by decide +kernel, rfl, by decide +kernel, by decide +kernel⟩
theorem ok_is_between (Z : Facts K mg) : Callee P w K mg base "is_between" 3 (0 + 1) m_is_between :=
  okD (ps := ["thing", "low", "high"]) (k := 0) Z.fn_is_between sc_is_between Z.mg_is_between (fun _ _ _ _ _ _ us hl => match us, hl with | [_, _, _], _ => rfl) (fun cdv A outer s H E C => ((ds_one (ds_ret (d_and (d_isi (U := "int") rfl Z.no_isinstance rfl Z.no_int boot_int (d_var (i := 0))) (d_and (d_not (d_isi (U := "bool") rfl Z.no_isinstance rfl Z.no_bool boot_bool (d_var (i := 0)))) (d_one (d_chain o_le o_le (d_var (i := 1)) (d_var (i := 0)) (d_var (i := 2))))))))))
theorem sc_is_throw_name : FnScope ["thing", "sign"] ["thing"] (defScope st_is_throw_name) := ⟨rfl, rfl, rfl, by decide +kernel, rfl, by decide +kernel, by decide +kernel⟩
theorem ok_is_throw_name (Z : Facts K mg) : Callee P w K mg base "is_throw_name" 1 (0 + 1) m_is_throw_name :=
  okD (ps := ["thing"]) (k := 0) Z.fn_is_throw_name sc_is_throw_name Z.mg_is_throw_name (fun _ _ _ _ _ _ us hl => match us, hl with | [_], _ => rfl) (fun cdv A outer s H E C => ((ds_cons (ds_if (PW.pt (dt_or (dt_not (dt_tru (d_isi (U := "str") rfl Z.no_isinstance rfl Z.no_str boot_str (d_var (i := 0))))) (dt_or (dt_cmp o_lt (d_callB c_len rfl Z.no_len boot_len (da_cons (d_var (i := 0)) da_nil)) d_int (nomark _)) (dt_or (dt_cmp o_gt (d_callB c_len rfl Z.no_len boot_len (da_cons (d_var (i := 0)) da_nil)) d_int (nomark _)) (dt_or1 (dt_cmp o_notIn (d_idx (d_var (i := 0)) d_int) (d_glob Z.gl_LETTERS) (by with_unfolding_all rfl))))))) (ds_one (ds_ret d_bl)) ds_nil)
    (ds_one (ds_ret (d_callB (c_all C.calm) rfl Z.no_all (by decide +kernel) (da_cons (d_comp (i := 1) C (di_any (d_var (i := 0))) (blkOk_by (by kernel_rfl)) (fun _ _ _ _ _ => pg_name (i := 1) C.nd rfl (Or.inl rfl)) (fun _ _ _ _ _ C1 => dts_nil) (fun _ _ _ _ _ C1 => (d_or (d_cmp o_in (d_var (i := 1)) (d_glob Z.gl_LETTERS) (by with_unfolding_all rfl)) (d_one (d_cmp o_in (d_var (i := 1)) (d_glob Z.gl_FIGURES) (by with_unfolding_all rfl)))))) da_nil)))))))
theorem sc_is_throw : FnScope ["thing"] ["thing"] (defScope st_is_throw) := ⟨rfl, rfl, rfl, by decide +kernel, rfl, by decide +kernel, by decide +kernel⟩
theorem ok_is_throw (Z : Facts K mg) : Callee P w K mg base "is_throw" 1 (1 + 1) m_is_throw :=
  okD (ps := ["thing"]) (k := 1) Z.fn_is_throw sc_is_throw Z.mg_is_throw (fun _ _ _ _ _ _ us hl => match us, hl with | [_], _ => rfl) (fun cdv A outer s H E C => ((ds_cons (ds_if (PW.pt (dt_or (dt_not (dt_tru (d_isi (U := "tuple") rfl Z.no_isinstance rfl Z.no_tuple boot_tuple (d_var (i := 0))))) (dt_or (dt_cmp (o_ne C.hu) (d_callB c_len rfl Z.no_len boot_len (da_cons (d_var (i := 0)) da_nil)) d_int (nomark _)) (dt_or1 (dt_not (dt_tru (d_call C (ok_is_throw_name Z) (by omega) (da_cons (d_idx (d_var (i := 0)) d_int) da_nil)))))))) (ds_one (ds_ret d_bl)) ds_nil)
    (ds_one (ds_ret (d_and (d_call C (ok_is_between Z) (by omega) (da_cons (d_idx (d_var (i := 0)) d_int) (da_cons d_int (da_cons d_int da_nil)))) (d_one (d_isi (U := "bool") rfl Z.no_isinstance rfl Z.no_bool boot_bool (d_idx (d_var (i := 0)) d_int)))))))))
theorem sc_is_down : FnScope ["thing", "throw"] ["thing"] (defScope st_is_down) := ⟨rfl, rfl, rfl, by decide +kernel, rfl, by decide +kernel, by decide +kernel⟩
theorem ok_is_down (Z : Facts K mg) : Callee P w K mg base "is_down" 1 (2 + 1) m_is_down :=
  okD (ps := ["thing"]) (k := 2) Z.fn_is_down sc_is_down Z.mg_is_down (fun _ _ _ _ _ _ us hl => match us, hl with | [_], _ => rfl) (fun cdv A outer s H E C => ((ds_cons (ds_if (PW.pt (dt_or (dt_not (dt_tru (d_isi (U := "tuple") rfl Z.no_isinstance rfl Z.no_tuple boot_tuple (d_var (i := 0))))) (dt_or (dt_cmp (o_ne C.hu) (d_callB c_len rfl Z.no_len boot_len (da_cons (d_var (i := 0)) da_nil)) d_int (nomark _)) (dt_or1 (dt_not (dt_tru (d_isi (U := "tuple") rfl Z.no_isinstance rfl Z.no_tuple boot_tuple (d_idx (d_var (i := 0)) d_int)))))))) (ds_one (ds_ret d_bl)) ds_nil)
    (ds_cons (ds_if (PW.pt (dt_or (dt_not (dt_tru (d_call C (ok_is_between Z) (by omega) (da_cons (d_idx (d_var (i := 0)) d_int) (da_cons d_int (da_cons d_int da_nil)))))) (dt_or (dt_not (dt_tru (d_call C (ok_is_between Z) (by omega) (da_cons (d_idx (d_var (i := 0)) d_int) (da_cons d_int (da_cons d_int da_nil)))))) (dt_or1 (dt_not (dt_tru (d_call C (ok_is_between Z) (by omega) (da_cons (d_idx (d_var (i := 0)) d_int) (da_cons d_int (da_cons d_int da_nil)))))))))) (ds_one (ds_ret d_bl)) ds_nil)
    (ds_cons (ds_if (PW.pt (dt_or (dt_cmp o_lt (d_callB c_len rfl Z.no_len boot_len (da_cons (d_idx (d_var (i := 0)) d_int) da_nil)) d_int (nomark _)) (dt_or (dt_cmp o_gt (d_callB c_len rfl Z.no_len boot_len (da_cons (d_idx (d_var (i := 0)) d_int) da_nil)) d_int (nomark _)) (dt_or1 (dt_not (dt_tru (d_callB (c_all C.calm) rfl Z.no_all (by decide +kernel) (da_cons (d_comp (i := 1) C (di_any (d_idx (d_var (i := 0)) d_int)) (blkOk_by (by kernel_rfl)) (fun _ _ _ _ _ => pg_name (i := 1) C.nd rfl (Or.inl rfl)) (fun _ _ _ _ _ C1 => dts_nil) (fun _ _ _ _ _ C1 => (d_call C1 (ok_is_throw Z) (by omega) (da_cons (d_var (i := 1)) da_nil)))) da_nil)))))))) (ds_one (ds_ret d_bl)) ds_nil)
    (ds_one (ds_ret (d_cmp (o_eq C.hu) (d_lenSet C.calm Z.no_len Z.no_set (d_comp (i := 1) C (di_any (d_idx (d_var (i := 0)) d_int)) (blkOk_by (by kernel_rfl)) (fun _ _ _ _ _ => pg_name (i := 1) C.nd rfl (Or.inl rfl)) (fun _ _ _ _ _ C1 => dts_nil) (fun _ _ _ _ _ C1 => (d_idx (d_var (i := 1)) d_int)))) (d_callB c_len rfl Z.no_len boot_len (da_cons (d_idx (d_var (i := 0)) d_int) da_nil)) (nomark _)))))))))
theorem sc_down_begun : FnScope ["down"] ["down"] (defScope st_down_begun) := ⟨rfl, rfl, rfl, by decide +kernel, rfl, by decide +kernel, by decide +kernel⟩
theorem ok_down_begun (Z : Facts K mg) : Callee P w K mg base "down_begun" 1 (0 + 1) m_down_begun :=
  okD (ps := ["down"]) (k := 0) Z.fn_down_begun sc_down_begun Z.mg_down_begun (fun _ _ _ _ _ _ us hl => match us, hl with | [_], _ => rfl) (fun cdv A outer s H E C => ((ds_one (ds_ret (d_tup (da_cons (d_bin o_mul (d_tup (da_cons (d_idx (d_var (i := 0)) d_int) da_nil)) (d_idx (d_var (i := 0)) d_int)) (da_cons d_int (da_cons d_int (da_cons (d_idx (d_var (i := 0)) d_int) da_nil)))))))))
theorem sc_throw_named : FnScope ["down", "name", "throw"] ["down", "name"] (defScope st_throw_named) := ⟨rfl, rfl, rfl, by decide +kernel, rfl, by decide +kernel, by decide +kernel⟩
theorem ok_throw_named (Z : Facts K mg) : Callee P w K mg base "throw_named" 2 (0 + 1) m_throw_named :=
  okD (ps := ["down", "name"]) (k := 0) Z.fn_throw_named sc_throw_named Z.mg_throw_named (fun _ _ _ _ _ _ us hl => match us, hl with | [_, _], _ => rfl) (fun cdv A outer s H E C => ((ds_cons (ds_for C (di_any (d_idx (d_var (i := 0)) d_int)) (dg_name (i := 2) C.nd) (ds_one (ds_if (dt_cmp (o_eq C.hu) (d_idx (d_var (i := 2)) d_int) (d_var (i := 1)) (nomark _)) (ds_one (ds_ret (d_var (i := 2)))) ds_nil)))
    (ds_one (ds_raise C Z.ex_NoThrow)))))
theorem sc_with_count : FnScope ["counts", "side", "count"] ["counts", "side", "count"] (defScope st_with_count) := ⟨rfl, rfl, rfl, by decide +kernel, rfl, by decide +kernel, by decide +kernel⟩
theorem ok_with_count (Z : Facts K mg) : Callee P w K mg base "with_count" 3 (0 + 1) m_with_count :=
  okD (ps := ["counts", "side", "count"]) (k := 0) Z.fn_with_count sc_with_count Z.mg_with_count (fun _ _ _ _ _ _ us hl => match us, hl with | [_, _, _], _ => rfl) (fun cdv A outer s H E C => ((ds_one (ds_ret (d_bin o_add (d_bin o_add (d_sl (d_var (i := 0)) do_none (do_some (d_var (i := 1)))) (d_tup (da_cons (d_var (i := 2)) da_nil))) (d_sl (d_var (i := 0)) (do_some (d_bin o_add (d_var (i := 1)) d_int)) do_none))))))
theorem sc_turn_ended : FnScope ["down", "counts", "side", "other"] ["down", "counts", "side"] (defScope st_turn_ended) := ⟨rfl, rfl, rfl, by decide +kernel, rfl, by decide +kernel, by decide +kernel⟩
theorem ok_turn_ended (Z : Facts K mg) : Callee P w K mg base "turn_ended" 3 (0 + 1) m_turn_ended :=
  okD (ps := ["down", "counts", "side"]) (k := 0) Z.fn_turn_ended sc_turn_ended Z.mg_turn_ended (fun _ _ _ _ _ _ us hl => match us, hl with | [_, _, _], _ => rfl) (fun cdv A outer s H E C => ((ds_cons (ds_set (i := 3) C.nd (d_bin o_mod (d_bin o_add (d_var (i := 2)) d_int) (d_idx (d_var (i := 0)) d_int)))
    (ds_one (ds_ret (d_tup (da_cons (d_var (i := 1)) (da_cons (d_var (i := 3)) (da_cons d_int (da_cons (d_idx (d_var (i := 1)) (d_var (i := 3))) da_nil))))))))))
theorem sc_down_thrown : FnScope ["down", "stand", "name", "throw", "left", "counts", "side", "thrown", "held"] ["down", "stand", "name"] (defScope st_down_thrown) := ⟨rfl, rfl, rfl, by decide +kernel, rfl, by decide +kernel, by decide +kernel⟩
theorem ok_down_thrown (Z : Facts K mg) : Callee P w K mg base "down_thrown" 3 (1 + 1) m_down_thrown :=
  okD (ps := ["down", "stand", "name"]) (k := 1) Z.fn_down_thrown sc_down_thrown Z.mg_down_thrown (fun _ _ _ _ _ _ us hl => match us, hl with | [_, _, _], _ => rfl) (fun cdv A outer s H E C => ((ds_cons (ds_asg (d_var (i := 1)) (dg_tup (pg_tup C.calm (pgs_cons (pg_name (i := 5) C.nd rfl (by first | exact .inl rfl | exact .inr rfl)) (pgs_cons (pg_name (i := 6) C.nd rfl (by first | exact .inl rfl | exact .inr rfl)) (pgs_cons (pg_name (i := 7) C.nd rfl (by first | exact .inl rfl | exact .inr rfl)) (pgs_cons (pg_name (i := 8) C.nd rfl (by first | exact .inl rfl | exact .inr rfl)) pgs_nil)))))))
    (ds_cons (ds_set (i := 3) C.nd (d_call C (ok_throw_named Z) (by omega) (da_cons (d_var (i := 0)) (da_cons (d_var (i := 2)) da_nil))))
    (ds_cons (ds_set (i := 4) C.nd (d_bin o_sub (d_idx (d_var (i := 5)) (d_var (i := 6))) (d_idx (d_var (i := 3)) d_int)))
    (ds_cons (ds_if (PW.pt (dt_and (dt_cmp (o_eq C.hu) (d_var (i := 4)) d_int (nomark _)) (dt_and1 (dt_tru (d_idx (d_var (i := 3)) d_int))))) (ds_one (ds_ret (d_tup (da_cons (d_tup (da_cons (d_call C (ok_with_count Z) (by omega) (da_cons (d_var (i := 5)) (da_cons (d_var (i := 6)) (da_cons d_int da_nil)))) (da_cons (d_var (i := 6)) (da_cons (d_bin o_add (d_var (i := 7)) d_int) (da_cons (d_var (i := 8)) da_nil))))) (da_cons d_bl da_nil))))) ds_nil)
    (ds_cons (ds_if (dt_cmp o_le (d_var (i := 4)) d_int (nomark _)) (ds_one (ds_ret (d_tup (da_cons (d_call C (ok_turn_ended Z) (by omega) (da_cons (d_var (i := 0)) (da_cons (d_call C (ok_with_count Z) (by omega) (da_cons (d_var (i := 5)) (da_cons (d_var (i := 6)) (da_cons (d_var (i := 8)) da_nil)))) (da_cons (d_var (i := 6)) da_nil)))) (da_cons d_bl da_nil))))) ds_nil)
    (ds_cons (ds_set (i := 5) C.nd (d_call C (ok_with_count Z) (by omega) (da_cons (d_var (i := 5)) (da_cons (d_var (i := 6)) (da_cons (d_var (i := 4)) da_nil)))))
    (ds_cons (ds_if (dt_cmp (o_eq C.hu) (d_bin o_add (d_var (i := 7)) d_int) (d_idx (d_var (i := 0)) d_int) (nomark _)) (ds_one (ds_ret (d_tup (da_cons (d_call C (ok_turn_ended Z) (by omega) (da_cons (d_var (i := 0)) (da_cons (d_var (i := 5)) (da_cons (d_var (i := 6)) da_nil)))) (da_cons d_bl da_nil))))) ds_nil)
    (ds_one (ds_ret (d_tup (da_cons (d_tup (da_cons (d_var (i := 5)) (da_cons (d_var (i := 6)) (da_cons (d_bin o_add (d_var (i := 7)) d_int) (da_cons (d_var (i := 8)) da_nil))))) (da_cons d_bl da_nil))))))))))))))
theorem sc_is_lane : FnScope ["thing"] ["thing"] (defScope st_is_lane) := ⟨rfl, rfl, rfl, by decide +kernel, rfl, by decide +kernel, by decide +kernel⟩
theorem ok_is_lane (Z : Facts K mg) : Callee P w K mg base "is_lane" 1 (1 + 1) m_is_lane :=
  okD (ps := ["thing"]) (k := 1) Z.fn_is_lane sc_is_lane Z.mg_is_lane (fun _ _ _ _ _ _ us hl => match us, hl with | [_], _ => rfl) (fun cdv A outer s H E C => ((ds_cons (ds_if (PW.pt (dt_or (dt_not (dt_tru (d_isi (U := "tuple") rfl Z.no_isinstance rfl Z.no_tuple boot_tuple (d_var (i := 0))))) (dt_or1 (dt_cmp (o_ne C.hu) (d_callB c_len rfl Z.no_len boot_len (da_cons (d_var (i := 0)) da_nil)) d_int (nomark _))))) (ds_one (ds_ret d_bl)) ds_nil)
    (ds_one (ds_ret (d_and (d_call C (ok_is_between Z) (by omega) (da_cons (d_idx (d_var (i := 0)) d_int) (da_cons d_int (da_cons d_int da_nil)))) (d_and (d_call C (ok_is_between Z) (by omega) (da_cons (d_idx (d_var (i := 0)) d_int) (da_cons d_int (da_cons d_int da_nil)))) (d_one (d_call C (ok_is_between Z) (by omega) (da_cons (d_idx (d_var (i := 0)) d_int) (da_cons d_int (da_cons d_int da_nil))))))))))))
theorem sc_lane_begun : FnScope ["lane"] ["lane"] (defScope st_lane_begun) := ⟨rfl, rfl, rfl, by decide +kernel, rfl, by decide +kernel, by decide +kernel⟩
theorem ok_lane_begun (Z : Facts K mg) : Callee P w K mg base "lane_begun" 1 (0 + 1) m_lane_begun :=
  okD (ps := ["lane"]) (k := 0) Z.fn_lane_begun sc_lane_begun Z.mg_lane_begun (fun _ _ _ _ _ _ us hl => match us, hl with | [_], _ => rfl) (fun cdv A outer s H E C => ((ds_one (ds_ret (d_tup (da_cons (d_bin o_mul (d_tup (da_cons (d_tup (da_cons d_int (da_cons d_int (da_cons (d_idx (d_var (i := 0)) d_int) (da_cons d_int (da_cons d_int (da_cons d_int (da_cons d_int da_nil)))))))) da_nil)) (d_idx (d_var (i := 0)) d_int)) (da_cons d_int da_nil)))))))
theorem sc_frame_behind : FnScope ["lane", "row", "near", "far", "earned"] ["lane", "row", "near", "far", "earned"] (defScope st_frame_behind) := ⟨rfl, rfl, rfl, by decide +kernel, rfl, by decide +kernel, by decide +kernel⟩
theorem ok_frame_behind (Z : Facts K mg) : Callee P w K mg base "frame_behind" 5 (0 + 1) m_frame_behind :=
  okD (ps := ["lane", "row", "near", "far", "earned"]) (k := 0) Z.fn_frame_behind sc_frame_behind Z.mg_frame_behind (fun _ _ _ _ _ _ us hl => match us, hl with | [_, _, _, _, _], _ => rfl) (fun cdv A outer s H E C => ((ds_cons (ds_if (PW.pt (dt_and (dt_cmp (o_eq C.hu) (d_idx (d_var (i := 1)) d_int) (d_bin o_sub (d_idx (d_var (i := 0)) d_int) d_int) (nomark _)) (dt_and1 (dt_cmp o_gt (d_var (i := 4)) d_int (nomark _))))) (ds_one (ds_ret (d_tup (da_cons (d_tup (da_cons (d_idx (d_var (i := 1)) d_int) (da_cons d_int (da_cons (d_idx (d_var (i := 0)) d_int) (da_cons (d_var (i := 2)) (da_cons (d_var (i := 3)) (da_cons (d_var (i := 4)) (da_cons (d_idx (d_var (i := 1)) d_int) da_nil)))))))) (da_cons d_bl da_nil))))) ds_nil)
    (ds_one (ds_ret (d_tup (da_cons (d_tup (da_cons (d_bin o_add (d_idx (d_var (i := 1)) d_int) d_int) (da_cons d_int (da_cons (d_idx (d_var (i := 0)) d_int) (da_cons (d_var (i := 2)) (da_cons (d_var (i := 3)) (da_cons d_int (da_cons (d_idx (d_var (i := 1)) d_int) da_nil)))))))) (da_cons d_bl da_nil))))))))
theorem sc_extra_behind : FnScope ["lane", "row", "up"] ["lane", "row"] (defScope st_extra_behind) := ⟨rfl, rfl, rfl, by decide +kernel, rfl, by decide +kernel, by decide +kernel⟩
theorem ok_extra_behind (Z : Facts K mg) : Callee P w K mg base "extra_behind" 2 (0 + 1) m_extra_behind :=
  okD (ps := ["lane", "row"]) (k := 0) Z.fn_extra_behind sc_extra_behind Z.mg_extra_behind (fun _ _ _ _ _ _ us hl => match us, hl with | [_, _], _ => rfl) (fun cdv A outer s H E C => ((ds_cons (ds_if (dt_cmp (o_eq C.hu) (d_idx (d_var (i := 1)) d_int) d_int (nomark _)) (ds_one (ds_ret (d_tup (da_cons (d_tup (da_cons (d_bin o_add (d_idx (d_var (i := 1)) d_int) d_int) (da_cons d_int (da_cons (d_idx (d_var (i := 0)) d_int) (da_cons (d_idx (d_var (i := 1)) d_int) (da_cons (d_idx (d_var (i := 1)) d_int) (da_cons d_int (da_cons (d_idx (d_var (i := 1)) d_int) da_nil)))))))) (da_cons d_bl da_nil))))) ds_nil)
    (ds_cons (ds_set (i := 2) C.nd (d_idx (d_var (i := 1)) d_int))
    (ds_cons (ds_if (dt_cmp (o_eq C.hu) (d_var (i := 2)) d_int (nomark _)) (ds_one (ds_set (i := 2) C.nd (d_idx (d_var (i := 0)) d_int))) ds_nil)
    (ds_one (ds_ret (d_tup (da_cons (d_tup (da_cons (d_idx (d_var (i := 1)) d_int) (da_cons d_int (da_cons (d_var (i := 2)) (da_cons (d_idx (d_var (i := 1)) d_int) (da_cons (d_idx (d_var (i := 1)) d_int) (da_cons (d_bin o_sub (d_idx (d_var (i := 1)) d_int) d_int) (da_cons (d_idx (d_var (i := 1)) d_int) da_nil)))))))) (da_cons d_bl da_nil))))))))))
theorem sc_row_behind : FnScope ["lane", "row", "pins", "total", "felled", "done", "ball", "up", "near", "far", "extra"] ["lane", "row", "pins"] (defScope st_row_behind) := ⟨rfl, rfl, rfl, by decide +kernel, rfl, by decide +kernel, by decide +kernel⟩
theorem ok_row_behind (Z : Facts K mg) : Callee P w K mg base "row_behind" 3 (1 + 1) m_row_behind :=
  okD (ps := ["lane", "row", "pins"]) (k := 1) Z.fn_row_behind sc_row_behind Z.mg_row_behind (fun _ _ _ _ _ _ us hl => match us, hl with | [_, _, _], _ => rfl) (fun cdv A outer s H E C => ((ds_cons (ds_asg (d_var (i := 1)) (dg_tup (pg_tup C.calm (pgs_cons (pg_name (i := 5) C.nd rfl (by first | exact .inl rfl | exact .inr rfl)) (pgs_cons (pg_name (i := 6) C.nd rfl (by first | exact .inl rfl | exact .inr rfl)) (pgs_cons (pg_name (i := 7) C.nd rfl (by first | exact .inl rfl | exact .inr rfl)) (pgs_cons (pg_name (i := 8) C.nd rfl (by first | exact .inl rfl | exact .inr rfl)) (pgs_cons (pg_name (i := 9) C.nd rfl (by first | exact .inl rfl | exact .inr rfl)) (pgs_cons (pg_name (i := 10) C.nd rfl (by first | exact .inl rfl | exact .inr rfl)) (pgs_cons (pg_name (i := 3) C.nd rfl (by first | exact .inl rfl | exact .inr rfl)) pgs_nil))))))))))
    (ds_cons (ds_set (i := 3) C.nd (d_bin o_add (d_var (i := 3)) (d_bin o_mul (d_var (i := 2)) (d_var (i := 8)))))
    (ds_cons (ds_if (dt_cmp o_gt (d_var (i := 10)) d_int (nomark _)) (ds_one (ds_ret (d_call C (ok_extra_behind Z) (by omega) (da_cons (d_var (i := 0)) (da_cons (d_tup (da_cons (d_var (i := 5)) (da_cons d_int (da_cons (d_bin o_sub (d_var (i := 7)) (d_var (i := 2))) (da_cons (d_var (i := 9)) (da_cons d_int (da_cons (d_var (i := 10)) (da_cons (d_var (i := 3)) da_nil)))))))) da_nil))))) ds_nil)
    (ds_cons (ds_set (i := 4) C.nd (d_tup (da_cons (d_var (i := 5)) (da_cons (d_bin o_add (d_var (i := 6)) d_int) (da_cons (d_bin o_sub (d_var (i := 7)) (d_var (i := 2))) (da_cons (d_var (i := 9)) (da_cons d_int (da_cons d_int (da_cons (d_bin o_add (d_var (i := 3)) (d_var (i := 2))) da_nil)))))))))
    (ds_cons (ds_if (PW.pt (dt_and (dt_cmp (o_eq C.hu) (d_var (i := 7)) (d_var (i := 2)) (nomark _)) (dt_and1 (dt_cmp (o_eq C.hu) (d_var (i := 6)) d_int (nomark _))))) (ds_one (ds_ret (d_call C (ok_frame_behind Z) (by omega) (da_cons (d_var (i := 0)) (da_cons (d_var (i := 4)) (da_cons (d_bin o_add (d_var (i := 9)) d_int) (da_cons d_int (da_cons d_int da_nil)))))))) ds_nil)
    (ds_cons (ds_if (dt_cmp (o_eq C.hu) (d_var (i := 7)) (d_var (i := 2)) (nomark _)) (ds_one (ds_ret (d_call C (ok_frame_behind Z) (by omega) (da_cons (d_var (i := 0)) (da_cons (d_var (i := 4)) (da_cons (d_bin o_add (d_var (i := 9)) d_int) (da_cons d_int (da_cons d_int da_nil)))))))) ds_nil)
    (ds_cons (ds_if (dt_cmp (o_eq C.hu) (d_var (i := 6)) d_int (nomark _)) (ds_one (ds_ret (d_call C (ok_frame_behind Z) (by omega) (da_cons (d_var (i := 0)) (da_cons (d_var (i := 4)) (da_cons (d_var (i := 9)) (da_cons d_int (da_cons d_int da_nil)))))))) ds_nil)
    (ds_one (ds_ret (d_tup (da_cons (d_var (i := 4)) (da_cons d_bl da_nil))))))))))))))
theorem sc_lane_bowled : FnScope ["lane", "stand", "pins", "rows", "side", "row", "ended", "one"] ["lane", "stand", "pins"] (defScope st_lane_bowled) := ⟨rfl, rfl, rfl, by decide +kernel, rfl, by decide +kernel, by decide +kernel⟩
theorem ok_lane_bowled (Z : Facts K mg) : Callee P w K mg base "lane_bowled" 3 (2 + 1) m_lane_bowled :=
  okD (ps := ["lane", "stand", "pins"]) (k := 2) Z.fn_lane_bowled sc_lane_bowled Z.mg_lane_bowled (fun _ _ _ _ _ _ us hl => match us, hl with | [_, _, _], _ => rfl) (fun cdv A outer s H E C => ((ds_cons (ds_asg (d_var (i := 1)) (dg_tup (pg_tup C.calm (pgs_cons (pg_name (i := 3) C.nd rfl (by first | exact .inl rfl | exact .inr rfl)) (pgs_cons (pg_name (i := 4) C.nd rfl (by first | exact .inl rfl | exact .inr rfl)) pgs_nil)))))
    (ds_cons (ds_if (dt_not (dt_tru (d_call C (ok_is_between Z) (by omega) (da_cons (d_var (i := 2)) (da_cons d_int (da_cons (d_idx (d_idx (d_var (i := 3)) (d_var (i := 4))) d_int) da_nil)))))) (ds_one (ds_raise C Z.ex_NoPins)) ds_nil)
    (ds_cons (ds_asg (d_call C (ok_row_behind Z) (by omega) (da_cons (d_var (i := 0)) (da_cons (d_idx (d_var (i := 3)) (d_var (i := 4))) (da_cons (d_var (i := 2)) da_nil)))) (dg_tup (pg_tup C.calm (pgs_cons (pg_name (i := 5) C.nd rfl (by first | exact .inl rfl | exact .inr rfl)) (pgs_cons (pg_name (i := 6) C.nd rfl (by first | exact .inl rfl | exact .inr rfl)) pgs_nil)))))
    (ds_cons (ds_set (i := 3) C.nd (d_bin o_add (d_bin o_add (d_sl (d_var (i := 3)) do_none (do_some (d_var (i := 4)))) (d_tup (da_cons (d_var (i := 5)) da_nil))) (d_sl (d_var (i := 3)) (do_some (d_bin o_add (d_var (i := 4)) d_int)) do_none)))
    (ds_cons (ds_if (dt_tru (d_var (i := 6))) (ds_one (ds_set (i := 4) C.nd (d_bin o_mod (d_bin o_add (d_var (i := 4)) d_int) (d_idx (d_var (i := 0)) d_int)))) ds_nil)
    (ds_one (ds_ret (d_tup (da_cons (d_tup (da_cons (d_var (i := 3)) (da_cons (d_var (i := 4)) da_nil))) (da_cons (d_callB (c_all C.calm) rfl Z.no_all (by decide +kernel) (da_cons (d_comp (i := 7) C (di_any (d_var (i := 3))) (blkOk_by (by kernel_rfl)) (fun _ _ _ _ _ => pg_name (i := 7) C.nd rfl (Or.inl rfl)) (fun _ _ _ _ _ C1 => dts_nil) (fun _ _ _ _ _ C1 => (d_cmp (o_eq C1.hu) (d_idx (d_var (i := 7)) d_int) (d_idx (d_var (i := 0)) d_int) (nomark _)))) da_nil)) da_nil))))))))))))
theorem sc_best_of : FnScope ["stand", "totals", "row", "side"] ["stand"] (defScope st_best_of) := ⟨rfl, rfl, rfl, by decide +kernel, rfl, by decide +kernel, by decide +kernel⟩
theorem ok_best_of (Z : Facts K mg) : Callee P w K mg base "best_of" 1 (0 + 1) m_best_of :=
  okD (ps := ["stand"]) (k := 0) Z.fn_best_of sc_best_of Z.mg_best_of (fun _ _ _ _ _ _ us hl => match us, hl with | [_], _ => rfl) (fun cdv A outer s H E C => ((ds_cons (ds_set (i := 1) C.nd (d_comp (i := 2) C (di_any (d_idx (d_var (i := 0)) d_int)) (blkOk_by (by kernel_rfl)) (fun _ _ _ _ _ => pg_name (i := 2) C.nd rfl (Or.inl rfl)) (fun _ _ _ _ _ C1 => dts_nil) (fun _ _ _ _ _ C1 => (d_idx (d_var (i := 2)) d_int))))
    (ds_one (ds_ret (d_callTy c_tuple rfl Z.no_tuple boot_tuple (da_cons (d_comp (i := 3) C (di_range1 Z.no_range (d_callB c_len rfl Z.no_len boot_len (da_cons (d_var (i := 1)) da_nil))) (blkOk_by (by kernel_rfl)) (fun _ _ _ _ _ => pg_name (i := 3) C.nd rfl (Or.inl rfl)) (fun _ _ _ _ _ C1 => (dts_one (dt_cmp (o_eq C1.hu) (d_idx (d_var (i := 1)) (d_var (i := 3))) (d_callB (c_max C1.calm) rfl Z.no_max boot_max (da_cons (d_var (i := 1)) da_nil)) (nomark _)))) (fun _ _ _ _ _ C1 => (d_var (i := 3)))) da_nil)))))))
theorem sc_is_count : FnScope ["thing", "least"] ["thing", "least"] (defScope st_is_count) := ⟨rfl, rfl, rfl, by decide +kernel, rfl, by decide +kernel, by decide +kernel⟩
theorem ok_is_count (Z : Facts K mg) : Callee P w K mg base "is_count" 2 (0 + 1) m_is_count :=
  okD (ps := ["thing", "least"]) (k := 0) Z.fn_is_count sc_is_count Z.mg_is_count (fun _ _ _ _ _ _ us hl => match us, hl with | [_, _], _ => rfl) (fun cdv A outer s H E C => ((ds_one (ds_ret (d_and (d_isi (U := "int") rfl Z.no_isinstance rfl Z.no_int boot_int (d_var (i := 0))) (d_and (d_not (d_isi (U := "bool") rfl Z.no_isinstance rfl Z.no_bool boot_bool (d_var (i := 0)))) (d_one (d_chain o_le o_le (d_var (i := 1)) (d_var (i := 0)) (d_glob Z.gl_GREATEST)))))))))
theorem sc_has_numbers : FnScope ["unit"] ["unit"] (defScope st_has_numbers) := ⟨rfl, rfl, rfl, by decide +kernel, rfl, by decide +kernel, by decide +kernel⟩
theorem ok_has_numbers (Z : Facts K mg) : Callee P w K mg base "has_numbers" 1 (1 + 1) m_has_numbers :=
  okD (ps := ["unit"]) (k := 1) Z.fn_has_numbers sc_has_numbers Z.mg_has_numbers (fun _ _ _ _ _ _ us hl => match us, hl with | [_], _ => rfl) (fun cdv A outer s H E C => ((ds_cons (ds_if (PW.pt (dt_or (dt_not (dt_tru (d_call C (ok_is_count Z) (by omega) (da_cons (d_idx (d_var (i := 0)) d_int) (da_cons d_int da_nil))))) (dt_or1 (dt_not (dt_tru (d_call C (ok_is_count Z) (by omega) (da_cons (d_idx (d_var (i := 0)) d_int) (da_cons d_int da_nil)))))))) (ds_one (ds_ret d_bl)) ds_nil)
    (ds_cons (ds_if (dt_cmp o_is (d_idx (d_var (i := 0)) d_int) d_non (nomark _)) (ds_one (ds_ret (d_cmp o_is (d_idx (d_var (i := 0)) d_int) d_non (nomark _)))) ds_nil)
    (ds_one (ds_ret (d_call C (ok_is_count Z) (by omega) (da_cons (d_idx (d_var (i := 0)) d_int) (da_cons (d_idx (d_var (i := 0)) d_int) da_nil)))))))))
theorem sc_units_in : FnScope ["thing", "around", "many", "parts", "part", "more"] ["thing", "around"] (defScope st_units_in) := ⟨rfl, rfl, rfl, by decide +kernel, rfl, by decide +kernel, by decide +kernel⟩
theorem st1_units_in (Z : Facts K mg) (n : Nat) {r_units_in : Fn} (R_units_in : Callee P w K mg base "units_in" 2 (2 + n) r_units_in) : Callee P w K mg base "units_in" 2 (2 + n + 1) (fnD 2 6 (b_units_in r_units_in)) :=
  okD (ps := ["thing", "around"]) (k := 2 + n) Z.fn_units_in sc_units_in Z.mg_units_in (fun _ _ _ _ _ _ us hl => match us, hl with | [_, _], _ => rfl) (fun cdv A outer s H E C => ((ds_cons (ds_if (dt_cmp (o_eq C.hu) (d_var (i := 0)) (d_glob Z.gl_POINT) (nomark _)) (ds_one (ds_ret d_int)) ds_nil)
    (ds_cons (ds_if (PW.pt (dt_or (dt_not (dt_tru (d_isi (U := "tuple") rfl Z.no_isinstance rfl Z.no_tuple boot_tuple (d_var (i := 0))))) (dt_or (dt_cmp (o_ne C.hu) (d_callB c_len rfl Z.no_len boot_len (da_cons (d_var (i := 0)) da_nil)) d_int (nomark _)) (dt_or1 (dt_cmp (o_eq C.hu) (d_var (i := 1)) (d_glob Z.gl_MOST_DEEP) (nomark _)))))) (ds_one (ds_ret d_non)) ds_nil)
    (ds_cons (ds_if (PW.pt (dt_or (dt_cmp (o_ne C.hu) (d_idx (d_var (i := 0)) d_int) d_str (nomark _)) (dt_or1 (dt_not (dt_tru (d_call C (ok_has_numbers Z) (by omega) (da_cons (d_var (i := 0)) da_nil))))))) (ds_one (ds_ret d_non)) ds_nil)
    (ds_cons (ds_set (i := 2) C.nd d_int)
    (ds_cons (ds_set (i := 3) C.nd (d_lst (da_cons (d_idx (d_var (i := 0)) d_int) da_nil)))
    (ds_cons (ds_if (dt_cmp o_isNot (d_idx (d_var (i := 0)) d_int) d_non (nomark _)) (ds_one (ds_expr (d_meth PySem.F.plainAttrs_list PySem.F.slot_list_append PySem.F.type_list_append m_append (d_var (i := 3)) (da_cons (d_idx (d_var (i := 0)) d_int) da_nil)))) ds_nil)
    (ds_cons (ds_for C (di_any (d_var (i := 3))) (dg_name (i := 4) C.nd) (ds_cons (ds_set (i := 5) C.nd (d_call C R_units_in (by omega) (da_cons (d_var (i := 4)) (da_cons (d_bin o_add (d_var (i := 1)) d_int) da_nil))))
    (ds_cons (ds_if (dt_cmp o_is (d_var (i := 5)) d_non (nomark _)) (ds_one (ds_ret d_non)) ds_nil)
    (ds_one (ds_set (i := 2) C.nd (d_bin o_add (d_var (i := 2)) (d_var (i := 5))))))))
    (ds_one (ds_ret (d_var (i := 2)))))))))))))
theorem ok_units_in (Z : Facts K mg) : ∀ n : Nat, Callee P w K mg base "units_in" 2 (2 + n) (m_units_in n)
  | 0 => noD (ps := ["thing", "around"]) Z.fn_units_in Z.mg_units_in (fun _ _ _ _ _ _ us hl => match us, hl with | [_, _], _ => rfl)
  | n + 1 => st1_units_in Z n (ok_units_in Z n)
theorem sc_is_rule : FnScope ["thing", "many"] ["thing"] (defScope st_is_rule) := ⟨rfl, rfl, rfl, by decide +kernel, rfl, by decide +kernel, by decide +kernel⟩
theorem ok_is_rule (Z : Facts K mg) : Callee P w K mg base "is_rule" 1 (16 + 1) m_is_rule :=
  okD (ps := ["thing"]) (k := 16) Z.fn_is_rule sc_is_rule Z.mg_is_rule (fun _ _ _ _ _ _ us hl => match us, hl with | [_], _ => rfl) (fun cdv A outer s H E C => ((ds_cons (ds_set (i := 1) C.nd (d_call C (ok_units_in Z 14) (by omega) (da_cons (d_var (i := 0)) (da_cons d_int da_nil))))
    (ds_one (ds_ret (d_and (d_cmp o_isNot (d_var (i := 1)) d_non (nomark _)) (d_one (d_cmp o_le (d_var (i := 1)) (d_glob Z.gl_MOST_UNITS) (nomark _)))))))))
theorem sc_rule_within : FnScope ["rule", "zero", "one"] ["rule", "zero", "one"] (defScope st_rule_within) := ⟨rfl, rfl, rfl, by decide +kernel, rfl, by decide +kernel, by decide +kernel⟩
theorem ok_rule_within (Z : Facts K mg) : Callee P w K mg base "rule_within" 3 (0 + 1) m_rule_within :=
  okD (ps := ["rule", "zero", "one"]) (k := 0) Z.fn_rule_within sc_rule_within Z.mg_rule_within (fun _ _ _ _ _ _ us hl => match us, hl with | [_, _, _], _ => rfl) (fun cdv A outer s H E C => ((ds_cons (ds_if (PW.pt (dt_and (dt_cmp o_isNot (d_idx (d_var (i := 0)) d_int) d_non (nomark _)) (dt_and (dt_cmp (o_eq C.hu) (d_var (i := 1)) (d_bin o_sub (d_idx (d_var (i := 0)) d_int) d_int) (nomark _)) (dt_and1 (dt_cmp (o_eq C.hu) (d_var (i := 2)) (d_bin o_sub (d_idx (d_var (i := 0)) d_int) d_int) (nomark _)))))) (ds_one (ds_ret (d_idx (d_var (i := 0)) d_int))) ds_nil)
    (ds_one (ds_ret (d_idx (d_var (i := 0)) d_int))))))
theorem sc_begun : FnScope ["rule"] ["rule"] (defScope st_begun) := ⟨rfl, rfl, rfl, by decide +kernel, rfl, by decide +kernel, by decide +kernel⟩
theorem st1_begun (Z : Facts K mg) (n : Nat) {r_begun : Fn} (R_begun : Callee P w K mg base "begun" 1 (1 + n) r_begun) : Callee P w K mg base "begun" 1 (1 + n + 1) (fnD 1 1 (b_begun r_begun)) :=
  okD (ps := ["rule"]) (k := 1 + n) Z.fn_begun sc_begun Z.mg_begun (fun _ _ _ _ _ _ us hl => match us, hl with | [_], _ => rfl) (fun cdv A outer s H E C => ((ds_cons (ds_if (dt_cmp (o_eq C.hu) (d_var (i := 0)) (d_glob Z.gl_POINT) (nomark _)) (ds_one (ds_ret (d_tup da_nil))) ds_nil)
    (ds_one (ds_ret (d_tup (da_cons d_int (da_cons d_int (da_cons (d_call C R_begun (by omega) (da_cons (d_call C (ok_rule_within Z) (by omega) (da_cons (d_var (i := 0)) (da_cons d_int (da_cons d_int da_nil)))) da_nil)) da_nil)))))))))
theorem ok_begun (Z : Facts K mg) : ∀ n : Nat, Callee P w K mg base "begun" 1 (1 + n) (m_begun n)
  | 0 => noD (ps := ["rule"]) Z.fn_begun Z.mg_begun (fun _ _ _ _ _ _ us hl => match us, hl with | [_], _ => rfl)
  | n + 1 => st1_begun Z n (ok_begun Z n)
theorem sc_is_won : FnScope ["rule", "own", "other"] ["rule", "own", "other"] (defScope st_is_won) := ⟨rfl, rfl, rfl, by decide +kernel, rfl, by decide +kernel, by decide +kernel⟩
theorem ok_is_won (Z : Facts K mg) : Callee P w K mg base "is_won" 3 (0 + 1) m_is_won :=
  okD (ps := ["rule", "own", "other"]) (k := 0) Z.fn_is_won sc_is_won Z.mg_is_won (fun _ _ _ _ _ _ us hl => match us, hl with | [_, _, _], _ => rfl) (fun cdv A outer s H E C => ((ds_cons (ds_if (PW.pt (dt_and (dt_cmp o_isNot (d_idx (d_var (i := 0)) d_int) d_non (nomark _)) (dt_and1 (dt_cmp (o_eq C.hu) (d_var (i := 1)) (d_idx (d_var (i := 0)) d_int) (nomark _))))) (ds_one (ds_ret d_bl)) ds_nil)
    (ds_one (ds_ret (d_and (d_cmp o_ge (d_var (i := 1)) (d_idx (d_var (i := 0)) d_int) (nomark _)) (d_one (d_cmp o_ge (d_bin o_sub (d_var (i := 1)) (d_var (i := 2))) (d_idx (d_var (i := 0)) d_int) (nomark _)))))))))
theorem sc_rallied : FnScope ["rule", "stand", "side", "counts", "within", "won"] ["rule", "stand", "side"] (defScope st_rallied) := ⟨rfl, rfl, rfl, by decide +kernel, rfl, by decide +kernel, by decide +kernel⟩
theorem st1_rallied (Z : Facts K mg) (n : Nat) {r_rallied : Fn} (R_rallied : Callee P w K mg base "rallied" 3 (15 + n) r_rallied) : Callee P w K mg base "rallied" 3 (15 + n + 1) (fnD 3 6 (b_rallied r_rallied)) :=
  okD (ps := ["rule", "stand", "side"]) (k := 15 + n) Z.fn_rallied sc_rallied Z.mg_rallied (fun _ _ _ _ _ _ us hl => match us, hl with | [_, _, _], _ => rfl) (fun cdv A outer s H E C => ((ds_cons (ds_if (dt_cmp (o_eq C.hu) (d_var (i := 0)) (d_glob Z.gl_POINT) (nomark _)) (ds_one (ds_ret (d_tup (da_cons (d_tup da_nil) (da_cons d_bl da_nil))))) ds_nil)
    (ds_cons (ds_set (i := 3) C.nd (d_lst (da_cons (d_idx (d_var (i := 1)) d_int) (da_cons (d_idx (d_var (i := 1)) d_int) da_nil))))
    (ds_cons (ds_asg (d_call C R_rallied (by omega) (da_cons (d_call C (ok_rule_within Z) (by omega) (da_cons (d_var (i := 0)) (da_cons (d_idx (d_var (i := 1)) d_int) (da_cons (d_idx (d_var (i := 1)) d_int) da_nil)))) (da_cons (d_idx (d_var (i := 1)) d_int) (da_cons (d_var (i := 2)) da_nil)))) (dg_tup (pg_tup C.calm (pgs_cons (pg_name (i := 4) C.nd rfl (by first | exact .inl rfl | exact .inr rfl)) (pgs_cons (pg_name (i := 5) C.nd rfl (by first | exact .inl rfl | exact .inr rfl)) pgs_nil)))))
    (ds_cons (ds_if (dt_tru (d_var (i := 5))) (ds_cons (ds_sub (d_var (i := 3)) (d_var (i := 2)) (d_bin o_add (d_idx (d_var (i := 3)) (d_var (i := 2))) d_int))
    (ds_cons (ds_if (dt_tru (d_call C (ok_is_won Z) (by omega) (da_cons (d_var (i := 0)) (da_cons (d_idx (d_var (i := 3)) (d_var (i := 2))) (da_cons (d_idx (d_var (i := 3)) (d_bin o_sub d_int (d_var (i := 2)))) da_nil))))) (ds_one (ds_ret (d_tup (da_cons (d_tup (da_cons (d_idx (d_var (i := 3)) d_int) (da_cons (d_idx (d_var (i := 3)) d_int) (da_cons (d_tup da_nil) da_nil)))) (da_cons d_bl da_nil))))) ds_nil)
    (ds_one (ds_set (i := 4) C.nd (d_call C (ok_begun Z 14) (by omega) (da_cons (d_call C (ok_rule_within Z) (by omega) (da_cons (d_var (i := 0)) (da_cons (d_idx (d_var (i := 3)) d_int) (da_cons (d_idx (d_var (i := 3)) d_int) da_nil)))) da_nil)))))) ds_nil)
    (ds_one (ds_ret (d_tup (da_cons (d_tup (da_cons (d_idx (d_var (i := 3)) d_int) (da_cons (d_idx (d_var (i := 3)) d_int) (da_cons (d_var (i := 4)) da_nil)))) (da_cons d_bl da_nil)))))))))))
theorem ok_rallied (Z : Facts K mg) : ∀ n : Nat, Callee P w K mg base "rallied" 3 (15 + n) (m_rallied n)
  | 0 => noD (ps := ["rule", "stand", "side"]) Z.fn_rallied Z.mg_rallied (fun _ _ _ _ _ _ us hl => match us, hl with | [_, _, _], _ => rfl)
  | n + 1 => st1_rallied Z n (ok_rallied Z n)
theorem sc_is_game : FnScope ["thing"] ["thing"] (defScope st_is_game) := ⟨rfl, rfl, rfl, by decide +kernel, rfl, by decide +kernel, by decide +kernel⟩
theorem ok_is_game (Z : Facts K mg) : Callee P w K mg base "is_game" 1 (17 + 1) m_is_game :=
  okD (ps := ["thing"]) (k := 17) Z.fn_is_game sc_is_game Z.mg_is_game (fun _ _ _ _ _ _ us hl => match us, hl with | [_], _ => rfl) (fun cdv A outer s H E C => ((ds_cons (ds_if (PW.pt (dt_or (dt_not (dt_tru (d_isi (U := "tuple") rfl Z.no_isinstance rfl Z.no_tuple boot_tuple (d_var (i := 0))))) (dt_or1 (dt_cmp (o_ne C.hu) (d_callB c_len rfl Z.no_len boot_len (da_cons (d_var (i := 0)) da_nil)) d_int (nomark _))))) (ds_one (ds_ret d_bl)) ds_nil)
    (ds_cons (ds_if (dt_cmp (o_eq C.hu) (d_idx (d_var (i := 0)) d_int) d_str (nomark _)) (ds_one (ds_ret (d_call C (ok_is_rule Z) (by omega) (da_cons (d_idx (d_var (i := 0)) d_int) da_nil)))) ds_nil)
    (ds_cons (ds_if (dt_cmp (o_eq C.hu) (d_idx (d_var (i := 0)) d_int) d_str (nomark _)) (ds_one (ds_ret (d_call C (ok_is_down Z) (by omega) (da_cons (d_idx (d_var (i := 0)) d_int) da_nil)))) ds_nil)
    (ds_one (ds_ret (d_and (d_cmp (o_eq C.hu) (d_idx (d_var (i := 0)) d_int) d_str (nomark _)) (d_one (d_call C (ok_is_lane Z) (by omega) (da_cons (d_idx (d_var (i := 0)) d_int) da_nil)))))))))))
theorem sc_first : FnScope ["game"] ["game"] (defScope st_first) := ⟨rfl, rfl, rfl, by decide +kernel, rfl, by decide +kernel, by decide +kernel⟩
theorem ok_first (Z : Facts K mg) : Callee P w K mg base "first" 1 (15 + 1) m_first :=
  okD (ps := ["game"]) (k := 15) Z.fn_first sc_first Z.mg_first (fun _ _ _ _ _ _ us hl => match us, hl with | [_], _ => rfl) (fun cdv A outer s H E C => ((ds_cons (ds_if (dt_cmp (o_eq C.hu) (d_idx (d_var (i := 0)) d_int) d_str (nomark _)) (ds_one (ds_ret (d_tup (da_cons (d_call C (ok_begun Z 14) (by omega) (da_cons (d_idx (d_var (i := 0)) d_int) da_nil)) (da_cons d_non da_nil))))) ds_nil)
    (ds_cons (ds_if (dt_cmp (o_eq C.hu) (d_idx (d_var (i := 0)) d_int) d_str (nomark _)) (ds_one (ds_ret (d_tup (da_cons (d_call C (ok_down_begun Z) (by omega) (da_cons (d_idx (d_var (i := 0)) d_int) da_nil)) (da_cons d_non da_nil))))) ds_nil)
    (ds_one (ds_ret (d_tup (da_cons (d_call C (ok_lane_begun Z) (by omega) (da_cons (d_idx (d_var (i := 0)) d_int) da_nil)) (da_cons d_non da_nil)))))))))
theorem sc_deeds_at : FnScope ["game", "stand", "rows", "side", "throw"] ["game", "stand"] (defScope st_deeds_at) := ⟨rfl, rfl, rfl, by decide +kernel, rfl, by decide +kernel, by decide +kernel⟩
theorem ok_deeds_at (Z : Facts K mg) : Callee P w K mg base "deeds_at" 2 (0 + 1) m_deeds_at :=
  okD (ps := ["game", "stand"]) (k := 0) Z.fn_deeds_at sc_deeds_at Z.mg_deeds_at (fun _ _ _ _ _ _ us hl => match us, hl with | [_, _], _ => rfl) (fun cdv A outer s H E C => ((ds_cons (ds_if (dt_cmp o_isNot (d_idx (d_var (i := 1)) d_int) d_non (nomark _)) (ds_one (ds_ret (d_lst da_nil))) ds_nil)
    (ds_cons (ds_if (dt_cmp (o_eq C.hu) (d_idx (d_var (i := 0)) d_int) d_str (nomark _)) (ds_one (ds_ret (d_lst (da_cons d_int (da_cons d_int da_nil))))) ds_nil)
    (ds_cons (ds_if (dt_cmp (o_eq C.hu) (d_idx (d_var (i := 0)) d_int) d_str (nomark _)) (ds_one (ds_ret (d_comp (i := 4) C (di_any (d_idx (d_idx (d_var (i := 0)) d_int) d_int)) (blkOk_by (by kernel_rfl)) (fun _ _ _ _ _ => pg_name (i := 4) C.nd rfl (Or.inl rfl)) (fun _ _ _ _ _ C1 => dts_nil) (fun _ _ _ _ _ C1 => (d_idx (d_var (i := 4)) d_int))))) ds_nil)
    (ds_cons (ds_asg (d_idx (d_var (i := 1)) d_int) (dg_tup (pg_tup C.calm (pgs_cons (pg_name (i := 2) C.nd rfl (by first | exact .inl rfl | exact .inr rfl)) (pgs_cons (pg_name (i := 3) C.nd rfl (by first | exact .inl rfl | exact .inr rfl)) pgs_nil)))))
    (ds_one (ds_ret (d_lstRg1 C.calm Z.no_range Z.no_list (d_bin o_add (d_idx (d_idx (d_var (i := 2)) (d_var (i := 3))) d_int) d_int))))))))))
theorem sc_rally_played : FnScope ["rule", "stand", "deed", "found", "won"] ["rule", "stand", "deed"] (defScope st_rally_played) := ⟨rfl, rfl, rfl, by decide +kernel, rfl, by decide +kernel, by decide +kernel⟩
theorem ok_rally_played (Z : Facts K mg) : Callee P w K mg base "rally_played" 3 (29 + 1) m_rally_played :=
  okD (ps := ["rule", "stand", "deed"]) (k := 29) Z.fn_rally_played sc_rally_played Z.mg_rally_played (fun _ _ _ _ _ _ us hl => match us, hl with | [_, _, _], _ => rfl) (fun cdv A outer s H E C => ((ds_cons (ds_if (dt_not (dt_tru (d_call C (ok_is_between Z) (by omega) (da_cons (d_var (i := 2)) (da_cons d_int (da_cons d_int da_nil)))))) (ds_one (ds_raise C Z.ex_NoSide)) ds_nil)
    (ds_cons (ds_asg (d_call C (ok_rallied Z 14) (by omega) (da_cons (d_var (i := 0)) (da_cons (d_var (i := 1)) (da_cons (d_var (i := 2)) da_nil)))) (dg_tup (pg_tup C.calm (pgs_cons (pg_name (i := 3) C.nd rfl (by first | exact .inl rfl | exact .inr rfl)) (pgs_cons (pg_name (i := 4) C.nd rfl (by first | exact .inl rfl | exact .inr rfl)) pgs_nil)))))
    (ds_cons (ds_if (dt_tru (d_var (i := 4))) (ds_one (ds_ret (d_tup (da_cons (d_var (i := 3)) (da_cons (d_tup (da_cons (d_var (i := 2)) da_nil)) da_nil))))) ds_nil)
    (ds_one (ds_ret (d_tup (da_cons (d_var (i := 3)) (da_cons d_non da_nil))))))))))
theorem sc_down_played : FnScope ["down", "stand", "deed", "found", "won"] ["down", "stand", "deed"] (defScope st_down_played) := ⟨rfl, rfl, rfl, by decide +kernel, rfl, by decide +kernel, by decide +kernel⟩
theorem ok_down_played (Z : Facts K mg) : Callee P w K mg base "down_played" 3 (2 + 1) m_down_played :=
  okD (ps := ["down", "stand", "deed"]) (k := 2) Z.fn_down_played sc_down_played Z.mg_down_played (fun _ _ _ _ _ _ us hl => match us, hl with | [_, _, _], _ => rfl) (fun cdv A outer s H E C => ((ds_cons (ds_asg (d_call C (ok_down_thrown Z) (by omega) (da_cons (d_var (i := 0)) (da_cons (d_var (i := 1)) (da_cons (d_var (i := 2)) da_nil)))) (dg_tup (pg_tup C.calm (pgs_cons (pg_name (i := 3) C.nd rfl (by first | exact .inl rfl | exact .inr rfl)) (pgs_cons (pg_name (i := 4) C.nd rfl (by first | exact .inl rfl | exact .inr rfl)) pgs_nil)))))
    (ds_cons (ds_if (dt_tru (d_var (i := 4))) (ds_one (ds_ret (d_tup (da_cons (d_var (i := 3)) (da_cons (d_tup (da_cons (d_idx (d_var (i := 3)) d_int) da_nil)) da_nil))))) ds_nil)
    (ds_one (ds_ret (d_tup (da_cons (d_var (i := 3)) (da_cons d_non da_nil)))))))))
theorem sc_lane_played : FnScope ["lane", "stand", "deed", "found", "over"] ["lane", "stand", "deed"] (defScope st_lane_played) := ⟨rfl, rfl, rfl, by decide +kernel, rfl, by decide +kernel, by decide +kernel⟩
theorem ok_lane_played (Z : Facts K mg) : Callee P w K mg base "lane_played" 3 (3 + 1) m_lane_played :=
  okD (ps := ["lane", "stand", "deed"]) (k := 3) Z.fn_lane_played sc_lane_played Z.mg_lane_played (fun _ _ _ _ _ _ us hl => match us, hl with | [_, _, _], _ => rfl) (fun cdv A outer s H E C => ((ds_cons (ds_asg (d_call C (ok_lane_bowled Z) (by omega) (da_cons (d_var (i := 0)) (da_cons (d_var (i := 1)) (da_cons (d_var (i := 2)) da_nil)))) (dg_tup (pg_tup C.calm (pgs_cons (pg_name (i := 3) C.nd rfl (by first | exact .inl rfl | exact .inr rfl)) (pgs_cons (pg_name (i := 4) C.nd rfl (by first | exact .inl rfl | exact .inr rfl)) pgs_nil)))))
    (ds_cons (ds_if (dt_tru (d_var (i := 4))) (ds_one (ds_ret (d_tup (da_cons (d_var (i := 3)) (da_cons (d_call C (ok_best_of Z) (by omega) (da_cons (d_var (i := 3)) da_nil)) da_nil))))) ds_nil)
    (ds_one (ds_ret (d_tup (da_cons (d_var (i := 3)) (da_cons d_non da_nil)))))))))
theorem sc_played : FnScope ["game", "stand", "deed"] ["game", "stand", "deed"] (defScope st_played) := ⟨rfl, rfl, rfl, by decide +kernel, rfl, by decide +kernel, by decide +kernel⟩
theorem ok_played (Z : Facts K mg) : Callee P w K mg base "played" 3 (30 + 1) m_played :=
  okD (ps := ["game", "stand", "deed"]) (k := 30) Z.fn_played sc_played Z.mg_played (fun _ _ _ _ _ _ us hl => match us, hl with | [_, _, _], _ => rfl) (fun cdv A outer s H E C => ((ds_cons (ds_if (dt_cmp o_isNot (d_idx (d_var (i := 1)) d_int) d_non (nomark _)) (ds_one (ds_raise C Z.ex_Over)) ds_nil)
    (ds_cons (ds_if (dt_cmp (o_eq C.hu) (d_idx (d_var (i := 0)) d_int) d_str (nomark _)) (ds_one (ds_ret (d_call C (ok_rally_played Z) (by omega) (da_cons (d_idx (d_var (i := 0)) d_int) (da_cons (d_idx (d_var (i := 1)) d_int) (da_cons (d_var (i := 2)) da_nil)))))) ds_nil)
    (ds_cons (ds_if (dt_cmp (o_eq C.hu) (d_idx (d_var (i := 0)) d_int) d_str (nomark _)) (ds_one (ds_ret (d_call C (ok_down_played Z) (by omega) (da_cons (d_idx (d_var (i := 0)) d_int) (da_cons (d_idx (d_var (i := 1)) d_int) (da_cons (d_var (i := 2)) da_nil)))))) ds_nil)
    (ds_one (ds_ret (d_call C (ok_lane_played Z) (by omega) (da_cons (d_idx (d_var (i := 0)) d_int) (da_cons (d_idx (d_var (i := 1)) d_int) (da_cons (d_var (i := 2)) da_nil)))))))))))
theorem sc_stakes : FnScope ["rule", "stand", "side", "many"] ["rule", "stand", "side"] (defScope st_stakes) := ⟨rfl, rfl, rfl, by decide +kernel, rfl, by decide +kernel, by decide +kernel⟩
theorem st1_stakes (Z : Facts K mg) (n : Nat) {r_stakes : Fn} (R_stakes : Callee P w K mg base "stakes" 3 (29 + n) r_stakes) : Callee P w K mg base "stakes" 3 (29 + n + 1) (fnD 3 4 (b_stakes r_stakes)) :=
  okD (ps := ["rule", "stand", "side"]) (k := 29 + n) Z.fn_stakes sc_stakes Z.mg_stakes (fun _ _ _ _ _ _ us hl => match us, hl with | [_, _, _], _ => rfl) (fun cdv A outer s H E C => ((ds_cons (ds_if (dt_cmp (o_eq C.hu) (d_var (i := 0)) (d_glob Z.gl_POINT) (nomark _)) (ds_one (ds_ret d_int)) ds_nil)
    (ds_cons (ds_set (i := 3) C.nd (d_call C R_stakes (by omega) (da_cons (d_call C (ok_rule_within Z) (by omega) (da_cons (d_var (i := 0)) (da_cons (d_idx (d_var (i := 1)) d_int) (da_cons (d_idx (d_var (i := 1)) d_int) da_nil)))) (da_cons (d_idx (d_var (i := 1)) d_int) (da_cons (d_var (i := 2)) da_nil)))))
    (ds_cons (ds_if (dt_tru (d_idx (d_call C (ok_rallied Z 14) (by omega) (da_cons (d_var (i := 0)) (da_cons (d_var (i := 1)) (da_cons (d_var (i := 2)) da_nil)))) d_int)) (ds_one (ds_ret (d_bin o_add (d_var (i := 3)) d_int))) ds_nil)
    (ds_one (ds_ret (d_var (i := 3)))))))))
theorem ok_stakes (Z : Facts K mg) : ∀ n : Nat, Callee P w K mg base "stakes" 3 (29 + n) (m_stakes n)
  | 0 => noD (ps := ["rule", "stand", "side"]) Z.fn_stakes Z.mg_stakes (fun _ _ _ _ _ _ us hl => match us, hl with | [_, _, _], _ => rfl)
  | n + 1 => st1_stakes Z n (ok_stakes Z n)
theorem sc_stands_of : FnScope ["game", "row", "stands", "number", "deed", "e"] ["game", "row"] (defScope st_stands_of) := ⟨rfl, rfl, rfl, by decide +kernel, rfl, by decide +kernel, by decide +kernel⟩
theorem ok_stands_of (Z : Facts K mg) : Callee P w K mg base "stands_of" 2 (31 + 1) m_stands_of :=
  okD (ps := ["game", "row"]) (k := 31) Z.fn_stands_of sc_stands_of Z.mg_stands_of (fun _ _ _ _ _ _ us hl => match us, hl with | [_, _], _ => rfl) (fun cdv A outer s H E C => ((ds_cons (ds_set (i := 2) C.nd (d_lst (da_cons (d_call C (ok_first Z) (by omega) (da_cons (d_var (i := 0)) da_nil)) da_nil)))
    (ds_cons (ds_for C (di_enum Z.no_enumerate (d_var (i := 1))) (dg_tup (pg_tup C.calm (pgs_cons (pg_name (i := 3) C.nd rfl (by first | exact .inl rfl | exact .inr rfl)) (pgs_cons (pg_name (i := 4) C.nd rfl (by first | exact .inl rfl | exact .inr rfl)) pgs_nil)))) (ds_one (ds_try C (fun _ _ _ Ct => ((ds_one (ds_expr (d_meth PySem.F.plainAttrs_list PySem.F.slot_list_append PySem.F.type_list_append m_append (d_var (i := 2)) (da_cons (d_call Ct (ok_played Z) (by omega) (da_cons (d_var (i := 0)) (da_cons (d_idx (d_var (i := 2)) (d_var (i := 3))) (da_cons (d_var (i := 4)) da_nil)))) da_nil)))))) (.as (i := 5) rfl (by decide) Z.mc_ScoreError (Z.exsub.of (by decide +kernel)) rfl rfl (fun a pn => ((ds_one ds_stk))) .nil))))
    (ds_one (ds_ret (d_var (i := 2))))))))
theorem sc_Book_new : FnScope ["self", "game"] ["self", "game"] (defScope st_Book_new) := ⟨rfl, rfl, rfl, by decide +kernel, rfl, by decide +kernel, by decide +kernel⟩
theorem ok_Book_new (Z : Facts K mg) : CalleeM P w K mg base "Book" "__init__" 2 (18 + 1) [] m_Book_new :=
  okM (ps := ["self", "game"]) (k := 18) Z.fn_Book_new sc_Book_new Z.cls_Book Z.meth_Book_new (fun _ _ _ _ _ _ us hl => match us, hl with | [_, _], _ => rfl) (fun cdv A outer s H E C => ((ds_cons (ds_if (dt_not (dt_tru (d_call C (ok_is_game Z) (by omega) (da_cons (d_var (i := 1)) da_nil)))) (ds_one (ds_raise C Z.ex_NoGame)) ds_nil)
    (ds_cons (ds_fld ⟨Z.cls_Book, Z.noat_Book_kept_game⟩ (d_var (i := 0)) (d_var (i := 1)))
    (ds_cons (ds_fld ⟨Z.cls_Book, Z.noat_Book_kept_deeds⟩ (d_var (i := 0)) (d_lst da_nil))
    (ds_one (ds_fld ⟨Z.cls_Book, Z.noat_Book_kept_stands⟩ (d_var (i := 0)) (d_lst (da_cons (d_call C (ok_first Z) (by omega) (da_cons (d_var (i := 1)) da_nil)) da_nil)))))))))
theorem sc_Book_add : FnScope ["self", "deed"] ["self", "deed"] (defScope st_Book_add) := ⟨rfl, rfl, rfl, by decide +kernel, rfl, by decide +kernel, by decide +kernel⟩
theorem ok_Book_add (Z : Facts K mg) : CalleeM P w K mg base "Book" "add" 2 (31 + 1) [] m_Book_add :=
  okM (ps := ["self", "deed"]) (k := 31) Z.fn_Book_add sc_Book_add Z.cls_Book Z.meth_Book_add (fun _ _ _ _ _ _ us hl => match us, hl with | [_, _], _ => rfl) (fun cdv A outer s H E C => ((ds_cons (ds_expr (d_meth PySem.F.plainAttrs_list PySem.F.slot_list_append PySem.F.type_list_append m_append (d_fld ⟨Z.cls_Book, Z.noat_Book_kept_stands⟩ (d_var (i := 0))) (da_cons (d_call C (ok_played Z) (by omega) (da_cons (d_fld ⟨Z.cls_Book, Z.noat_Book_kept_game⟩ (d_var (i := 0))) (da_cons (d_idx (d_fld ⟨Z.cls_Book, Z.noat_Book_kept_stands⟩ (d_var (i := 0))) (d_un o_neg d_int)) (da_cons (d_var (i := 1)) da_nil)))) da_nil)))
    (ds_cons (ds_expr (d_meth PySem.F.plainAttrs_list PySem.F.slot_list_append PySem.F.type_list_append m_append (d_fld ⟨Z.cls_Book, Z.noat_Book_kept_deeds⟩ (d_var (i := 0))) (da_cons (d_var (i := 1)) da_nil)))
    (ds_one (ds_ret (d_callB c_len rfl Z.no_len boot_len (da_cons (d_fld ⟨Z.cls_Book, Z.noat_Book_kept_deeds⟩ (d_var (i := 0))) da_nil))))))))
theorem sc_Book_back : FnScope ["self"] ["self"] (defScope st_Book_back) := ⟨rfl, rfl, rfl, by decide +kernel, rfl, by decide +kernel, by decide +kernel⟩
theorem ok_Book_back (Z : Facts K mg) : CalleeM P w K mg base "Book" "back" 1 (0 + 1) [] m_Book_back :=
  okM (ps := ["self"]) (k := 0) Z.fn_Book_back sc_Book_back Z.cls_Book Z.meth_Book_back (fun _ _ _ _ _ _ us hl => match us, hl with | [_], _ => rfl) (fun cdv A outer s H E C => ((ds_cons (ds_if (dt_cmp (o_eq C.hu) (d_callB c_len rfl Z.no_len boot_len (da_cons (d_fld ⟨Z.cls_Book, Z.noat_Book_kept_deeds⟩ (d_var (i := 0))) da_nil)) d_int (nomark _)) (ds_one (ds_raise C Z.ex_NoDeed)) ds_nil)
    (ds_cons (ds_expr (d_meth0 PySem.F.plainAttrs_list PySem.F.slot_list_pop PySem.F.type_list_pop m_pop (d_fld ⟨Z.cls_Book, Z.noat_Book_kept_stands⟩ (d_var (i := 0)))))
    (ds_one (ds_ret (d_meth0 PySem.F.plainAttrs_list PySem.F.slot_list_pop PySem.F.type_list_pop m_pop (d_fld ⟨Z.cls_Book, Z.noat_Book_kept_deeds⟩ (d_var (i := 0))))))))))
theorem sc_Book_hold_number : FnScope ["self", "number", "most"] ["self", "number", "most"] (defScope st_Book_hold_number) := ⟨rfl, rfl, rfl, by decide +kernel, rfl, by decide +kernel, by decide +kernel⟩
theorem ok_Book_hold_number (Z : Facts K mg) : CalleeM P w K mg base "Book" "hold_number" 3 (0 + 1) [] m_Book_hold_number :=
  okM (ps := ["self", "number", "most"]) (k := 0) Z.fn_Book_hold_number sc_Book_hold_number Z.cls_Book Z.meth_Book_hold_number (fun _ _ _ _ _ _ us hl => match us, hl with | [_, _, _], _ => rfl) (fun cdv A outer s H E C => ((ds_one (ds_if (PW.pt (dt_or (dt_cmp o_lt (d_var (i := 1)) d_int (nomark _)) (dt_or1 (dt_cmp o_gt (d_var (i := 1)) (d_var (i := 2)) (nomark _))))) (ds_one (ds_raise C Z.ex_NoDeed)) ds_nil))))
theorem sc_Book_written_anew : FnScope ["self", "row"] ["self", "row"] (defScope st_Book_written_anew) := ⟨rfl, rfl, rfl, by decide +kernel, rfl, by decide +kernel, by decide +kernel⟩
theorem ok_Book_written_anew (Z : Facts K mg) : CalleeM P w K mg base "Book" "written_anew" 2 (32 + 1) [] m_Book_written_anew :=
  okM (ps := ["self", "row"]) (k := 32) Z.fn_Book_written_anew sc_Book_written_anew Z.cls_Book Z.meth_Book_written_anew (fun _ _ _ _ _ _ us hl => match us, hl with | [_, _], _ => rfl) (fun cdv A outer s H E C => ((ds_cons (ds_fld ⟨Z.cls_Book, Z.noat_Book_kept_stands⟩ (d_var (i := 0)) (d_call C (ok_stands_of Z) (by omega) (da_cons (d_fld ⟨Z.cls_Book, Z.noat_Book_kept_game⟩ (d_var (i := 0))) (da_cons (d_var (i := 1)) da_nil))))
    (ds_one (ds_fld ⟨Z.cls_Book, Z.noat_Book_kept_deeds⟩ (d_var (i := 0)) (d_var (i := 1)))))))
theorem sc_Book_put_right : FnScope ["self", "number", "deed"] ["self", "number", "deed"] (defScope st_Book_put_right) := ⟨rfl, rfl, rfl, by decide +kernel, rfl, by decide +kernel, by decide +kernel⟩
theorem ok_Book_put_right (Z : Facts K mg) : CalleeM P w K mg base "Book" "put_right" 3 (33 + 1) [] m_Book_put_right :=
  okM (ps := ["self", "number", "deed"]) (k := 33) Z.fn_Book_put_right sc_Book_put_right Z.cls_Book Z.meth_Book_put_right (fun _ _ _ _ _ _ us hl => match us, hl with | [_, _, _], _ => rfl) (fun cdv A outer s H E C => ((ds_cons (ds_expr (d_meM C (ok_Book_hold_number Z) (by omega) (d_var (i := 0)) (da_cons (d_var (i := 1)) (da_cons (d_callB c_len rfl Z.no_len boot_len (da_cons (d_fld ⟨Z.cls_Book, Z.noat_Book_kept_deeds⟩ (d_var (i := 0))) da_nil)) da_nil))))
    (ds_one (ds_expr (d_meM C (ok_Book_written_anew Z) (by omega) (d_var (i := 0)) (da_cons (d_bin o_add (d_bin o_add (d_sl (d_fld ⟨Z.cls_Book, Z.noat_Book_kept_deeds⟩ (d_var (i := 0))) do_none (do_some (d_bin o_sub (d_var (i := 1)) d_int))) (d_lst (da_cons (d_var (i := 2)) da_nil))) (d_sl (d_fld ⟨Z.cls_Book, Z.noat_Book_kept_deeds⟩ (d_var (i := 0))) (do_some (d_var (i := 1))) do_none)) da_nil)))))))
theorem sc_Book_put_in : FnScope ["self", "number", "deed"] ["self", "number", "deed"] (defScope st_Book_put_in) := ⟨rfl, rfl, rfl, by decide +kernel, rfl, by decide +kernel, by decide +kernel⟩
theorem ok_Book_put_in (Z : Facts K mg) : CalleeM P w K mg base "Book" "put_in" 3 (33 + 1) [] m_Book_put_in :=
  okM (ps := ["self", "number", "deed"]) (k := 33) Z.fn_Book_put_in sc_Book_put_in Z.cls_Book Z.meth_Book_put_in (fun _ _ _ _ _ _ us hl => match us, hl with | [_, _, _], _ => rfl) (fun cdv A outer s H E C => ((ds_cons (ds_expr (d_meM C (ok_Book_hold_number Z) (by omega) (d_var (i := 0)) (da_cons (d_var (i := 1)) (da_cons (d_bin o_add (d_callB c_len rfl Z.no_len boot_len (da_cons (d_fld ⟨Z.cls_Book, Z.noat_Book_kept_deeds⟩ (d_var (i := 0))) da_nil)) d_int) da_nil))))
    (ds_one (ds_expr (d_meM C (ok_Book_written_anew Z) (by omega) (d_var (i := 0)) (da_cons (d_bin o_add (d_bin o_add (d_sl (d_fld ⟨Z.cls_Book, Z.noat_Book_kept_deeds⟩ (d_var (i := 0))) do_none (do_some (d_bin o_sub (d_var (i := 1)) d_int))) (d_lst (da_cons (d_var (i := 2)) da_nil))) (d_sl (d_fld ⟨Z.cls_Book, Z.noat_Book_kept_deeds⟩ (d_var (i := 0))) (do_some (d_bin o_sub (d_var (i := 1)) d_int)) do_none)) da_nil)))))))
theorem sc_Book_leave_out : FnScope ["self", "number"] ["self", "number"] (defScope st_Book_leave_out) := ⟨rfl, rfl, rfl, by decide +kernel, rfl, by decide +kernel, by decide +kernel⟩
theorem ok_Book_leave_out (Z : Facts K mg) : CalleeM P w K mg base "Book" "leave_out" 2 (33 + 1) [] m_Book_leave_out :=
  okM (ps := ["self", "number"]) (k := 33) Z.fn_Book_leave_out sc_Book_leave_out Z.cls_Book Z.meth_Book_leave_out (fun _ _ _ _ _ _ us hl => match us, hl with | [_, _], _ => rfl) (fun cdv A outer s H E C => ((ds_cons (ds_expr (d_meM C (ok_Book_hold_number Z) (by omega) (d_var (i := 0)) (da_cons (d_var (i := 1)) (da_cons (d_callB c_len rfl Z.no_len boot_len (da_cons (d_fld ⟨Z.cls_Book, Z.noat_Book_kept_deeds⟩ (d_var (i := 0))) da_nil)) da_nil))))
    (ds_one (ds_expr (d_meM C (ok_Book_written_anew Z) (by omega) (d_var (i := 0)) (da_cons (d_bin o_add (d_sl (d_fld ⟨Z.cls_Book, Z.noat_Book_kept_deeds⟩ (d_var (i := 0))) do_none (do_some (d_bin o_sub (d_var (i := 1)) d_int))) (d_sl (d_fld ⟨Z.cls_Book, Z.noat_Book_kept_deeds⟩ (d_var (i := 0))) (do_some (d_var (i := 1))) do_none)) da_nil)))))))
theorem sc_Book_stand : FnScope ["self", "number"] ["self", "number"] (defScope st_Book_stand) := ⟨rfl, rfl, rfl, by decide +kernel, rfl, by decide +kernel, by decide +kernel⟩
theorem okp_Book_stand (Z : Facts K mg) : CalleeM P w K mg base "Book" "stand" 2 (0 + 1) [.non] m_Book_stand ∧ CalleeM P w K mg base "Book" "stand" 2 (0 + 1) [] m_Book_stand :=
  okMd (ps := ["self", "number"]) (k := 0) (fun _ _ => .non) Z.fn_Book_stand sc_Book_stand Z.cls_Book Z.meth_Book_stand 1 rfl (fun _ _ _ _ _ _ _ us its h1 h2 => match us, its, h1, h2 with | [_], [_], _, _ => ⟨_, rfl, rfl⟩) (fun _ _ _ _ _ _ _ us its h1 h2 => match us, its, h1, h2 with | [_, _], [_], _, _ => ⟨_, rfl, rfl⟩) (fun cdv A outer s H E C => ((ds_cons (ds_if (dt_cmp o_is (d_var (i := 1)) d_non (nomark _)) (ds_one (ds_ret (d_idx (d_fld ⟨Z.cls_Book, Z.noat_Book_kept_stands⟩ (d_var (i := 0))) (d_un o_neg d_int)))) ds_nil)
    (ds_cons (ds_if (PW.pt (dt_or (dt_cmp o_lt (d_var (i := 1)) d_int (nomark _)) (dt_or1 (dt_cmp o_gt (d_var (i := 1)) (d_callB c_len rfl Z.no_len boot_len (da_cons (d_fld ⟨Z.cls_Book, Z.noat_Book_kept_deeds⟩ (d_var (i := 0))) da_nil)) (nomark _))))) (ds_one (ds_raise C Z.ex_NoDeed)) ds_nil)
    (ds_one (ds_ret (d_idx (d_fld ⟨Z.cls_Book, Z.noat_Book_kept_stands⟩ (d_var (i := 0))) (d_var (i := 1)))))))))
theorem okd_Book_stand (Z : Facts K mg) : CalleeM P w K mg base "Book" "stand" 2 (0 + 1) [.non] m_Book_stand := (okp_Book_stand Z).1
theorem ok_Book_stand (Z : Facts K mg) : CalleeM P w K mg base "Book" "stand" 2 (0 + 1) [] m_Book_stand := (okp_Book_stand Z).2
theorem sc_Book_units : FnScope ["self", "found", "number", "deed", "many"] ["self"] (defScope st_Book_units) := ⟨rfl, rfl, rfl, by decide +kernel, rfl, by decide +kernel, by decide +kernel⟩
theorem ok_Book_units (Z : Facts K mg) : CalleeM P w K mg base "Book" "units" 1 (43 + 1) [] m_Book_units :=
  okM (ps := ["self"]) (k := 43) Z.fn_Book_units sc_Book_units Z.cls_Book Z.meth_Book_units (fun _ _ _ _ _ _ us hl => match us, hl with | [_], _ => rfl) (fun cdv A outer s H E C => ((ds_cons (ds_set (i := 1) C.nd (d_lst da_nil))
    (ds_cons (ds_if (dt_cmp (o_ne C.hu) (d_idx (d_fld ⟨Z.cls_Book, Z.noat_Book_kept_game⟩ (d_var (i := 0))) d_int) d_str (nomark _)) (ds_one (ds_ret (d_var (i := 1)))) ds_nil)
    (ds_cons (ds_for C (di_enum Z.no_enumerate (d_fld ⟨Z.cls_Book, Z.noat_Book_kept_deeds⟩ (d_var (i := 0)))) (dg_tup (pg_tup C.calm (pgs_cons (pg_name (i := 2) C.nd rfl (by first | exact .inl rfl | exact .inr rfl)) (pgs_cons (pg_name (i := 3) C.nd rfl (by first | exact .inl rfl | exact .inr rfl)) pgs_nil)))) (ds_cons (ds_set (i := 4) C.nd (d_call C (ok_stakes Z 14) (by omega) (da_cons (d_idx (d_fld ⟨Z.cls_Book, Z.noat_Book_kept_game⟩ (d_var (i := 0))) d_int) (da_cons (d_idx (d_idx (d_fld ⟨Z.cls_Book, Z.noat_Book_kept_stands⟩ (d_var (i := 0))) (d_var (i := 2))) d_int) (da_cons (d_var (i := 3)) da_nil)))))
    (ds_one (ds_if (dt_cmp o_gt (d_var (i := 4)) d_int (nomark _)) (ds_one (ds_expr (d_meth PySem.F.plainAttrs_list PySem.F.slot_list_append PySem.F.type_list_append m_append (d_var (i := 1)) (da_cons (d_tup (da_cons (d_bin o_add (d_var (i := 2)) d_int) (da_cons (d_var (i := 3)) (da_cons (d_var (i := 4)) da_nil)))) da_nil)))) ds_nil))))
    (ds_one (ds_ret (d_var (i := 1)))))))))
theorem sc_l_cell_at : FnScope ["_law_script", "_law_k"] ["_law_script", "_law_k"] (defScope st_l_cell_at) := ⟨rfl, rfl, rfl, by decide +kernel, rfl, by decide +kernel, by decide +kernel⟩
theorem ok_l_cell_at (Z : Facts K mg) : Callee P w K mg base "_law_cell_at" 2 (0 + 1) m_l_cell_at :=
  okD (ps := ["_law_script", "_law_k"]) (k := 0) Z.fn_l_cell_at sc_l_cell_at Z.mg_l_cell_at (fun _ _ _ _ _ _ us hl => match us, hl with | [_, _], _ => rfl) (fun cdv A outer s H E C => ((ds_cons (ds_if (dt_cmp o_lt (d_var (i := 1)) (d_callB c_len rfl Z.no_len boot_len (da_cons (d_var (i := 0)) da_nil)) (nomark _)) (ds_one (ds_ret (d_idx (d_var (i := 0)) (d_var (i := 1))))) ds_nil)
    (ds_one (ds_ret d_int)))))
theorem sc_l_draws : FnScope ["_law_cell", "_law_many", "_law_found", "_law_number", "_law_k"] ["_law_cell", "_law_many"] (defScope st_l_draws) := ⟨rfl, rfl, rfl, by decide +kernel, rfl, by decide +kernel, by decide +kernel⟩
theorem ok_l_draws (Z : Facts K mg) : Callee P w K mg base "_law_draws" 2 (0 + 1) m_l_draws :=
  okD (ps := ["_law_cell", "_law_many"]) (k := 0) Z.fn_l_draws sc_l_draws Z.mg_l_draws (fun _ _ _ _ _ _ us hl => match us, hl with | [_, _], _ => rfl) (fun cdv A outer s H E C => ((ds_cons (ds_set (i := 2) C.nd (d_lst da_nil))
    (ds_cons (ds_if (dt_cmp (o_eq C.hu) (d_bin o_mod (d_var (i := 0)) d_int) d_int (nomark _)) (ds_cons (ds_set (i := 3) C.nd (d_bin o_fdiv (d_var (i := 0)) d_int))
    (ds_cons (ds_for C (di_range1 Z.no_range (d_var (i := 1))) (dg_name (i := 4) C.nd) (ds_cons (ds_expr (d_meth PySem.F.plainAttrs_list PySem.F.slot_list_append PySem.F.type_list_append m_append (d_var (i := 2)) (da_cons (d_bin o_mod (d_var (i := 3)) d_int) da_nil)))
    (ds_one (ds_set (i := 3) C.nd (d_bin o_fdiv (d_var (i := 3)) d_int)))))
    (ds_one (ds_ret (d_var (i := 2)))))) ds_nil)
    (ds_cons (ds_set (i := 3) C.nd (d_bin o_add (d_bin o_mod (d_bin o_fdiv (d_var (i := 0)) d_int) d_int) d_int))
    (ds_cons (ds_for C (di_range1 Z.no_range (d_bin o_add (d_var (i := 1)) d_int)) (dg_name (i := 4) C.nd) (ds_cons (ds_set (i := 3) C.nd (d_bin o_mod (d_bin o_add (d_bin o_add (d_bin o_mul (d_var (i := 3)) (d_var (i := 3))) (d_bin o_mul d_int (d_var (i := 3)))) (d_var (i := 4))) d_int))
    (ds_one (ds_expr (d_meth PySem.F.plainAttrs_list PySem.F.slot_list_append PySem.F.type_list_append m_append (d_var (i := 2)) (da_cons (d_bin o_mod (d_bin o_add (d_bin o_mul (d_var (i := 3)) d_int) (d_bin o_mul d_int (d_var (i := 4)))) d_int) da_nil))))))
    (ds_one (ds_ret (d_sl (d_var (i := 2)) (do_some d_int) do_none)))))))))
theorem sc_l_unit : FnScope ["_law_xs", "_law_at", "_law_level", "_law_levels", "_law_to", "_law_lead", "_law_cap", "_law_last"] ["_law_xs", "_law_at", "_law_level", "_law_levels"] (defScope st_l_unit) := ⟨rfl, rfl, rfl, by decide +kernel, rfl, by decide +kernel, by decide +kernel⟩
theorem st1_l_unit (Z : Facts K mg) (n : Nat) {r_l_unit : Fn} (R_l_unit : Callee P w K mg base "_law_unit" 4 (0 + n) r_l_unit) : Callee P w K mg base "_law_unit" 4 (0 + n + 1) (fnD 4 8 (b_l_unit r_l_unit)) :=
  okD (ps := ["_law_xs", "_law_at", "_law_level", "_law_levels"]) (k := 0 + n) Z.fn_l_unit sc_l_unit Z.mg_l_unit (fun _ _ _ _ _ _ us hl => match us, hl with | [_, _, _, _], _ => rfl) (fun cdv A outer s H E C => ((ds_cons (ds_if (PW.pt (dt_or (dt_cmp (o_eq C.hu) (d_var (i := 2)) (d_var (i := 3)) (nomark _)) (dt_or1 (PW.pt (dt_and (dt_cmp o_gt (d_var (i := 1)) d_int (nomark _)) (dt_and1 (dt_cmp (o_eq C.hu) (d_bin o_mod (d_idx (d_var (i := 0)) (d_bin o_mul d_int (d_var (i := 1)))) d_int) d_int (nomark _)))))))) (ds_one (ds_ret (d_tup (da_cons d_str da_nil)))) ds_nil)
    (ds_cons (ds_set (i := 4) C.nd (d_bin o_add d_int (d_bin o_mod (d_idx (d_var (i := 0)) (d_bin o_add (d_bin o_mul d_int (d_var (i := 1))) d_int)) (d_idx (d_lst (da_cons d_int (da_cons d_int (da_cons d_int da_nil)))) (d_bin o_mod (d_bin o_fdiv (d_idx (d_var (i := 0)) (d_bin o_add (d_bin o_mul d_int (d_var (i := 1))) d_int)) d_int) d_int)))))
    (ds_cons (ds_set (i := 5) C.nd (d_bin o_add d_int (d_bin o_mod (d_idx (d_var (i := 0)) (d_bin o_add (d_bin o_mul d_int (d_var (i := 1))) d_int)) (d_idx (d_lst (da_cons d_int (da_cons d_int (da_cons d_int da_nil)))) (d_bin o_mod (d_bin o_fdiv (d_idx (d_var (i := 0)) (d_bin o_add (d_bin o_mul d_int (d_var (i := 1))) d_int)) d_int) d_int)))))
    (ds_cons (ds_set (i := 6) C.nd d_non)
    (ds_cons (ds_set (i := 7) C.nd d_non)
    (ds_cons (ds_if (dt_cmp (o_eq C.hu) (d_bin o_mod (d_idx (d_var (i := 0)) (d_bin o_add (d_bin o_mul d_int (d_var (i := 1))) d_int)) d_int) d_int (nomark _)) (ds_cons (ds_set (i := 6) C.nd (d_callB (c_min2 C.calm) rfl Z.no_min boot_min (da_cons d_int (da_cons (d_bin o_add (d_var (i := 4)) (d_bin o_mod (d_bin o_fdiv (d_idx (d_var (i := 0)) (d_bin o_add (d_bin o_mul d_int (d_var (i := 1))) d_int)) d_int) d_int)) da_nil))))
    (ds_one (ds_if (PW.pt (dt_and (dt_cmp (o_eq C.hu) (d_bin o_mod (d_bin o_fdiv (d_idx (d_var (i := 0)) (d_bin o_add (d_bin o_mul d_int (d_var (i := 1))) d_int)) d_int) d_int) d_int (nomark _)) (dt_and1 (dt_cmp o_lt (d_var (i := 3)) d_int (nomark _))))) (ds_one (ds_set (i := 7) C.nd (d_call C R_l_unit (by omega) (da_cons (d_var (i := 0)) (da_cons (d_bin o_add (d_bin o_mul d_int (d_var (i := 1))) d_int) (da_cons (d_bin o_add (d_var (i := 2)) d_int) (da_cons (d_var (i := 3)) da_nil))))))) ds_nil))) ds_nil)
    (ds_one (ds_ret (d_tup (da_cons d_str (da_cons (d_var (i := 4)) (da_cons (d_var (i := 5)) (da_cons (d_var (i := 6)) (da_cons (d_call C R_l_unit (by omega) (da_cons (d_var (i := 0)) (da_cons (d_bin o_add (d_bin o_mul d_int (d_var (i := 1))) d_int) (da_cons (d_bin o_add (d_var (i := 2)) d_int) (da_cons (d_var (i := 3)) da_nil))))) (da_cons (d_var (i := 7)) da_nil)))))))))))))))))
theorem ok_l_unit (Z : Facts K mg) : ∀ n : Nat, Callee P w K mg base "_law_unit" 4 (0 + n) (m_l_unit n)
  | 0 => noD (ps := ["_law_xs", "_law_at", "_law_level", "_law_levels"]) Z.fn_l_unit Z.mg_l_unit (fun _ _ _ _ _ _ us hl => match us, hl with | [_, _, _, _], _ => rfl)
  | n + 1 => st1_l_unit Z n (ok_l_unit Z n)
theorem sc_l_throws : FnScope ["_law_xs", "_law_some", "_law_names", "_law_throws_here", "_law_k"] ["_law_xs"] (defScope st_l_throws) := ⟨rfl, rfl, rfl, by decide +kernel, rfl, by decide +kernel, by decide +kernel⟩
theorem ok_l_throws (Z : Facts K mg) : Callee P w K mg base "_law_throws" 1 (0 + 1) m_l_throws :=
  okD (ps := ["_law_xs"]) (k := 0) Z.fn_l_throws sc_l_throws Z.mg_l_throws (fun _ _ _ _ _ _ us hl => match us, hl with | [_], _ => rfl) (fun cdv A outer s H E C => ((ds_cons (ds_set (i := 1) C.nd (d_lst (da_cons (d_lst (da_cons d_str (da_cons d_str (da_cons d_str (da_cons d_str (da_cons d_str da_nil)))))) (da_cons (d_lst (da_cons d_str (da_cons d_str (da_cons d_str (da_cons d_str (da_cons d_str da_nil)))))) (da_cons (d_lst (da_cons d_str (da_cons d_str (da_cons d_str (da_cons d_str (da_cons d_str da_nil)))))) da_nil)))))
    (ds_cons (ds_set (i := 2) C.nd (d_idx (d_var (i := 1)) (d_bin o_mod (d_idx (d_var (i := 0)) d_int) d_int)))
    (ds_cons (ds_set (i := 3) C.nd (d_lst da_nil))
    (ds_cons (ds_for C (di_range1 Z.no_range (d_bin o_add d_int (d_bin o_mod (d_idx (d_var (i := 0)) d_int) d_int))) (dg_name (i := 4) C.nd) (ds_one (ds_expr (d_meth PySem.F.plainAttrs_list PySem.F.slot_list_append PySem.F.type_list_append m_append (d_var (i := 3)) (da_cons (d_tup (da_cons (d_idx (d_var (i := 2)) (d_var (i := 4))) (da_cons (d_bin o_mod (d_idx (d_var (i := 0)) (d_bin o_add d_int (d_bin o_mul d_int (d_var (i := 4))))) (d_idx (d_lst (da_cons d_int (da_cons d_int (da_cons d_int da_nil)))) (d_bin o_mod (d_bin o_fdiv (d_idx (d_var (i := 0)) (d_bin o_add d_int (d_bin o_mul d_int (d_var (i := 4))))) d_int) d_int))) (da_cons (d_cmp (o_eq C.hu) (d_bin o_mod (d_idx (d_var (i := 0)) (d_bin o_add d_int (d_bin o_mul d_int (d_var (i := 4))))) d_int) d_int (nomark _)) da_nil)))) da_nil)))))
    (ds_one (ds_ret (d_callTy c_tuple rfl Z.no_tuple boot_tuple (da_cons (d_var (i := 3)) da_nil))))))))))
theorem sc_l_game : FnScope ["_law_cell", "_law_xs", "_law_begin"] ["_law_cell"] (defScope st_l_game) := ⟨rfl, rfl, rfl, by decide +kernel, rfl, by decide +kernel, by decide +kernel⟩
theorem ok_l_game (Z : Facts K mg) : Callee P w K mg base "_law_game" 1 (14 + 1) m_l_game :=
  okD (ps := ["_law_cell"]) (k := 14) Z.fn_l_game sc_l_game Z.mg_l_game (fun _ _ _ _ _ _ us hl => match us, hl with | [_], _ => rfl) (fun cdv A outer s H E C => ((ds_cons (ds_set (i := 1) C.nd (d_call C (ok_l_draws Z) (by omega) (da_cons (d_var (i := 0)) (da_cons d_int da_nil))))
    (ds_cons (ds_if (dt_cmp (o_eq C.hu) (d_bin o_mod (d_idx (d_var (i := 1)) d_int) d_int) d_int (nomark _)) (ds_one (ds_ret (d_tup (da_cons d_str (da_cons (d_call C (ok_l_unit Z 14) (by omega) (da_cons (d_var (i := 1)) (da_cons d_int (da_cons d_int (da_cons (d_bin o_mod (d_idx (d_var (i := 1)) d_int) d_int) da_nil))))) da_nil))))) ds_nil)
    (ds_cons (ds_if (dt_cmp (o_eq C.hu) (d_bin o_mod (d_idx (d_var (i := 1)) d_int) d_int) d_int (nomark _)) (ds_cons (ds_set (i := 2) C.nd (d_bin o_add d_int (d_bin o_mod (d_idx (d_var (i := 1)) d_int) (d_idx (d_lst (da_cons d_int (da_cons d_int (da_cons d_int da_nil)))) (d_bin o_mod (d_idx (d_var (i := 1)) d_int) d_int)))))
    (ds_one (ds_ret (d_tup (da_cons d_str (da_cons (d_tup (da_cons (d_bin o_add d_int (d_bin o_mod (d_idx (d_var (i := 1)) d_int) d_int)) (da_cons (d_var (i := 2)) (da_cons (d_bin o_add d_int (d_bin o_mod (d_idx (d_var (i := 1)) d_int) d_int)) (da_cons (d_call C (ok_l_throws Z) (by omega) (da_cons (d_var (i := 1)) da_nil)) da_nil))))) da_nil)))))) ds_nil)
    (ds_one (ds_ret (d_tup (da_cons d_str (da_cons (d_tup (da_cons (d_bin o_add d_int (d_bin o_mod (d_idx (d_var (i := 1)) d_int) d_int)) (da_cons (d_bin o_add d_int (d_bin o_mod (d_idx (d_var (i := 1)) d_int) (d_idx (d_lst (da_cons d_int (da_cons d_int (da_cons d_int da_nil)))) (d_bin o_mod (d_idx (d_var (i := 1)) d_int) d_int)))) (da_cons (d_bin o_add d_int (d_bin o_mod (d_idx (d_var (i := 1)) d_int) (d_idx (d_lst (da_cons d_int (da_cons d_int (da_cons d_int da_nil)))) (d_bin o_mod (d_idx (d_var (i := 1)) d_int) d_int)))) da_nil)))) da_nil))))))))))
theorem sc_l_counts : FnScope ["_law_stand", "_law_counts_here"] ["_law_stand"] (defScope st_l_counts) := ⟨rfl, rfl, rfl, by decide +kernel, rfl, by decide +kernel, by decide +kernel⟩
theorem ok_l_counts (Z : Facts K mg) : Callee P w K mg base "_law_counts" 1 (0 + 1) m_l_counts :=
  okD (ps := ["_law_stand"]) (k := 0) Z.fn_l_counts sc_l_counts Z.mg_l_counts (fun _ _ _ _ _ _ us hl => match us, hl with | [_], _ => rfl) (fun cdv A outer s H E C => ((ds_cons (ds_set (i := 1) C.nd (d_lst da_nil))
    (ds_cons (ds_while 100000 C (dt_cmp (o_ne C.hu) (d_var (i := 0)) (d_tup da_nil) (nomark _)) (ds_cons (ds_expr (d_meth PySem.F.plainAttrs_list PySem.F.slot_list_append PySem.F.type_list_append m_append (d_var (i := 1)) (da_cons (d_bin o_add (d_idx (d_var (i := 0)) d_int) (d_idx (d_var (i := 0)) d_int)) da_nil)))
    (ds_one (ds_set (i := 0) C.nd (d_idx (d_var (i := 0)) d_int)))))
    (ds_one (ds_ret (d_var (i := 1))))))))
theorem sc_l_won : FnScope ["_law_game_here", "_law_stand", "_law_later", "_law_counts_here", "_law_behind_it", "_law_deep"] ["_law_game_here", "_law_stand", "_law_later"] (defScope st_l_won) := ⟨rfl, rfl, rfl, by decide +kernel, rfl, by decide +kernel, by decide +kernel⟩
theorem ok_l_won (Z : Facts K mg) : Callee P w K mg base "_law_won" 3 (1 + 1) m_l_won :=
  okD (ps := ["_law_game_here", "_law_stand", "_law_later"]) (k := 1) Z.fn_l_won sc_l_won Z.mg_l_won (fun _ _ _ _ _ _ us hl => match us, hl with | [_, _, _], _ => rfl) (fun cdv A outer s H E C => ((ds_cons (ds_set (i := 3) C.nd (d_call C (ok_l_counts Z) (by omega) (da_cons (d_idx (d_var (i := 1)) d_int) da_nil)))
    (ds_cons (ds_if (dt_cmp o_isNot (d_idx (d_var (i := 2)) d_int) d_non (nomark _)) (ds_one (ds_ret (d_callB c_len rfl Z.no_len boot_len (da_cons (d_var (i := 3)) da_nil)))) ds_nil)
    (ds_cons (ds_set (i := 4) C.nd (d_call C (ok_l_counts Z) (by omega) (da_cons (d_idx (d_var (i := 2)) d_int) da_nil)))
    (ds_cons (ds_for C (di_range1 Z.no_range (d_callB c_len rfl Z.no_len boot_len (da_cons (d_var (i := 3)) da_nil))) (dg_name (i := 5) C.nd) (ds_one (ds_if (PW.pt (dt_and (dt_cmp o_lt (d_var (i := 5)) (d_callB c_len rfl Z.no_len boot_len (da_cons (d_var (i := 4)) da_nil)) (nomark _)) (dt_and1 (dt_cmp o_gt (d_idx (d_var (i := 4)) (d_var (i := 5))) (d_idx (d_var (i := 3)) (d_var (i := 5))) (nomark _))))) (ds_one (ds_ret (d_bin o_sub (d_bin o_sub (d_callB c_len rfl Z.no_len boot_len (da_cons (d_var (i := 3)) da_nil)) (d_var (i := 5))) d_int))) ds_nil)))
    (ds_one (ds_ret d_int))))))))
theorem sc_l_units : FnScope ["_law_game_here", "_law_row", "_law_stand", "_law_found", "_law_k", "_law_later", "_law_many"] ["_law_game_here", "_law_row"] (defScope st_l_units) := ⟨rfl, rfl, rfl, by decide +kernel, rfl, by decide +kernel, by decide +kernel⟩
theorem ok_l_units (Z : Facts K mg) : Callee P w K mg base "_law_units" 2 (31 + 1) m_l_units :=
  okD (ps := ["_law_game_here", "_law_row"]) (k := 31) Z.fn_l_units sc_l_units Z.mg_l_units (fun _ _ _ _ _ _ us hl => match us, hl with | [_, _], _ => rfl) (fun cdv A outer s H E C => ((ds_cons (ds_set (i := 2) C.nd (d_call C (ok_first Z) (by omega) (da_cons (d_var (i := 0)) da_nil)))
    (ds_cons (ds_set (i := 3) C.nd (d_lst da_nil))
    (ds_cons (ds_for C (di_range1 Z.no_range (d_callB c_len rfl Z.no_len boot_len (da_cons (d_var (i := 1)) da_nil))) (dg_name (i := 4) C.nd) (ds_cons (ds_set (i := 5) C.nd (d_call C (ok_played Z) (by omega) (da_cons (d_var (i := 0)) (da_cons (d_var (i := 2)) (da_cons (d_idx (d_var (i := 1)) (d_var (i := 4))) da_nil)))))
    (ds_cons (ds_set (i := 6) C.nd (d_call C (ok_l_won Z) (by omega) (da_cons (d_var (i := 0)) (da_cons (d_var (i := 2)) (da_cons (d_var (i := 5)) da_nil)))))
    (ds_cons (ds_if (dt_cmp o_gt (d_var (i := 6)) d_int (nomark _)) (ds_one (ds_expr (d_meth PySem.F.plainAttrs_list PySem.F.slot_list_append PySem.F.type_list_append m_append (d_var (i := 3)) (da_cons (d_tup (da_cons (d_bin o_add (d_var (i := 4)) d_int) (da_cons (d_idx (d_var (i := 1)) (d_var (i := 4))) (da_cons (d_var (i := 6)) da_nil)))) da_nil)))) ds_nil)
    (ds_one (ds_set (i := 2) C.nd (d_var (i := 5))))))))
    (ds_one (ds_ret (d_var (i := 3)))))))))
theorem sc_l_right : FnScope ["_law_book", "_law_game_here", "_law_row", "_law_due", "_law_turn", "_law_found"] ["_law_book", "_law_game_here", "_law_row"] (defScope st_l_right) := ⟨rfl, rfl, rfl, by decide +kernel, rfl, by decide +kernel, by decide +kernel⟩
theorem ok_l_right (Z : Facts K mg) : CalleeG P w K mg base "_law_right" 3 (44 + 1) m_l_right :=
  okG (ps := ["_law_book", "_law_game_here", "_law_row"]) (k := 44) Z.fn_l_right sc_l_right Z.mg_l_right (fun _ _ _ _ _ _ us hl => match us, hl with | [_, _, _], _ => rfl) (fun cdv A outer s H E G => (have C := G.ctx; ((ds_cons (ds_set (i := 3) C.nd (d_call C (ok_l_units Z) (by omega) (da_cons (d_var (i := 1)) (da_cons (d_var (i := 2)) da_nil))))
    (ds_cons (ds_for C (di_range1 Z.no_range d_int) (dg_name (i := 4) C.nd) (ds_cons (ds_set (i := 5) C.nd (d_meM0 C (ok_Book_units Z) (by omega) (d_var (i := 0))))
    (ds_cons (ds_if (PW.pt (dt_or (dt_not (dt_tru (d_isi (U := "list") rfl Z.no_isinstance rfl Z.no_list boot_list (d_var (i := 5))))) (dt_or1 (dt_cmp (o_ne C.hu) (d_callB (c_repr G) rfl Z.no_repr boot_repr (da_cons (d_var (i := 5)) da_nil)) (d_callB (c_repr G) rfl Z.no_repr boot_repr (da_cons (d_var (i := 3)) da_nil)) (nomark _))))) (ds_one (ds_ret d_bl)) ds_nil)
    (ds_one (ds_expr (d_meth PySem.F.plainAttrs_list PySem.F.slot_list_append PySem.F.type_list_append m_append (d_var (i := 5)) (da_cons (d_tup (da_cons d_int (da_cons d_int (da_cons d_int da_nil)))) da_nil)))))))
    (ds_one (ds_ret d_bl)))))))
theorem sc_l_let : FnScope ["_law_game_here", "_law_row", "_law_stand", "_law_side"] ["_law_game_here", "_law_row"] (defScope st_l_let) := ⟨rfl, rfl, rfl, by decide +kernel, rfl, by decide +kernel, by decide +kernel⟩
theorem ok_l_let (Z : Facts K mg) : Callee P w K mg base "_law_let" 2 (31 + 1) m_l_let :=
  okD (ps := ["_law_game_here", "_law_row"]) (k := 31) Z.fn_l_let sc_l_let Z.mg_l_let (fun _ _ _ _ _ _ us hl => match us, hl with | [_, _], _ => rfl) (fun cdv A outer s H E C => ((ds_cons (ds_set (i := 2) C.nd (d_call C (ok_first Z) (by omega) (da_cons (d_var (i := 0)) da_nil)))
    (ds_cons (ds_for C (di_any (d_var (i := 1))) (dg_name (i := 3) C.nd) (ds_cons (ds_if (dt_cmp o_isNot (d_idx (d_var (i := 2)) d_int) d_non (nomark _)) (ds_one (ds_ret d_bl)) ds_nil)
    (ds_one (ds_set (i := 2) C.nd (d_call C (ok_played Z) (by omega) (da_cons (d_var (i := 0)) (da_cons (d_var (i := 2)) (da_cons (d_var (i := 3)) da_nil))))))))
    (ds_one (ds_ret d_bl))))))
theorem sc_l_written : FnScope ["_law_book", "_law_game_here", "_law_row", "_law_cell", "_law_at", "_law_side", "_law_way", "_law_later"] ["_law_book", "_law_game_here", "_law_row", "_law_cell"] (defScope st_l_written) := ⟨rfl, rfl, rfl, by decide +kernel, rfl, by decide +kernel, by decide +kernel⟩
theorem ok_l_written (Z : Facts K mg) : Callee P w K mg base "_law_written" 4 (34 + 1) m_l_written :=
  okD (ps := ["_law_book", "_law_game_here", "_law_row", "_law_cell"]) (k := 34) Z.fn_l_written sc_l_written Z.mg_l_written (fun _ _ _ _ _ _ us hl => match us, hl with | [_, _, _, _], _ => rfl) (fun cdv A outer s H E C => ((ds_cons (ds_set (i := 4) C.nd (d_bin o_mod (d_bin o_fdiv (d_var (i := 3)) d_int) (d_bin o_add (d_callB c_len rfl Z.no_len boot_len (da_cons (d_var (i := 2)) da_nil)) d_int)))
    (ds_cons (ds_set (i := 5) C.nd (d_bin o_mod (d_var (i := 3)) d_int))
    (ds_cons (ds_set (i := 6) C.nd (d_bin o_mod (d_bin o_fdiv (d_var (i := 3)) d_int) d_int))
    (ds_cons (ds_set (i := 7) C.nd (d_bin o_add (d_bin o_add (d_sl (d_var (i := 2)) do_none (do_some (d_var (i := 4)))) (d_lst (da_cons (d_var (i := 5)) da_nil))) (d_sl (d_var (i := 2)) (do_some (d_var (i := 4))) do_none)))
    (ds_cons (ds_if (dt_cmp (o_eq C.hu) (d_var (i := 6)) d_int (nomark _)) (ds_one (ds_set (i := 7) C.nd (d_bin o_add (d_bin o_add (d_sl (d_var (i := 2)) do_none (do_some (d_var (i := 4)))) (d_bin o_mul (d_lst (da_cons (d_var (i := 5)) da_nil)) (d_callTy c_int rfl Z.no_int boot_int (da_cons (d_cmp o_lt (d_var (i := 4)) (d_callB c_len rfl Z.no_len boot_len (da_cons (d_var (i := 2)) da_nil)) (nomark _)) da_nil)))) (d_sl (d_var (i := 2)) (do_some (d_bin o_add (d_var (i := 4)) d_int)) do_none)))) ds_nil)
    (ds_cons (ds_if (dt_cmp (o_eq C.hu) (d_var (i := 6)) d_int (nomark _)) (ds_one (ds_set (i := 7) C.nd (d_bin o_add (d_sl (d_var (i := 2)) do_none (do_some (d_var (i := 4)))) (d_sl (d_var (i := 2)) (do_some (d_bin o_add (d_var (i := 4)) d_int)) do_none)))) ds_nil)
    (ds_cons (ds_if (PW.pt (dt_or (dt_not (dt_tru (d_call C (ok_l_let Z) (by omega) (da_cons (d_var (i := 1)) (da_cons (d_var (i := 7)) da_nil))))) (dt_or1 (PW.pt (dt_and (dt_cmp o_gt (d_var (i := 6)) d_int (nomark _)) (dt_and1 (dt_cmp (o_eq C.hu) (d_var (i := 4)) (d_callB c_len rfl Z.no_len boot_len (da_cons (d_var (i := 2)) da_nil)) (nomark _)))))))) (ds_one (ds_ret (d_var (i := 2)))) ds_nil)
    (ds_cons (ds_if (dt_cmp (o_eq C.hu) (d_var (i := 6)) d_int (nomark _)) (ds_one (ds_expr (d_meM C (ok_Book_put_in Z) (by omega) (d_var (i := 0)) (da_cons (d_bin o_add (d_var (i := 4)) d_int) (da_cons (d_var (i := 5)) da_nil))))) (ds_one (ds_if (dt_cmp (o_eq C.hu) (d_var (i := 6)) d_int (nomark _)) (ds_one (ds_expr (d_meM C (ok_Book_put_right Z) (by omega) (d_var (i := 0)) (da_cons (d_bin o_add (d_var (i := 4)) d_int) (da_cons (d_var (i := 5)) da_nil))))) (ds_one (ds_expr (d_meM C (ok_Book_leave_out Z) (by omega) (d_var (i := 0)) (da_cons (d_bin o_add (d_var (i := 4)) d_int) da_nil)))))))
    (ds_one (ds_ret (d_var (i := 7))))))))))))))
theorem sc_l_others_right : FnScope ["_law_cell", "_law_game_here", "_law_book", "_law_k", "_law_some"] ["_law_cell"] (defScope st_l_others_right) := ⟨rfl, rfl, rfl, by decide +kernel, rfl, by decide +kernel, by decide +kernel⟩
theorem ok_l_others_right (Z : Facts K mg) : Callee P w K mg base "_law_others_right" 1 (44 + 1) m_l_others_right :=
  okD (ps := ["_law_cell"]) (k := 44) Z.fn_l_others_right sc_l_others_right Z.mg_l_others_right (fun _ _ _ _ _ _ us hl => match us, hl with | [_], _ => rfl) (fun cdv A outer s H E C => ((ds_cons (ds_set (i := 1) C.nd (d_call C (ok_l_game Z) (by omega) (da_cons (d_var (i := 0)) da_nil)))
    (ds_cons (ds_if (dt_cmp (o_eq C.hu) (d_idx (d_var (i := 1)) d_int) d_str (nomark _)) (ds_one (ds_ret d_bl)) ds_nil)
    (ds_cons (ds_set (i := 2) C.nd (d_make C ⟨(ok_Book_new Z), Z.mkr_Book, Z.mk_Book⟩ (by omega) (da_cons (d_var (i := 1)) da_nil)))
    (ds_cons (ds_for C (di_range1 Z.no_range d_int) (dg_name (i := 3) C.nd) (ds_cons (ds_set (i := 4) C.nd (d_call C (ok_deeds_at Z) (by omega) (da_cons (d_var (i := 1)) (da_cons (d_meM0 C (okd_Book_stand Z) (by omega) (d_var (i := 2))) da_nil))))
    (ds_one (ds_if (dt_cmp (o_ne C.hu) (d_var (i := 4)) (d_lst da_nil) (nomark _)) (ds_one (ds_expr (d_meM C (ok_Book_add Z) (by omega) (d_var (i := 2)) (da_cons (d_idx (d_var (i := 4)) (d_bin o_mod (d_bin o_add (d_var (i := 0)) (d_var (i := 3))) (d_callB c_len rfl Z.no_len boot_len (da_cons (d_var (i := 4)) da_nil)))) da_nil)))) ds_nil))))
    (ds_one (ds_ret (d_cmp (o_eq C.hu) (d_meM0 C (ok_Book_units Z) (by omega) (d_var (i := 2))) (d_lst da_nil) (nomark _))))))))))
theorem sc_law : FnScope ["_law_script", "_law_xs", "_law_game_here", "_law_book", "_law_row", "_law_stand", "_law_number", "_law_cell", "_law_side"] ["_law_script"] (defScope st_law) := ⟨rfl, rfl, rfl, by decide +kernel, rfl, by decide +kernel, by decide +kernel⟩
theorem ok_law (Z : Facts K mg) {fd : FuncData} (F : FunD K "law" "law" (defArgs st_law) (defBody st_law) (defScope st_law) [] [] (He.ga K "law") fd) : FnG P w K mg base (L2N.CX P w) 46 (He.ga K "law") fd ["_law_script"] (spD K 1 m_law) :=
  okFG (k := 45) F sc_law (fun cdv A outer s H E G => (have C := G.ctx; ((ds_cons (ds_set (i := 1) C.nd (d_call C (ok_l_draws Z) (by omega) (da_cons (d_call C (ok_l_cell_at Z) (by omega) (da_cons (d_var (i := 0)) (da_cons d_int da_nil))) (da_cons d_int da_nil))))
    (ds_cons (ds_set (i := 2) C.nd (d_tup (da_cons d_str (da_cons (d_call C (ok_l_unit Z 14) (by omega) (da_cons (d_var (i := 1)) (da_cons d_int (da_cons d_int (da_cons (d_bin o_mod (d_idx (d_var (i := 1)) d_int) d_int) da_nil))))) da_nil))))
    (ds_cons (ds_set (i := 3) C.nd (d_make C ⟨(ok_Book_new Z), Z.mkr_Book, Z.mk_Book⟩ (by omega) (da_cons (d_var (i := 2)) da_nil)))
    (ds_cons (ds_set (i := 4) C.nd (d_lst da_nil))
    (ds_cons (ds_set (i := 5) C.nd (d_call C (ok_first Z) (by omega) (da_cons (d_var (i := 2)) da_nil)))
    (ds_cons (ds_set (i := 6) C.nd (d_call C (ok_l_cell_at Z) (by omega) (da_cons (d_var (i := 0)) (da_cons d_int da_nil))))
    (ds_cons (ds_if (dt_not (dt_tru (d_callG G (ok_l_right Z) (by omega) (da_cons (d_var (i := 3)) (da_cons (d_var (i := 2)) (da_cons (d_var (i := 4)) da_nil)))))) (ds_one (ds_ret d_bl)) ds_nil)
    (ds_cons (ds_for C (di_any (d_bin o_add (d_sl (d_call C (ok_l_draws Z) (by omega) (da_cons (d_var (i := 6)) (da_cons d_int da_nil))) do_none (do_some (d_bin o_mod (d_bin o_fdiv (d_var (i := 6)) d_int) d_int))) (d_sl (d_var (i := 0)) (do_some d_int) (do_some d_int)))) (dg_name (i := 7) C.nd) (ds_cons (ds_set (i := 8) C.nd (d_bin o_mod (d_var (i := 7)) d_int))
    (ds_cons (ds_if (PW.pt (dt_and (dt_cmp (o_eq C.hu) (d_bin o_mod (d_var (i := 6)) d_int) d_int (nomark _)) (dt_and1 (dt_cmp o_gt (d_bin o_mod (d_var (i := 7)) d_int) d_int (nomark _))))) (ds_one (ds_set (i := 8) C.nd (d_bin o_mod (d_bin o_fdiv (d_callB c_len rfl Z.no_len boot_len (da_cons (d_var (i := 4)) da_nil)) d_int) d_int))) ds_nil)
    (ds_one (ds_if (dt_cmp o_is (d_idx (d_var (i := 5)) d_int) d_non (nomark _)) (ds_cons (ds_set (i := 5) C.nd (d_call C (ok_played Z) (by omega) (da_cons (d_var (i := 2)) (da_cons (d_var (i := 5)) (da_cons (d_var (i := 8)) da_nil)))))
    (ds_cons (ds_expr (d_meth PySem.F.plainAttrs_list PySem.F.slot_list_append PySem.F.type_list_append m_append (d_var (i := 4)) (da_cons (d_var (i := 8)) da_nil)))
    (ds_cons (ds_expr (d_meM C (ok_Book_add Z) (by omega) (d_var (i := 3)) (da_cons (d_var (i := 8)) da_nil)))
    (ds_one (ds_if (PW.pt (dt_and (dt_cmp (o_eq C.hu) (d_bin o_mod (d_callB c_len rfl Z.no_len boot_len (da_cons (d_var (i := 4)) da_nil)) d_int) d_int (nomark _)) (dt_and1 (dt_not (dt_tru (d_callG G (ok_l_right Z) (by omega) (da_cons (d_var (i := 3)) (da_cons (d_var (i := 2)) (da_cons (d_var (i := 4)) da_nil))))))))) (ds_one (ds_ret d_bl)) ds_nil))))) ds_nil)))))
    (ds_cons (ds_if (dt_not (dt_tru (d_callG G (ok_l_right Z) (by omega) (da_cons (d_var (i := 3)) (da_cons (d_var (i := 2)) (da_cons (d_var (i := 4)) da_nil)))))) (ds_one (ds_ret d_bl)) ds_nil)
    (ds_cons (ds_if (dt_cmp (o_ne C.hu) (d_var (i := 4)) (d_lst da_nil) (nomark _)) (ds_cons (ds_expr (d_meM0 C (ok_Book_back Z) (by omega) (d_var (i := 3))))
    (ds_cons (ds_expr (d_meth0 PySem.F.plainAttrs_list PySem.F.slot_list_pop PySem.F.type_list_pop m_pop (d_var (i := 4))))
    (ds_one (ds_if (dt_not (dt_tru (d_callG G (ok_l_right Z) (by omega) (da_cons (d_var (i := 3)) (da_cons (d_var (i := 2)) (da_cons (d_var (i := 4)) da_nil)))))) (ds_one (ds_ret d_bl)) ds_nil)))) ds_nil)
    (ds_cons (ds_for C (di_any (d_call C (ok_l_draws Z) (by omega) (da_cons (d_bin o_fdiv (d_var (i := 6)) d_int) (da_cons d_int da_nil)))) (dg_name (i := 7) C.nd) (ds_cons (ds_set (i := 4) C.nd (d_call C (ok_l_written Z) (by omega) (da_cons (d_var (i := 3)) (da_cons (d_var (i := 2)) (da_cons (d_var (i := 4)) (da_cons (d_var (i := 7)) da_nil))))))
    (ds_one (ds_if (dt_not (dt_tru (d_callG G (ok_l_right Z) (by omega) (da_cons (d_var (i := 3)) (da_cons (d_var (i := 2)) (da_cons (d_var (i := 4)) da_nil)))))) (ds_one (ds_ret d_bl)) ds_nil))))
    (ds_one (ds_ret (d_call C (ok_l_others_right Z) (by omega) (da_cons (d_var (i := 6)) da_nil))))))))))))))))))
end
end LW
end
section
set_option maxHeartbeats 4000000
namespace LW
open PySem PySem.Spec PyProof.Rows L2 TL
open CM hiding any_rule b_l_any_rule b_l_rule b_l_throws b_l_unit g_l_unit lp_l_throws_0 m_l_any_rule m_l_rule m_l_throws m_l_unit pick3 rng_cons rule_ok rule_step unit_ok
open CG hiding m_l_game b_l_game m_l_unit b_l_unit GameQ rule_ok unit_ok atI_last
open CI
open CE
open CQ
/-! the head -/
theorem facts {h : Heap} {mg : Str → Option Value} {K : PySem.W.Frag} (X : K.In h) (G : h.Ns mainGlobals mg) (c : SaysB okB fn K) : Facts K mg := by
  have e : okB K = true := c.fact
  unfold okB at e
  obtain ⟨e, t0⟩ := He.ba e
  obtain ⟨e, x_exsub⟩ := He.ba e
  exact {
    fn_is_between := c.def_ 0
    mg_is_between := He.glo_ok X G (all_at e 0)
    fn_is_throw_name := c.def_ 1
    mg_is_throw_name := He.glo_ok X G (all_at e 1)
    fn_is_throw := c.def_ 2
    mg_is_throw := He.glo_ok X G (all_at e 2)
    fn_is_down := c.def_ 3
    mg_is_down := He.glo_ok X G (all_at e 3)
    fn_down_begun := c.def_ 4
    mg_down_begun := He.glo_ok X G (all_at e 4)
    fn_throw_named := c.def_ 5
    mg_throw_named := He.glo_ok X G (all_at e 5)
    fn_with_count := c.def_ 6
    mg_with_count := He.glo_ok X G (all_at e 6)
    fn_turn_ended := c.def_ 7
    mg_turn_ended := He.glo_ok X G (all_at e 7)
    fn_down_thrown := c.def_ 8
    mg_down_thrown := He.glo_ok X G (all_at e 8)
    fn_is_lane := c.def_ 9
    mg_is_lane := He.glo_ok X G (all_at e 9)
    fn_lane_begun := c.def_ 10
    mg_lane_begun := He.glo_ok X G (all_at e 10)
    fn_frame_behind := c.def_ 11
    mg_frame_behind := He.glo_ok X G (all_at e 11)
    fn_extra_behind := c.def_ 12
    mg_extra_behind := He.glo_ok X G (all_at e 12)
    fn_row_behind := c.def_ 13
    mg_row_behind := He.glo_ok X G (all_at e 13)
    fn_lane_bowled := c.def_ 14
    mg_lane_bowled := He.glo_ok X G (all_at e 14)
    fn_best_of := c.def_ 15
    mg_best_of := He.glo_ok X G (all_at e 15)
    fn_is_count := c.def_ 16
    mg_is_count := He.glo_ok X G (all_at e 16)
    fn_has_numbers := c.def_ 17
    mg_has_numbers := He.glo_ok X G (all_at e 17)
    fn_units_in := c.def_ 18
    mg_units_in := He.glo_ok X G (all_at e 18)
    fn_is_rule := c.def_ 19
    mg_is_rule := He.glo_ok X G (all_at e 19)
    fn_rule_within := c.def_ 20
    mg_rule_within := He.glo_ok X G (all_at e 20)
    fn_begun := c.def_ 21
    mg_begun := He.glo_ok X G (all_at e 21)
    fn_is_won := c.def_ 22
    mg_is_won := He.glo_ok X G (all_at e 22)
    fn_rallied := c.def_ 23
    mg_rallied := He.glo_ok X G (all_at e 23)
    fn_is_game := c.def_ 24
    mg_is_game := He.glo_ok X G (all_at e 24)
    fn_first := c.def_ 25
    mg_first := He.glo_ok X G (all_at e 25)
    fn_deeds_at := c.def_ 26
    mg_deeds_at := He.glo_ok X G (all_at e 26)
    fn_rally_played := c.def_ 27
    mg_rally_played := He.glo_ok X G (all_at e 27)
    fn_down_played := c.def_ 28
    mg_down_played := He.glo_ok X G (all_at e 28)
    fn_lane_played := c.def_ 29
    mg_lane_played := He.glo_ok X G (all_at e 29)
    fn_played := c.def_ 30
    mg_played := He.glo_ok X G (all_at e 30)
    fn_stakes := c.def_ 31
    mg_stakes := He.glo_ok X G (all_at e 31)
    fn_stands_of := c.def_ 32
    mg_stands_of := He.glo_ok X G (all_at e 32)
    fn_Book_new := c.def_ 33
    meth_Book_new := He.meth_ok (all_at e 33)
    fn_Book_add := c.def_ 34
    meth_Book_add := He.meth_ok (all_at e 34)
    fn_Book_back := c.def_ 35
    meth_Book_back := He.meth_ok (all_at e 35)
    fn_Book_hold_number := c.def_ 36
    meth_Book_hold_number := He.meth_ok (all_at e 36)
    fn_Book_written_anew := c.def_ 37
    meth_Book_written_anew := He.meth_ok (all_at e 37)
    fn_Book_put_right := c.def_ 38
    meth_Book_put_right := He.meth_ok (all_at e 38)
    fn_Book_put_in := c.def_ 39
    meth_Book_put_in := He.meth_ok (all_at e 39)
    fn_Book_leave_out := c.def_ 40
    meth_Book_leave_out := He.meth_ok (all_at e 40)
    fn_Book_stand := c.def_ 41
    meth_Book_stand := He.meth_ok (all_at e 41)
    fn_Book_units := c.def_ 42
    meth_Book_units := He.meth_ok (all_at e 42)
    fn_l_cell_at := c.def_ 43
    mg_l_cell_at := He.glo_ok X G (all_at e 43)
    fn_l_draws := c.def_ 44
    mg_l_draws := He.glo_ok X G (all_at e 44)
    fn_l_unit := c.def_ 45
    mg_l_unit := He.glo_ok X G (all_at e 45)
    fn_l_throws := c.def_ 46
    mg_l_throws := He.glo_ok X G (all_at e 46)
    fn_l_game := c.def_ 47
    mg_l_game := He.glo_ok X G (all_at e 47)
    fn_l_counts := c.def_ 48
    mg_l_counts := He.glo_ok X G (all_at e 48)
    fn_l_won := c.def_ 49
    mg_l_won := He.glo_ok X G (all_at e 49)
    fn_l_units := c.def_ 50
    mg_l_units := He.glo_ok X G (all_at e 50)
    fn_l_right := c.def_ 51
    mg_l_right := He.glo_ok X G (all_at e 51)
    fn_l_let := c.def_ 52
    mg_l_let := He.glo_ok X G (all_at e 52)
    fn_l_written := c.def_ 53
    mg_l_written := He.glo_ok X G (all_at e 53)
    fn_l_others_right := c.def_ 54
    mg_l_others_right := He.glo_ok X G (all_at e 54)
    fn_law := c.def_ 55
    mg_law := He.glo_ok X G (all_at e 55)
    no_all := He.free_ok X G (all_at e 56)
    no_bool := He.free_ok X G (all_at e 57)
    no_enumerate := He.free_ok X G (all_at e 58)
    no_int := He.free_ok X G (all_at e 59)
    no_isinstance := He.free_ok X G (all_at e 60)
    no_len := He.free_ok X G (all_at e 61)
    no_list := He.free_ok X G (all_at e 62)
    no_max := He.free_ok X G (all_at e 63)
    no_min := He.free_ok X G (all_at e 64)
    no_range := He.free_ok X G (all_at e 65)
    no_repr := He.free_ok X G (all_at e 66)
    no_set := He.free_ok X G (all_at e 67)
    no_str := He.free_ok X G (all_at e 68)
    no_tuple := He.free_ok X G (all_at e 69)
    cls_Book := He.cls_ok (all_at e 70)
    noat_Book_kept_deeds := He.noat_ok (all_at e 71)
    noat_Book_kept_game := He.noat_ok (all_at e 72)
    noat_Book_kept_stands := He.noat_ok (all_at e 73)
    mkr_Book := He.mkr_ok (all_at e 74)
    mk_Book := He.glo_ok X G (all_at e 75)
    mc_NoDeed := He.glo_ok X G (all_at e 76)
    mc_NoGame := He.glo_ok X G (all_at e 77)
    mc_NoPins := He.glo_ok X G (all_at e 78)
    mc_NoSide := He.glo_ok X G (all_at e 79)
    mc_NoThrow := He.glo_ok X G (all_at e 80)
    mc_Over := He.glo_ok X G (all_at e 81)
    mc_ScoreError := He.glo_ok X G (all_at e 82)
    ex_NoDeed := exF_of X G (all_at e 76) (all_at e 83)
    ex_NoGame := exF_of X G (all_at e 77) (all_at e 84)
    ex_NoPins := exF_of X G (all_at e 78) (all_at e 85)
    ex_NoSide := exF_of X G (all_at e 79) (all_at e 86)
    ex_NoThrow := exF_of X G (all_at e 80) (all_at e 87)
    ex_Over := exF_of X G (all_at e 81) (all_at e 88)
    exsub := exSubB_ok x_exsub
    gl_LETTERS := glob_str X G (all_at e 89)
    gl_FIGURES := glob_str X G (all_at e 90)
    gl_POINT := glob_tup X G (all_at e 91) t0 (fun _ _ => (.cons (.str _) .nil))
    gl_GREATEST := glob_int X G (all_at e 92)
    gl_MOST_UNITS := glob_int X G (all_at e 93)
    gl_MOST_DEEP := glob_int X G (all_at e 94)
  }
end LW
end
section
set_option maxHeartbeats 4000000
/-! books: what their methods do -/
namespace CQ
open PySem PySem.Spec PyProof.Rows L2 TL
open CM hiding b_l_alike m_l_alike b_l_unit m_l_unit g_l_unit b_l_rule m_l_rule b_l_any_rule m_l_any_rule unit_ok rule_step rule_ok any_rule
open CG CI
open RL RB TLQ RD CP
theorem idx_neg {M : Mem} {n : Nat} {xs : List D} {i : Int} {v : D} (h : seqAt M n = some xs) (e : atI xs i = some v) : mIdx (.ref n) (.int i) M = some (v, M) := by
  show (match seqAt M n with | some xs => (atI xs i).map fun d => (d, M) | none => none) = _
  rw [h]; simp only [e]; rfl
def NewQ (M : Mem) (b : Nat) (g : Gm) (d : D) (M' : Mem) : Prop := d = .non ∧ ∃ Dn S, M.length ≤ Dn ∧ M.length ≤ S ∧ BookAt M' b Dn S g [] [firstD g] ∧ Fr [b] M M'
theorem book_new_ok {g : Gm} (hg : Gd g) {M : Mem} {b : Nat} (hb : M[b]? = some (.ins bS [])) : Ret (m_Book_new [.ref b, g.toD] M) (NewQ M b g) := by
  show Ret (endS (b_Book_new [some (.ref b), some g.toD] M)) _
  unfold b_Book_new
  obtain ⟨M1, e1, k1⟩ := gives_of (is_game_ok (game_sh hg M 30) (by decide))
  rw [game_right hg] at e1
  have b1 := k1.at hb
  have lt1 := lt_of_at b1
  have p1 := putO_at (f := Str.ofString "kept_game") (v := g.toD) b1 (by simp)
  have q1 : (M1.set b (.ins bS [(Str.ofString "kept_game", g.toD)]))[b]? = some (.ins bS [(Str.ofString "kept_game", g.toD)]) := List.getElem?_set_self lt1
  have f1 : Fr [b] M (M1.set b (.ins bS [(Str.ofString "kept_game", g.toD)])) := (Fr.of k1).set (.inl (by simp))
  have len1 : M.length ≤ (M1.set b (.ins bS [(Str.ofString "kept_game", g.toD)])).length := f1.len
  simp only [putD] at p1
  generalize M1.set b (.ins bS [(Str.ofString "kept_game", g.toD)]) = M2 at *
  have K2 := Keep.more M2 [MO.lst []]
  have p2 := putO_at (f := Str.ofString "kept_deeds") (v := .ref M2.length) (K2.at q1) (by simp)
  have lt2 := lt_of_at (K2.at q1)
  have bl : b < M2.length := lt_of_at q1
  have q2 : ((M2 ++ [MO.lst []]).set b (.ins bS [(Str.ofString "kept_game", g.toD), (Str.ofString "kept_deeds", .ref M2.length)]))[b]? = some (.ins bS [(Str.ofString "kept_game", g.toD), (Str.ofString "kept_deeds", .ref M2.length)]) := List.getElem?_set_self lt2
  have d2 : ((M2 ++ [MO.lst []]).set b (.ins bS [(Str.ofString "kept_game", g.toD), (Str.ofString "kept_deeds", .ref M2.length)]))[M2.length]? = some (.lst []) := by rw [List.getElem?_set_ne (by omega)]; exact at_len _ _
  have f2 : Fr [b] M ((M2 ++ [MO.lst []]).set b (.ins bS [(Str.ofString "kept_game", g.toD), (Str.ofString "kept_deeds", .ref M2.length)])) := (f1.trans (Fr.of K2)).set (.inl (by simp))
  have len2 : ((M2 ++ [MO.lst []]).set b (.ins bS [(Str.ofString "kept_game", g.toD), (Str.ofString "kept_deeds", .ref M2.length)])).length = M2.length + 1 := by simp
  simp [putD] at p2
  generalize (M2 ++ [MO.lst []]).set b (.ins bS [(Str.ofString "kept_game", g.toD), (Str.ofString "kept_deeds", .ref M2.length)]) = M3 at *
  have e3 := first_ok hg M3
  have K3 := Keep.more M3 [MO.lst [firstD g]]
  have p3 := putO_at (f := Str.ofString "kept_stands") (v := .ref M3.length) (K3.at q2) (by simp)
  have lt3 := lt_of_at (K3.at q2)
  simp [putD] at p3
  have d3 := K3.at d2
  simp [e1, p1, p2, e3, p3]
  refine .ok ⟨rfl, M2.length, M3.length, len1, by omega, ⟨?_, ?_, ?_⟩, (f2.trans (Fr.of K3)).set (.inl (by simp))⟩
  · rw [List.getElem?_set_self lt3]; rfl
  · rw [List.getElem?_set_ne (by omega)]; exact d3
  · rw [List.getElem?_set_ne (by omega)]; exact at_len _ _
section
variable {M : Mem} {b Dn S : Nat} {g : Gm} {ds sts : List D}
theorem add_ok (h : BookAt M b Dn S g ds sts) (r : Run g ds sts) (hn : ds.length ≤ 900) {a d x : D} (ha : sts[ds.length]? = some a) (hs : Stp g (100 * (ds.length : Int)) a d x) :
    Ret (m_Book_add [.ref b, d] M) (fun v M' => v = .int ((ds.length + 1 : Nat) : Int) ∧ BookAt M' b Dn S g (ds ++ [d]) (sts ++ [x]) ∧ Fr [Dn, S] M M') := by
  show Ret (endS (b_Book_add [some (.ref b), some d] M)) _
  unfold b_Book_add
  have hl := r.len
  obtain ⟨M1, e1, k1⟩ := gives_of (hs.run M)
  have h1 := h.keep k1
  have ne := h.ds_ r
  have sS := seqAt_lst h.s
  have ix := idx_neg (xs := sts) sS (atI_last (n := ds.length) hl ha)
  have ap := mAppend_ok (y := x) h1.s (by omega)
  have ltS := lt_of_at h1.s
  have h2 : BookAt (M1.set S (.lst (sts ++ [x]))) b Dn S g ds (sts ++ [x]) := ⟨by rw [List.getElem?_set_ne (Ne.symm h.bs)]; exact h1.o, by rw [List.getElem?_set_ne (Ne.symm ne)]; exact h1.d, List.getElem?_set_self ltS⟩
  have f2 : Fr [Dn, S] M (M1.set S (.lst (sts ++ [x]))) := (Fr.of k1).set (.inl (by simp))
  have l2 : (M1.set S (.lst (sts ++ [x]))).length = M1.length := List.length_set ..
  generalize M1.set S (.lst (sts ++ [x])) = M2 at *
  have ap2 := mAppend_ok (y := d) h2.d (by omega)
  have ltD := lt_of_at h2.d
  have h3 : BookAt (M2.set Dn (.lst (ds ++ [d]))) b Dn S g (ds ++ [d]) (sts ++ [x]) := ⟨by rw [List.getElem?_set_ne (Ne.symm h.bd)]; exact h2.o, List.getElem?_set_self ltD, by rw [List.getElem?_set_ne ne]; exact h2.s⟩
  have f3 : Fr [Dn, S] M (M2.set Dn (.lst (ds ++ [d]))) := f2.set (.inl (by simp))
  have sD2 := seqAt_lst h2.d
  generalize M2.set Dn (.lst (ds ++ [d])) = M3 at *
  have sD := seqAt_lst h3.d
  have s1 := seqAt_lst h.s
  simp [-mIdx_ref, h.fs, h.fg, ix, e1, ap, s1, h2.fd, ap2, sD2, h3.fd, sD]
  exact .ok ⟨by simp, h3, f3⟩
theorem back_ok {d x : D} (h : BookAt M b Dn S g (ds ++ [d]) (sts ++ [x])) (r : Run g (ds ++ [d]) (sts ++ [x])) :
    Ret (m_Book_back [.ref b] M) (fun v M' => v = d ∧ BookAt M' b Dn S g ds sts ∧ Fr [Dn, S] M M') := by
  show Ret (endS (b_Book_back [some (.ref b)] M)) _
  unfold b_Book_back
  have ne := h.ds_ r
  have sD := seqAt_lst h.d
  have sS := seqAt_lst h.s
  have pS := mPop_ok h.s
  have ltS := lt_of_at h.s
  have h2 : BookAt (M.set S (.lst sts)) b Dn S g (ds ++ [d]) sts := ⟨by rw [List.getElem?_set_ne (Ne.symm h.bs)]; exact h.o, by rw [List.getElem?_set_ne (Ne.symm ne)]; exact h.d, List.getElem?_set_self ltS⟩
  have f2 : Fr [Dn, S] M (M.set S (.lst sts)) := (Fr.of (Keep.refl M)).set (.inl (by simp))
  generalize M.set S (.lst sts) = M2 at *
  have pD := mPop_ok h2.d
  have ltD := lt_of_at h2.d
  have sD2 := seqAt_lst h2.d
  have nz : ¬ ((ds.length : Int) + 1 = 0) := by omega
  simp [-List.map_append, h.fd, sD, h.fs, sS, pS, h2.fd, sD2, pD, nz]
  exact .ok ⟨rfl, ⟨by rw [List.getElem?_set_ne (Ne.symm h.bd)]; exact h2.o, List.getElem?_set_self ltD, by rw [List.getElem?_set_ne ne]; exact h2.s⟩, f2.set (.inl (by simp))⟩
theorem stand_last (h : BookAt M b Dn S g ds sts) (r : Run g ds sts) {a : D} (ha : sts[ds.length]? = some a) : m_Book_stand [.ref b, .non] M = .ok a M := by
  show endS (b_Book_stand [some (.ref b), some .non] M) = _
  unfold b_Book_stand
  have ix := idx_neg (xs := sts) (seqAt_lst h.s) (atI_last (n := ds.length) r.len ha)
  simp [-mIdx_ref, h.fs, ix]
theorem stand_at (h : BookAt M b Dn S g ds sts) {k : Nat} (hk : k ≤ ds.length) {a : D} (ha : sts[k]? = some a) : m_Book_stand [.ref b, .int (k : Nat)] M = .ok a M := by
  show endS (b_Book_stand [some (.ref b), some (.int (k : Nat))] M) = _
  unfold b_Book_stand
  have sD := seqAt_lst h.d
  have ix := idx_neg (xs := sts) (seqAt_lst h.s) (atI_nat ha)
  have c1 : ¬ ((k : Int) < 0) := by omega
  have c2 : ¬ ((ds.length : Int) < (k : Nat)) := by omega
  have c3 : ¬ (ds.length < k) := by omega
  simp [-mIdx_ref, h.fs, h.fd, sD, ix, c1, c2, c3]
theorem hold_ok {n m : Nat} {M : Mem} {b : D} (h1 : 1 ≤ n) (h2 : n ≤ m) : m_Book_hold_number [b, .int (n : Nat), .int (m : Nat)] M = .ok .non M := by
  show endS (b_Book_hold_number [some b, some (.int (n : Nat)), some (.int (m : Nat))] M) = _
  unfold b_Book_hold_number
  have c1 : ¬ ((n : Int) < 1) := by omega
  have c2 : ¬ ((m : Int) < (n : Nat)) := by omega
  have c3 : ¬ (m < n) := by omega
  simp [c1, c2, c3]
/-- another row in its place -/
theorem anew_ok (h : BookAt M b Dn S g ds sts) (hg : Gd g) {R : Nat} {ds' sts' : List D} (hR : M[R]? = some (.lst ds')) (r : Run g ds' sts') (hn : ds'.length ≤ 900) :
    Ret (m_Book_written_anew [.ref b, .ref R] M) (fun v M' => v = .non ∧ ∃ S', M.length ≤ S' ∧ BookAt M' b R S' g ds' sts' ∧ Fr [b] M M') := by
  show Ret (endS (b_Book_written_anew [some (.ref b), some (.ref R)] M)) _
  unfold b_Book_written_anew
  obtain ⟨_, M1, e1, rfl, k1, a1⟩ := stands_of_ok hg r (by omega) (seqAt_lst hR)
  have h1 := h.keep k1
  have lt1 := lt_of_at h1.o
  have p1 := putO_at (f := Str.ofString "kept_stands") (v := .ref M.length) h1.o (by simp [bF])
  simp [bF, putD] at p1
  have q1 : (M1.set b (.ins bS [(Str.ofString "kept_game", g.toD), (Str.ofString "kept_deeds", .ref Dn), (Str.ofString "kept_stands", .ref M.length)]))[b]? = some (.ins bS [(Str.ofString "kept_game", g.toD), (Str.ofString "kept_deeds", .ref Dn), (Str.ofString "kept_stands", .ref M.length)]) := List.getElem?_set_self lt1
  have f1 : Fr [b] M (M1.set b (.ins bS [(Str.ofString "kept_game", g.toD), (Str.ofString "kept_deeds", .ref Dn), (Str.ofString "kept_stands", .ref M.length)])) := (Fr.of k1).set (.inl (by simp))
  have bR : b ≠ R := fun e => by have := h.o; rw [e, hR] at this; cases this
  have bl : b < M.length := lt_of_at h.o
  have a2 : (M1.set b (.ins bS [(Str.ofString "kept_game", g.toD), (Str.ofString "kept_deeds", .ref Dn), (Str.ofString "kept_stands", .ref M.length)]))[M.length]? = some (.lst sts') := by rw [List.getElem?_set_ne (by omega)]; exact a1
  have r2 : (M1.set b (.ins bS [(Str.ofString "kept_game", g.toD), (Str.ofString "kept_deeds", .ref Dn), (Str.ofString "kept_stands", .ref M.length)]))[R]? = some (.lst ds') := by rw [List.getElem?_set_ne bR]; exact k1.at hR
  generalize M1.set b (.ins bS [(Str.ofString "kept_game", g.toD), (Str.ofString "kept_deeds", .ref Dn), (Str.ofString "kept_stands", .ref M.length)]) = M2 at *
  have p2 := putO_at (f := Str.ofString "kept_deeds") (v := .ref R) q1 (by simp)
  have lt2 := lt_of_at q1
  simp [putD] at p2
  simp [h.fg, e1, p1, p2]
  refine .ok ⟨rfl, M.length, Nat.le_refl _, ⟨?_, ?_, ?_⟩, f1.set (.inl (by simp))⟩
  · rw [List.getElem?_set_self lt2]; rfl
  · rw [List.getElem?_set_ne bR]; exact r2
  · rw [List.getElem?_set_ne (by omega)]; exact a2
end
end CQ
end
section
set_option maxHeartbeats 4000000
/-! books: deeds put right, put in, left out; units; lists of deeds -/
namespace CQ
open PySem PySem.Spec PyProof.Rows L2 TL
open CM hiding b_l_alike m_l_alike b_l_unit m_l_unit g_l_unit b_l_rule m_l_rule b_l_any_rule m_l_any_rule unit_ok rule_step rule_ok any_rule
open CG CI
open RL RB TLQ RD CP
section
variable {M : Mem} {b Dn S : Nat} {g : Gm} {ds sts : List D}
theorem hold_ok' {i m : Int} {M : Mem} {b : D} (h1 : 1 ≤ i) (h2 : i ≤ m) : m_Book_hold_number [b, .int i, .int m] M = .ok .non M := by
  show endS (b_Book_hold_number [some b, some (.int i), some (.int m)] M) = _
  unfold b_Book_hold_number
  have c1 : ¬ (i < 1) := by omega
  have c2 : ¬ (m < i) := by omega
  simp [c1, c2]
/-- a row written anew, for the book -/
def AnewQ (M : Mem) (b : Nat) (g : Gm) (ds sts : List D) (d : D) (M' : Mem) : Prop := d = .non ∧ ∃ R S', M.length ≤ R ∧ M.length ≤ S' ∧ BookAt M' b R S' g ds sts ∧ Fr [b] M M'
theorem AnewQ.of {M M1 : Mem} {R : Nat} {d : D} {M' : Mem} (k : Keep M M1) (hR : M.length ≤ R) (h : d = .non ∧ ∃ S', M1.length ≤ S' ∧ BookAt M' b R S' g ds sts ∧ Fr [b] M1 M') : AnewQ M b g ds sts d M' := by
  obtain ⟨rfl, S', h1, h2, h3⟩ := h
  exact ⟨rfl, R, S', hR, Nat.le_trans k.1 h1, h2, (Fr.of k).trans h3⟩
/-- what a book's corrections have in common: the pieces, the row, the row written -/
theorem anew_of (h : BookAt M b Dn S g ds sts) (hg : Gd g) {M1 : Mem} (k : Keep M M1) {ds' sts' : List D} {R : Nat} (hR : M1[R]? = some (.lst ds')) (lR : M.length ≤ R) (r : Run g ds' sts') (hl : ds'.length ≤ 900) :
    ∃ M', m_Book_written_anew [.ref b, .ref R] M1 = .ok .non M' ∧ AnewQ M b g ds' sts' .non M' := by
  obtain ⟨v, M', e, q⟩ := anew_ok (h.keep k) hg hR r hl
  have e2 := q.1
  subst e2
  exact ⟨M', e, AnewQ.of k lR q⟩
theorem slTo_ex {n k : Nat} {xs : List D} (h : seqAt M n = some xs) (hk : k ≤ xs.length) : ∃ R M', mSl (.ref n) none (some (k : Int)) M = some (.ref R, M') ∧ Keep M M' ∧ M'[R]? = some (.lst (xs.take k)) ∧ M.length ≤ R :=
  ⟨M.length, _, mSl_to h hk, Keep.more _ _, at_len _ _, Nat.le_refl _⟩
theorem slFr_ex {n k : Nat} {xs : List D} (h : seqAt M n = some xs) (hk : k ≤ xs.length) : ∃ R M', mSl (.ref n) (some (k : Int)) none M = some (.ref R, M') ∧ Keep M M' ∧ M'[R]? = some (.lst (xs.drop k)) ∧ M.length ≤ R :=
  ⟨M.length, _, mSl_fr h hk, Keep.more _ _, at_len _ _, Nat.le_refl _⟩
theorem add_ex {n m : Nat} {xs ys : List D} (h1 : M[n]? = some (.lst xs)) (h2 : M[m]? = some (.lst ys)) (hl : xs.length + ys.length ≤ 1000000) : ∃ R M', mAdd (.ref n) (.ref m) M = some (.ref R, M') ∧ Keep M M' ∧ M'[R]? = some (.lst (xs ++ ys)) ∧ M.length ≤ R :=
  ⟨M.length, _, mAdd_lists h1 h2 hl, Keep.more _ _, at_len _ _, Nat.le_refl _⟩
theorem put_in_ok (h : BookAt M b Dn S g ds sts) (hg : Gd g) {n : Nat} (hn : n ≤ ds.length) {d : D} {sts' : List D} (r : Run g (ds.take n ++ [d] ++ ds.drop n) sts') (hl : ds.length ≤ 800) :
    Ret (m_Book_put_in [.ref b, .int ((n : Int) + 1), d] M) (AnewQ M b g (ds.take n ++ [d] ++ ds.drop n) sts') := by
  show Ret (endS (b_Book_put_in [some (.ref b), some (.int ((n : Int) + 1)), some d] M)) _
  unfold b_Book_put_in
  have eh := hold_ok' (i := (n : Int) + 1) (m := (ds.length : Int) + 1) (M := M) (b := .ref b) (by omega) (by omega)
  have me1 := fun fn mas env => h.me (m := "hold_number") (dd := []) (fn := fn) (mas := mas) (env := env) (by decide)
  have me2 := fun fn mas env => h.me (m := "written_anew") (dd := []) (fn := fn) (mas := mas) (env := env) (by decide)
  obtain ⟨R1, M1, e1, k1, a1, l1⟩ := slTo_ex (seqAt_lst h.d) hn
  have k2 := Keep.more M1 [MO.lst [d]]
  obtain ⟨R3, M3, e3, k3, a3, l3⟩ := add_ex (k2.at a1) (at_len M1 (MO.lst [d])) (by rw [List.length_take]; simp; omega)
  have h3 := ((h.keep k1).keep k2).keep k3
  obtain ⟨R4, M4, e4, k4, a4, l4⟩ := slFr_ex (seqAt_lst h3.d) hn
  obtain ⟨R5, M5, e5, k5, a5, l5⟩ := add_ex (k4.at a3) a4 (by simp; omega)
  have l2 := k2.1
  have k9 := (((k1.trans k2).trans k3).trans k4).trans k5
  obtain ⟨M6, e6, q⟩ := anew_of h hg k9 a5 (by have := k1.1; have := k3.1; have := k4.1; omega) r (by simp; omega)
  have sD := seqAt_lst h.d
  have f3 := h3.fd
  simp [-mAdd_ref, -mSl_ref, -List.append_assoc, h.fd, sD, me1, me2, eh, e1, e3, f3, e4, e5, e6]
  exact .ok q
theorem put_right_ok (h : BookAt M b Dn S g ds sts) (hg : Gd g) {n : Nat} (hn : n < ds.length) {d : D} {sts' : List D} (r : Run g (ds.take n ++ [d] ++ ds.drop (n + 1)) sts') (hl : ds.length ≤ 800) :
    Ret (m_Book_put_right [.ref b, .int ((n : Int) + 1), d] M) (AnewQ M b g (ds.take n ++ [d] ++ ds.drop (n + 1)) sts') := by
  show Ret (endS (b_Book_put_right [some (.ref b), some (.int ((n : Int) + 1)), some d] M)) _
  unfold b_Book_put_right
  have eh := hold_ok' (i := (n : Int) + 1) (m := (ds.length : Int)) (M := M) (b := .ref b) (by omega) (by omega)
  have me1 := fun fn mas env => h.me (m := "hold_number") (dd := []) (fn := fn) (mas := mas) (env := env) (by decide)
  have me2 := fun fn mas env => h.me (m := "written_anew") (dd := []) (fn := fn) (mas := mas) (env := env) (by decide)
  obtain ⟨R1, M1, e1, k1, a1, l1⟩ := slTo_ex (k := n) (seqAt_lst h.d) (by omega)
  have k2 := Keep.more M1 [MO.lst [d]]
  obtain ⟨R3, M3, e3, k3, a3, l3⟩ := add_ex (k2.at a1) (at_len M1 (MO.lst [d])) (by rw [List.length_take]; simp; omega)
  have h3 := ((h.keep k1).keep k2).keep k3
  obtain ⟨R4, M4, e4, k4, a4, l4⟩ := slFr_ex (k := n + 1) (seqAt_lst h3.d) hn
  obtain ⟨R5, M5, e5, k5, a5, l5⟩ := add_ex (k4.at a3) a4 (by simp; omega)
  have l2 := k2.1
  have k9 := (((k1.trans k2).trans k3).trans k4).trans k5
  obtain ⟨M6, e6, q⟩ := anew_of h hg k9 a5 (by have := k1.1; have := k3.1; have := k4.1; omega) r (by simp; omega)
  have sD := seqAt_lst h.d
  have f3 := h3.fd
  have c4 : ((n + 1 : Nat) : Int) = (n : Int) + 1 := rfl
  rw [c4] at e4
  simp [-mAdd_ref, -mSl_ref, -List.append_assoc, h.fd, sD, me1, me2, eh, e1, e3, f3, e4, e5, e6]
  exact .ok q
theorem leave_out_ok (h : BookAt M b Dn S g ds sts) (hg : Gd g) {n : Nat} (hn : n < ds.length) {sts' : List D} (r : Run g (ds.take n ++ ds.drop (n + 1)) sts') (hl : ds.length ≤ 800) :
    Ret (m_Book_leave_out [.ref b, .int ((n : Int) + 1)] M) (AnewQ M b g (ds.take n ++ ds.drop (n + 1)) sts') := by
  show Ret (endS (b_Book_leave_out [some (.ref b), some (.int ((n : Int) + 1))] M)) _
  unfold b_Book_leave_out
  have eh := hold_ok' (i := (n : Int) + 1) (m := (ds.length : Int)) (M := M) (b := .ref b) (by omega) (by omega)
  have me1 := fun fn mas env => h.me (m := "hold_number") (dd := []) (fn := fn) (mas := mas) (env := env) (by decide)
  have me2 := fun fn mas env => h.me (m := "written_anew") (dd := []) (fn := fn) (mas := mas) (env := env) (by decide)
  obtain ⟨R1, M1, e1, k1, a1, l1⟩ := slTo_ex (k := n) (seqAt_lst h.d) (by omega)
  have h3 := h.keep k1
  obtain ⟨R4, M4, e4, k4, a4, l4⟩ := slFr_ex (k := n + 1) (seqAt_lst h3.d) hn
  obtain ⟨R5, M5, e5, k5, a5, l5⟩ := add_ex (k4.at a1) a4 (by simp; omega)
  have k9 := (k1.trans k4).trans k5
  obtain ⟨M6, e6, q⟩ := anew_of h hg k9 a5 (by have := k1.1; have := k4.1; omega) r (by simp; omega)
  have sD := seqAt_lst h.d
  have f3 := h3.fd
  have c4 : ((n + 1 : Nat) : Int) = (n : Int) + 1 := rfl
  rw [c4] at e4
  simp [-mAdd_ref, -mSl_ref, -List.append_assoc, h.fd, sD, me1, me2, eh, e1, f3, e4, e5, e6]
  exact .ok q
end
end CQ
end
section
set_option maxHeartbeats 4000000
/-! books: units won, deeds told -/
namespace CQ
open PySem PySem.Spec PyProof.Rows L2 TL
open CM hiding b_l_alike m_l_alike b_l_unit m_l_unit g_l_unit b_l_rule m_l_rule b_l_any_rule m_l_any_rule unit_ok rule_step rule_ok any_rule
open CG CI
open RL RB TLQ RD CP
/-- the stand of a rule behind some rallies -/
def stAt (r : Rule) (s : Stand) (bs : List Bool) : Stand := bs.foldl (fun s b => (ralliedR r s b).1) s
theorem stAt_snoc {r : Rule} {s : Stand} {bs : List Bool} {b : Bool} : stAt r s (bs ++ [b]) = (ralliedR r (stAt r s bs) b).1 := by simp [stAt]
/-- a row of rallies, its stands -/
theorem Run.rally {r : Rule} (hg : Gd (.rally r)) {ds sts : List D} (h : Run (.rally r) ds sts) (hn : ds.length ≤ 1000) : ∃ bs : List Bool, ds = bs.map sideD ∧
    ∀ i (hi : i < bs.length), sts[i]? = some (.tup [(stAt r (begunR r) (bs.take i)).toD, .non]) ∧ RGo r (100 * (i : Int)) (stAt r (begunR r) (bs.take i)) none ∧
      sts[i + 1]? = some (.tup [(stAt r (begunR r) (bs.take (i + 1))).toD, wonD (rWon (ralliedR r (stAt r (begunR r) (bs.take i)) bs[i]) bs[i])]) := by
  have hb : ∃ bs : List Bool, ds = bs.map sideD := by
    have hall : ∀ d ∈ ds, ∃ b : Bool, d = sideD b := fun d hd => by
      obtain ⟨i, hi, e⟩ := List.mem_iff_getElem.mp hd
      obtain ⟨a, b, _, _, st⟩ := h.step i d (by rw [List.getElem?_eq_getElem hi, e])
      exact st.sd
    clear h hn
    induction ds with
    | nil => exact ⟨[], rfl⟩
    | cons d ds ih =>
      obtain ⟨bs, e⟩ := ih fun x hx => hall x (List.mem_cons_of_mem _ hx)
      obtain ⟨b, e2⟩ := hall d List.mem_cons_self
      exact ⟨b :: bs, by rw [e, e2]; rfl⟩
  obtain ⟨bs, rfl⟩ := hb
  refine ⟨bs, rfl, ?_⟩
  have key : ∀ i, i < bs.length → sts[i]? = some (.tup [(stAt r (begunR r) (bs.take i)).toD, .non]) → RGo r (100 * (i : Int)) (stAt r (begunR r) (bs.take i)) none → 
      ∀ hi : i < bs.length, sts[i + 1]? = some (.tup [(stAt r (begunR r) (bs.take (i + 1))).toD, wonD (rWon (ralliedR r (stAt r (begunR r) (bs.take i)) bs[i]) bs[i])]) ∧ RGo r (100 * (i : Int) + 1) (stAt r (begunR r) (bs.take (i + 1))) (rWon (ralliedR r (stAt r (begunR r) (bs.take i)) bs[i]) bs[i]) := by
    intro i hi e1 go _
    have hlen : bs.length ≤ 1000 := by simpa using hn
    obtain ⟨a, b, h1, h2, st⟩ := h.step i (sideD bs[i]) (by simp [hi])
    rw [e1] at h1
    cases h1
    obtain ⟨go', run⟩ := rally_next (B := 100 * (i : Int)) (by omega) (by omega) hg.2.1 (go.2.2 rfl) go.2.1 bs[i]
    have e3 : bs.take (i + 1) = bs.take i ++ [bs[i]] := by rw [List.take_succ, List.getElem?_eq_getElem hi]; rfl
    rw [e3, stAt_snoc]
    obtain ⟨M1, q1, _⟩ := gives_of (st.run [])
    obtain ⟨M2, q2, _⟩ := gives_of (played_rally (run []))
    have q1' : m_played [.tup [.str (Str.ofString "rally"), r.toD], .tup [(stAt r (begunR r) (bs.take i)).toD, .non], sideD bs[i]] [] = .ok b M1 := q1
    have q2' : m_played [.tup [.str (Str.ofString "rally"), r.toD], .tup [(stAt r (begunR r) (bs.take i)).toD, .non], sideD bs[i]] [] = .ok _ M2 := q2
    rw [q1'] at q2'
    cases q2'
    exact ⟨h2, go'⟩
  have all : ∀ i, i < bs.length → sts[i]? = some (.tup [(stAt r (begunR r) (bs.take i)).toD, .non]) ∧ RGo r (100 * (i : Int)) (stAt r (begunR r) (bs.take i)) none := by
    intro i
    induction i with
    | zero =>
      intro _
      obtain ⟨h1, h2, h3⟩ := hg
      have op := open_begun _ r (Nat.le_refl _)
      have sb := sb_begun (B := 0) (Int.le_refl 0) _ r (Nat.le_refl _)
      exact ⟨h.first, ⟨h2, Open.fits op, CG.open_nil op, SB.sm (by decide) sb, fun bs e => (by cases e), fun e => (by cases e)⟩, sb, fun _ => op⟩
    | succ i ih =>
      intro hi
      obtain ⟨e1, go⟩ := ih (by omega)
      obtain ⟨e2, go2⟩ := key i (by omega) e1 go (by omega)
      obtain ⟨a, b, h1, _, st⟩ := h.step (i + 1) (sideD bs[i + 1]) (by simp [hi])
      rw [e2] at h1
      cases h1
      obtain ⟨x, fx⟩ := st.sa.form
      have w0 : rWon (ralliedR r (stAt r (begunR r) (bs.take i)) bs[i]) bs[i] = none := by
        cases hw : rWon (ralliedR r (stAt r (begunR r) (bs.take i)) bs[i]) bs[i] with
        | none => rfl
        | some q => rw [hw] at fx; simp [wonD] at fx
      rw [w0] at e2 go2
      refine ⟨e2, go2.le (by omega)⟩
  exact fun i hi => ⟨(all i hi).1, (all i hi).2, (key i hi (all i hi).1 (all i hi).2 hi).1⟩
/-- which deeds won units -/
def unF (r : Rule) : Stand → List Bool → Nat → List D
  | _, [], _ => []
  | s, b :: bs, i => (if 0 < stakesR r s b then [.tup [.int ((i + 1 : Nat) : Int), sideD b, .int (stakesR r s b : Nat)]] else []) ++ unF r (ralliedR r s b).1 bs (i + 1)
theorem unF_len {r : Rule} : ∀ {bs : List Bool} {s : Stand} {i : Nat}, (unF r s bs i).length ≤ bs.length
  | [], _, _ => Nat.le_refl _
  | b :: bs, s, i => by
    have := unF_len (r := r) (bs := bs) (s := (ralliedR r s b).1) (i := i + 1)
    simp only [unF, List.length_append, List.length_cons]
    split <;> simp <;> omega
def UInv (M : Mem) (b Dn S : Nat) (r : Rule) (bs : List Bool) (sts : List D) : List D → TL.Env → Mem → Prop := fun rest env M' => ∃ (e2 e3 e4 : Option D) (i : Nat) (us : List D), env = [some (.ref b), some (.ref M.length), e2, e3, e4] ∧ i ≤ bs.length ∧ rest = enumItems i ((bs.map sideD).drop i) ∧ Keep M M' ∧ M'[M.length]? = some (.lst us) ∧ us.length ≤ i ∧ us ++ unF r (stAt r (begunR r) (bs.take i)) (bs.drop i) i = unF r (begunR r) bs 0
section
variable {M : Mem} {b Dn S : Nat} {ds sts : List D}
theorem units_ok {r : Rule} {bs : List Bool} (h : BookAt M b Dn S (.rally r) (bs.map sideD) sts) (hg : Gd (.rally r)) (run : Run (.rally r) (bs.map sideD) sts) (hn : bs.length ≤ 1000) :
    Ret (m_Book_units [.ref b] M) (fun v M' => v = .ref M.length ∧ Keep M M' ∧ M'[M.length]? = some (.lst (unF r (begunR r) bs 0))) := by
  show Ret (endS (b_Book_units [some (.ref b), none, none, none, none] M)) _
  unfold b_Book_units
  obtain ⟨bs', hbs, all⟩ := Run.rally hg run (by simpa using hn)
  have ebs : bs = bs' := by
    refine (List.map_inj_right fun a b e => ?_).mp hbs
    cases a <;> cases b <;> simp [sideD] at e ⊢
  subst ebs
  have K0 := Keep.more M [MO.lst []]
  have h0 := h.keep K0
  have sD := seqAt_lst h0.d
  have f1 := h0.fg
  have f2 := h0.fd
  simp [f1, f2, Gm.toD, enumOf_ref sD]
  refine Ret.endS ?_
  refine SRet.forQ (UInv M b Dn S r bs sts) ⟨_, _, _, 0, [], rfl, Nat.zero_le _, by simp, K0, at_len _ _, Nat.zero_le _, by simp [stAt]⟩ (fun rest env M' hi => by
    obtain ⟨_, _, _, _, _, _, _, _, k, _⟩ := hi
    exact k.seq (seqAt_lst h.d)) ?_ ?_
  · rintro d rest env M' ⟨e2, e3, e4, i, us, rfl, hi, hr, k, hS, hl, hu⟩
    by_cases c : i < bs.length
    · have hd : (bs.map sideD)[i]? = some (sideD bs[i]) := by simp [c]
      rw [drop_cons hd] at hr
      simp only [enumItems] at hr
      cases hr
      refine ⟨_, rfl, ?_⟩
      unfold lp_Book_units_0
      obtain ⟨q1, go, q2⟩ := all i c
      have hk := h.keep k
      have g1 := hk.fg
      have g3 := hk.fs
      have sS := seqAt_lst hk.s
      have ix : atI sts (i : Int) = some (.tup [(stAt r (begunR r) (bs.take i)).toD, .non]) := atI_nat q1
      obtain ⟨M1, es, k1⟩ := stakes_ok 14 r (stAt r (begunR r) (bs.take i)) bs[i] M' (by have := hg.2.1; omega) (by have := hg.2.1; omega) (go.2.2 rfl)
      have ap := fun y => mAppend_ok (y := y) (k1.at hS) (by omega)
      have lt := lt_of_at (k1.at hS)
      have e3 : bs.take (i + 1) = bs.take i ++ [bs[i]] := by rw [List.take_succ, List.getElem?_eq_getElem c]; rfl
      have e4 : bs.drop i = bs[i] :: bs.drop (i + 1) := List.drop_eq_getElem_cons c
      rw [e4] at hu
      simp only [unF] at hu
      have e5 : stAt r (begunR r) (bs.take (i + 1)) = (ralliedR r (stAt r (begunR r) (bs.take i)) bs[i]).1 := by rw [e3, stAt_snoc]
      rw [← e5] at hu
      generalize stAt r (begunR r) (bs.take i) = s at *
      generalize bs[i] = x at *
      have g1' : mFld bS (Str.ofString "kept_game") (.ref b) M' = some (.tup [.str (Str.ofString "rally"), r.toD], M') := g1
      by_cases c0 : 0 < stakesR r s x
      · rw [if_pos c0] at hu
        have c1 : (0 : Int) < (stakesR r s x : Nat) := by omega
        simp [-mIdx_ref, setAll, g1', g3, idx_neg sS ix, es, ap, c0, seqAt_lst (k1.at hS)]
        refine SRet.next ⟨_, _, _, i + 1, _, rfl, c, rfl, (k.trans k1).setNew (Nat.le_refl _), List.getElem?_set_self lt, by simp; omega, ?_⟩
        rw [← hu]
        simp
      · rw [if_neg c0] at hu
        simp [-mIdx_ref, setAll, g1', g3, idx_neg sS ix, es, c0]
        exact SRet.next ⟨_, _, _, i + 1, us, rfl, c, rfl, k.trans k1, k1.at hS, by omega, hu⟩
    · have e : (bs.map sideD).drop i = [] := List.drop_eq_nil_of_le (by simp; omega)
      rw [e] at hr
      cases hr
  · rintro env M' ⟨e2, e3, e4, i, us, rfl, hi, hr, k, hS, hl, hu⟩
    have e : i = bs.length := by
      by_cases c : i < bs.length
      · have hd : (bs.map sideD)[i]? = some (sideD bs[i]) := by simp [c]
        rw [drop_cons hd] at hr
        cases hr
      · omega
    subst e
    rw [List.drop_eq_nil_of_le (Nat.le_refl _)] at hu
    simp only [unF, List.append_nil] at hu
    simp
    refine SRet.ret ⟨rfl, k, ?_⟩
    rw [hS, hu]
/-- of other games -/
theorem units_none {g : Gm} (h : BookAt M b Dn S g ds sts) (hg : ∀ r, g ≠ .rally r) : m_Book_units [.ref b] M = .ok (.ref M.length) (M ++ [.lst []]) := by
  show endS (b_Book_units [some (.ref b), none, none, none, none] M) = _
  unfold b_Book_units
  have h0 := h.keep (Keep.more M [MO.lst []])
  have f1 := h0.fg
  cases g with
  | rally r => exact absurd rfl (hg r)
  | down w => simp [f1, Gm.toD]
  | lane k P n => simp [f1, Gm.toD]
theorem deeds_of {g : Gm} (h : BookAt M b Dn S g ds sts) : m_Book_deeds [.ref b] M = .ok (.ref M.length) (M ++ [.lst ds]) := by
  show endS (b_Book_deeds [some (.ref b)] M) = _
  unfold b_Book_deeds
  have sD := seqAt_lst h.d
  simp [h.fd, sD]
theorem game_of {g : Gm} (h : BookAt M b Dn S g ds sts) : m_Book_game [.ref b] M = .ok g.toD M := by
  show endS (b_Book_game [some (.ref b)] M) = _
  unfold b_Book_game
  simp [h.fg]
end
end CQ
end
section
set_option maxHeartbeats 4000000
namespace LW
open PySem PySem.Spec PyProof.Rows L2 TL
open CM hiding any_rule b_l_any_rule b_l_rule b_l_throws b_l_unit g_l_unit lp_l_throws_0 m_l_any_rule m_l_rule m_l_throws m_l_unit pick3 rng_cons rule_ok rule_step unit_ok
open CG hiding m_l_game b_l_game m_l_unit b_l_unit GameQ rule_ok unit_ok atI_last
open CI CE CQ
open RL RB TLQ RD CP
/-! counts of a stand, units won -/
def cntS : Stand → List Int
  | .nil => []
  | .st z o w => (z + o) :: cntS w
theorem cntS_len : ∀ s : Stand, (cntS s).length = s.depth
  | .nil => rfl
  | .st z o w => by simp [cntS, Stand.depth, cntS_len w]
def CInv (s : Stand) (M0 : Mem) : Nat → TL.Env → Mem → Prop := fun m env M => ∃ (w : Stand) (acc : List Int), env = [some w.toD, some (.ref M0.length)] ∧ m = w.depth ∧ acc.length + w.depth ≤ 60 ∧ Keep M0 M ∧ M[M0.length]? = some (.lst (acc.map D.int)) ∧ acc ++ cntS w = cntS s
def CntQ (s : Stand) (M0 : Mem) (d : D) (M : Mem) : Prop := d = .ref M0.length ∧ Keep M0 M ∧ M[M0.length]? = some (.lst ((cntS s).map D.int))
theorem counts_ok {s : Stand} (hd : s.depth ≤ 60) (M0 : Mem) : Ret (m_l_counts [s.toD] M0) (CntQ s M0) := by
  show Ret (endS (b_l_counts [some s.toD, none] M0)) _
  unfold b_l_counts
  simp
  refine Ret.endS ?_
  refine SRet.whileQ (CInv s M0) (m := s.depth) ⟨s, [], rfl, rfl, by simpa using hd, Keep.more _ _, at_len _ _, rfl⟩ (by omega) ?_
  rintro m env M ⟨w, acc, rfl, rfl, hl, kk, ha, e⟩
  have hwd : w.depth ≤ 60 := by omega
  cases w with
  | nil =>
    simp [mNe_nilS hwd]
    refine .ok ?_
    simp
    refine SRet.ret ⟨rfl, kk, ?_⟩
    have e' : acc = cntS s := by simpa [cntS] using e
    rw [ha, e']
  | st z o v =>
    simp [mNe_nilS hwd]
    refine .ok ?_
    simp
    have hlt := lt_of_at ha
    have sq := seqAt_lst ha
    have happ : mAppend (.ref M0.length) [.int (z + o)] M = some (.non, M.set M0.length (.lst (acc.map D.int ++ [.int (z + o)]))) := mAppend_ok ha (by rw [List.length_map]; omega)
    unfold lp_l_counts_0
    simp [Stand.toD, sq, happ]
    refine SRet.next ⟨v.depth, by simp [Stand.depth], v, acc ++ [z + o], rfl, rfl, by simp [Stand.depth] at hl ⊢; omega, kk.setNew (Nat.le_refl _), ?_, ?_⟩
    · rw [List.getElem?_set_self hlt]; simp
    · rw [← e]; simp [cntS]
/-- how many units, by the counts -/
def grewN : List Int → List Int → Nat
  | c :: cs, d :: ds => if d > c then cs.length else grewN cs ds
  | _, _ => 0
theorem stakes_won : ∀ {s : Stand} {r : Rule} {b : Bool}, (ralliedR r s b).2 = true → stakesR r s b = (cntS s).length
  | .nil, r, b, _ => by cases r <;> rfl
  | .st z o w, r, b, h => by
    have h' := h
    simp only [ralliedR] at h'
    have hq : (ralliedR (within r z o) w b).2 = true := by
      cases q : (ralliedR (within r z o) w b).2 with
      | true => rfl
      | false => rw [q] at h'; simp [q] at h'
    have ih := stakes_won (b := b) hq
    simp only [stakesR, h, cntS, List.length_cons, ih, if_true]
theorem stakes_open : ∀ {s : Stand} {r : Rule} {b : Bool}, (ralliedR r s b).2 = false → stakesR r s b = grewN (cntS s) (cntS (ralliedR r s b).1)
  | .nil, r, b, h => by simp [ralliedR] at h
  | .st z o w, r, b, h => by
    have h' := h
    cases q : (ralliedR (within r z o) w b).2 with
    | true =>
      have sw := stakes_won q
      simp only [stakesR, h, sw, ralliedR, q, if_true] at h' ⊢
      split at h'
      · cases h'
      · rename_i c
        rw [if_neg c]
        simp only [cntS, grewN]
        have : (RL.bump z o b).1 + (RL.bump z o b).2 > z + o := by
          unfold RL.bump
          cases b <;> simp <;> omega
        rw [if_pos this]
        simp
    | false =>
      have so := stakes_open q
      simp only [stakesR, h, so, ralliedR, q, cntS, grewN]
      rw [if_neg (by simp)]
      simp [cntS, grewN]
theorem cnt_rallied {s : Stand} {r : Rule} (ho : Open r s) (b : Bool) (h : (ralliedR r s b).2 = false) : (ralliedR r s b).1.depth ≤ r.depth := open_depth (open_rallied ho h)
def GInv (M0 : Mem) (a0 a1 a2 : Option D) (C B : Nat) (cs ds : List Int) : List D → TL.Env → Mem → Prop := fun rest env M => ∃ (e5 : Option D) (i : Nat), env = [a0, a1, a2, some (.ref C), some (.ref B), e5] ∧ M = M0 ∧ i ≤ cs.length ∧ rest = rngItems (i : Nat) (cs.length - i) ∧ grewN cs ds = grewN (cs.drop i) (ds.drop i)
theorem grew_cons {c d : Int} {cs ds : List Int} : grewN (c :: cs) (d :: ds) = if d > c then cs.length else grewN cs ds := rfl
theorem won_ok {r : Rule} {s : Stand} {b : Bool} (gm : D) (hd : r.depth ≤ 4) (ho : Open r s) (M : Mem) :
    Ret (m_l_won [gm, .tup [s.toD, .non], .tup [(ralliedR r s b).1.toD, wonD (rWon (ralliedR r s b) b)]] M) (Gives M (.int (stakesR r s b : Nat))) := by
  show Ret (endS (b_l_won [some gm, some (.tup [s.toD, .non]), some (.tup [(ralliedR r s b).1.toD, wonD (rWon (ralliedR r s b) b)]), none, none, none] M)) _
  unfold b_l_won
  have dep := open_depth ho
  obtain ⟨_, M1, e1, rfl, k1, a1⟩ := counts_ok (s := s) (by omega) M
  have s1 := seqAt_lst a1
  cases hw : (ralliedR r s b).2 with
  | true =>
    have sw := stakes_won hw
    simp [e1, rWon, hw, wonD, s1, sw]
    exact .ok ⟨rfl, k1⟩
  | false =>
    have so := stakes_open hw
    have d2 := cnt_rallied ho b hw
    generalize stakesR r s b = n at *
    have rw0 : rWon (ralliedR r s b) b = none := by simp [rWon, hw]
    rw [rw0]
    generalize (ralliedR r s b).1 = s' at *
    subst so
    obtain ⟨_, M2, e2, rfl, k2, a2⟩ := counts_ok (s := s') (by omega) M1
    have s2 := seqAt_lst a2
    have s12 := k2.seq s1
    simp [e1, wonD, e2, s12]
    have ro : RngOk ((cntS s).length : Int) := rngOk_nat (by rw [cntS_len]; omega)
    simp [ro]
    refine Ret.endS ?_
    have ha : ∀ (xs : List Int) (i : Nat) (hi : i < xs.length), atI (xs.map D.int) (i : Int) = some (.int xs[i]) := fun xs i hi => atI_nat (by simp [hi])
    generalize cntS s = cs at *
    generalize cntS s' = ds at *
    refine SRet.forQ (GInv M2 _ _ _ M.length M1.length cs ds) ⟨_, 0, rfl, rfl, Nat.zero_le _, by simp, by simp⟩ (fun rest env M' hi => by trivial) ?_ ?_
    · rintro d rest env M' ⟨e5, i, rfl, rfl, hi, hr, hg⟩
      by_cases c : i < cs.length
      · rw [show cs.length - i = (cs.length - (i + 1)) + 1 by omega, CE.rng_cons] at hr
        cases hr
        refine ⟨_, rfl, ?_⟩
        unfold lp_l_won_0
        have q1 := ha cs i c
        by_cases c2 : i < ds.length
        · have q2 := ha ds i c2
          rw [List.drop_eq_getElem_cons c, List.drop_eq_getElem_cons c2, grew_cons] at hg
          by_cases c3 : ds[i] > cs[i]
          · rw [if_pos c3] at hg
            have c3' : cs[i] < ds[i] := c3
            simp [setAll, s12, s2, q1, q2, c2, c3']
            refine SRet.ret ⟨?_, k1.trans k2⟩
            rw [hg, List.length_drop]
            congr 1
            omega
          · rw [if_neg c3] at hg
            have c3' : ¬ cs[i] < ds[i] := c3
            simp [setAll, s12, s2, q1, q2, c2, c3']
            exact SRet.next ⟨_, i + 1, rfl, rfl, c, rfl, hg⟩
        · have z : ds.drop i = [] := List.drop_eq_nil_of_le (by omega)
          have z' : ds.drop (i + 1) = [] := List.drop_eq_nil_of_le (by omega)
          rw [z, List.drop_eq_getElem_cons c] at hg
          simp [setAll, s12, s2, q1, c2]
          refine SRet.next ⟨_, i + 1, rfl, rfl, c, rfl, ?_⟩
          rw [hg, z']
          cases cs.drop (i + 1) <;> rfl
      · rw [show cs.length - i = 0 by omega] at hr
        cases hr
    · rintro env M' ⟨e5, i, rfl, rfl, hi, hr, hg⟩
      have e : i = cs.length := by
        by_cases c : i < cs.length
        · rw [show cs.length - i = (cs.length - (i + 1)) + 1 by omega, CE.rng_cons] at hr
          cases hr
        · omega
      rw [List.drop_eq_nil_of_le (by omega)] at hg
      simp
      refine SRet.ret ⟨?_, k1.trans k2⟩
      rw [hg]
      rfl
end LW
end
section
set_option maxHeartbeats 4000000
namespace LW
open PySem PySem.Spec PyProof.Rows L2 TL
open CM hiding any_rule b_l_any_rule b_l_rule b_l_throws b_l_unit g_l_unit lp_l_throws_0 m_l_any_rule m_l_rule m_l_throws m_l_unit pick3 rng_cons rule_ok rule_step unit_ok
open CG hiding m_l_game b_l_game m_l_unit b_l_unit GameQ rule_ok unit_ok atI_last
open CI CE CQ
open RL RB TLQ RD CP
/-! the units of a row, by the law -/
abbrev gR (r : Rule) : D := .tup [.str (Str.ofString "rally"), r.toD]
def LInv (M : Mem) (R : Nat) (r : Rule) (bs : List Bool) (sts : List D) : List D → TL.Env → Mem → Prop := fun rest env M' => ∃ (e4 e5 e6 : Option D) (st : D) (i : Nat) (us : List D), env = [some (gR r), some (.ref R), some st, some (.ref M.length), e4, e5, e6] ∧ i ≤ bs.length ∧ sts[i]? = some st ∧ rest = rngItems (i : Nat) (bs.length - i) ∧ Keep M M' ∧ M'[M.length]? = some (.lst us) ∧ us.length ≤ i ∧ us ++ unF r (stAt r (begunR r) (bs.take i)) (bs.drop i) i = unF r (begunR r) bs 0
theorem l_units_ok {r : Rule} {bs : List Bool} {sts : List D} {M : Mem} {R : Nat} (hR : M[R]? = some (.lst (bs.map sideD))) (hg : Gd (.rally r)) (run : Run (.rally r) (bs.map sideD) sts) (hn : bs.length ≤ 1000) :
    Ret (m_l_units [gR r, .ref R] M) (fun v M' => v = .ref M.length ∧ Keep M M' ∧ M'[M.length]? = some (.lst (unF r (begunR r) bs 0))) := by
  show Ret (endS (b_l_units [some (gR r), some (.ref R), none, none, none, none, none] M)) _
  unfold b_l_units
  obtain ⟨bs', hbs, all⟩ := Run.rally hg run (by simpa using hn)
  have ebs : bs = bs' := by
    refine (List.map_inj_right fun a b e => ?_).mp hbs
    cases a <;> cases b <;> simp [sideD] at e ⊢
  subst ebs
  have e1 : m_first [gR r] M = .ok (firstD (.rally r)) M := first_ok hg M
  have K0 := Keep.more M [MO.lst []]
  have sD := seqAt_lst (K0.at hR)
  have ro : RngOk (bs.length : Int) := rngOk_nat (by omega)
  simp [e1, sD, ro]
  refine Ret.endS ?_
  refine SRet.forQ (LInv M R r bs sts) ⟨_, _, _, _, 0, [], rfl, Nat.zero_le _, run.first, by simp, K0, at_len _ _, Nat.zero_le _, by simp [stAt]⟩ (fun rest env M' hi => by trivial) ?_ ?_
  · rintro d rest env M' ⟨e4, e5, e6, st, i, us, rfl, hi, hst, hr, k, hS, hl, hu⟩
    by_cases c : i < bs.length
    · rw [show bs.length - i = (bs.length - (i + 1)) + 1 by omega, CE.rng_cons] at hr
      cases hr
      refine ⟨_, rfl, ?_⟩
      unfold lp_l_units_0
      obtain ⟨q1, go, q2⟩ := all i c
      rw [hst] at q1
      cases q1
      have sR := seqAt_lst (k.at hR)
      have ix : atI (bs.map sideD) (i : Int) = some (sideD bs[i]) := atI_nat (by simp [c])
      obtain ⟨_, _, _, _, stp⟩ := run.step i (sideD bs[i]) (by simp [c])
      rename_i a0 b0 ha0 hb0
      rw [hst] at ha0
      cases ha0
      rw [q2] at hb0
      cases hb0
      obtain ⟨M1, ep, k1⟩ := gives_of (stp.run M')
      have hd4 := hg.2.1
      obtain ⟨M2, ew, k2⟩ := gives_of (won_ok (r := r) (b := bs[i]) (gR r) hd4 (go.2.2 rfl) M1)
      have e3 : bs.take (i + 1) = bs.take i ++ [bs[i]] := by rw [List.take_succ, List.getElem?_eq_getElem c]; rfl
      have e4 : bs.drop i = bs[i] :: bs.drop (i + 1) := List.drop_eq_getElem_cons c
      rw [e4] at hu
      simp only [unF] at hu
      have e5 : stAt r (begunR r) (bs.take (i + 1)) = (ralliedR r (stAt r (begunR r) (bs.take i)) bs[i]).1 := by rw [e3, stAt_snoc]
      rw [← e5] at hu
      rw [← e5] at ew
      have k12 := k1.trans k2
      have ap := fun y => mAppend_ok (y := y) (k12.at hS) (by omega)
      have lt := lt_of_at (k12.at hS)
      have sR2 := k12.seq sR
      generalize rWon (ralliedR r (stAt r (begunR r) (bs.take i)) bs[i]) bs[i] = won at *
      generalize stAt r (begunR r) (bs.take i) = s at *
      generalize hS' : stAt r (begunR r) (bs.take (i + 1)) = s' at *
      generalize bs[i] = x at *
      have ep' : m_played [gR r, .tup [s.toD, .non], sideD x] M' = .ok (.tup [s'.toD, wonD won]) M1 := ep
      by_cases c0 : 0 < stakesR r s x
      · rw [if_pos c0] at hu
        simp [setAll, sR, ix, ep', ew, c0, sR2, ap, seqAt_lst (k12.at hS)]
        refine SRet.next ⟨_, _, _, _, i + 1, _, rfl, c, q2, rfl, (k.trans k12).setNew (Nat.le_refl _), List.getElem?_set_self lt, by simp; omega, ?_⟩
        rw [← hu, hS']
        simp
      · rw [if_neg c0] at hu
        simp [setAll, sR, ix, ep', ew, c0]
        exact SRet.next ⟨_, _, _, _, i + 1, us, rfl, c, q2, rfl, k.trans k12, k12.at hS, by omega, by rw [hS']; exact hu⟩
    · rw [show bs.length - i = 0 by omega] at hr
      cases hr
  · rintro env M' ⟨e4, e5, e6, st, i, us, rfl, hi, hst, hr, k, hS, hl, hu⟩
    have e : i = bs.length := by
      by_cases c : i < bs.length
      · rw [show bs.length - i = (bs.length - (i + 1)) + 1 by omega, CE.rng_cons] at hr
        cases hr
      · omega
    subst e
    rw [List.drop_eq_nil_of_le (Nat.le_refl _)] at hu
    simp only [unF, List.append_nil] at hu
    simp
    refine SRet.ret ⟨rfl, k, ?_⟩
    rw [hS, hu]
/-! both told alike -/
theorem int_sh {M : Mem} {n : Nat} {i : Int} (h : i.natAbs < 1024) : Sh M (n + 1) 11 (.int i) := by
  obtain ⟨x, e, a, b, w⟩ := Sh.int (M := M) (n := n) (i := i) (Nat.lt_trans h (by decide))
  cases e
  refine ⟨_, rfl, a, b, ?_⟩
  show (if i == 0 then 0 else i.natAbs.log2 + 1) ≤ 11
  by_cases z : i.natAbs = 0
  · have : i = 0 := by omega
    subst this
    decide
  · have : i.natAbs.log2 < 10 := (Nat.log2_lt z).mpr h
    split <;> omega
theorem stakes_le : ∀ {s : Stand} {r : Rule} {b : Bool}, stakesR r s b ≤ s.depth
  | .nil, r, b => by cases r <;> exact Nat.le_refl 0
  | .st z o w, r, b => by
    have := stakes_le (s := w) (r := within r z o) (b := b)
    simp only [stakesR, Stand.depth]
    split <;> omega
theorem within_le {r : Rule} {z o : Int} : (within r z o).depth ≤ r.depth - 1 := by
  by_cases h : r = .point
  · subst h
    exact Nat.le_refl 0
  · have := RL.depth_within h z o
    omega
theorem rallied_le : ∀ {s : Stand} {r : Rule} {b : Bool}, (ralliedR r s b).1.depth ≤ max s.depth r.depth
  | .nil, r, b => by simp [ralliedR, Stand.depth]
  | .st z o w, r, b => by
    have ih := rallied_le (s := w) (r := within r z o) (b := b)
    have w1 := within_le (r := r) (z := z) (o := o)
    have w2 := within_le (r := r) (z := (RL.bump z o b).1) (o := (RL.bump z o b).2)
    have w3 := begunR_depth _ (within r (RL.bump z o b).1 (RL.bump z o b).2) (Nat.le_refl _)
    simp only [ralliedR, Stand.depth]
    split
    · split
      · simp only [Stand.depth]; omega
      · simp only [Stand.depth]; omega
    · simp only [Stand.depth]; omega
theorem side_sh {M : Mem} {n : Nat} {b : Bool} : Sh M (n + 1) 11 (sideD b) := by
  cases b
  · exact int_sh (i := 0) (by decide)
  · exact int_sh (i := 1) (by decide)
theorem unF_sh {M : Mem} {r : Rule} (hd : r.depth ≤ 4) : ∀ {bs : List Bool} {s : Stand} {i : Nat}, i + bs.length ≤ 200 → s.depth ≤ 4 → ShL M 39 (40 * bs.length) (unF r s bs i)
  | [], _, _, _, _ => ShL.nil
  | b :: bs, s, i, h, hs => by
    simp only [List.length_cons] at h
    have c : (ralliedR r s b).1.depth ≤ 4 := by have := rallied_le (r := r) (s := s) (b := b); omega
    · have ih := unF_sh (M := M) hd (bs := bs) (s := (ralliedR r s b).1) (i := i + 1) (by omega) c
      have st := stakes_le (r := r) (s := s) (b := b)
      have one : ShL M 39 40 (if 0 < stakesR r s b then [.tup [.int ((i + 1 : Nat) : Int), sideD b, .int (stakesR r s b : Nat)]] else []) := by
        split
        · exact (ShL.cons (Sh.tup (.cons (int_sh (by omega)) (.cons side_sh (.cons (int_sh (by omega)) .nil)))) .nil).le (by omega)
        · exact ShL.nil.le (by omega)
      exact (ShL.append one ih).le (by simp only [List.length_cons]; omega)
theorem repr_same {M : Mem} {a b : Nat} {us : List D} {w : Nat} (ha : seqAt M a = some us) (hb : seqAt M b = some us) (h : ShL M 39 w us) (hw : w ≤ 10000) : ∃ t, nRepr [.ref a] M = some (.str t, M) ∧ nRepr [.ref b] M = some (.str t, M) := by
  obtain ⟨t, st⟩ := (Sh.ref ha h).shows hw
  have st' : Shows M (.ref b) t := by
    obtain ⟨x, e, r⟩ := st
    refine ⟨x, ?_, r⟩
    have e' : (match seqAt M a with | some xs => (datL (dat 39 M) xs).map PyData.list | none => none) = some x := e
    show (match seqAt M b with | some xs => (datL (dat 39 M) xs).map PyData.list | none => none) = some x
    rw [hb]
    rw [ha] at e'
    exact e'
  exact ⟨t, nRepr_ok st, nRepr_ok st'⟩
end LW
end
section
set_option maxHeartbeats 4000000
namespace LW
open PySem PySem.Spec PyProof.Rows L2 TL
open CM hiding any_rule b_l_any_rule b_l_rule b_l_throws b_l_unit g_l_unit lp_l_throws_0 m_l_any_rule m_l_rule m_l_throws m_l_unit pick3 rng_cons rule_ok rule_step unit_ok
open CG hiding m_l_game b_l_game m_l_unit b_l_unit GameQ rule_ok unit_ok atI_last
open CI CE CQ
open RL RB TLQ RD CP
def TInv (M : Mem) (b : Nat) (R Du : Nat) (r : Rule) (us : List D) : List D → TL.Env → Mem → Prop := fun rest env M' => ∃ e4 e5 : Option D, env = [some (.ref b), some (gR r), some (.ref R), some (.ref Du), e4, e5] ∧ Keep M M' ∧ M'[Du]? = some (.lst us)
theorem right_ok {r : Rule} {bs : List Bool} {sts : List D} {M : Mem} {b Dn S R : Nat} (h : BookAt M b Dn S (.rally r) (bs.map sideD) sts) (hR : M[R]? = some (.lst (bs.map sideD))) (hg : Gd (.rally r)) (run : Run (.rally r) (bs.map sideD) sts) (hn : bs.length ≤ 150) :
    Ret (m_l_right [.ref b, gR r, .ref R] M) (Gives M (.bl true)) := by
  show Ret (endS (b_l_right [some (.ref b), some (gR r), some (.ref R), none, none, none] M)) _
  unfold b_l_right
  have hd := hg.2.1
  obtain ⟨_, M1, e1, rfl, k1, a1⟩ := l_units_ok hR hg run (by omega)
  have ro : RngOk (2 : Int) := rngOk_of (by decide) (by decide)
  simp [e1, ro]
  refine Ret.endS ?_
  refine SRet.forQ (TInv M b R M.length r (unF r (begunR r) bs 0)) ⟨_, _, rfl, k1, a1⟩ (fun rest env M' hi => by trivial) ?_ ?_
  · rintro d rest env M' ⟨e4, e5, rfl, k, hD⟩
    refine ⟨_, rfl, ?_⟩
    unfold lp_l_right_0
    have hk := h.keep k
    have me := hk.me (m := "units") (dd := []) (fn := m_Book_units) (mas := aNil) (env := [some (.ref b), some (gR r), some (.ref R), some (.ref M.length), some d, e5]) (by decide)
    obtain ⟨_, M2, e2, rfl, k2, a2⟩ := units_ok hk hg run (by omega)
    have s2 := seqAt_lst a2
    have sD := seqAt_lst (k2.at hD)
    have bd := begunR_depth _ r (Nat.le_refl _)
    obtain ⟨t, t1, t2⟩ := repr_same s2 sD (unF_sh hd (by omega) (by omega)) (by omega)
    have len := unF_len (r := r) (bs := bs) (s := begunR r) (i := 0)
    have ap := fun y => mAppend_ok (y := y) a2 (by omega)
    have lt := lt_of_at hD
    simp [setAll, me, e2, mIsi_ref s2, t1, t2, mNe_text, s2, ap]
    exact SRet.next ⟨_, _, rfl, (k.trans k2).setNew k.1, by rw [List.getElem?_set_ne (by omega)]; exact k2.at hD⟩
  · rintro env M' ⟨e4, e5, rfl, k, hD⟩
    simp
    exact SRet.ret ⟨rfl, k⟩
/-! is a row let -/
def LetInv (M : Mem) (R : Nat) (g : Gm) (ds : List D) : List D → TL.Env → Mem → Prop := fun rest env M' => ∃ (e3 : Option D) (st : D) (sts : List D) (i : Nat), env = [some g.toD, some (.ref R), some st, e3] ∧ i ≤ ds.length ∧ rest = ds.drop i ∧ Keep M M' ∧ Run g (ds.take i) sts ∧ sts[i]? = some st
def LetQ (M : Mem) (g : Gm) (ds : List D) (d : D) (M' : Mem) : Prop := ∃ v : Bool, d = .bl v ∧ Keep M M' ∧ (v = true → ∃ sts, Run g ds sts)
theorem let_ok {g : Gm} (hg : Gd g) {ds : List D} (hl : ds.length ≤ 1000) (hlet : ∀ st d, d ∈ ds → LetD g st d) {M : Mem} {R : Nat} (hR : M[R]? = some (.lst ds)) : Ret (m_l_let [g.toD, .ref R] M) (LetQ M g ds) := by
  show Ret (endS (b_l_let [some g.toD, some (.ref R), none, none] M)) _
  unfold b_l_let
  have e1 := first_ok hg M
  simp [e1, srcOf_ref (seqAt_lst hR)]
  refine Ret.endS ?_
  refine SRet.forQ (LetInv M R g ds) ⟨_, _, _, 0, rfl, Nat.zero_le _, rfl, Keep.refl _, Run.nil, rfl⟩ (fun rest env M' hi => by
    obtain ⟨_, _, _, _, _, _, _, k, _⟩ := hi
    exact k.seq (seqAt_lst hR)) ?_ ?_
  · rintro d rest env M' ⟨e3, st, sts, i, rfl, hi, hr, k, run, hst⟩
    refine ⟨_, rfl, ?_⟩
    unfold lp_l_let_0
    have c : i < ds.length := by
      by_cases c : i < ds.length
      · exact c
      · rw [List.drop_eq_nil_of_le (by omega)] at hr
        cases hr
    rw [List.drop_eq_getElem_cons c] at hr
    cases hr
    have tl : (ds.take i).length = i := by rw [List.length_take]; omega
    obtain ⟨st', won, h1, sd, _⟩ := run.at_ hg (i := i) (by omega)
    rw [hst] at h1
    cases h1
    obtain ⟨x, rfl⟩ := sd.form
    cases won with
    | some bs =>
      simp [wonD]
      exact SRet.ret ⟨false, rfl, k, fun e => (by cases e)⟩
    | none =>
      obtain ⟨y, stp⟩ := step_ok hg (by omega) (by omega) sd (hlet (.tup [x, wonD none]) ds[i] (List.getElem_mem c))
      obtain ⟨M1, e2, k1⟩ := gives_of (stp.run M')
      have e2' : m_played [g.toD, .tup [x, .non], ds[i]] M' = .ok y M1 := e2
      have e4 : ds.take (i + 1) = ds.take i ++ [ds[i]] := by rw [List.take_succ, List.getElem?_eq_getElem c]; rfl
      generalize ds[i] = d at *
      simp [setAll, wonD, e2']
      have r2 := run.snoc (by rw [tl]; exact hst) (by rw [tl]; exact stp)
      rw [← e4] at r2
      have sl := run.len
      exact SRet.next ⟨_, _, _, i + 1, rfl, c, rfl, k.trans k1, r2, by rw [List.getElem?_append_right (by omega), sl, tl]; simp⟩
  · rintro env M' ⟨e3, st, sts, i, rfl, hi, hr, k, run, hst⟩
    have e : i = ds.length := by
      have := congrArg List.length hr
      simp at this
      omega
    subst e
    simp
    rw [List.take_of_length_le (Nat.le_refl _)] at run
    exact SRet.ret ⟨true, rfl, k, fun _ => ⟨_, run⟩⟩
end LW
end
section
set_option maxHeartbeats 4000000
namespace LW
open PySem PySem.Spec PyProof.Rows L2 TL
open CM hiding any_rule b_l_any_rule b_l_rule b_l_throws b_l_unit g_l_unit lp_l_throws_0 m_l_any_rule m_l_rule m_l_throws m_l_unit pick3 rng_cons rule_ok rule_step unit_ok
open CG hiding m_l_game b_l_game m_l_unit b_l_unit GameQ rule_ok unit_ok atI_last
open CI CE CQ
open RL RB TLQ RD CP
/-! a row corrected -/
theorem cutL_fr' {α : Type} {xs : List α} {k : Nat} : cutL xs (some (k : Int)) none = xs.drop k := by
  unfold cutL
  rw [HT.sIx_nat, HT.sIx_none]
  by_cases h : k ≤ xs.length
  · rw [Nat.min_eq_left h, List.take_of_length_le]
    simp
  · rw [Nat.min_eq_right (by omega), List.drop_eq_nil_of_le (Nat.le_refl _), List.drop_eq_nil_of_le (by omega)]
    simp
theorem slFr_any {M : Mem} {n k : Nat} {xs : List D} (h : seqAt M n = some xs) : ∃ R M', mSl (.ref n) (some (k : Int)) none M = some (.ref R, M') ∧ Keep M M' ∧ M'[R]? = some (.lst (xs.drop k)) ∧ M.length ≤ R :=
  ⟨M.length, _, by rw [mSl_ref, h]; simp only [cutL_fr'], Keep.more _ _, at_len _ _, Nat.le_refl _⟩
def NewL (M : Mem) (xs : List D) (d : D) (M' : Mem) : Prop := ∃ L, d = .ref L ∧ M.length ≤ L ∧ Keep M M' ∧ M'[L]? = some (.lst xs)
theorem mMul_ref {M : Mem} {n : Nat} {k : Int} : mMul (.ref n) (.int k) M = match M[n]? with
    | some (.lst xs) => @ite _ (-(2 ^ 63) ≤ k ∧ k < 2 ^ 63 ∧ xs.length * k.toNat ≤ sizeLine) (Classical.propDecidable _) (some (D.ref M.length, M ++ [MO.lst (List.replicate k.toNat xs).flatten])) none
    | _ => none := rfl
section
variable {M : Mem} {env : TL.Env} {R n : Nat} {ds : List D} {d : D}
theorem later0 (h2 : env[2]? = some (some (.ref R))) (h4 : env[4]? = some (some (.int (n : Nat)))) (h5 : env[5]? = some (some d)) (hR : M[R]? = some (.lst ds)) (hn : n ≤ ds.length) (hl : ds.length ≤ 800) :
    Ret ((eBin mAdd (eBin mAdd (eSl (eVar 2) oNone (oSome (eVar 4))) (eLst (aCons (eVar 5) aNil))) (eSl (eVar 2) (oSome (eVar 4)) oNone)) env M) (NewL M (ds.take n ++ [d] ++ ds.drop n)) := by
  obtain ⟨R1, M1, e1, k1, a1, l1⟩ := slTo_ex (seqAt_lst hR) hn
  have k2 := Keep.more M1 [MO.lst [d]]
  obtain ⟨R3, M3, e3, k3, a3, l3⟩ := add_ex (k2.at a1) (at_len M1 (MO.lst [d])) (by rw [List.length_take]; simp; omega)
  obtain ⟨R4, M4, e4, k4, a4, l4⟩ := slFr_any (k := n) (seqAt_lst (((k1.trans k2).trans k3).at hR))
  obtain ⟨R5, M5, e5, k5, a5, l5⟩ := add_ex (k4.at a3) a4 (by simp; omega)
  have l2 := k2.1
  have k9 := (((k1.trans k2).trans k3).trans k4).trans k5
  simp [-mAdd_ref, -mSl_ref, -List.append_assoc, h2, h4, h5, e1, e3, e4, e5]
  exact .ok ⟨_, rfl, by have := k1.1; have := k3.1; have := k4.1; omega, k9, by simpa using a5⟩
theorem later1 (h2 : env[2]? = some (some (.ref R))) (h4 : env[4]? = some (some (.int (n : Nat)))) (h5 : env[5]? = some (some d)) (hR : M[R]? = some (.lst ds)) (hn : n ≤ ds.length) (hl : ds.length ≤ 800) :
    Ret ((eBin mAdd (eBin mAdd (eSl (eVar 2) oNone (oSome (eVar 4))) (eBin mMul (eLst (aCons (eVar 5) aNil)) (eCallO nInt (aCons (eBin mLt (eVar 4) (eCallO nLen (aCons (eVar 2) aNil))) aNil)))) (eSl (eVar 2) (oSome (eBin mAdd (eVar 4) (eC (.int 1)))) oNone)) env M) (NewL M (ds.take n ++ (if n < ds.length then [d] else []) ++ ds.drop (n + 1))) := by
  obtain ⟨R1, M1, e1, k1, a1, l1⟩ := slTo_ex (seqAt_lst hR) hn
  have k2 := Keep.more M1 [MO.lst [d]]
  have sR1 := seqAt_lst ((k1.trans k2).at hR)
  have mul : ∃ R2 M2, mMul (.ref M1.length) (.int (if n < ds.length then 1 else 0)) (M1 ++ [MO.lst [d]]) = some (.ref R2, M2) ∧ Keep (M1 ++ [MO.lst [d]]) M2 ∧ M2[R2]? = some (.lst (if n < ds.length then [d] else [])) ∧ (M1 ++ [MO.lst [d]]).length ≤ R2 := by
    refine ⟨(M1 ++ [MO.lst [d]]).length, (M1 ++ [MO.lst [d]]) ++ [.lst (if n < ds.length then [d] else [])], ?_, Keep.more _ _, at_len _ _, Nat.le_refl _⟩
    rw [mMul_ref, at_len M1 (MO.lst [d])]
    by_cases c : n < ds.length
    · simp only [c, if_true]
      rw [if_pos]
      · rfl
      · refine ⟨by decide, by decide, ?_⟩
        rw [sizeLine_eq]; simp
    · simp only [c, if_false]
      rw [if_pos]
      · rfl
      · refine ⟨by decide, by decide, ?_⟩
        rw [sizeLine_eq]; simp
  obtain ⟨R2, M2, e2, k22, a2, l2⟩ := mul
  obtain ⟨R3, M3, e3, k3, a3, l3⟩ := add_ex (k22.at (k2.at a1)) a2 (by rw [List.length_take]; split <;> simp <;> omega)
  obtain ⟨R4, M4, e4, k4, a4, l4⟩ := slFr_any (k := n + 1) (seqAt_lst ((((k1.trans k2).trans k22).trans k3).at hR))
  obtain ⟨R5, M5, e5, k5, a5, l5⟩ := add_ex (k4.at a3) a4 (by simp; split <;> simp <;> omega)
  have k9 := ((((k1.trans k2).trans k22).trans k3).trans k4).trans k5
  have c4 : ((n + 1 : Nat) : Int) = (n : Int) + 1 := rfl
  rw [c4] at e4
  simp [-mAdd_ref, -mSl_ref, -List.append_assoc, h2, h4, h5, e1, sR1, e2, e3, e4, e5]
  exact .ok ⟨_, rfl, by have := k1.1; have := k2.1; have := k22.1; have := k3.1; have := k4.1; omega, k9, by simpa using a5⟩
theorem later2 (h2 : env[2]? = some (some (.ref R))) (h4 : env[4]? = some (some (.int (n : Nat)))) (hR : M[R]? = some (.lst ds)) (hn : n ≤ ds.length) (hl : ds.length ≤ 800) :
    Ret ((eBin mAdd (eSl (eVar 2) oNone (oSome (eVar 4))) (eSl (eVar 2) (oSome (eBin mAdd (eVar 4) (eC (.int 1)))) oNone)) env M) (NewL M (ds.take n ++ ds.drop (n + 1))) := by
  obtain ⟨R1, M1, e1, k1, a1, l1⟩ := slTo_ex (seqAt_lst hR) hn
  obtain ⟨R4, M4, e4, k4, a4, l4⟩ := slFr_any (k := n + 1) (seqAt_lst (k1.at hR))
  obtain ⟨R5, M5, e5, k5, a5, l5⟩ := add_ex (k4.at a1) a4 (by simp; omega)
  have k9 := (k1.trans k4).trans k5
  have c4 : ((n + 1 : Nat) : Int) = (n : Int) + 1 := rfl
  rw [c4] at e4
  simp [-mAdd_ref, -mSl_ref, -List.append_assoc, h2, h4, e1, e4, e5]
  exact .ok ⟨_, rfl, by have := k1.1; have := k4.1; omega, k9, by simpa using a5⟩
end
end LW
end
section
set_option maxHeartbeats 4000000
namespace LW
open PySem PySem.Spec PyProof.Rows L2 TL
open CM hiding any_rule b_l_any_rule b_l_rule b_l_throws b_l_unit g_l_unit lp_l_throws_0 m_l_any_rule m_l_rule m_l_throws m_l_unit pick3 rng_cons rule_ok rule_step unit_ok
open CG hiding m_l_game b_l_game m_l_unit b_l_unit GameQ rule_ok unit_ok atI_last
open CI CE CQ
open RL RB TLQ RD CP
/-! a row written otherwise -/
theorem if_true_step {t : MT} {a b rest : MS} {env : TL.Env} {M M' : Mem} (h : t env M = .ok true M') : (sSeq (sIf t a b) rest) env M = (sSeq a rest) env M' := by
  show nextS (thenS env (t env M) fun k M1 => if k = true then a env M1 else b env M1) rest = _
  rw [h]
  rfl
theorem if_false_step {t : MT} {a rest : MS} {env : TL.Env} {M M' : Mem} (h : t env M = .ok false M') : (sSeq (sIf t a sNil) rest) env M = rest env M' := by
  show nextS (thenS env (t env M) fun k M1 => if k = true then a env M1 else sNil env M1) rest = _
  rw [h]
  rfl
theorem map_take (bs : List Bool) (n : Nat) (x : Bool) : (bs.map sideD).take n ++ [sideD x] ++ (bs.map sideD).drop n = (bs.take n ++ [x] ++ bs.drop n).map sideD := by simp
def WrQ (M : Mem) (b : Nat) (r : Rule) (m : Nat) (d : D) (M' : Mem) : Prop := ∃ (R' Dn' S' : Nat) (bs' : List Bool) (sts' : List D), d = .ref R' ∧ BookAt M' b Dn' S' (.rally r) (bs'.map sideD) sts' ∧ M'[R']? = some (.lst (bs'.map sideD)) ∧ Run (.rally r) (bs'.map sideD) sts' ∧ bs'.length ≤ m + 1 ∧ Fr [b] M M'
theorem written_ok {r : Rule} (hg : Gd (.rally r)) {bs : List Bool} {sts : List D} {M : Mem} {b Dn S R : Nat} (h : BookAt M b Dn S (.rally r) (bs.map sideD) sts) (hR : M[R]? = some (.lst (bs.map sideD))) (run : Run (.rally r) (bs.map sideD) sts) (hn : bs.length ≤ 140) {cell : Nat} :
    Ret (m_l_written [.ref b, gR r, .ref R, .int (cell : Nat)] M) (WrQ M b r bs.length) := by
  show Ret (endS (b_l_written [some (.ref b), some (gR r), some (.ref R), some (.int (cell : Nat)), none, none, none, none] M)) _
  unfold b_l_written
  have sR := seqAt_lst hR
  obtain ⟨n, hnn⟩ : ∃ n, n = cell / 6 % (bs.length + 1) := ⟨_, rfl⟩
  have nle : n ≤ bs.length := by have := Nat.mod_lt (cell / 6) (show 0 < bs.length + 1 by omega); omega
  obtain ⟨x, hx⟩ : ∃ x : Bool, D.int ((cell : Int) % 2) = sideD x := ⟨decide (cell % 2 = 1), by
    unfold sideD
    have : cell % 2 = 0 ∨ cell % 2 = 1 := by omega
    rcases this with q | q <;> simp [q] <;> omega⟩
  obtain ⟨w, hw⟩ : ∃ w, w = cell / 2 % 3 := ⟨_, rfl⟩
  have w3 : w = 0 ∨ w = 1 ∨ w = 2 := by omega
  have i4 : (cell : Int) / 6 % ((bs.length : Int) + 1) = (n : Int) := by rw [hnn]; rfl
  have i6 : (cell : Int) / 2 % 3 = (w : Int) := by rw [hw]; rfl
  have lp : (0 : Int) < (bs.length : Int) + 1 := by omega
  have dl : (bs.map sideD).length ≤ 800 := by simp; omega
  have dn : n ≤ (bs.map sideD).length := by simpa using nle
  rw [asg_step (v := .int (n : Nat)) (M' := M) (by simp [sR, lp, i4]), asg_step (v := sideD x) (M' := M) (by simp [hx]), asg_step (v := .int (w : Nat)) (M' := M) (by simp [i6])]
  obtain ⟨_, M1, e1, L1, rfl, l1, k1, a1⟩ := later0 (env := [some (.ref b), some (gR r), some (.ref R), some (.int (cell : Nat)), some (.int (n : Nat)), some (sideD x), some (.int (w : Nat)), none]) (R := R) (n := n) (d := sideD x) rfl rfl rfl hR dn dl
  have hlet : ∀ (ds : List D) (bs' : List Bool), ds = bs'.map sideD → ∀ st d, d ∈ ds → LetD (.rally r) st d := by
    rintro ds bs' rfl st d hd
    obtain ⟨y, _, rfl⟩ := List.mem_map.mp hd
    exact ⟨y, rfl⟩
  have letq := fun (bs' : List Bool) (hl : bs'.length ≤ 900) (M : Mem) (L : Nat) (hL : M[L]? = some (.lst (bs'.map sideD))) => let_ok (g := .rally r) hg (ds := bs'.map sideD) (by simp; omega) (hlet _ _ rfl) hL
  simp only [List.set] 
  rw [asg_step e1]
  simp only [List.set]
  rcases w3 with rfl | rfl | rfl
  · rw [if_false_step (M' := M1) (by simp), if_false_step (M' := M1) (by simp)]
    rw [map_take] at a1
    obtain ⟨_, M2, e2, v, rfl, k2, hv⟩ := letq _ (by simp; omega) M1 L1 a1
    have ebs := map_take bs n x
    have e2' : m_l_let [gR r, .ref L1] M1 = .ok (.bl v) M2 := e2
    have sR2 := ((k1.trans k2).seq sR)
    have h2 := h.keep (k1.trans k2)
    cases v with
    | false =>
      simp [e2']
      exact .ok ⟨R, Dn, S, bs, sts, rfl, h2, (k1.trans k2).at hR, run, by omega, Fr.of (k1.trans k2)⟩
    | true =>
      obtain ⟨sts', run'⟩ := hv rfl
      have me1 := fun fn mas env => h2.me (m := "put_in") (dd := []) (fn := fn) (mas := mas) (env := env) (by decide)
      have run2 := run'
      rw [← ebs] at run2
      obtain ⟨_, M3, e3, rfl, R3, S3, l3, l4, B3, f3⟩ := put_in_ok h2 hg dn run2 dl
      rw [ebs] at B3
      simp [e2', me1, e3]
      refine .ok ⟨L1, R3, S3, _, sts', rfl, B3, f3.get (k2.at a1) ?_, run', by simp; omega, (Fr.of (k1.trans k2)).trans f3⟩
      have := lt_of_at h.o
      simp
      omega
  · rw [if_true_step (M' := M1) (by simp)]
    obtain ⟨_, M2, e2, L2, rfl, l2, k2, a2⟩ := later1 (M := M1) (env := [some (.ref b), some (gR r), some (.ref R), some (.int (cell : Nat)), some (.int (n : Nat)), some (sideD x), some (.int ((1 : Nat) : Int)), some (.ref L1)]) (R := R) (n := n) (d := sideD x) rfl rfl rfl (k1.at hR) dn dl
    rw [asg_step e2]
    simp only [List.set]
    rw [if_false_step (M' := M2) (by simp)]
    have k12 := k1.trans k2
    have ebs : (bs.map sideD).take n ++ (if n < (bs.map sideD).length then [sideD x] else []) ++ (bs.map sideD).drop (n + 1) = (bs.take n ++ (if n < bs.length then [x] else []) ++ bs.drop (n + 1)).map sideD := by
      by_cases c : n < bs.length <;> simp [c]
    rw [ebs] at a2
    obtain ⟨_, M3, e3, v, rfl, k3, hv⟩ := letq _ (by split <;> simp <;> omega) M2 L2 a2
    have e3' : m_l_let [gR r, .ref L2] M2 = .ok (.bl v) M3 := e3
    have k13 := k12.trans k3
    have sR3 := k13.seq sR
    have h3 := h.keep k13
    have out : WrQ M b r bs.length (.ref R) M3 := ⟨R, Dn, S, bs, sts, rfl, h3, k13.at hR, run, by omega, Fr.of k13⟩
    cases v with
    | false =>
      simp [e3']
      exact .ok out
    | true =>
      by_cases c : n = bs.length
      · simp [e3', sR3, c]
        exact .ok out
      · have c' : n < bs.length := by omega
        obtain ⟨sts', run'⟩ := hv rfl
        have me1 := fun fn mas env => h3.me (m := "put_right") (dd := []) (fn := fn) (mas := mas) (env := env) (by decide)
        have run2 := run'
        rw [← ebs] at run2
        rw [if_pos (by simpa using c')] at run2 ebs
        obtain ⟨_, M4, e4, rfl, R4, S4, l4, l5, B4, f4⟩ := put_right_ok h3 hg (by simpa using c') run2 dl
        rw [ebs] at B4
        have ci : ¬ ((n : Int) = (bs.length : Int)) := by omega
        simp [e3', sR3, ci, me1, e4]
        refine .ok ⟨L2, R4, S4, _, sts', rfl, B4, f4.get (k3.at a2) ?_, run', by simp [c']; omega, (Fr.of k13).trans f4⟩
        have := lt_of_at h.o
        have := k1.1
        simp
        omega
  · rw [if_false_step (M' := M1) (by simp), if_true_step (M' := M1) (by simp)]
    obtain ⟨_, M2, e2, L2, rfl, l2, k2, a2⟩ := later2 (M := M1) (env := [some (.ref b), some (gR r), some (.ref R), some (.int (cell : Nat)), some (.int (n : Nat)), some (sideD x), some (.int ((2 : Nat) : Int)), some (.ref L1)]) (R := R) (n := n) rfl rfl (k1.at hR) dn dl
    rw [asg_step e2]
    simp only [List.set]
    have k12 := k1.trans k2
    have ebs : (bs.map sideD).take n ++ (bs.map sideD).drop (n + 1) = (bs.take n ++ bs.drop (n + 1)).map sideD := by simp
    rw [ebs] at a2
    obtain ⟨_, M3, e3, v, rfl, k3, hv⟩ := letq _ (by simp; omega) M2 L2 a2
    have e3' : m_l_let [gR r, .ref L2] M2 = .ok (.bl v) M3 := e3
    have k13 := k12.trans k3
    have sR3 := k13.seq sR
    have h3 := h.keep k13
    have out : WrQ M b r bs.length (.ref R) M3 := ⟨R, Dn, S, bs, sts, rfl, h3, k13.at hR, run, by omega, Fr.of k13⟩
    cases v with
    | false =>
      simp [e3']
      exact .ok out
    | true =>
      by_cases c : n = bs.length
      · simp [e3', sR3, c]
        exact .ok out
      · have c' : n < bs.length := by omega
        obtain ⟨sts', run'⟩ := hv rfl
        have me1 := fun fn mas env => h3.me (m := "leave_out") (dd := []) (fn := fn) (mas := mas) (env := env) (by decide)
        have run2 := run'
        rw [← ebs] at run2
        obtain ⟨_, M4, e4, rfl, R4, S4, l4, l5, B4, f4⟩ := leave_out_ok h3 hg (by simpa using c') run2 dl
        rw [ebs] at B4
        have ci : ¬ ((n : Int) = (bs.length : Int)) := by omega
        simp [e3', sR3, ci, me1, e4]
        refine .ok ⟨L2, R4, S4, _, sts', rfl, B4, f4.get (k3.at a2) ?_, run', by simp; omega, (Fr.of k13).trans f4⟩
        have := lt_of_at h.o
        have := k1.1
        simp
        omega
end LW
end
section
set_option maxHeartbeats 4000000
namespace LW
open PySem PySem.Spec PyProof.Rows L2 TL
open CM hiding any_rule b_l_any_rule b_l_rule b_l_throws b_l_unit g_l_unit lp_l_throws_0 m_l_any_rule m_l_rule m_l_throws m_l_unit pick3 rng_cons rule_ok rule_step unit_ok
open CG hiding m_l_game b_l_game m_l_unit b_l_unit GameQ rule_ok unit_ok atI_last
open CI CE CQ
open RL RB TLQ RD CP
/-! other games -/
theorem let_pure {g : Gm} (hg : Gd g) {st d : D} (h : LetD g st d) : pureD d 1 = true := by
  cases g with
  | rally r =>
    obtain ⟨b, rfl⟩ := h
    cases b <;> rfl
  | down w =>
    obtain ⟨t, ht, rfl⟩ := h
    have hw : DownOk w := hg
    have := name_strOk (hw.good.nm t ht)
    simp [pureD, this]
  | lane k P n =>
    obtain ⟨rows, side, p, hs, _, rfl, _⟩ := h
    rfl
def OthInv (g : Gm) (B : Nat) (cell : Int) : List D → TL.Env → Mem → Prop := fun rest env M => ∃ (e3 e4 : Option D) (Dn S k : Nat) (ds sts : List D), env = [some (.int cell), some g.toD, some (.ref B), e3, e4] ∧ rest = rngItems (k : Nat) (4 - k) ∧ k ≤ 4 ∧ ds.length ≤ k ∧ BookAt M B Dn S g ds sts ∧ Run g ds sts
theorem others_ok {cell : Int} {M : Mem} : Ret (m_l_others_right [.int cell] M) (fun d _ => d = .bl true) := by
  show Ret (endS (b_l_others_right [some (.int cell), none, none, none, none] M)) _
  unfold b_l_others_right
  obtain ⟨_, M1, e1, g, rfl, hg, k1⟩ := game_ok (cell := cell) M
  have ro : RngOk (4 : Int) := rngOk_of (by decide) (by decide)
  by_cases hr : ∃ r, g = .rally r
  · obtain ⟨r, rfl⟩ := hr
    simp [e1, Gm.toD]
    exact .ok rfl
  · have hne : ∀ r, g ≠ .rally r := fun r e => hr ⟨r, e⟩
    have i0 : ∃ w : Str, w ≠ Str.ofString "rally" ∧ ∀ M, mIdx g.toD (.int 0) M = some (.str w, M) := by
      cases g with
      | rally r => exact absurd rfl (hne r)
      | down w => exact ⟨Str.ofString "down", by simp, fun M => rfl⟩
      | lane k P n => exact ⟨Str.ofString "lane", by simp, fun M => rfl⟩
    obtain ⟨w, hw, i0⟩ := i0
    have eq1 : mEq (.str w) (.str (Str.ofString "rally")) M1 = some (.bl false, M1) := by rw [mEq_text]; simp [hw]
    obtain ⟨_, M2, e2, rfl, Dn, S, l1, l2, B2, f2⟩ := book_new_ok hg (M := M1 ++ [.ins bS []]) (b := M1.length) (at_len M1 _)
    simp [e1, i0, eq1, e2, ro]
    refine Ret.endS ?_
    refine SRet.forQ (OthInv g M1.length cell) ⟨_, _, Dn, S, 0, [], [firstD g], rfl, rfl, by decide, Nat.zero_le _, B2, Run.nil⟩ (fun _ _ _ _ => trivial) ?_ ?_
    · rintro d rest env M' ⟨e3, e4, Dn, S, k, ds, sts, rfl, hr, hk, hl, B, run⟩
      by_cases c : k < 4
      · rw [show 4 - k = (4 - (k + 1)) + 1 by omega, CE.rng_cons] at hr
        cases hr
        refine ⟨_, rfl, ?_⟩
        unfold lp_l_others_right_0
        have me1 := fun fn mas env => B.me (m := "stand") (dd := [.non]) (fn := fn) (mas := mas) (env := env) (by decide)
        obtain ⟨st, won, h1, sd, _⟩ := run.at_ hg (i := ds.length) (Nat.le_refl _)
        have es := stand_last B run h1
        obtain ⟨xs, xl, xn, xw, xd⟩ := deeds_ok hg sd
        obtain ⟨_, M3, e3, n, rfl, ln, k3, sx⟩ := xd M'
        have k4 := Keep.more M3 [MO.lst []]
        have sx4 := k4.seq sx
        have s0 : seqAt (M3 ++ [MO.lst []]) M3.length = some [] := seqAt_lst (at_len _ _)
        have px : pureL xs 1 = true := pureL_all fun x hx => by
          cases won with
          | none => exact let_pure hg ((xn rfl).2 x hx)
          | some bs => rw [xw (by simp)] at hx; cases hx
        have ne := mNe_nil sx4 s0 px (by decide)
        have B4 := (B.keep k3).keep k4
        cases xs with
        | nil =>
          simp [me1, es, e3, ne]
          exact SRet.next ⟨_, _, Dn, S, k + 1, ds, sts, rfl, by rw [show 4 - (k + 1) = 3 - k by omega]; rfl, c, by omega, B4, run⟩
        | cons x xs =>
          have w0 : won = none := by
            cases won with
            | none => rfl
            | some bs => exact absurd (xw (by simp)) (by simp)
          subst w0
          have me2 := fun fn mas env => B4.me (m := "add") (dd := []) (fn := fn) (mas := mas) (env := env) (by decide)
          have lp : (0 : Int) < ((xs.length : Int) + 1) := by omega
          obtain ⟨y, hy, ey⟩ : ∃ y, y ∈ x :: xs ∧ atI (x :: xs) ((cell + (k : Int)) % ((xs.length : Int) + 1)) = some y := by
            have m0 := Int.emod_nonneg (cell + (k : Int)) (b := (xs.length : Int) + 1) (by omega)
            have m1 := Int.emod_lt_of_pos (cell + (k : Int)) lp
            obtain ⟨j, hj⟩ : ∃ j : Nat, (cell + (k : Int)) % ((xs.length : Int) + 1) = (j : Int) := ⟨((cell + (k : Int)) % ((xs.length : Int) + 1)).toNat, by omega⟩
            rw [hj]
            have jl : j < (x :: xs).length := by rw [List.length_cons]; omega
            exact ⟨_, List.getElem_mem jl, atI_nat (List.getElem?_eq_getElem jl)⟩
          obtain ⟨z, stp⟩ := step_ok hg (by omega) (by omega) sd ((xn rfl).2 y hy)
          obtain ⟨_, M5, e5, rfl, B5, f5⟩ := add_ok B4 run (by omega) h1 stp
          simp [me1, es, e3, ne, sx4, lp, me2, ey, e5]
          exact SRet.next ⟨_, _, Dn, S, k + 1, _, _, rfl, by rw [show 4 - (k + 1) = 3 - k by omega]; rfl, c, by simp; omega, B5, run.snoc h1 stp⟩
      · rw [show 4 - k = 0 by omega] at hr
        cases hr
    · rintro env M' ⟨e3, e4, Dn, S, k, ds, sts, rfl, hr, hk, hl, B, run⟩
      have me1 := fun fn mas env => B.me (m := "units") (dd := []) (fn := fn) (mas := mas) (env := env) (by decide)
      have eu := units_none B hne
      have k1 := Keep.more (M' ++ [MO.lst []]) [MO.lst []]
      have sa := seqAt_lst (k1.at (at_len M' (MO.lst [])))
      have sb := seqAt_lst (at_len (M' ++ [MO.lst []]) (MO.lst []))
      have eq := mEq_nil (k := 0) sa sb (by simp [pureL]) (by decide)
      simp only [List.length_append, List.length_cons, List.length_nil, List.append_assoc, List.cons_append, List.nil_append] at eq
      simp [me1, eu, eq]
      exact SRet.ret rfl
end LW
end
section
set_option maxHeartbeats 4000000
namespace LW
open PySem PySem.Spec PyProof.Rows L2 TL
open CM hiding any_rule b_l_any_rule b_l_rule b_l_throws b_l_unit g_l_unit lp_l_throws_0 m_l_any_rule m_l_rule m_l_throws m_l_unit pick3 rng_cons rule_ok rule_step unit_ok
open CG hiding m_l_game b_l_game m_l_unit b_l_unit GameQ rule_ok unit_ok atI_last
open CI CE CQ
open RL RB TLQ RD CP
/-- a book and the row beside it -/
structure Two (M : Mem) (B R : Nat) (r : Rule) (bs : List Bool) (st : D) (num : Int) (Dn S : Nat) (sts : List D) : Prop where
  book : BookAt M B Dn S (.rally r) (bs.map sideD) sts
  row : M[R]? = some (.lst (bs.map sideD))
  run : Run (.rally r) (bs.map sideD) sts
  st : sts[bs.length]? = some st
  ne : R ≠ Dn ∧ R ≠ S ∧ R ≠ B
def MInv (X B R L : Nat) (r : Rule) (num : Int) (items : List D) : List D → TL.Env → Mem → Prop := fun rest env M => ∃ (e7 e8 : Option D) (bs : List Bool) (st : D) (Dn S : Nat) (sts : List D), env = [some (.ref 0), some (.ref X), some (gR r), some (.ref B), some (.ref R), some st, some (.int num), e7, e8] ∧ Two M B R r bs st num Dn S sts ∧ (∀ d ∈ rest, ∃ i : Int, d = .int i) ∧ bs.length + rest.length ≤ 100 ∧ seqAt M L = some items ∧ L ≠ Dn ∧ L ≠ S ∧ L ≠ R ∧ L ≠ B
theorem side_int {i : Int} : ∃ x : Bool, D.int (i % 2) = sideD x := ⟨decide (i % 2 = 1), by
  unfold sideD
  have : i % 2 = 0 ∨ i % 2 = 1 := by omega
  rcases this with q | q <;> simp [q]⟩
theorem main_step {X B R L : Nat} {r : Rule} (hg : Gd (.rally r)) {num : Int} {items : List D} {d : D} {rest : List D} {env : TL.Env} {M : Mem} (h : MInv X B R L r num items (d :: rest) env M) : ∃ env1, gOne 7 d env = some env1 ∧ SRet (lp_law_0 env1 M) (MInv X B R L r num items rest) (fun d _ => d = .bl true) := by
  obtain ⟨e7, e8, bs, st, Dn, S, sts, rfl, T, hi, hl, sL, n1, n2, n3, n4⟩ := h
  obtain ⟨c, rfl⟩ := hi d List.mem_cons_self
  refine ⟨_, rfl, ?_⟩
  unfold lp_law_0
  have sR := seqAt_lst T.row
  simp only [List.length_cons] at hl
  obtain ⟨x0, hx0⟩ := side_int (i := c)
  obtain ⟨x1, hx1⟩ := side_int (i := (bs.length : Int) / 5)
  obtain ⟨x, hx⟩ : ∃ x : Bool, x = if num % 2 = 0 ∧ 1 < c % 7 then x1 else x0 := ⟨_, rfl⟩
  have rest_ok : ∀ d ∈ rest, ∃ i : Int, d = .int i := fun d hd => hi d (List.mem_cons_of_mem _ hd)
  have ilen : (bs.map sideD).length = bs.length := by simp
  obtain ⟨st', won, h1, sd, _⟩ := T.run.at_ hg (i := (bs.map sideD).length) (Nat.le_refl _)
  have tst := T.st
  rw [← ilen, h1] at tst
  cases tst
  obtain ⟨s0, rfl⟩ := sd.form
  rw [asg_step (v := sideD x0) (M' := M) (by simp [hx0])]
  simp only [List.set]
  have upd : ∀ rest' : MS, (sSeq (sIf (tAnd (tB (eBin mEq (eBin mMod (eVar 6) (eC (.int 2))) (eC (.int 0)))) (tB (eBin mGt (eBin mMod (eVar 7) (eC (.int 7))) (eC (.int 1))))) (sAsg (gOne 8) (eBin mMod (eBin mFdiv (eCallO nLen (aCons (eVar 4) aNil)) (eC (.int 5))) (eC (.int 2)))) sNil) rest')
      [some (.ref 0), some (.ref X), some (gR r), some (.ref B), some (.ref R), some (.tup [s0, wonD won]), some (.int num), some (.int c), some (sideD x0)] M = rest' [some (.ref 0), some (.ref X), some (gR r), some (.ref B), some (.ref R), some (.tup [s0, wonD won]), some (.int num), some (.int c), some (sideD x)] M := by
    intro rest'
    by_cases c1 : num % 2 = 0
    · by_cases c2 : 1 < c % 7
      · rw [if_true_step (M' := M) (by simp [c1, c2]), asg_step (v := sideD x1) (M' := M) (by simp [sR, hx1])]
        rw [hx, if_pos ⟨c1, c2⟩]
        rfl
      · rw [if_false_step (M' := M) (by simp [c1, c2])]
        rw [hx, if_neg (fun e => c2 e.2)]
    · rw [if_false_step (M' := M) (by simp [c1])]
      rw [hx, if_neg (fun e => c1 e.1)]
  rw [upd]
  clear upd hx0 hx1 hx x0 x1
  cases won with
  | some ws =>
    simp [wonD]
    exact SRet.next ⟨_, _, bs, _, Dn, S, sts, rfl, ⟨T.book, T.row, T.run, T.st, T.ne⟩, rest_ok, by omega, sL, n1, n2, n3, n4⟩
  | none =>
    obtain ⟨z, stp⟩ := step_ok hg (by omega) (by rw [ilen]; omega) sd (d := sideD x) ⟨x, rfl⟩
    obtain ⟨M1, e1, k1⟩ := gives_of (stp.run M)
    have e1' : m_played [gR r, .tup [s0, .non], sideD x] M = .ok z M1 := e1
    have ap := mAppend_ok (y := sideD x) (k1.at T.row) (by simp; omega)
    have ltR := lt_of_at (k1.at T.row)
    have B1 := T.book.keep k1
    have f2 : Fr [R] M1 (M1.set R (.lst (bs.map sideD ++ [sideD x]))) := (Fr.of (Keep.refl M1)).set (.inl (by simp))
    have B2 := B1.fr f2 (by simpa using Ne.symm T.ne.2.2) (by simpa using Ne.symm T.ne.1) (by simpa using Ne.symm T.ne.2.1)
    have a2 : (M1.set R (.lst (bs.map sideD ++ [sideD x])))[R]? = some (.lst (bs.map sideD ++ [sideD x])) := List.getElem?_set_self ltR
    have L2 := f2.seq (k1.seq sL) (by simpa using n3)
    have sR1 := k1.seq sR
    generalize M1.set R (.lst (bs.map sideD ++ [sideD x])) = M2 at *
    have me := fun fn mas env => B2.me (m := "add") (dd := []) (fn := fn) (mas := mas) (env := env) (by decide)
    obtain ⟨_, M3, e3, rfl, B3, f3⟩ := add_ok B2 T.run (by simp; omega) h1 stp
    have a3 := f3.get a2 (by simp; exact ⟨T.ne.1, T.ne.2.1⟩)
    have L3 := f3.seq L2 (by simp; exact ⟨n1, n2⟩)
    have run3 := T.run.snoc h1 stp
    have em : bs.map sideD ++ [sideD x] = (bs ++ [x]).map sideD := by simp
    rw [em] at a3 B3 run3
    have sR3 := seqAt_lst a3
    have sl := T.run.len
    have tst : (sts ++ [z])[(bs ++ [x]).length]? = some z := by
      rw [List.getElem?_append_right (by simp at sl ⊢; omega)]
      simp at sl ⊢
      simp [sl]
    have fin : ∀ M4, Keep M3 M4 → MInv X B R L r num items rest [some (.ref 0), some (.ref X), some (gR r), some (.ref B), some (.ref R), some z, some (.int num), some (.int c), some (sideD x)] M4 := fun M4 k4 => ⟨_, _, bs ++ [x], z, Dn, S, sts ++ [z], rfl, ⟨B3.keep k4, k4.at a3, run3, tst, T.ne⟩, rest_ok, by simp; omega, k4.seq L3, n1, n2, n3, n4⟩
    have rowlen : ((bs ++ [x]).map sideD).length = bs.length + 1 := by simp
    obtain ⟨M4, e4, k4⟩ := gives_of (right_ok B3 a3 hg run3 (by simp; omega))
    by_cases c3 : ((bs.length : Int) + 1) % 9 = 4
    · simp [-List.map_append, wonD, e1', sR1, ap, me, e3, sR3, c3, e4]
      exact SRet.next (fin _ k4)
    · simp [-List.map_append, wonD, e1', sR1, ap, me, e3, sR3, c3]
      exact SRet.next (fin _ (Keep.refl _))
def WInv2 (X B L r' : Nat) (r : Rule) (num : Int) (items : List D) : List D → TL.Env → Mem → Prop := fun rest env M => ∃ (e5 e7 e8 : Option D) (bs : List Bool) (Dn S R : Nat) (sts : List D), env = [some (.ref 0), some (.ref X), some (gR r), some (.ref B), some (.ref R), e5, some (.int num), e7, e8] ∧ BookAt M B Dn S (.rally r) (bs.map sideD) sts ∧ M[R]? = some (.lst (bs.map sideD)) ∧ Run (.rally r) (bs.map sideD) sts ∧ (∀ d ∈ rest, ∃ i : Nat, d = .int (i : Nat)) ∧ bs.length + rest.length ≤ 130 ∧ seqAt M L = some items ∧ L ≠ B
theorem cut_len {α : Type} {xs : List α} : (cutL xs (some 2) (some 62)).length ≤ 60 := by
  have e : cutL xs (some ((2 : Nat) : Int)) (some ((62 : Nat) : Int)) = (xs.drop (min 2 xs.length)).take (min 62 xs.length - min 2 xs.length) := by
    unfold cutL
    rw [HT.sIx_nat, HT.sIx_nat]
  have e' : cutL xs (some 2) (some 62) = (xs.drop (min 2 xs.length)).take (min 62 xs.length - min 2 xs.length) := e
  rw [e', List.length_take]
  omega
theorem cut_ints {ns : List Int} {lo hi : Option Int} : ∀ d ∈ cutL (ns.map D.int) lo hi, ∃ i : Int, d = .int i := fun d hd => by
  unfold cutL at hd
  have := List.mem_of_mem_drop (List.mem_of_mem_take hd)
  obtain ⟨i, _, rfl⟩ := List.mem_map.mp this
  exact ⟨i, rfl⟩
theorem sl_ex {M : Mem} {n : Nat} {xs : List D} {lo hi : Option Int} (h : seqAt M n = some xs) : ∃ R M', mSl (.ref n) lo hi M = some (.ref R, M') ∧ Keep M M' ∧ M'[R]? = some (.lst (cutL xs lo hi)) ∧ M.length ≤ R :=
  ⟨M.length, _, by rw [mSl_ref, h], Keep.more _ _, at_len _ _, Nat.le_refl _⟩
theorem law_true (ns : List Int) (hl : ns.length ≤ 63) : ∃ M', m_law [.ref 0] [.rol (ns.map D.int)] = .ok (.bl true) M' := by
  suffices h : Ret (m_law [.ref 0] [.rol (ns.map D.int)]) (fun d _ => d = .bl true) by
    obtain ⟨d, M, e, rfl⟩ := h
    exact ⟨M, e⟩
  show Ret (endS (b_law [some (.ref 0), none, none, none, none, none, none, none, none] [.rol (ns.map D.int)])) _
  unfold b_law
  have hs : seqAt ([.rol (ns.map D.int)] : Mem) 0 = some (ns.map D.int) := rfl
  generalize ([.rol (ns.map D.int)] : Mem) = M0 at *
  have c0 := cell_at_ok (k := 0) hs
  obtain ⟨_, M1, e1, X, xs, rfl, lX, k1, aX, lx⟩ := draws_ok (c := ns.getD 0 0) (many := 34) (by decide) M0
  rw [asg_step (v := .ref X) (M' := M1) (by simp at c0 e1 ⊢; simp [c0, e1])]
  have XS : Xs M1 X xs := ⟨seqAt_lst aX, lx⟩
  obtain ⟨v, hv⟩ := XS.at_ (i := 32) (by decide)
  obtain ⟨_, M2, e2, r, rfl, hg, k2⟩ := CE.rule_ok XS (levels := v % 5) (by omega)
  have hv' := hv M1 (Keep.refl _)
  rw [asg_step (v := gR r) (M' := M2) (by simp at hv' e2 ⊢; simp [hv', e2])]
  have hgd : Gd (.rally r) := hg
  obtain ⟨_, M3, e3, rfl, Dn, S, lD, lS, B3, f3⟩ := book_new_ok hgd (M := M2 ++ [.ins bS []]) (b := M2.length) (at_len M2 _)
  have e3' : m_Book_new [.ref M2.length, gR r] (M2 ++ [.ins bS []]) = .ok .non M3 := e3
  rw [asg_step (v := .ref M2.length) (M' := M3) (by simp [e3'])]
  simp only [List.set]
  generalize hB : M2.length = B at *
  have K4 := Keep.more M3 [MO.lst []]
  have a4 := at_len M3 (MO.lst [])
  have B4 := B3.keep K4
  have hs3 : seqAt M3 0 = some (ns.map D.int) := by
    have lt0 := lt_of_seq hs
    refine f3.seq ((Keep.more M2 [.ins bS []]).seq ((k1.trans k2).seq hs)) ?_
    have := k1.1; have := k2.1
    simp
    omega
  have ltD := lt_of_at B3.d
  have ltS := lt_of_at B3.s
  have ltB := lt_of_at B3.o
  rw [asg_step (v := .ref M3.length) (M' := M3 ++ [MO.lst []]) (by simp)]
  simp only [List.set]
  generalize M3 ++ [MO.lst []] = M4 at *
  obtain ⟨R, hR⟩ : ∃ R, R = M3.length := ⟨_, rfl⟩
  rw [← hR] at a4 ⊢
  have hs4 := K4.seq hs3
  have e5 : m_first [gR r] M4 = .ok (firstD (.rally r)) M4 := first_ok hgd M4
  rw [asg_step (v := firstD (.rally r)) (M' := M4) (by simp [e5])]
  simp only [List.set]
  obtain ⟨num, hnum⟩ : ∃ num, num = ns.getD 1 0 := ⟨_, rfl⟩
  have c1 := cell_at_ok (k := 1) hs4
  rw [← hnum] at c1
  rw [asg_step (v := .int num) (M' := M4) (by simp at c1 ⊢; simp [c1])]
  simp only [List.set]
  obtain ⟨M5, e6, k5⟩ := gives_of (right_ok (bs := []) B4 a4 hgd Run.nil (by decide))
  rw [if_false_step (M' := M5) (by simp [e6])]
  have B5 := B4.keep k5
  have a5 := k5.at a4
  have hs5 := k5.seq hs4
  obtain ⟨_, M6, e7, Z, zs, rfl, lZ, k6, aZ, lz⟩ := draws_ok (c := num) (many := 20) (by decide) M5
  obtain ⟨kk, hk⟩ : ∃ k : Nat, num / 2 % 21 = (k : Int) := ⟨(num / 2 % 21).toNat, by omega⟩
  obtain ⟨R7, M7, e8, k7, a7, l7⟩ := slTo_ex (k := kk) (seqAt_lst aZ) (by rw [List.length_map, lz]; omega)
  obtain ⟨R8, M8, e9, k8, a8, l8⟩ := sl_ex (lo := some 2) (hi := some 62) (k7.seq (k6.seq hs5))
  have len7 : ((zs.map fun x => D.int (x : Nat)).take kk).length ≤ 20 := by rw [List.length_take, List.length_map]; omega
  have len8 := cut_len (xs := ns.map D.int)
  obtain ⟨R9, M9, e10, k9, a9, l9⟩ := add_ex (k8.at a7) a8 (by omega)
  have K59 := ((k6.trans k7).trans k8).trans k9
  have B9 := B5.keep K59
  have a9' := K59.at a5
  have e7' : m_l_draws [.int num, .int 20] M5 = .ok (.ref Z) M6 := e7
  have s9 := seqAt_lst a9
  have lB : B < R := by rw [hR]; exact ltB
  have l59 : M5.length ≤ R9 := by have := k6.1; have := k7.1; have := k8.1; omega
  have l35 : M3.length < M5.length := by have := K4.1; have := k5.1; have := lt_of_at a4; omega
  simp [-mAdd_ref, -mSl_ref, e7', hk, e8, e9, e10, srcOf_ref s9]
  refine Ret.endS ?_
  refine SRet.forQ (MInv X B R R9 r num _) ⟨_, _, [], _, Dn, S, _, rfl, ⟨B9, a9', Run.nil, rfl, by omega, by omega, by omega⟩, ?_, ?_, s9, by omega, by omega, by omega, by omega⟩ (fun rest env M hi => by
    obtain ⟨_, _, _, _, _, _, _, _, _, _, _, s, _⟩ := hi
    exact s) (fun d rest env M hi => main_step hgd hi) ?_
  · intro d hd
    rcases List.mem_append.mp hd with hd | hd
    · obtain ⟨j, _, rfl⟩ := List.mem_map.mp (List.mem_of_mem_take hd)
      exact ⟨_, rfl⟩
    · exact cut_ints d hd
  · simp only [List.length_append, List.length_nil]
    omega
  clear B9 a9' s9 a9 e10 a8 e9 a7 e8 e7' e7 aZ B5 a5 hs5 e6 c1 e5 hs4 B4 a4 B3
  rintro env M ⟨e7, e8, bs, st, Dn, S, sts, rfl, T, _, hl, _, _⟩
  simp only [List.length_nil] at hl
  obtain ⟨M5, e6, k5⟩ := gives_of (right_ok T.book T.row hgd T.run (by omega))
  rw [if_false_step (M' := M5) (by simp [e6])]
  have B5 := T.book.keep k5
  have a5 := k5.at T.row
  suffices key : ∀ (N : TL.Env → Mem → Prop) (M : Mem) (e5 : Option D) (bs : List Bool) (Dn S : Nat) (sts : List D), BookAt M B Dn S (.rally r) (bs.map sideD) sts → M[R]? = some (.lst (bs.map sideD)) → Run (.rally r) (bs.map sideD) sts → bs.length ≤ 100 →
      SRet ((sSeq (sFor (iAny (eCall m_l_draws (aCons (eBin mFdiv (eVar 6) (eC (.int 42))) (aCons (eC (.int 4)) aNil)))) (gOne 7) lp_law_1) (sRet (eCall m_l_others_right (aCons (eVar 6) aNil)))) [some (.ref 0), some (.ref X), some (gR r), some (.ref B), some (.ref R), e5, some (.int num), e7, e8] M) N (fun d _ => d = .bl true) by
    have bp : pureL (bs.map sideD) 1 = true := pureL_all fun x hx => by
      obtain ⟨b, _, rfl⟩ := List.mem_map.mp hx
      cases b <;> rfl
    have k6 := Keep.more M5 [MO.lst []]
    have ne := mNe_nil (m := M5.length) (k6.seq (seqAt_lst a5)) (seqAt_lst (at_len M5 (MO.lst []))) bp (by decide)
    have B6 := B5.keep k6
    have a6 := k6.at a5
    cases hbs : bs.reverse with
    | nil =>
      have : bs = [] := by simpa using hbs
      subst this
      rw [if_false_step (M' := M5 ++ [MO.lst []]) (by simp at ne ⊢; simp [ne])]
      exact key _ _ _ [] Dn S sts B6 a6 T.run (by simp)
    | cons x rs =>
      have eb : bs = rs.reverse ++ [x] := by
        have := congrArg List.reverse hbs
        simpa using this
      obtain ⟨cs, hcs⟩ : ∃ cs, cs = rs.reverse := ⟨_, rfl⟩
      rw [← hcs] at eb
      clear hcs hbs rs
      subst eb
      have em : (cs ++ [x]).map sideD = cs.map sideD ++ [sideD x] := by simp
      have run := T.run
      rw [em] at B6 a6 run ne
      have sl := run.len
      obtain ⟨ss, y, es⟩ : ∃ ss y, sts = ss ++ [y] := ⟨_, _, (List.dropLast_concat_getLast (by intro e; rw [e] at sl; simp at sl)).symm⟩
      subst es
      obtain ⟨_, M7, e7', rfl, B7, f7⟩ := back_ok B6 run
      have me := fun fn mas env => B6.me (m := "back") (dd := []) (fn := fn) (mas := mas) (env := env) (by decide)
      have a7 := f7.get a6 (by simp; exact ⟨T.ne.1, T.ne.2.1⟩)
      have pp := mPop_ok a7
      have ltR := lt_of_at a7
      have f8 : Fr [R] M7 (M7.set R (.lst (cs.map sideD))) := (Fr.of (Keep.refl M7)).set (.inl (by simp))
      have B8 := B7.fr f8 (by simpa using Ne.symm T.ne.2.2) (by simpa using Ne.symm T.ne.1) (by simpa using Ne.symm T.ne.2.1)
      have a8 : (M7.set R (.lst (cs.map sideD)))[R]? = some (.lst (cs.map sideD)) := List.getElem?_set_self ltR
      generalize M7.set R (.lst (cs.map sideD)) = M8 at *
      have run' : Run (.rally r) (cs.map sideD) ss := by
        have p := run.pre cs.length (by simp)
        have l2 : ss.length = cs.length + 1 := by simp at sl; exact sl
        rw [List.take_append_of_le_length (by simp), List.take_append_of_le_length (by omega), List.take_of_length_le (by simp), List.take_of_length_le (by omega)] at p
        exact p
      have cl : cs.length ≤ 100 := by simp at hl; omega
      obtain ⟨M9, e9, k9⟩ := gives_of (right_ok B8 a8 hgd run' (by omega))
      have sq7 := seqAt_lst a7
      rw [if_true_step (M' := M5 ++ [MO.lst []]) (by simp at ne ⊢; simp [ne])]
      have go : ∀ REST : MS, (sSeq (sSeq (sExpr (eMeM "Book" "back" [] m_Book_back (eVar 3) aNil)) (sSeq (sExpr (eMeth "list" mPop (eVar 4) aNil)) (sIf (tNot (tTru (eCall m_l_right (aCons (eVar 3) (aCons (eVar 2) (aCons (eVar 4) aNil)))))) (sRet (eC (.bl false))) sNil))) REST)
          [some (.ref 0), some (.ref X), some (gR r), some (.ref B), some (.ref R), some st, some (.int num), e7, e8] (M5 ++ [MO.lst []]) = REST [some (.ref 0), some (.ref X), some (gR r), some (.ref B), some (.ref R), some st, some (.int num), e7, e8] M9 := by
        intro REST
        simp [me, e7', sq7, pp, e9]
      rw [go]
      exact key _ _ _ cs Dn S ss (B8.keep k9) (k9.at a8) run' cl
  intro N M e5 bs Dn S sts Bk ar run hl
  obtain ⟨_, M6, e7, Z, zs, rfl, lZ, k6, aZ, lz⟩ := draws_ok (c := num / 42) (many := 4) (by decide) M
  have e7' : m_l_draws [.int (num / 42), .int 4] M = .ok (.ref Z) M6 := e7
  have sZ := seqAt_lst aZ
  have lb := lt_of_at Bk.o
  simp [e7', srcOf_ref sZ]
  refine SRet.forQ (WInv2 X B Z 0 r num (zs.map fun x => D.int (x : Nat))) ⟨_, _, _, bs, Dn, S, R, sts, rfl, Bk.keep k6, k6.at ar, run, ?_, ?_, sZ, by omega⟩ (fun rest env M hi => by
    obtain ⟨_, _, _, _, _, _, _, _, _, _, _, _, _, _, s, _⟩ := hi
    exact s) ?_ ?_
  · intro d hd
    obtain ⟨i, _, rfl⟩ := List.mem_map.mp hd
    exact ⟨i, rfl⟩
  · simp [lz]
    omega
  · rintro d rest env M' ⟨e5, e7, e8, bs, Dn, S, R, sts, rfl, Bk, ar, run, hi, hl, sZ, nB⟩
    obtain ⟨cell, rfl⟩ := hi d List.mem_cons_self
    refine ⟨_, rfl, ?_⟩
    unfold lp_law_1
    simp only [List.length_cons] at hl
    obtain ⟨_, M2, e2, R2, D2, S2, bs2, sts2, rfl, B2, a2, run2, l2, f2⟩ := written_ok hgd Bk ar run (by omega) (cell := cell)
    obtain ⟨M3, e3, k3⟩ := gives_of (right_ok B2 a2 hgd run2 (by omega))
    simp [e2, e3]
    exact SRet.next ⟨_, _, _, bs2, D2, S2, R2, sts2, rfl, B2.keep k3, k3.at a2, run2, fun d hd => hi d (List.mem_cons_of_mem _ hd), by omega, k3.seq (f2.seq sZ (by simpa using nB)), nB⟩
  · rintro env M' ⟨e5, e7, e8, bs, Dn, S, R, sts, rfl, _⟩
    obtain ⟨_, M2, e2, rfl⟩ := others_ok (cell := num) (M := M')
    simp [e2]
    exact SRet.ret rfl
end LW
end
set_option maxHeartbeats 0
open PySem PySem.W PySem.Calls PyProof.Rows
theorem PySem.Challenge.cw_tally_k73_units_won_holds : PySem.Challenge.rw_tally_k73_units_won.Holds := by
  w_on; o_law
  refine HandSHeadRun.head_any (r := OpenLaw.row PySem.Challenge.rw_tally_k73_units_won) (q := view (OpenLaw.row PySem.Challenge.rw_tally_k73_units_won).prog [69]) (H := LW.hk) (ob := LW.ob) (M := 4000) (loose := LW.loose) (d := HandSHeadRun.topDef (OpenLaw.row PySem.Challenge.rw_tally_k73_units_won).prog 69) (kwd := []) LW.ob_eq
    (by kernel_rfl) (fun s => by kernel_rfl) LW.run (by kernel_rfl) (by kernel_rfl) (by kernel_rfl) (by rfl) (by first | assumption | decide +kernel) (by decide +kernel) ⟨rfl, rfl, rfl, rfl, rfl, by decide +kernel⟩ ?hw ?hc
  case hw => w_witness2
  case hc =>
    refine TL.walk_ofG (l := PySem.Challenge.rw_tally_k73_units_won) (n := 63) (k := 46) (x := "_law_script") (CX := fun w => L2N.CX (PySem.Challenge.rw_tally_k73_units_won).prog w) rfl (by decide) (by kernel_rfl) ⟨⟨rfl, by decide, by decide⟩, rfl⟩ ?F (fun _ _ _ _ _ z => TL.cx_false z)
    intro w mg fa h Y G hmg0
    obtain ⟨K, KX, c⟩ := Y
    have hmg : mg ("law" : PySem.Str) = some (.ref fa) := by
      have e : (HandSHeadRun.topDef (OpenLaw.row PySem.Challenge.rw_tally_k73_units_won).prog 69).name = ("law" : PySem.Str) := by kernel_rfl
      rw [← e]
      exact hmg0
    have Z : LW.Facts K mg := LW.facts KX G c
    have hfa : fa = He.ga K "law" := by
      have e := hmg.symm.trans Z.mg_law
      cases e
      rfl
    subst hfa
    obtain ⟨fd, F⟩ := Z.fn_law
    have b := L2.FunD.bindsA (ps := ["_law_script"]) F fun _ _ _ _ _ _ us hl => match us, hl with | [_], _ => rfl
    exact ⟨K, fd, TL.spD K 1 LW.m_law, KX, fun s v => b s [v] rfl, fun H a ns hl hO hS => TL.law_sp hO hS (LW.law_true ns hl), fun base _ _ => LW.ok_law Z F⟩

