import PyProof.Rows.All
import Wide.All
import OpenK.AllK
import Wide.FinOn
import HandS.ForMost
import HandS.ForExc
import HandS.Defaults
import HandS.TupAny
import HandS.HeadHook2
import HandS.IsInst
import HandS.TupLe
import HandS.TupMul
import HandS.Conv
import HandS.StrMore
import HandS.Flow
import HandS.ExcCtx
import Lean
import HandS.Head0
import HandS.Head1
import HandS.Head2
import HandS.HeadEnd
import HandS.ExcIs
import HandS.ExcInit
import HandS.HotCalls
import HandS.ExcField
import KE.KExcIs
import HandS.Text
import HandS.RaiseMore
import HandS.Replace
import HandS.Deep
import HandS.CallSlots
import PySem.Challenge.RW_tally_k03_rules_written
set_option Elab.async false
set_option linter.all false
set_option maxRecDepth 100000
section
/-! the tree layer: data as trees over the abstract heap -/
namespace TL
open PySem PySem.Spec PyProof.Rows L2

/-- an exception of an own class: its class, its field at -/
structure Ex where
  cls : Str
  at_ : Option Int
inductive D where
  | non | bl (b : Bool) | int (i : Int) | str (x : Str) | tup (xs : List D) | ref (n : Nat) | err (x : Ex)
  deriving Inhabited

inductive MO where
  | lst (xs : List D)
  | rol (xs : List D)
  | ins (c : Str) (fs : List (Str × D))

abbrev Mem := List MO
abbrev Env := List (Option D)

inductive Out (α : Type) where
  | ok (a : α) (M : Mem)
  | exc (x : Ex) (M : Mem)
  | stuck

def Out.bind {α β : Type} (o : Out α) (f : α → Mem → Out β) : Out β :=
  match o with
  | .ok a M => f a M
  | .exc x M => .exc x M
  | .stuck => .stuck
@[simp] theorem Out.bind_ok {α β : Type} (a : α) (M : Mem) (f : α → Mem → Out β) : (Out.ok a M).bind f = f a M := rfl
@[simp] theorem Out.bind_exc {α β : Type} (x : Ex) (M : Mem) (f : α → Mem → Out β) : (Out.exc x M : Out α).bind f = .exc x M := rfl
@[simp] theorem Out.bind_stuck {α β : Type} (f : α → Mem → Out β) : (Out.stuck : Out α).bind f = .stuck := rfl

inductive SOut where
  | next (env : Env) (M : Mem)
  | ret (d : D) (M : Mem)
  | exc (x : Ex) (env : Env) (M : Mem)
  | stuck

abbrev ME := Env → Mem → Out D
abbrev MT := Env → Mem → Out Bool
abbrev MA := Env → Mem → Out (List D)
abbrev MS := Env → Mem → SOut

/-! ### what stands for what -/
section
variable (K : PySem.W.Frag)
/-- the field of an exception: its own dict -/
def ErrD (H : Hp) (at_ : Option Int) (dx : Option Addr) : Prop := (at_ = none ∧ dx = none) ∨ ∃ i d, at_ = some i ∧ dx = some d ∧ H d = some (.xd [(("at" : Str), V.int i)])
/-- what is kept of an exception that was caught: its very object -/
def errO (oe : Obj) : HO := .frz oe (.ext fun _ => True)
/-- an exception that was caught -/
def ErrAt (H : Hp) (a : Addr) (x : Ex) : Prop := ∃ (oe : Obj) (vs : Array Value), H a = some (errO oe) ∧ oe.cls = .ref (He.ga K x.cls) ∧ oe.data = .fields vs ∧ vs[2]? = some .none ∧ ErrD H x.at_ oe.dict
mutual
inductive Rp (ι : List Addr) (H : Hp) : D → V → Prop
  | non : Rp ι H .non .non
  | bl (b : Bool) : Rp ι H (.bl b) (.bl b)
  | int (i : Int) : Rp ι H (.int i) (.int i)
  | str (x : Str) : Rp ι H (.str x) (.str x)
  | tup {a : Addr} {xs : List D} {vs : List V} : SqT K H a vs → RpA ι H xs vs → Rp ι H (.tup xs) (.ref a)
  | ref {n : Nat} {a : Addr} : ι[n]? = some a → Rp ι H (.ref n) (.ref a)
  | err {x : Ex} {a : Addr} : ErrAt K H a x → Rp ι H (.err x) (.ref a)
inductive RpA (ι : List Addr) (H : Hp) : List D → List V → Prop
  | nil : RpA ι H [] []
  | cons {d : D} {v : V} {ds : List D} {vs : List V} : Rp ι H d v → RpA ι H ds vs → RpA ι H (d :: ds) (v :: vs)
end
structure Ext (ι : List Addr) (H : Hp) (ι' : List Addr) (H' : Hp) : Prop where
  pre : ∀ (n : Nat) (a : Addr), ι[n]? = some a → ι'[n]? = some a
  tup : ∀ (a : Addr) (vs : List V), SqT K H a vs → SqT K H' a vs
  err : ∀ (a : Addr) (x : Ex), ErrAt K H a x → ErrAt K H' a x
/-- a list that is only read -/
def RoL (H : Hp) (a : Addr) (vs : List V) : Prop := (∃ o, H a = some (.frz o (.lst vs))) ∨
  ∃ (o : Obj) (its : Array Value) (n : Nat), K.lookup a = some o ∧ o.cls = .type "list" ∧ o.dict = none ∧ o.data = .seq its n ∧ its.size ≤ sizeLine ∧ Vals vs its.toList
inductive RpF (ι : List Addr) (H : Hp) : List (Str × D) → List (Str × V) → Prop
  | nil : RpF ι H [] []
  | cons {x : Str} {d : D} {v : V} {ds : List (Str × D)} {vs : List (Str × V)} : Rp K ι H d v → RpF ι H ds vs → RpF ι H ((x, d) :: ds) ((x, v) :: vs)
/-- the class of that name -/
def ClsAt (x : Str) (C : Addr) : Prop := C = He.ga K x
def MOk (ι : List Addr) (H : Hp) (a : Addr) : MO → Prop
  | .lst xs => ∃ vs, H a = some (.lst vs) ∧ RpA K ι H xs vs
  | .rol xs => ∃ vs, RoL K H a vs ∧ RpA K ι H xs vs
  | .ins c fs => ∃ dx vs, H a = some (.ins (He.ga K c) dx vs) ∧ RpF K ι H fs vs
def mutable : MO → Bool
  | .rol _ => false
  | _ => true
structure SR (ι : List Addr) (H : Hp) (M : Mem) : Prop where
  len : ι.length = M.length
  ok : ∀ (n : Nat) (a : Addr) (o : MO), ι[n]? = some a → M[n]? = some o → MOk K ι H a o
  nd : ∀ (n m : Nat) (a : Addr) (o u : MO), ι[n]? = some a → ι[m]? = some a → M[n]? = some o → M[m]? = some u → mutable o = true → mutable u = true → n = m
def RpO (ι : List Addr) (H : Hp) : Option D → Option V → Prop
  | none, _ => True
  | some d, some v => Rp K ι H d v
  | some _, none => False
inductive EnvR (ι : List Addr) (H : Hp) : Env → L2.St → Prop
  | nil : EnvR ι H [] []
  | cons {d : Option D} {v : Option V} {ds : Env} {vs : L2.St} : RpO K ι H d v → EnvR ι H ds vs → EnvR ι H (d :: ds) (v :: vs)
end

section
variable {K : PySem.W.Frag} {ι ι' ι'' : List Addr} {H H' H'' : Hp}
theorem Ext.refl : Ext K ι H ι H := ⟨fun _ _ h => h, fun _ _ h => h, fun _ _ h => h⟩
theorem Ext.trans (a : Ext K ι H ι' H') (b : Ext K ι' H' ι'' H'') : Ext K ι H ι'' H'' :=
  ⟨fun n c h => b.pre n c (a.pre n c h), fun c vs h => b.tup c vs (a.tup c vs h), fun c x h => b.err c x (a.err c x h)⟩
mutual
theorem Rp.ext (e : Ext K ι H ι' H') : ∀ {d : D} {v : V}, Rp K ι H d v → Rp K ι' H' d v
  | _, _, .non => .non
  | _, _, .bl b => .bl b
  | _, _, .int i => .int i
  | _, _, .str x => .str x
  | _, _, .tup h r => .tup (e.tup _ _ h) (RpA.ext e r)
  | _, _, .ref h => .ref (e.pre _ _ h)
  | _, _, .err h => .err (e.err _ _ h)
theorem RpA.ext (e : Ext K ι H ι' H') : ∀ {d : List D} {v : List V}, RpA K ι H d v → RpA K ι' H' d v
  | _, _, .nil => .nil
  | _, _, .cons h r => .cons (Rp.ext e h) (RpA.ext e r)
end
theorem RpF.ext (e : Ext K ι H ι' H') : ∀ {d : List (Str × D)} {v : List (Str × V)}, RpF K ι H d v → RpF K ι' H' d v
  | _, _, .nil => .nil
  | _, _, .cons h r => .cons (h.ext e) (RpF.ext e r)
theorem RpO.ext (e : Ext K ι H ι' H') {d : Option D} {v : Option V} (h : RpO K ι H d v) : RpO K ι' H' d v := by
  cases d <;> cases v <;> first | trivial | exact h.elim | exact Rp.ext e h
theorem EnvR.ext (e : Ext K ι H ι' H') : ∀ {d : Env} {v : L2.St}, EnvR K ι H d v → EnvR K ι' H' d v
  | _, _, .nil => .nil
  | _, _, .cons h r => .cons (h.ext e) (EnvR.ext e r)
theorem EnvR.get : ∀ {env : Env} {σ : L2.St} {i : Nat} {d : D}, EnvR K ι H env σ → env[i]? = some (some d) → ∃ v, σ[i]? = some (some v) ∧ Rp K ι H d v
  | _, _, _, _, .nil, e => by simp at e
  | _, _, 0, d, .cons (d := x) (v := v) h _, e => by
    simp at e; subst e
    cases v with
    | none => exact h.elim
    | some v => exact ⟨v, rfl, h⟩
  | _, _, i + 1, d, .cons _ t, e => by
    obtain ⟨v, h1, h2⟩ := EnvR.get (i := i) (d := d) t (by simpa using e)
    exact ⟨v, by simpa using h1, h2⟩
theorem EnvR.set {d : D} {v : V} (r : Rp K ι H d v) : ∀ {env : Env} {σ : L2.St} (i : Nat), EnvR K ι H env σ → EnvR K ι H (env.set i (some d)) (σ.set i (some v))
  | _, _, _, .nil => .nil
  | _, _, 0, .cons _ t => .cons (show RpO K ι H (some d) (some v) from r) t
  | _, _, i + 1, .cons q t => .cons q (EnvR.set r i t)
theorem EnvR.unset : ∀ {env : Env} {σ : L2.St} (i : Nat), EnvR K ι H env σ → EnvR K ι H (env.set i none) (σ.set i none)
  | _, _, _, .nil => .nil
  | _, _, 0, .cons _ t => .cons trivial t
  | _, _, i + 1, .cons q t => .cons q (EnvR.unset i t)
theorem EnvR.length : ∀ {env : Env} {σ : L2.St}, EnvR K ι H env σ → env.length = σ.length
  | _, _, .nil => rfl
  | _, _, .cons _ t => congrArg (· + 1) t.length
theorem RpA.length : ∀ {ds : List D} {vs : List V}, RpA K ι H ds vs → ds.length = vs.length
  | _, _, .nil => rfl
  | _, _, .cons _ t => congrArg (· + 1) t.length
theorem RpA.get : ∀ {ds : List D} {vs : List V} {i : Nat} {d : D}, RpA K ι H ds vs → ds[i]? = some d → ∃ v, vs[i]? = some v ∧ Rp K ι H d v
  | _, _, _, _, .nil, e => by simp at e
  | _, _, 0, d, .cons h _, e => by simp at e; subst e; exact ⟨_, rfl, h⟩
  | _, _, i + 1, d, .cons _ t, e => by
    obtain ⟨v, h1, h2⟩ := RpA.get (i := i) (d := d) t (by simpa using e)
    exact ⟨v, by simpa using h1, h2⟩
theorem RpA.append : ∀ {ds es : List D} {vs us : List V}, RpA K ι H ds vs → RpA K ι H es us → RpA K ι H (ds ++ es) (vs ++ us)
  | _, _, _, _, .nil, s => s
  | _, _, _, _, .cons r t, s => .cons r (RpA.append t s)
theorem RpA.take : ∀ {ds : List D} {vs : List V} (n : Nat), RpA K ι H ds vs → RpA K ι H (ds.take n) (vs.take n)
  | _, _, 0, _ => .nil
  | _, _, _ + 1, .nil => .nil
  | _, _, n + 1, .cons r t => .cons r (RpA.take n t)
theorem RpA.drop : ∀ {ds : List D} {vs : List V} (n : Nat), RpA K ι H ds vs → RpA K ι H (ds.drop n) (vs.drop n)
  | _, _, 0, r => r
  | _, _, _ + 1, .nil => .nil
  | _, _, n + 1, .cons _ t => RpA.drop n t
theorem RpA.set {d : D} {v : V} (r : Rp K ι H d v) : ∀ {ds : List D} {vs : List V} (i : Nat), RpA K ι H ds vs → RpA K ι H (ds.set i d) (vs.set i v)
  | _, _, _, .nil => .nil
  | _, _, 0, .cons _ t => .cons r t
  | _, _, i + 1, .cons q t => .cons q (RpA.set r i t)
theorem RpA.reverse : ∀ {ds : List D} {vs : List V}, RpA K ι H ds vs → RpA K ι H ds.reverse vs.reverse
  | _, _, .nil => .nil
  | _, _, .cons r t => by
    rw [List.reverse_cons, List.reverse_cons]
    exact (RpA.reverse t).append (.cons r .nil)
theorem RpA.dropLast : ∀ {ds : List D} {vs : List V}, RpA K ι H ds vs → RpA K ι H ds.dropLast vs.dropLast
  | _, _, .nil => .nil
  | _, _, .cons _ .nil => .nil
  | _, _, .cons r (.cons q t) => .cons r (RpA.dropLast (.cons q t))
theorem RpA.rep {ds : List D} {vs : List V} (h : RpA K ι H ds vs) : ∀ k : Nat, RpA K ι H (List.replicate k ds).flatten (List.replicate k vs).flatten
  | 0 => .nil
  | k + 1 => by
    rw [List.replicate_succ, List.replicate_succ, List.flatten_cons, List.flatten_cons]
    exact h.append (RpA.rep h k)

/-! ### heaps -/
theorem upd_tup {a p : Addr} {o : HO} {vs : List V} (hp : H p = none) (h : SqT K H a vs) : SqT K (upd H p o) a vs := by
  rcases h with (h | ⟨u, h⟩) | h
  · exact .inl (.inl (by rw [upd_ne (ne_of_none h hp)]; exact h))
  · exact .inl (.inr ⟨u, by rw [upd_ne (ne_of_none h hp)]; exact h⟩)
  · exact .inr h
def isTupO : Option HO → Prop
  | some (.tup _) => True
  | some (.frz _ _) => True
  | some (.xd _) => True
  | _ => False
theorem upd_tup' {a p : Addr} {o : HO} {vs : List V} (hp : ¬ isTupO (H p)) (h : SqT K H a vs) : SqT K (upd H p o) a vs := by
  rcases h with (h | ⟨u, h⟩) | h
  · exact .inl (.inl (by rw [upd_ne (fun e => by subst e; rw [h] at hp; exact hp trivial)]; exact h))
  · exact .inl (.inr ⟨u, by rw [upd_ne (fun e => by subst e; rw [h] at hp; exact hp trivial)]; exact h⟩)
  · exact .inr h
theorem upd_err {a p : Addr} {o : HO} {x : Ex} (hp : ¬ isTupO (H p)) (h : ErrAt K H a x) : ErrAt K (upd H p o) a x := by
  obtain ⟨oe, vs, h1, h2, h3, h4, h5⟩ := h
  refine ⟨oe, vs, by rw [upd_ne (fun e => by subst e; rw [h1] at hp; exact hp trivial)]; exact h1, h2, h3, h4, ?_⟩
  rcases h5 with h5 | ⟨i, d, e1, e2, e3⟩
  · exact .inl h5
  · exact .inr ⟨i, d, e1, e2, by rw [upd_ne (fun e => by subst e; rw [e3] at hp; exact hp trivial)]; exact e3⟩
theorem Ext.upd {p : Addr} {o : HO} (hp : ¬ isTupO (H p)) : Ext K ι H ι (upd H p o) := ⟨fun _ _ h => h, fun _ _ h => upd_tup' hp h, fun _ _ h => upd_err hp h⟩
theorem Ext.new {p : Addr} {o : HO} (hp : H p = none) : Ext K ι H ι (L2.upd H p o) := Ext.upd (by rw [hp]; exact fun z => z)
theorem Ext.more {p : Addr} {o : HO} (hp : H p = none) : Ext K ι H (ι ++ [p]) (L2.upd H p o) :=
  ⟨fun n a h => by
    obtain ⟨hl, _⟩ := List.getElem?_eq_some_iff.mp h
    rw [List.getElem?_append_left hl]; exact h, fun _ _ h => upd_tup hp h, fun _ _ h => upd_err (by rw [hp]; exact fun z => z) h⟩
theorem RoL.sq {a : Addr} {vs : List V} (h : RoL K H a vs) : SqL K H a vs := by
  rcases h with ⟨o, h⟩ | h
  · exact .inl (.inr ⟨o, h⟩)
  · exact .inr h
theorem RoL.upd {a p : Addr} {o : HO} {vs : List V} (hp : ¬ isTupO (H p)) (h : RoL K H a vs) : RoL K (L2.upd H p o) a vs := by
  rcases h with ⟨u, h⟩ | h
  · exact .inl ⟨u, by rw [upd_ne (fun e => by subst e; rw [h] at hp; exact hp trivial)]; exact h⟩
  · exact .inr h
/-- an object that is there stays what it is where another place is written -/
theorem MOk.upd {a p : Addr} {o : HO} {u : MO} (e : Ext K ι H ι' (L2.upd H p o)) (hne : mutable u = true → a ≠ p) (hp : ¬ isTupO (H p)) (h : MOk K ι H a u) : MOk K ι' (L2.upd H p o) a u := by
  cases u with
  | lst xs => obtain ⟨vs, h1, h2⟩ := h; exact ⟨vs, by rw [upd_ne (hne rfl)]; exact h1, h2.ext e⟩
  | rol xs => obtain ⟨vs, h1, h2⟩ := h; exact ⟨vs, h1.upd hp, h2.ext e⟩
  | ins c fs => obtain ⟨dx, vs, h1, h2⟩ := h; exact ⟨dx, vs, by rw [upd_ne (hne rfl)]; exact h1, h2.ext e⟩
theorem MOk.there {a : Addr} {u : MO} (m : mutable u = true) (h : MOk K ι H a u) : H a ≠ none := by
  cases u with
  | lst xs => obtain ⟨vs, h1, _⟩ := h; rw [h1]; exact fun z => nomatch z
  | rol xs => exact nomatch m
  | ins c fs => obtain ⟨dx, vs, h1, _⟩ := h; rw [h1]; exact fun z => nomatch z
theorem MOk.notTup {a : Addr} {u : MO} (m : mutable u = true) (h : MOk K ι H a u) : ¬ isTupO (H a) := by
  cases u with
  | lst xs => obtain ⟨vs, h1, _⟩ := h; rw [h1]; exact fun z => z
  | rol xs => exact nomatch m
  | ins c fs => obtain ⟨dx, vs, h1, _⟩ := h; rw [h1]; exact fun z => z
variable {M : Mem}
theorem SR.at (S : SR K ι H M) {n : Nat} {o : MO} (h : M[n]? = some o) : ∃ a, ι[n]? = some a ∧ MOk K ι H a o := by
  obtain ⟨hl, _⟩ := List.getElem?_eq_some_iff.mp h
  have hl' : n < ι.length := by rw [S.len]; exact hl
  exact ⟨ι[n], List.getElem?_eq_getElem hl', S.ok n _ o (List.getElem?_eq_getElem hl') h⟩
/-- an untracked place gets a thing that is no memory of ours (a tuple, an instance's dict) -/
theorem SR.new (S : SR K ι H M) {p : Addr} {o : HO} (hp : H p = none) : SR K ι (L2.upd H p o) M where
  len := S.len
  ok := fun n a u h1 h2 => by
    have k := S.ok n a u h1 h2
    refine k.upd (Ext.new hp) (fun m e => ?_) (by rw [hp]; exact fun z => z)
    subst e; exact k.there m hp
  nd := S.nd
/-- a new object of ours -/
theorem SR.alloc (S : SR K ι H M) {p : Addr} {o : HO} {u : MO} (hp : H p = none) (hm : MOk K (ι ++ [p]) (L2.upd H p o) p u) : SR K (ι ++ [p]) (L2.upd H p o) (M ++ [u]) := by
  have hl := S.len
  have split : ∀ {n : Nat} {a : Addr} {v : MO}, (ι ++ [p])[n]? = some a → (M ++ [u])[n]? = some v → (ι[n]? = some a ∧ M[n]? = some v) ∨ (n = ι.length ∧ a = p ∧ v = u) := by
    intro n a v h1 h2
    by_cases q : n < ι.length
    · rw [List.getElem?_append_left q] at h1
      rw [List.getElem?_append_left (by omega)] at h2
      exact .inl ⟨h1, h2⟩
    · have e : n = ι.length := by
        have := (List.getElem?_eq_some_iff.mp h1).1
        simp at this; omega
      subst e
      have a1 : p = a := by simpa using h1
      have a2 : u = v := by rw [hl] at h2; simpa using h2
      exact .inr ⟨rfl, a1.symm, a2.symm⟩
  refine ⟨by simp [hl], fun n a v h1 h2 => ?_, fun n m a v w h1 h2 h3 h4 m1 m2 => ?_⟩
  · rcases split h1 h2 with ⟨g1, g2⟩ | ⟨rfl, rfl, rfl⟩
    · have k := S.ok n a v g1 g2
      refine k.upd (Ext.more hp) (fun m e => ?_) (by rw [hp]; exact fun z => z)
      subst e; exact k.there m hp
    · exact hm
  · rcases split h1 h3 with ⟨g1, g2⟩ | ⟨rfl, rfl, rfl⟩ <;> rcases split h2 h4 with ⟨f1, f2⟩ | ⟨rfl, e, rfl⟩
    · exact S.nd n m a v w g1 f1 g2 f2 m1 m2
    · exact absurd hp (by rw [← e]; exact (S.ok n _ v g1 g2).there m1)
    · exact absurd hp ((S.ok m _ w f1 f2).there m2)
    · rfl
/-- an object of ours is written -/
theorem SR.write (S : SR K ι H M) {n : Nat} {a : Addr} {o u : MO} {x : HO} (ha : ι[n]? = some a) (ho : M[n]? = some o) (mo : mutable o = true) (mu : mutable u = true)
    (hm : MOk K ι (L2.upd H a x) a u) : SR K ι (L2.upd H a x) (M.set n u) := by
  have k0 := S.ok n a o ha ho
  have nt := k0.notTup mo
  obtain ⟨hl, _⟩ := List.getElem?_eq_some_iff.mp ho
  have split : ∀ {m : Nat} {v : MO}, (M.set n u)[m]? = some v → (m = n ∧ v = u) ∨ (m ≠ n ∧ M[m]? = some v) := by
    intro m v h
    by_cases e : m = n
    · subst e
      rw [List.getElem?_set_self hl] at h
      exact .inl ⟨rfl, (Option.some.inj h).symm⟩
    · rw [List.getElem?_set_ne (fun z => e z.symm)] at h
      exact .inr ⟨e, h⟩
  refine ⟨by rw [List.length_set]; exact S.len, fun m b v h1 h2 => ?_, fun m m' b v w h1 h2 h3 h4 m1 m2 => ?_⟩
  · rcases split h2 with ⟨rfl, rfl⟩ | ⟨e, g⟩
    · rw [ha] at h1; cases h1; exact hm
    · refine (S.ok m b v h1 g).upd (Ext.upd nt) (fun mv z => ?_) nt
      subst z; exact e (S.nd m n b v o h1 ha g ho mv mo)
  · rcases split h3 with ⟨rfl, rfl⟩ | ⟨e, g⟩ <;> rcases split h4 with ⟨rfl, rfl⟩ | ⟨e', g'⟩
    · rfl
    · exact (S.nd m' m b w o h2 h1 g' ho m2 mo).symm
    · exact S.nd m m' b v o h1 h2 g ho m1 mo
    · exact S.nd m m' b v w h1 h2 g g' m1 m2
end

/-! ### outcomes and readings -/
/-- an exception: its class, its dict -/
def ExR (K : PySem.W.Frag) (ι : List Addr) (x : Ex) (cls : Value) (dx : Option Addr) (H : Hp) : Prop :=
  cls = .ref (He.ga K x.cls) ∧ ErrD H x.at_ dx
/-- what is wanted of an outcome, from ι and H on -/
def OutP {α : Type} (K : PySem.W.Frag) (W : Value → Option Addr → Hp → Prop) (ι : List Addr) (H : Hp) (o : Out α) (R : α → Mem → List Addr → Hp → Prop) : Prop :=
  match o with
  | .ok a M => ∀ ι' H', Ext K ι H ι' H' → SR K ι' H' M → R a M ι' H'
  | .exc x M => ∀ ι' H' cls dx, Ext K ι H ι' H' → SR K ι' H' M → ExR K ι' x cls dx H' → W cls dx H'
  | .stuck => False
def SOutP (K : PySem.W.Frag) (W : WX) (ι : List Addr) (H : Hp) (o : SOut) (En : Ends) : Prop :=
  match o with
  | .next env M => ∀ ι' σ' H', Ext K ι H ι' H' → SR K ι' H' M → EnvR K ι' H' env σ' → En.nx σ' H'
  | .ret d M => ∀ ι' v H', Ext K ι H ι' H' → SR K ι' H' M → Rp K ι' H' d v → En.rt v H'
  | .exc x env M => ∀ ι' σ' H' cls dx, Ext K ι H ι' H' → SR K ι' H' M → EnvR K ι' H' env σ' → ExR K ι' x cls dx H' → W cls dx σ' H'
  | .stuck => False
abbrev W1 (W : WX) (σ : L2.St) : Value → Option Addr → Hp → Prop := fun c d H => W c d σ H
/-- what is wanted of a value -/
abbrev VR (K : PySem.W.Frag) (Q : VK) : D → Mem → List Addr → Hp → Prop := fun d _ ι H => ∀ v, Rp K ι H d v → Q v H
abbrev AR (K : PySem.W.Frag) (Q : List V → Hp → Prop) : List D → Mem → List Addr → Hp → Prop := fun d _ ι H => ∀ v, RpA K ι H d v → Q v H
abbrev TR (Q : Bool → Hp → Prop) : Bool → Mem → List Addr → Hp → Prop := fun b _ _ H => Q b H
def LE (K : PySem.W.Frag) (W : WX) (m : ME) : TE := fun σ H Q => ∃ ι env M, SR K ι H M ∧ EnvR K ι H env σ ∧ OutP K (W1 W σ) ι H (m env M) (VR K Q)
def LT (K : PySem.W.Frag) (W : WX) (m : MT) : TT := fun σ H Q => ∃ ι env M, SR K ι H M ∧ EnvR K ι H env σ ∧ OutP K (W1 W σ) ι H (m env M) (TR Q)
def LA (K : PySem.W.Frag) (W : WX) (m : MA) : TA := fun σ H Q => ∃ ι env M, SR K ι H M ∧ EnvR K ι H env σ ∧ OutP K (W1 W σ) ι H (m env M) (AR K Q)
def LS (K : PySem.W.Frag) (W : WX) (m : MS) : TS := fun En σ H => ∃ ι env M, SR K ι H M ∧ EnvR K ι H env σ ∧ SOutP K W ι H (m env M) En

section
variable {K : PySem.W.Frag} {W : Value → Option Addr → Hp → Prop} {ι ι' : List Addr} {H H' : Hp} {α β : Type}
theorem OutP.imp {o : Out α} {R R' : α → Mem → List Addr → Hp → Prop} (h : OutP K W ι H o R) (k : ∀ a M ι' H', Ext K ι H ι' H' → SR K ι' H' M → R a M ι' H' → R' a M ι' H') : OutP K W ι H o R' := by
  cases o with
  | ok a M => exact fun ι' H' e s => k a M ι' H' e s (h ι' H' e s)
  | exc x M => exact h
  | stuck => exact h
theorem OutP.ext {o : Out α} {R : α → Mem → List Addr → Hp → Prop} (e : Ext K ι H ι' H') (h : OutP K W ι H o R) : OutP K W ι' H' o R := by
  cases o with
  | ok a M => exact fun ι2 H2 e2 s => h ι2 H2 (e.trans e2) s
  | exc x M => exact fun ι2 H2 c d e2 s x => h ι2 H2 c d (e.trans e2) s x
  | stuck => exact h
theorem OutP.bind {o : Out α} {f : α → Mem → Out β} {R : β → Mem → List Addr → Hp → Prop} (h : OutP K W ι H (o.bind f) R) : OutP K W ι H o (fun a M ι1 H1 => OutP K W ι1 H1 (f a M) R) := by
  cases o with
  | ok a M => exact fun ι' H' e s => OutP.ext e h
  | exc x M => exact h
  | stuck => exact h
end
theorem SOutP.ext {K : PySem.W.Frag} {W : WX} {ι ι' : List Addr} {H H' : Hp} {o : SOut} {En : Ends} (e : Ext K ι H ι' H') (h : SOutP K W ι H o En) : SOutP K W ι' H' o En := by
  cases o with
  | next env M => exact fun ι2 σ2 H2 e2 s r => h ι2 σ2 H2 (e.trans e2) s r
  | ret d M => exact fun ι2 v H2 e2 s r => h ι2 v H2 (e.trans e2) s r
  | exc x env M => exact fun ι2 σ2 H2 c d e2 s r x => h ι2 σ2 H2 c d (e.trans e2) s r x
  | stuck => exact h

/-! ### consequence -/
section
variable {X : Cx}
theorem _root_.L2.PE.imp {e : Expr} {t t' : TE} (h : PE X e t) (k : ∀ σ H Q, t' σ H Q → t σ H Q) : PE X e t' := ⟨fun pins s σ H Q I q => h.run pins s σ H Q I (k σ H Q q)⟩
theorem _root_.L2.PT.imp {e : Expr} {t t' : TT} (h : PT X e t) (k : ∀ σ H Q, t' σ H Q → t σ H Q) : PT X e t' := ⟨fun pins s σ H Q I q => h.run pins s σ H Q I (k σ H Q q)⟩
theorem _root_.L2.PW.imp {e : Expr} {t t' : TT} (h : PW X e t) (k : ∀ σ H Q, t' σ H Q → t σ H Q) : PW X e t' := ⟨fun w pins s σ H Q I q => h.run w pins s σ H Q I (k σ H Q q)⟩
theorem _root_.L2.PA.imp {e : List Expr} {t t' : TA} (h : PA X e t) (k : ∀ σ H Q, t' σ H Q → t σ H Q) : PA X e t' := ⟨fun p pins s σ H Q I q => h.run p pins s σ H Q I (k σ H Q q)⟩
theorem _root_.L2.PS.imp {e : Stmt} {t t' : TS} (h : PS X e t) (k : ∀ En σ H, t' En σ H → t En σ H) : PS X e t' := ⟨fun pins s σ H En I q => h.run pins s σ H En I (k En σ H q)⟩
theorem _root_.L2.PSs.imp {e : List Stmt} {t t' : TS} (h : PSs X e t) (k : ∀ En σ H, t' En σ H → t En σ H) : PSs X e t' := ⟨fun pins s σ H En I q => h.run pins s σ H En I (k En σ H q)⟩
end
end TL
end
section
/-! the tree layer: expressions -/
namespace TL
open PySem PySem.Spec PyProof.Rows L2

/-- the context of a body -/
structure Ctx (X : Cx) (W : WX) (k : Nat) : Prop where
  calm : X.calm = true
  nd : X.N.Nodup
  room : Room k X.A
  tk : L2N.Takes X W
  pass : PassesOwn (model X.prog X.w) X.A X.env X.xe

/-! ### operations on data -/
def liftO {α : Type} (o : Option (α × Mem)) : Out α := match o with
  | some (a, M) => .ok a M
  | none => .stuck
@[simp] theorem liftO_some {α : Type} (a : α) (M : Mem) : liftO (some (a, M)) = .ok a M := rfl
@[simp] theorem liftO_none {α : Type} : liftO (none : Option (α × Mem)) = .stuck := rfl
def OpO {α : Type} (K : PySem.W.Frag) (ι : List Addr) (H : Hp) (o : Option (α × Mem)) (R : α → Mem → List Addr → Hp → Prop) : Prop := match o with
  | some (a, M) => ∀ ι' H', Ext K ι H ι' H' → SR K ι' H' M → R a M ι' H'
  | none => False
theorem OpO.of {α : Type} {K : PySem.W.Frag} {W : Value → Option Addr → Hp → Prop} {ι : List Addr} {H : Hp} {o : Option (α × Mem)} {R : α → Mem → List Addr → Hp → Prop} (h : OutP K W ι H (liftO o) R) : OpO K ι H o R := by
  cases o with
  | none => exact h
  | some p => exact h

abbrev Op2 := D → D → Mem → Option (D × Mem)
abbrev Op1 := D → Mem → Option (D × Mem)
abbrev OpN := List D → Mem → Option (D × Mem)
def rD2 (K : PySem.W.Frag) (f : Op2) : R2 := fun x y H Q => ∃ ι M a b, SR K ι H M ∧ Rp K ι H a x ∧ Rp K ι H b y ∧ OpO K ι H (f a b M) (VR K Q)
def rD1 (K : PySem.W.Frag) (f : Op1) : V → Hp → VK → Prop := fun x H Q => ∃ ι M a, SR K ι H M ∧ Rp K ι H a x ∧ OpO K ι H (f a M) (VR K Q)
def rDN (K : PySem.W.Frag) (f : OpN) : List V → Hp → VK → Prop := fun xs H Q => ∃ ι M ds, SR K ι H M ∧ RpA K ι H ds xs ∧ OpO K ι H (f ds M) (VR K Q)
def rDM (K : PySem.W.Frag) (f : D → OpN) : V → List V → Hp → VK → Prop := fun x xs H Q => ∃ ι M d ds, SR K ι H M ∧ Rp K ι H d x ∧ RpA K ι H ds xs ∧ OpO K ι H (f d ds M) (VR K Q)
def rDSl (K : PySem.W.Frag) (f : D → Option Int → Option Int → Mem → Option (D × Mem)) : V → Option Int → Option Int → Hp → VK → Prop := fun x lo hi H Q => ∃ ι M d, SR K ι H M ∧ Rp K ι H d x ∧ OpO K ι H (f d lo hi M) (VR K Q)

section
variable {X : Cx}
theorem OpR.imp {f : Value → Value → Sem Value} {r r' : R2} (h : OpR X f r) (k : ∀ x y H Q, r' x y H Q → r x y H Q) : OpR X f r' :=
  fun pins s σ H x y v u Q I rx ry q => h pins s σ H x y v u Q I rx ry (k x y H Q q)
theorem CallR.imp {f : Value} {r r' : List V → Hp → VK → Prop} (h : CallR X f r) (k : ∀ xs H Q, r' xs H Q → r xs H Q) : CallR X f r' :=
  fun pins s σ H xs us Q I rx q => h pins s σ H xs us Q I rx (k xs H Q q)
theorem IxR.imp {r r' : R2} (h : IxR X r) (k : ∀ x y H Q, r' x y H Q → r x y H Q) : IxR X r' :=
  fun a b pins s σ H x y v u Q I rx ry q e => h a b pins s σ H x y v u Q I rx ry (k x y H Q q) e
theorem MtR.imp {id : String} {r r' : V → List V → Hp → VK → Prop} (h : MtR X id r) (k : ∀ x xs H Q, r' x xs H Q → r x xs H Q) : MtR X id r' :=
  fun pins s σ H x xs v us Q I rx rxs q => h pins s σ H x xs v us Q I rx rxs (k x xs H Q q)
theorem UnR.imp {f : Value → Sem Value} {r r' : V → Hp → VK → Prop} (h : UnR X f r) (k : ∀ x H Q, r' x H Q → r x H Q) : UnR X f r' :=
  fun pins s σ H x v Q I rx q => h pins s σ H x v Q I rx (k x H Q q)
theorem SlR.imp {r r' : V → Option Int → Option Int → Hp → VK → Prop} (h : SlR X r) (k : ∀ x l u H Q, r' x l u H Q → r x l u H Q) : SlR X r' :=
  fun pins s σ H x v vl vu lo hi sl Q I rx hs pl pu q => h pins s σ H x v vl vu lo hi sl Q I rx hs pl pu (k x lo hi H Q q)
end

section
variable {K : PySem.W.Frag} {ι ι' : List Addr} {H H' : Hp} {M : Mem}
/-- a value is told, the memory as it is -/
theorem OpO.val {d : D} {Q : VK} {v : V} (S : SR K ι H M) (h : OpO K ι H (some (d, M)) (VR K Q)) (r : Rp K ι H d v) : Q v H := h ι H Ext.refl S v r
theorem Rp.bl_inv {b : Bool} {v : V} (r : Rp K ι H (.bl b) v) : v = .bl b := by cases r; rfl
theorem Rp.int_inv {i : Int} {v : V} (r : Rp K ι H (.int i) v) : v = .int i := by cases r; rfl
theorem Rp.str_inv {i : Str} {v : V} (r : Rp K ι H (.str i) v) : v = .str i := by cases r; rfl
theorem Rp.non_inv {v : V} (r : Rp K ι H .non v) : v = .non := by cases r; rfl
theorem Rp.tup_inv {xs : List D} {v : V} (r : Rp K ι H (.tup xs) v) : ∃ a vs, v = .ref a ∧ SqT K H a vs ∧ RpA K ι H xs vs := by cases r with | tup h k => exact ⟨_, _, rfl, h, k⟩
theorem Rp.ref_inv {n : Nat} {v : V} (r : Rp K ι H (.ref n) v) : ∃ a, v = .ref a ∧ ι[n]? = some a := by cases r with | ref h => exact ⟨_, rfl, h⟩
/-- a new tuple -/
theorem OpO.newTup {xs : List D} {vs : List V} {Q : VK} (S : SR K ι H M) (h : OpO K ι H (some (.tup xs, M)) (VR K Q)) (r : RpA K ι H xs vs) : ∀ p, H p = none → Q (.ref p) (upd H p (.tup vs)) := fun p hp =>
  h ι _ (Ext.new hp) (S.new hp) _ (.tup (.inl (.inl upd_same)) (r.ext (Ext.new hp)))
/-- a new list -/
theorem OpO.newLst {xs : List D} {vs : List V} {Q : VK} (S : SR K ι H M) (h : OpO K ι H (some (.ref M.length, M ++ [.lst xs])) (VR K Q)) (r : RpA K ι H xs vs) : ∀ p, H p = none → Q (.ref p) (upd H p (.lst vs)) := fun p hp =>
  h (ι ++ [p]) _ (Ext.more hp) (S.alloc hp ⟨vs, upd_same, r.ext (Ext.more hp)⟩) _ (.ref (by rw [← S.len]; simp))
/-- a list is written, a value told -/
theorem OpO.setLst {n : Nat} {a : Addr} {xs ys : List D} {vs : List V} {d : D} {v : V} {Q : VK} (S : SR K ι H M) (h : OpO K ι H (some (d, M.set n (.lst ys))) (VR K Q)) (ha : ι[n]? = some a) (hm : M[n]? = some (.lst xs)) (r : RpA K ι H ys vs) (rd : Rp K ι H d v) :
    Q v (upd H a (.lst vs)) := by
  have k0 := S.ok n a _ ha hm
  have nt := k0.notTup (u := .lst xs) rfl
  exact h ι _ (Ext.upd nt) (S.write ha hm rfl rfl ⟨vs, upd_same, r.ext (Ext.upd nt)⟩) v (rd.ext (Ext.upd nt))
/-- a list that is there -/
def seqAt (M : Mem) (n : Nat) : Option (List D) := match M[n]? with
  | some (.lst xs) => some xs
  | some (.rol xs) => some xs
  | _ => none
theorem SR.seq (S : SR K ι H M) {n : Nat} {a : Addr} {xs : List D} (ha : ι[n]? = some a) (h : seqAt M n = some xs) : ∃ vs, SqL K H a vs ∧ RpA K ι H xs vs := by
  unfold seqAt at h
  cases q : M[n]? with
  | none => rw [q] at h; cases h
  | some o =>
    rw [q] at h
    cases o with
    | lst ys => cases h; obtain ⟨vs, h1, h2⟩ := S.ok n a _ ha q; exact ⟨vs, SqL.of h1, h2⟩
    | rol ys => cases h; obtain ⟨vs, h1, h2⟩ := S.ok n a _ ha q; exact ⟨vs, h1.sq, h2⟩
    | ins c fs => cases h
theorem SR.lst (S : SR K ι H M) {n : Nat} {a : Addr} {xs : List D} (ha : ι[n]? = some a) (h : M[n]? = some (.lst xs)) : ∃ vs, H a = some (.lst vs) ∧ RpA K ι H xs vs := S.ok n a _ ha h
end

/-! ### + -/
def mAdd : Op2 := fun a b M => match a, b with
  | .int i, .int j => some (.int (i + j), M)
  | .str x, .str y => if x.length + y.length ≤ sizeLine then some (.str (x ++ y), M) else none
  | .tup xs, .tup ys => if xs.length + ys.length ≤ sizeLine then some (.tup (xs ++ ys), M) else none
  | .ref n, .ref m => match M[n]?, M[m]? with
    | some (.lst xs), some (.lst ys) => if xs.length + ys.length ≤ sizeLine then some (.ref M.length, M ++ [.lst (xs ++ ys)]) else none
    | _, _ => none
  | _, _ => none
theorem o_add {X : Cx} : OpR X (binaryOp .Add) (rD2 X.K mAdd) := by
  refine OpR.imp ((op_add.or op_add_str).or (op_catA.or op_cat)) fun x y H Q h => ?_
  obtain ⟨ι, M, a, b, S, ra, rb, h⟩ := h
  unfold mAdd at h
  split at h
  · cases ra.int_inv; cases rb.int_inv
    exact .inl (.inl ⟨_, _, rfl, rfl, h.val S (.int _)⟩)
  · cases ra.str_inv; cases rb.str_inv
    split at h
    · exact .inl (.inr ⟨_, _, rfl, rfl, by assumption, h.val S (.str _)⟩)
    · exact h.elim
  · obtain ⟨p, vs, rfl, t1, r1⟩ := ra.tup_inv
    obtain ⟨q, us, rfl, t2, r2⟩ := rb.tup_inv
    have l1 := r1.length
    have l2 := r2.length
    split at h
    · refine .inr (.inl ⟨_, _, vs, us, rfl, rfl, t1, t2, by omega, fun e => ?_, fun e1 e2 => ?_, fun e1 e2 => ?_⟩)
      · subst e
        cases r1
        exact h.val S (.tup t2 r2)
      · subst e2
        cases r2
        refine h.val S (.tup t1 ?_)
        rw [List.append_nil]; exact r1
      · exact h.newTup S (r1.append r2)
    · exact h.elim
  · obtain ⟨p, rfl, hp⟩ := ra.ref_inv
    obtain ⟨q, rfl, hq⟩ := rb.ref_inv
    split at h
    · rename_i m1 m2
      obtain ⟨vs, h1, r1⟩ := S.lst hp m1
      obtain ⟨us, h2, r2⟩ := S.lst hq m2
      have l1 := r1.length
      have l2 := r2.length
      split at h
      · exact .inr (.inr ⟨_, _, _, _, rfl, rfl, h1, h2, by omega, h.newLst S (r1.append r2)⟩)
      · exact h.elim
    · exact h.elim
  · exact h.elim
/-! ### -, *, //, %, ** -/
def mSub : Op2 := fun a b M => match a, b with
  | .int i, .int j => some (.int (i - j), M)
  | _, _ => none
theorem o_sub {X : Cx} : OpR X (binaryOp .Sub) (rD2 X.K mSub) := by
  refine OpR.imp op_sub fun x y H Q h => ?_
  obtain ⟨ι, M, a, b, S, ra, rb, h⟩ := h
  unfold mSub at h
  split at h
  · cases ra.int_inv; cases rb.int_inv
    exact ⟨_, _, rfl, rfl, h.val S (.int _)⟩
  · exact h.elim
def mMod : Op2 := fun a b M => match a, b with
  | .int i, .int j => if 0 < j then some (.int (i % j), M) else none
  | _, _ => none
theorem o_mod {X : Cx} : OpR X (binaryOp .Mod) (rD2 X.K mMod) := by
  refine OpR.imp op_mod fun x y H Q h => ?_
  obtain ⟨ι, M, a, b, S, ra, rb, h⟩ := h
  unfold mMod at h
  split at h
  · cases ra.int_inv; cases rb.int_inv
    split at h
    · exact ⟨_, _, rfl, rfl, by assumption, h.val S (.int _)⟩
    · exact h.elim
  · exact h.elim
def mFdiv : Op2 := fun a b M => match a, b with
  | .int i, .int j => if 0 < j ∧ j < 1073741824 then some (.int (i / j), M) else none
  | _, _ => none
theorem o_fdiv {X : Cx} : OpR X (binaryOp .FloorDiv) (rD2 X.K mFdiv) := by
  refine OpR.imp op_fdiv fun x y H Q h => ?_
  obtain ⟨ι, M, a, b, S, ra, rb, h⟩ := h
  unfold mFdiv at h
  split at h
  · cases ra.int_inv; cases rb.int_inv
    split at h
    · exact ⟨_, _, rfl, rfl, by assumption, h.val S (.int _)⟩
    · exact h.elim
  · exact h.elim
def mPow : Op2 := fun a b M => match a, b with
  | .int i, .int j => if 0 ≤ j ∧ j ≤ 1000000 ∧ i.natAbs < 2 ^ 64 then some (.int (i ^ j.toNat), M) else none
  | _, _ => none
theorem o_pow {X : Cx} : OpR X (binaryOp .Pow) (rD2 X.K mPow) := by
  refine OpR.imp op_pow fun x y H Q h => ?_
  obtain ⟨ι, M, a, b, S, ra, rb, h⟩ := h
  unfold mPow at h
  split at h
  · cases ra.int_inv; cases rb.int_inv
    split at h
    · exact ⟨_, _, rfl, rfl, by assumption, h.val S (.int _)⟩
    · exact h.elim
  · exact h.elim
end TL
end
section
/-! the tree layer: more operations -/
namespace TL
open PySem PySem.Spec PyProof.Rows L2

/-! ### * -/
theorem tuple_mul1 (l : Addr) (items : Array Value) (n : Nat) (dd : Option Addr) (sl : Array (Option Value)) (u : Tok) :
    Meets (Builtin.«tuple.__mul__» ⟨[.ref l, .int 1 u], []⟩) (fun _ R s => s.heap.get? l = some { cls := .type "tuple", dict := dd, data := .seq items n, slots := sl } ∧
      R (.ok (.ret (Value.ref l))) s) :=
  .of_wp fun prog w A R s h => by
    obtain ⟨hp, g, d, tk, os⟩ := s
    obtain ⟨hl, h⟩ := h
    have f1 := AutoSeq1.idx_int
    have c1 : (items.isEmpty || (1 : Int) == 1) = true := by simp
    wp_walk using wpAny_loadPart' hl
    exact ⟨_, rfl, h⟩
def rRep1 (K : PySem.W.Frag) : R2 := fun x y H Q => ∃ l xs, x = .ref l ∧ y = .int 1 ∧ SqT K H l xs ∧ Q (.ref l) H
theorem op_rep1 {X : Cx} : OpR X (binaryOp .Mult) (rRep1 X.K) := by
  intro pins s σ H x y v u Q I rx ry h
  obtain ⟨l, xs, rfl, rfl, hT, q⟩ := h
  cases rx
  obtain ⟨t, rfl⟩ := ry
  obtain ⟨its, r, ⟨⟨cls, dd, data, sl⟩, ho, hc, n, hd⟩, hs⟩ := I.tuple hT
  simp only at hc hd
  subst hc hd
  refine wpAny_binaryOp_repeat_ref (T := "tuple") (U := "int") (by decide) ⟨_, ho, rfl⟩ (fun s' => typeIs_int s' 1 t) noFill_tuple_mul F.fills_int_mul F.slot_int_rmul repeat_tuple F.slot_int_index.lookup
    (call_meets F.slot_int_rmul (typeIs_int s 1 t) F.entry_int_rmul (F.args_int_rmul_2 _ _) (int_rmul_tuple 1 t l its.toArray n dd sl)
      ⟨ho, rfl, ⟨_, ho, rfl⟩, call_meets F.slot_tuple_mul ⟨_, ho, rfl⟩ F.entry_tuple_mul (F.args_tuple_mul_2 _ _) (tuple_mul1 l its.toArray n dd sl t) ⟨ho, ?_⟩⟩)
  exact ⟨.ref l, _, I.tok s.toks, rfl, q⟩

noncomputable def mMul : Op2 := fun a b M => match a, b with
  | .int i, .int j => @ite _ ((-(2 ^ 64) < i ∧ i < 2 ^ 64) ∨ (-(2 ^ 64) < j ∧ j < 2 ^ 64)) (Classical.propDecidable _) (some (.int (i * j), M)) none
  | .tup xs, .int k => if k = 1 then some (.tup xs, M) else
      if xs ≠ [] ∧ 2 ≤ k ∧ k ≤ 1000 ∧ xs.length ≤ 1000 then some (.tup (List.replicate k.toNat xs).flatten, M) else none
  | .ref n, .int k => match M[n]? with
    | some (.lst xs) => @ite _ (-(2 ^ 63) ≤ k ∧ k < 2 ^ 63 ∧ xs.length * k.toNat ≤ sizeLine) (Classical.propDecidable _) (some (.ref M.length, M ++ [.lst (List.replicate k.toNat xs).flatten])) none
    | _ => none
  | _, _ => none
theorem o_mul {X : Cx} : OpR X (binaryOp .Mult) (rD2 X.K mMul) := by
  refine OpR.imp ((op_mul.or op_rep1).or (op_repT.or op_rep)) fun x y H Q h => ?_
  obtain ⟨ι, M, a, b, S, ra, rb, h⟩ := h
  unfold mMul at h
  split at h
  · cases ra.int_inv; cases rb.int_inv
    split at h
    · exact .inl (.inl ⟨_, _, rfl, rfl, by assumption, h.val S (.int _)⟩)
    · exact h.elim
  · cases rb.int_inv
    obtain ⟨p, vs, rfl, t1, r1⟩ := ra.tup_inv
    have l1 := r1.length
    split at h
    · rename_i e; subst e
      exact .inl (.inr ⟨_, _, rfl, rfl, t1, h.val S (.tup t1 r1)⟩)
    · split at h
      · rename_i c
        refine .inr (.inl ⟨_, _, vs, rfl, rfl, t1, fun e => c.1 ?_, c.2.1, c.2.2.1, by omega, h.newTup S (r1.rep _)⟩)
        subst e; cases r1; rfl
      · exact h.elim
  · cases rb.int_inv
    obtain ⟨p, rfl, hp⟩ := ra.ref_inv
    split at h
    · rename_i m1
      obtain ⟨vs, h1, r1⟩ := S.lst hp m1
      have l1 := r1.length
      split at h
      · rename_i c
        exact .inr (.inr ⟨_, _, vs, rfl, rfl, h1, c.1, c.2.1, by rw [← l1]; exact c.2.2, h.newLst S (r1.rep _)⟩)
      · exact h.elim
    · exact h.elim
  · exact h.elim

/-! ### -x -/
def mNeg : Op1 := fun a M => match a with
  | .int i => some (.int (-i), M)
  | _ => none
theorem o_neg {X : Cx} : UnR X (unaryOp .USub) (rD1 X.K mNeg) := by
  refine UnR.imp un_neg fun x H Q h => ?_
  obtain ⟨ι, M, a, S, ra, h⟩ := h
  unfold mNeg at h
  split at h
  · cases ra.int_inv
    exact ⟨_, rfl, h.val S (.int _)⟩
  · exact h.elim

/-! ### < <= > >= of ints -/
def mCmp (p : Int → Int → Bool) : Op2 := fun a b M => match a, b with
  | .int i, .int j => some (.bl (p i j), M)
  | _, _ => none
theorem o_cmp {X : Cx} {f : Value → Value → Sem Value} {p : Int → Int → Bool} (h : OpR X f (rI0 fun i j => .bl (p i j))) : OpR X f (rD2 X.K (mCmp p)) := by
  refine OpR.imp h fun x y H Q h => ?_
  obtain ⟨ι, M, a, b, S, ra, rb, h⟩ := h
  unfold mCmp at h
  split at h
  · cases ra.int_inv; cases rb.int_inv
    exact ⟨_, _, rfl, rfl, h.val S (.bl _)⟩
  · exact h.elim
abbrev mLt : Op2 := mCmp fun i j => decide (i < j)
abbrev mLe : Op2 := mCmp fun i j => decide (i ≤ j)
abbrev mGt : Op2 := mCmp fun i j => decide (j < i)
abbrev mGe : Op2 := mCmp fun i j => decide (j ≤ i)
theorem o_lt {X : Cx} : OpR X (compareOp .Lt) (rD2 X.K mLt) := o_cmp op_lt
theorem o_le {X : Cx} : OpR X (compareOp .LtE) (rD2 X.K mLe) := o_cmp op_le
theorem o_gt {X : Cx} : OpR X (compareOp .Gt) (rD2 X.K mGt) := o_cmp op_gt
theorem o_ge {X : Cx} : OpR X (compareOp .GtE) (rD2 X.K mGe) := o_cmp op_ge

/-! ### == -/
def optAll {α β : Type} (f : α → Option β) : List α → Option (List β)
  | [] => some []
  | x :: xs => match f x, optAll f xs with
    | some y, some ys => some (y :: ys)
    | _, _ => none
def toP : Nat → Mem → D → Option PyData
  | 0, _, _ => none
  | _ + 1, _, .non => some .none
  | _ + 1, _, .bl b => some (.bool b)
  | _ + 1, _, .int i => some (.int i)
  | _ + 1, _, .str x => some (.str x)
  | n + 1, M, .tup xs => (optAll (toP n M) xs).map .tuple
  | n + 1, M, .ref r => match seqAt M r with
    | some xs => (optAll (toP n M) xs).map .list
    | none => none
  | _ + 1, _, .err _ => none
section
variable {K : PySem.W.Frag} {ι : List Addr} {H : Hp} {M : Mem}
theorem dpAll_of {f : D → Option PyData} (ih : ∀ d v p, Rp K ι H d v → f d = some p → Dp K H v p) : ∀ {ds : List D} {vs : List V} {ps : List PyData}, RpA K ι H ds vs → optAll f ds = some ps → DpAll K H vs ps
  | _, _, _, .nil, e => by cases e; exact .nil
  | d :: ds, v :: vs, ps, .cons r t, e => by
    unfold optAll at e
    split at e
    · rename_i h1 h2
      cases e
      exact .cons (ih _ _ _ r h1) (dpAll_of ih t h2)
    · cases e
theorem dp_of (S : SR K ι H M) : ∀ (n : Nat) (d : D) (v : V) (p : PyData), Rp K ι H d v → toP n M d = some p → Dp K H v p
  | 0, _, _, _, _, e => by cases e
  | n + 1, d, v, p, r, e => by
    cases d with
    | non => cases r.non_inv; cases e; exact .non
    | bl b => cases r.bl_inv; cases e; exact .bl b
    | int i => cases r.int_inv; cases e; exact .int i
    | str x => cases r.str_inv; cases e; exact .str x
    | err x => cases e
    | tup xs =>
      obtain ⟨a, vs, rfl, h1, h2⟩ := r.tup_inv
      have e' : (optAll (toP n M) xs).map PyData.tuple = some p := e
      cases q : optAll (toP n M) xs with
      | none => rw [q] at e'; cases e'
      | some ps => rw [q] at e'; cases e'; exact .tup h1 (dpAll_of (fun d v p => dp_of S n d v p) h2 q)
    | ref m =>
      obtain ⟨a, rfl, ha⟩ := r.ref_inv
      have e' : (match seqAt M m with | some xs => (optAll (toP n M) xs).map PyData.list | none => none) = some p := e
      cases q0 : seqAt M m with
      | none => rw [q0] at e'; cases e'
      | some xs =>
        rw [q0] at e'
        obtain ⟨vs, h1, h2⟩ := S.seq ha q0
        cases q : optAll (toP n M) xs with
        | none => simp only [q] at e'; cases e'
        | some ps => simp only [q] at e'; cases e'; exact .lst h1 (dpAll_of (fun d v p => dp_of S n d v p) h2 q)
end
/-- two texts, whatever their signs -/
def strEq (a b : D) : Option Bool := match a, b with
  | .str x, .str y => some (decide (x = y))
  | _, _ => none
theorem strEq_ok {a b : D} {k : Bool} (h : strEq a b = some k) : ∃ x y, a = .str x ∧ b = .str y ∧ k = decide (x = y) := by
  unfold strEq at h
  split at h
  · exact ⟨_, _, rfl, rfl, (Option.some.inj h).symm⟩
  · cases h
theorem scal_str {x y : Str} : scal (V.str x) (V.str y) = true := rfl
theorem str_dec {x y : Str} : decide (V.str x = V.str y) = decide (x = y) := by
  by_cases h : x = y
  · subst h; simp
  · have : V.str x ≠ V.str y := fun e => h (V.str.inj e)
    simp [h]
/-- a == b -/
def eqD (M : Mem) (a b : D) : Option Bool := match toP 64 M a, toP 64 M b with
  | some p, some q => if SeqAt.shaped p = true ∧ SeqAt.shaped q = true then some (PyData.eqv p q) else strEq a b
  | _, _ => none
def mEq : Op2 := fun a b M => (eqD M a b).map fun k => (.bl k, M)
def mNe : Op2 := fun a b M => (eqD M a b).map fun k => (.bl (!k), M)
theorem o_eq {X : Cx} (hu : X.A.units + 64 < cLine) : OpR X (compareOp .Eq) (rD2 X.K mEq) := by
  refine OpR.imp ((op_eqD hu).or op_eq) fun x y H Q h => ?_
  obtain ⟨ι, M, a, b, S, ra, rb, h⟩ := h
  unfold mEq eqD at h
  split at h
  · rename_i p q h1 h2
    split at h
    · rename_i c
      exact .inl ⟨p, q, dp_of S _ _ _ _ ra h1, dp_of S _ _ _ _ rb h2, c.1, c.2, h.val S (.bl _)⟩
    · cases e : strEq a b with
      | none => rw [e] at h; exact h.elim
      | some k =>
        rw [e] at h
        obtain ⟨x, y, rfl, rfl, rfl⟩ := strEq_ok e
        cases ra.str_inv; cases rb.str_inv
        refine .inr ⟨scal_str, ?_⟩
        rw [str_dec]
        exact OpO.val S h (.bl _)
  · exact h.elim
theorem o_ne {X : Cx} (hu : X.A.units + 64 < cLine) : OpR X (compareOp .NotEq) (rD2 X.K mNe) := by
  refine OpR.imp ((op_neD hu).or op_ne) fun x y H Q h => ?_
  obtain ⟨ι, M, a, b, S, ra, rb, h⟩ := h
  unfold mNe eqD at h
  split at h
  · rename_i p q h1 h2
    split at h
    · rename_i c
      exact .inl ⟨p, q, dp_of S _ _ _ _ ra h1, dp_of S _ _ _ _ rb h2, c.1, c.2, h.val S (.bl _)⟩
    · cases e : strEq a b with
      | none => rw [e] at h; exact h.elim
      | some k =>
        rw [e] at h
        obtain ⟨x, y, rfl, rfl, rfl⟩ := strEq_ok e
        cases ra.str_inv; cases rb.str_inv
        refine .inr ⟨scal_str, ?_⟩
        rw [str_dec]
        exact OpO.val S h (.bl _)
  · exact h.elim
/-! ### is None, is True -/
def isNon : D → Bool
  | .non => true
  | _ => false
def mIs : Op2 := fun a b M => match b with
  | .non => some (.bl (isNon a), M)
  | .bl c => match a with
    | .bl b => some (.bl (b == c), M)
    | _ => none
  | _ => none
def mIsNot : Op2 := fun a b M => match b with
  | .non => some (.bl (!isNon a), M)
  | .bl c => match a with
    | .bl b => some (.bl (!(b == c)), M)
    | _ => none
  | _ => none
theorem isNon_v {K : PySem.W.Frag} {ι : List Addr} {H : Hp} {d : D} {v : V} (r : Rp K ι H d v) : decide (v = .non) = isNon d := by
  cases r <;> simp [isNon]
theorem o_is {X : Cx} : OpR X (compareOp .Is) (rD2 X.K mIs) := by
  refine OpR.imp (op_isN.or op_is_bl) fun x y H Q h => ?_
  obtain ⟨ι, M, a, b, S, ra, rb, h⟩ := h
  unfold mIs at h
  split at h
  · cases rb.non_inv
    exact .inl ⟨rfl, by rw [isNon_v ra]; exact h.val S (.bl _)⟩
  · cases rb.bl_inv
    split at h
    · cases ra.bl_inv
      refine .inr ⟨_, _, rfl, rfl, ?_⟩
      rw [show ∀ a b : Bool, decide (a = b) = (a == b) from by decide]
      exact h.val S (.bl _)
    · exact h.elim
  · exact h.elim
theorem o_isNot {X : Cx} : OpR X (compareOp .IsNot) (rD2 X.K mIsNot) := by
  refine OpR.imp (op_notN.or op_isnot_bl) fun x y H Q h => ?_
  obtain ⟨ι, M, a, b, S, ra, rb, h⟩ := h
  unfold mIsNot at h
  split at h
  · cases rb.non_inv
    exact .inl ⟨rfl, by rw [isNon_v ra]; exact h.val S (.bl _)⟩
  · cases rb.bl_inv
    split at h
    · cases ra.bl_inv
      refine .inr ⟨_, _, rfl, rfl, ?_⟩
      rw [show ∀ a b : Bool, decide (a = b) = (a == b) from by decide]
      exact h.val S (.bl _)
    · exact h.elim
  · exact h.elim
/-! ### in: one sign in a text; flat things in a list or tuple -/
def flatD : D → Bool
  | .non => true
  | .bl _ => true
  | .int _ => true
  | .str _ => true
  | _ => false
def eqF : D → D → Bool
  | .non, .non => true
  | .bl a, .bl b => a == b
  | .bl a, .int b => (if a then 1 else 0) == b
  | .int a, .bl b => a == (if b then 1 else 0)
  | .int a, .int b => a == b
  | .str a, .str b => a == b
  | _, _ => false
def inF (x : D) (xs : List D) : Bool := xs.any fun y => eqF y x
section
variable {K : PySem.W.Frag} {ι : List Addr} {H : Hp} {M : Mem}
theorem flat_v {d : D} {v : V} (r : Rp K ι H d v) : flatV v = flatD d := by cases r <;> rfl
theorem flat_all : ∀ {ds : List D} {vs : List V}, RpA K ι H ds vs → vs.all flatV = ds.all flatD
  | _, _, .nil => rfl
  | _, _, .cons r t => by rw [List.all_cons, List.all_cons, flat_v r, flat_all t]
theorem eqF_v {d e : D} {v u : V} (r : Rp K ι H d v) (q : Rp K ι H e u) : eqV v u = eqF d e := by cases r <;> cases q <;> rfl
theorem inF_v {d : D} {v : V} (r : Rp K ι H d v) : ∀ {ds : List D} {vs : List V}, RpA K ι H ds vs → inV v vs = inF d ds
  | _, _, .nil => rfl
  | _, _, .cons q t => by
    show (eqV _ _ || _) = (eqF _ _ || _)
    rw [eqF_v q r]
    congr 1
    exact inF_v r t
end
def inD (M : Mem) (a b : D) : Option Bool := match a, b with
  | .str x, .str z => if h : x.cps.size = 1 then some (decide (x.cps[0] ∈ z.cps.toList)) else none
  | d, .tup xs => if flatD d = true ∧ xs.all flatD = true then some (inF d xs) else none
  | d, .ref n => match seqAt M n with
    | some xs => if flatD d = true ∧ xs.all flatD = true then some (inF d xs) else none
    | none => none
  | _, _ => none
def mIn : Op2 := fun a b M => (inD M a b).map fun k => (.bl k, M)
def mNotIn : Op2 := fun a b M => (inD M a b).map fun k => (.bl (!k), M)
theorem str1 {x : Str} (h : x.cps.size = 1) : x = ⟨#[x.cps[0]]⟩ := by
  obtain ⟨⟨l⟩⟩ := x
  match l, h with
  | [c], _ => rfl
theorem o_in {X : Cx} : OpR X (compareOp .In) (rD2 X.K mIn) := by
  refine OpR.imp (op_in_sign.or op_in_seq) fun x y H Q h => ?_
  obtain ⟨ι, M, a, b, S, ra, rb, h⟩ := h
  unfold mIn inD at h
  split at h
  · cases ra.str_inv; cases rb.str_inv
    split at h
    · rename_i c
      exact .inl ⟨_, _, congrArg V.str (str1 c), rfl, h.val S (.bl _)⟩
    · exact h.elim
  · obtain ⟨p, vs, rfl, t1, r1⟩ := rb.tup_inv
    split at h
    · rename_i c
      refine .inr ⟨_, vs, rfl, .inr t1, by rw [flat_v ra]; exact c.1, by rw [flat_all r1]; exact c.2, ?_⟩
      rw [inF_v ra r1]
      exact h.val S (.bl _)
    · exact h.elim
  · obtain ⟨p, rfl, hp⟩ := rb.ref_inv
    split at h
    · rename_i m
      obtain ⟨vs, h1, r1⟩ := S.seq hp m
      split at h
      · rename_i c
        refine .inr ⟨_, vs, rfl, .inl h1, by rw [flat_v ra]; exact c.1, by rw [flat_all r1]; exact c.2, ?_⟩
        rw [inF_v ra r1]
        exact h.val S (.bl _)
      · exact h.elim
    · exact h.elim
  · exact h.elim
theorem o_notIn {X : Cx} : OpR X (compareOp .NotIn) (rD2 X.K mNotIn) := by
  refine OpR.imp (op_notIn_sign.or op_notIn_seq) fun x y H Q h => ?_
  obtain ⟨ι, M, a, b, S, ra, rb, h⟩ := h
  unfold mNotIn inD at h
  split at h
  · cases ra.str_inv; cases rb.str_inv
    split at h
    · rename_i c
      exact .inl ⟨_, _, congrArg V.str (str1 c), rfl, h.val S (.bl _)⟩
    · exact h.elim
  · obtain ⟨p, vs, rfl, t1, r1⟩ := rb.tup_inv
    split at h
    · rename_i c
      refine .inr ⟨_, vs, rfl, .inr t1, by rw [flat_v ra]; exact c.1, by rw [flat_all r1]; exact c.2, ?_⟩
      rw [inF_v ra r1]
      exact h.val S (.bl _)
    · exact h.elim
  · obtain ⟨p, rfl, hp⟩ := rb.ref_inv
    split at h
    · rename_i m
      obtain ⟨vs, h1, r1⟩ := S.seq hp m
      split at h
      · rename_i c
        refine .inr ⟨_, vs, rfl, .inl h1, by rw [flat_v ra]; exact c.1, by rw [flat_all r1]; exact c.2, ?_⟩
        rw [inF_v ra r1]
        exact h.val S (.bl _)
      · exact h.elim
    · exact h.elim
  · exact h.elim

/-! ### subscripts, slices -/
def mIdx : Op2 := fun a b M => match a, b with
  | .tup xs, .int i => (atI xs i).map fun d => (d, M)
  | .ref n, .int i => match seqAt M n with
    | some xs => (atI xs i).map fun d => (d, M)
    | none => none
  | .str z, .int i => if z.length ≤ sizeLine then (atI z.cps.toList i).map fun c => (.str ⟨#[c]⟩, M) else none
  | _, _ => none
section
variable {K : PySem.W.Frag} {ι : List Addr} {H : Hp} {M : Mem}
theorem atI_v {ds : List D} {vs : List V} {i : Int} {d : D} (r : RpA K ι H ds vs) (h : atI ds i = some d) : ∃ v, atI vs i = some v ∧ Rp K ι H d v := by
  unfold atI at h ⊢
  rw [← r.length]
  cases q : ixN ds.length i with
  | none => rw [q] at h; cases h
  | some j =>
    rw [q] at h
    exact r.get (i := j) h
end
theorem ix_D {X : Cx} : IxR X (rD2 X.K mIdx) := by
  refine IxR.imp ix_seq fun x y H Q h => ?_
  obtain ⟨ι, M, a, b, S, ra, rb, h⟩ := h
  unfold mIdx at h
  split at h
  · cases rb.int_inv
    obtain ⟨p, vs, rfl, t1, r1⟩ := ra.tup_inv
    rename_i xs i
    cases q : atI xs i with
    | none => rw [q] at h; exact h.elim
    | some d =>
      rw [q] at h
      obtain ⟨v, e, rv⟩ := atI_v r1 q
      exact .inr (.inl ⟨_, _, _, v, rfl, rfl, t1, e, h.val S rv⟩)
  · cases rb.int_inv
    obtain ⟨p, rfl, hp⟩ := ra.ref_inv
    split at h
    · rename_i xs m
      obtain ⟨vs, h1, r1⟩ := S.seq hp m
      rename_i i _
      cases q : atI xs i with
      | none => rw [q] at h; exact h.elim
      | some d =>
        rw [q] at h
        obtain ⟨v, e, rv⟩ := atI_v r1 q
        exact .inl ⟨_, _, _, v, rfl, rfl, h1, e, h.val S rv⟩
    · exact h.elim
  · cases ra.str_inv; cases rb.int_inv
    split at h
    · rename_i z i c
      cases q : atI z.cps.toList i with
      | none => rw [q] at h; exact h.elim
      | some d =>
        rw [q] at h
        exact .inr (.inr ⟨_, _, _, rfl, rfl, c, q, h.val S (.str _)⟩)
    · exact h.elim
  · exact h.elim
/-- the items from lo to hi -/
def cutL {α : Type} (xs : List α) (lo hi : Option Int) : List α := (xs.drop (HT.sIx xs.length 0 lo)).take (HT.sIx xs.length xs.length hi - HT.sIx xs.length 0 lo)
def mSl : D → Option Int → Option Int → Mem → Option (D × Mem) := fun d lo hi M => match d with
  | .tup xs => some (.tup (cutL xs lo hi), M)
  | .ref n => match seqAt M n with
    | some xs => some (.ref M.length, M ++ [.lst (cutL xs lo hi)])
    | none => none
  | .str z => if z.length ≤ sizeLine then some (.str (cutS z lo hi), M) else none
  | _ => none
section
variable {K : PySem.W.Frag} {ι : List Addr} {H : Hp} {M : Mem}
theorem cut_v {ds : List D} {vs : List V} {lo hi : Option Int} (r : RpA K ι H ds vs) : RpA K ι H (cutL ds lo hi) (cutV vs lo hi) := by
  unfold cutL cutV
  rw [← r.length]
  exact (r.drop _).take _
theorem cut_whole {α : Type} {xs : List α} {lo hi : Option Int} (h : HT.sIx xs.length 0 lo = 0 ∧ HT.sIx xs.length xs.length hi = xs.length) : cutL xs lo hi = xs := by
  unfold cutL
  rw [h.1, h.2]
  simp
end
theorem sl_D {X : Cx} : SlR X (rDSl X.K mSl) := by
  refine SlR.imp ((sl_tupA.or sl_list).or sl_str) fun x lo hi H Q h => ?_
  obtain ⟨ι, M, a, S, ra, h⟩ := h
  unfold mSl at h
  split at h
  · obtain ⟨p, vs, rfl, t1, r1⟩ := ra.tup_inv
    refine .inl (.inl ⟨_, vs, rfl, t1, fun e => ?_, fun _ => h.newTup S (cut_v r1)⟩)
    refine h.val S (.tup t1 ?_)
    rw [← r1.length] at e
    rw [cut_whole e]
    exact r1
  · obtain ⟨p, rfl, hp⟩ := ra.ref_inv
    split at h
    · rename_i m
      obtain ⟨vs, h1, r1⟩ := S.seq hp m
      exact .inl (.inr ⟨_, vs, rfl, h1, h.newLst S (cut_v r1)⟩)
    · exact h.elim
  · cases ra.str_inv
    split at h
    · exact .inr ⟨_, rfl, by assumption, h.val S (.str _)⟩
    · exact h.elim
  · exact h.elim
end TL
end
section
/-! the tree layer: the rules for expressions and tests -/
namespace TL
open PySem PySem.Spec PyProof.Rows L2

/-! ### the mirrors' words -/
def eVar (i : Nat) : ME := fun env M => match env[i]? with
  | some (some d) => .ok d M
  | _ => .stuck
def eC (d : D) : ME := fun _ M => .ok d M
def eBin (f : Op2) (a b : ME) : ME := fun env M => (a env M).bind fun x M1 => (b env M1).bind fun y M2 => liftO (f x y M2)
def eUn (f : Op1) (a : ME) : ME := fun env M => (a env M).bind fun x M1 => liftO (f x M1)
def kBl {β : Type} (d : D) (f : Bool → Out β) : Out β := match d with
  | .bl k => f k
  | _ => .stuck
@[simp] theorem kBl_bl {β : Type} (k : Bool) (f : Bool → Out β) : kBl (.bl k) f = f k := rfl
def eChain (f g : Op2) (a b c : ME) : ME := fun env M => (a env M).bind fun x M1 => (b env M1).bind fun y M2 => (liftO (f x y M2)).bind fun z M3 => kBl z fun k =>
  if k = true then (c env M3).bind fun w M4 => liftO (g y w M4) else .ok (.bl false) M3
def eAnd (a b : ME) : ME := fun env M => (a env M).bind fun x M1 => kBl x fun k => if k = true then b env M1 else .ok (.bl false) M1
def eOr (a b : ME) : ME := fun env M => (a env M).bind fun x M1 => kBl x fun k => if k = true then .ok (.bl true) M1 else b env M1
def eNot (a : ME) : ME := fun env M => (a env M).bind fun x M1 => kBl x fun k => .ok (.bl (!k)) M1
def eIf (t : MT) (a b : ME) : ME := fun env M => (t env M).bind fun k M1 => if k = true then a env M1 else b env M1
def truD (M : Mem) (d : D) : Option Bool := match d with
  | .non => some false
  | .bl b => some b
  | .int i => some (i != 0)
  | .str x => if x.length ≤ sizeLine then some ((x.length : Int) != 0) else none
  | .tup xs => some (!xs.isEmpty)
  | .ref n => (seqAt M n).map fun xs => !xs.isEmpty
  | .err _ => none
def tB (e : ME) : MT := fun env M => (e env M).bind fun d M1 => kBl d fun k => .ok k M1
def tTru (e : ME) : MT := fun env M => (e env M).bind fun d M1 => match truD M1 d with
  | some k => .ok k M1
  | none => .stuck
def tAnd (a b : MT) : MT := fun env M => (a env M).bind fun k M1 => if k = true then b env M1 else .ok false M1
def tOr (a b : MT) : MT := fun env M => (a env M).bind fun k M1 => if k = true then .ok true M1 else b env M1
def tNot (a : MT) : MT := fun env M => (a env M).bind fun k M1 => .ok (!k) M1
def aNil : MA := fun _ M => .ok [] M
def aCons (a : ME) (r : MA) : MA := fun env M => (a env M).bind fun x M1 => (r env M1).bind fun xs M2 => .ok (x :: xs) M2
def eTup (a : MA) : ME := fun env M => (a env M).bind fun xs M1 => if xs.length ≤ 1000 then .ok (.tup xs) M1 else .stuck
def eLst (a : MA) : ME := fun env M => (a env M).bind fun xs M1 => if xs.length ≤ 1000 then .ok (.ref M1.length) (M1 ++ [.lst xs]) else .stuck
def eCall (m : List D → Mem → Out D) (a : MA) : ME := fun env M => (a env M).bind m
def eCallO (f : OpN) (a : MA) : ME := fun env M => (a env M).bind fun xs M1 => liftO (f xs M1)
def kInt {β : Type} (d : D) (f : Int → Out β) : Out β := match d with
  | .int k => f k
  | _ => .stuck
@[simp] theorem kInt_int {β : Type} (k : Int) (f : Int → Out β) : kInt (.int k) f = f k := rfl
/-- a slice's part -/
abbrev MO' := Env → Mem → Out (Option Int)
def oNone : MO' := fun _ M => .ok none M
def oSome (a : ME) : MO' := fun env M => (a env M).bind fun x M1 => kInt x fun i => .ok (some i) M1
def eSl (a : ME) (lo hi : MO') : ME := fun env M => (a env M).bind fun x M1 => (lo env M1).bind fun l M2 => (hi env M2).bind fun h M3 => liftO (mSl x l h M3)

section
variable {K : PySem.W.Frag} {W : Value → Option Addr → Hp → Prop} {ι : List Addr} {H : Hp} {M : Mem}
theorem OutP.val {α : Type} {a : α} {R : α → Mem → List Addr → Hp → Prop} (S : SR K ι H M) (h : OutP K W ι H (.ok a M) R) : R a M ι H := h ι H Ext.refl S
theorem kBl_inv {β : Type} {d : D} {f : Bool → Out β} {R : β → Mem → List Addr → Hp → Prop} (h : OutP K W ι H (kBl d f) R) : ∃ k, d = .bl k ∧ OutP K W ι H (f k) R := by
  cases d with
  | bl k => exact ⟨k, rfl, h⟩
  | _ => exact h.elim
theorem kInt_inv {β : Type} {d : D} {f : Int → Out β} {R : β → Mem → List Addr → Hp → Prop} (h : OutP K W ι H (kInt d f) R) : ∃ k, d = .int k ∧ OutP K W ι H (f k) R := by
  cases d with
  | int k => exact ⟨k, rfl, h⟩
  | _ => exact h.elim
end

section
variable {X : Cx} {W : WX} {k : Nat}
variable {a b c e : Expr} {es : List Expr} {ma mb mc me : ME} {mas : MA} {pos : Pos} {mt mu : MT}

theorem d_var {i : Nat} {x : Str} (hN : X.N[i]? = some x := by rfl) (hv : Vis X.env.scope x := by first | exact Or.inl rfl | exact Or.inr (Or.inl rfl) | exact Or.inr (Or.inr rfl)) (hd : (x == ("__debug__" : Str)) = false := by decide)
    (hcd : (x == ("__classdict__" : Str)) = false := by decide) : PE X (.Name x pos) (LE X.K W (eVar i)) := (pe_var hN hv hd hcd).imp fun σ H Q ⟨ι, env, M, S, R, h⟩ => by
  unfold eVar at h
  split at h
  · rename_i d e
    obtain ⟨v, h1, h2⟩ := R.get e
    exact ⟨v, h1, h.val S v h2⟩
  · exact h.elim
theorem d_const {t : TE} {d : D} {v : V} (h : PE X e (tC v)) (r : ∀ ι H, Rp X.K ι H d v) : PE X e (LE X.K W (eC d)) := h.imp fun σ H Q ⟨ι, env, M, S, R, h⟩ => h.val S v (r ι H)
theorem d_int {i : Int} {j : Nat} : PE X (.Constant (.int i) j pos) (LE X.K W (eC (.int i))) := pe_int.imp fun σ H Q ⟨ι, env, M, S, R, h⟩ => h.val S _ (.int i)
theorem d_str {x : Str} {j : Nat} : PE X (.Constant (.str x) j pos) (LE X.K W (eC (.str x))) := pe_str.imp fun σ H Q ⟨ι, env, M, S, R, h⟩ => h.val S _ (.str x)
theorem d_bl {x : Bool} {j : Nat} : PE X (.Constant (.bool x) j pos) (LE X.K W (eC (.bl x))) := pe_bl.imp fun σ H Q ⟨ι, env, M, S, R, h⟩ => h.val S _ (.bl x)
theorem d_non {j : Nat} : PE X (.Constant .none j pos) (LE X.K W (eC .non)) := pe_non.imp fun σ H Q ⟨ι, env, M, S, R, h⟩ => h.val S _ .non
/-- a module's constant -/
structure Glob (K : PySem.W.Frag) (mg : Str → Option Value) (x : Str) (d : D) : Prop where
  ex : ∃ (v : V) (u : Value), mg x = some u ∧ RelV v u ∧ ∀ ι H, Rp K ι H d v
theorem d_glob {x : Str} {d : D} (G : Glob X.K X.mg x d) (hg : Gl X x := by rfl) (hd : (x == ("__debug__" : Str)) = false := by decide) : PE X (.Name x pos) (LE X.K W (eC d)) := by
  obtain ⟨v, u, hm, r, q⟩ := G.ex
  exact (pe_glob hg hm r hd).imp fun σ H Q ⟨ι, env, M, S, R, h⟩ => h.val S v (q ι H)

/-- two in a row -/
theorem le_bin {r : R2} {f : Op2} (hr : ∀ x y H Q, rD2 X.K f x y H Q → r x y H Q) {σ : L2.St} {H : Hp} {Q : VK} (h : LE X.K W (eBin f ma mb) σ H Q) : tOp r (LE X.K W ma) (LE X.K W mb) σ H Q := by
  obtain ⟨ι, env, M, S, R, h⟩ := h
  exact ⟨ι, env, M, S, R, (OutP.bind h).imp fun x M1 ι1 H1 e1 S1 h1 v rv => ⟨ι1, env, M1, S1, R.ext e1, (OutP.bind h1).imp fun y M2 ι2 H2 e2 S2 h2 u ru =>
    hr _ _ _ _ ⟨ι2, M2, x, y, S2, rv.ext e2, ru, OpO.of h2⟩⟩⟩
theorem d_bin {op : Operator} {f : Op2} (ho : OpR X (binaryOp op) (rD2 X.K f)) (ha : PE X a (LE X.K W ma)) (hb : PE X b (LE X.K W mb)) : PE X (.BinOp a op b pos) (LE X.K W (eBin f ma mb)) :=
  (pe_op ho ha hb).imp fun σ H Q h => le_bin (fun _ _ _ _ z => z) h
theorem d_cmp {op : CmpOp} {f : Op2} (ho : OpR X (compareOp op) (rD2 X.K f)) (ha : PE X a (LE X.K W ma)) (hb : PE X b (LE X.K W mb)) (hm : behindInMarks op b = false) : PE X (.Compare a [op] [b] pos) (LE X.K W (eBin f ma mb)) :=
  (pe_cmpR ho ha hb hm).imp fun σ H Q h => le_bin (fun _ _ _ _ z => z) h
theorem d_idx (ha : PE X a (LE X.K W ma)) (hb : PE X b (LE X.K W mb)) (hs : PlainIx b := by exact fun _ _ => rfl) : PE X (.Subscript a b pos) (LE X.K W (eBin mIdx ma mb)) :=
  (pe_ix ix_D ha hb hs).imp fun σ H Q h => le_bin (fun _ _ _ _ z => z) h
theorem d_un {op : UnaryOp} {f : Op1} (ho : UnR X (unaryOp op) (rD1 X.K f)) (ha : PE X a (LE X.K W ma)) : PE X (.UnaryOp op a pos) (LE X.K W (eUn f ma)) :=
  (pe_un ho ha).imp fun σ H Q ⟨ι, env, M, S, R, h⟩ => ⟨ι, env, M, S, R, (OutP.bind h).imp fun x M1 ι1 H1 e1 S1 h1 v rv => ⟨ι1, M1, x, S1, rv, OpO.of h1⟩⟩
/-- a written negative number -/
theorem le_chain {f g : Op2} {σ : L2.St} {H : Hp} {Q : VK} (h : LE X.K W (eChain f g ma mb mc) σ H Q) : tChain (rD2 X.K f) (rD2 X.K g) (LE X.K W ma) (LE X.K W mb) (LE X.K W mc) σ H Q := by
  obtain ⟨ι, env, M, S, R, h⟩ := h
  refine ⟨ι, env, M, S, R, (OutP.bind h).imp fun x M1 ι1 H1 e1 S1 h1 v rv => ⟨ι1, env, M1, S1, R.ext e1, (OutP.bind h1).imp fun y M2 ι2 H2 e2 S2 h2 u ru => ?_⟩⟩
  refine ⟨ι2, M2, x, y, S2, rv.ext e2, ru, OpO.of ((OutP.bind h2).imp fun z M3 ι3 H3 e3 S3 h3 w rw => ?_)⟩
  obtain ⟨kk, rfl, h4⟩ := kBl_inv h3
  cases rw.bl_inv
  refine ⟨kk, rfl, ?_⟩
  cases kk with
  | false =>
    refine iteF ?_
    exact h4.val S3 _ (.bl _)
  | true =>
    refine iteT ?_
    exact ⟨ι3, env, M3, S3, R.ext ((e1.trans e2).trans e3), (OutP.bind h4).imp fun q M4 ι4 H4 e4 S4 h5 p rp => ⟨ι4, M4, y, q, S4, ru.ext (e3.trans e4), rp, OpO.of h5⟩⟩
theorem d_chain {op op' : CmpOp} {f g : Op2} (ho : OpR X (compareOp op) (rD2 X.K f)) (ho' : OpR X (compareOp op') (rD2 X.K g)) (ha : PE X a (LE X.K W ma)) (hb : PE X b (LE X.K W mb)) (hc : PE X c (LE X.K W mc))
    (hm : lastMarks [op, op'] [b, c] = false := by with_unfolding_all rfl) : PE X (.Compare a [op, op'] [b, c] pos) (LE X.K W (eChain f g ma mb mc)) :=
  (pe_chain ho ho' ha hb hc hm).imp fun σ H Q h => le_chain h
/-! and, or, not as values -/
theorem d_one {op : BoolOp} (ha : PE X a (LE X.K W ma)) : PE X (.BoolOp op [a] pos) (LE X.K W ma) := pe_one ha
theorem d_and {rest : List Expr} (ha : PE X a (LE X.K W ma)) (hb : PE X (.BoolOp .And (b :: rest) pos) (LE X.K W mb)) : PE X (.BoolOp .And (a :: b :: rest) pos) (LE X.K W (eAnd ma mb)) :=
  (pe_and ha hb).imp fun σ H Q ⟨ι, env, M, S, R, h⟩ => ⟨ι, env, M, S, R, (OutP.bind h).imp fun x M1 ι1 H1 e1 S1 h1 v rv => by
    obtain ⟨kk, rfl, h4⟩ := kBl_inv h1
    cases rv.bl_inv
    refine ⟨kk, rfl, ?_⟩
    cases kk with
    | false => exact iteF (h4.val S1 _ (.bl _))
    | true => exact iteT ⟨ι1, env, M1, S1, R.ext e1, h4⟩⟩
theorem d_or {rest : List Expr} (ha : PE X a (LE X.K W ma)) (hb : PE X (.BoolOp .Or (b :: rest) pos) (LE X.K W mb)) : PE X (.BoolOp .Or (a :: b :: rest) pos) (LE X.K W (eOr ma mb)) :=
  (pe_or ha hb).imp fun σ H Q ⟨ι, env, M, S, R, h⟩ => ⟨ι, env, M, S, R, (OutP.bind h).imp fun x M1 ι1 H1 e1 S1 h1 v rv => by
    obtain ⟨kk, rfl, h4⟩ := kBl_inv h1
    cases rv.bl_inv
    refine ⟨kk, rfl, ?_⟩
    cases kk with
    | false => exact iteF ⟨ι1, env, M1, S1, R.ext e1, h4⟩
    | true => exact iteT (h4.val S1 _ (.bl _))⟩
theorem d_not (ha : PE X a (LE X.K W ma)) : PE X (.UnaryOp .Not a pos) (LE X.K W (eNot ma)) :=
  (pe_not ha).imp fun σ H Q ⟨ι, env, M, S, R, h⟩ => ⟨ι, env, M, S, R, (OutP.bind h).imp fun x M1 ι1 H1 e1 S1 h1 v rv => by
    obtain ⟨kk, rfl, h4⟩ := kBl_inv h1
    cases rv.bl_inv
    exact ⟨kk, rfl, h4.val S1 _ (.bl _)⟩⟩
theorem d_ifExp (hc : PT X c (LT X.K W mt)) (ha : PE X a (LE X.K W ma)) (hb : PE X b (LE X.K W mb)) : PE X (.IfExp c a b pos) (LE X.K W (eIf mt ma mb)) :=
  (pe_ifExp hc ha hb).imp fun σ H Q ⟨ι, env, M, S, R, h⟩ => ⟨ι, env, M, S, R, (OutP.bind h).imp fun kk M1 ι1 H1 e1 S1 h1 => by
    show if kk = true then _ else _
    cases kk with
    | false => exact iteF ⟨ι1, env, M1, S1, R.ext e1, h1⟩
    | true => exact iteT ⟨ι1, env, M1, S1, R.ext e1, h1⟩⟩
/-! tests -/
theorem lt_tB {t : TE} {σ : L2.St} {H : Hp} {Q : Bool → Hp → Prop} (hk : ∀ Q, LE X.K W me σ H Q → t σ H Q) (h : LT X.K W (tB me) σ H Q) : tTest t σ H Q := by
  obtain ⟨ι, env, M, S, R, h⟩ := h
  refine hk _ ⟨ι, env, M, S, R, (OutP.bind h).imp fun x M1 ι1 H1 e1 S1 h1 v rv => ?_⟩
  obtain ⟨kk, rfl, h4⟩ := kBl_inv h1
  cases rv.bl_inv
  exact ⟨kk, rfl, h4.val S1⟩
theorem dt_cmp {op : CmpOp} {f : Op2} (ho : OpR X (compareOp op) (rD2 X.K f)) (ha : PE X a (LE X.K W ma)) (hb : PE X b (LE X.K W mb)) (hm : behindInMarks op b = false) : PT X (.Compare a [op] [b] pos) (LT X.K W (tB (eBin f ma mb))) :=
  (pt_cmpR ho ha hb hm).imp fun σ H Q h => lt_tB (fun Q h => le_bin (fun _ _ _ _ z => z) h) h
theorem dt_chain {op op' : CmpOp} {f g : Op2} (ho : OpR X (compareOp op) (rD2 X.K f)) (ho' : OpR X (compareOp op') (rD2 X.K g)) (ha : PE X a (LE X.K W ma)) (hb : PE X b (LE X.K W mb)) (hc : PE X c (LE X.K W mc))
    (hm : lastMarks [op, op'] [b, c] = false := by with_unfolding_all rfl) : PT X (.Compare a [op, op'] [b, c] pos) (LT X.K W (tB (eChain f g ma mb mc))) :=
  (pt_chain ho ho' ha hb hc hm).imp fun σ H Q h => lt_tB (fun Q h => le_chain h) h
theorem dt_and1 (ha : PT X a (LT X.K W mt)) : PW X (.BoolOp .And [a] pos) (LT X.K W mt) := pw_and1 ha
theorem dt_or1 (ha : PT X a (LT X.K W mt)) : PW X (.BoolOp .Or [a] pos) (LT X.K W mt) := pw_or1 ha
theorem dt_and {rest : List Expr} (ha : PT X a (LT X.K W mt)) (hb : PW X (.BoolOp .And (b :: rest) pos) (LT X.K W mu)) : PW X (.BoolOp .And (a :: b :: rest) pos) (LT X.K W (tAnd mt mu)) :=
  (pw_and ha hb).imp fun σ H Q ⟨ι, env, M, S, R, h⟩ => ⟨ι, env, M, S, R, (OutP.bind h).imp fun kk M1 ι1 H1 e1 S1 h1 => by
    show if kk = true then _ else _
    cases kk with
    | false => exact iteF (h1.val S1)
    | true => exact iteT ⟨ι1, env, M1, S1, R.ext e1, h1⟩⟩
theorem dt_or {rest : List Expr} (ha : PT X a (LT X.K W mt)) (hb : PW X (.BoolOp .Or (b :: rest) pos) (LT X.K W mu)) : PW X (.BoolOp .Or (a :: b :: rest) pos) (LT X.K W (tOr mt mu)) :=
  (pw_or ha hb).imp fun σ H Q ⟨ι, env, M, S, R, h⟩ => ⟨ι, env, M, S, R, (OutP.bind h).imp fun kk M1 ι1 H1 e1 S1 h1 => by
    show if kk = true then _ else _
    cases kk with
    | false => exact iteF ⟨ι1, env, M1, S1, R.ext e1, h1⟩
    | true => exact iteT (h1.val S1)⟩
theorem dt_not (ha : PT X a (LT X.K W mt)) : PT X (.UnaryOp .Not a pos) (LT X.K W (tNot mt)) :=
  (pt_not ha).imp fun σ H Q ⟨ι, env, M, S, R, h⟩ => ⟨ι, env, M, S, R, (OutP.bind h).imp fun kk M1 ι1 H1 e1 S1 h1 => OutP.val (W := W1 W σ) (R := TR Q) (a := !kk) S1 h1⟩
theorem dt_tru (ha : PE X a (LE X.K W ma)) (he : ∀ whole, isTrue a X.env whole = (do let v ← whole; standAt a.pos; holding [v] (truthy v)) := by exact fun _ => rfl) : PT X a (LT X.K W (tTru ma)) :=
  (pt_truth ha he).imp fun σ H Q ⟨ι, env, M, S, R, h⟩ => ⟨ι, env, M, S, R, (OutP.bind h).imp fun d M1 ι1 H1 e1 S1 h1 v rv => by
    revert h1
    cases q : truD M1 d with
    | none => exact fun h1 => h1.elim
    | some kk =>
      intro h1
      refine ⟨kk, ?_, h1.val S1⟩
      cases d with
      | non => cases rv.non_inv; cases q; rfl
      | bl b => cases rv.bl_inv; cases q; rfl
      | int i => cases rv.int_inv; cases q; rfl
      | err x => cases q
      | str x =>
        cases rv.str_inv
        have q' : (if x.length ≤ sizeLine then some ((x.length : Int) != 0) else none) = some kk := q
        by_cases c : x.length ≤ sizeLine
        · rw [if_pos c] at q'; cases q'; exact ⟨c, rfl⟩
        · rw [if_neg c] at q'; cases q'
      | tup xs =>
        obtain ⟨p, vs, rfl, t1, r1⟩ := rv.tup_inv
        cases q
        refine .inr (.inl ⟨vs, t1, ?_⟩)
        cases r1 <;> rfl
      | ref n =>
        obtain ⟨p, rfl, hp⟩ := rv.ref_inv
        have q' : (seqAt M1 n).map (fun xs => !xs.isEmpty) = some kk := q
        cases q2 : seqAt M1 n with
        | none => rw [q2] at q'; cases q'
        | some xs =>
          rw [q2] at q'
          cases q'
          obtain ⟨vs, h1, r1⟩ := S1.seq hp q2
          refine .inl ⟨vs, h1, ?_⟩
          cases r1 <;> rfl⟩
/-! argument lists, displays -/
theorem da_nil : PA X [] (LA X.K W aNil) := pa_nil.imp fun σ H Q ⟨ι, env, M, S, R, h⟩ => h.val S _ .nil
theorem da_cons (ha : PE X e (LE X.K W me)) (hr : PA X es (LA X.K W mas)) (hs : starEach (e :: es) X.env = (false, eval e X.env) :: starEach es X.env := by rfl) : PA X (e :: es) (LA X.K W (aCons me mas)) :=
  (pa_cons ha hr hs).imp fun σ H Q ⟨ι, env, M, S, R, h⟩ => ⟨ι, env, M, S, R, (OutP.bind h).imp fun x M1 ι1 H1 e1 S1 h1 v rv => ⟨ι1, env, M1, S1, R.ext e1, (OutP.bind h1).imp fun xs M2 ι2 H2 e2 S2 h2 vs rvs => h2.val S2 _ (.cons (rv.ext e2) rvs)⟩⟩
theorem d_tup {x1 : Nat} (h : PA X es (LA X.K W mas)) : PE X (.Tuple es x1 pos) (LE X.K W (eTup mas)) :=
  (pe_tup h).imp fun σ H Q ⟨ι, env, M, S, R, h⟩ => ⟨ι, env, M, S, R, (OutP.bind h).imp fun xs M1 ι1 H1 e1 S1 h1 vs rvs => by
    have hl := rvs.length
    revert h1
    split
    · intro h1
      exact ⟨by rw [← hl, sizeLine_eq]; omega, OpO.newTup S1 (h1 : OutP X.K (W1 W σ) ι1 H1 (.ok _ _) _) rvs⟩
    · exact fun h1 => h1.elim⟩
theorem d_lst (h : PA X es (LA X.K W mas)) : PE X (.List es pos) (LE X.K W (eLst mas)) :=
  (pe_lst h).imp fun σ H Q ⟨ι, env, M, S, R, h⟩ => ⟨ι, env, M, S, R, (OutP.bind h).imp fun xs M1 ι1 H1 e1 S1 h1 vs rvs => by
    have hl := rvs.length
    revert h1
    split
    · intro h1
      exact ⟨by rw [← hl, sizeLine_eq]; omega, OpO.newLst S1 (h1 : OutP X.K (W1 W σ) ι1 H1 (.ok _ _) _) rvs⟩
    · exact fun h1 => h1.elim⟩
/-! slices -/
def LO (K : PySem.W.Frag) (W : WX) (m : MO') : TO := fun σ H Q => ∃ ι env M, SR K ι H M ∧ EnvR K ι H env σ ∧ OutP K (W1 W σ) ι H (m env M) (fun o _ _ H' => Q o H')
theorem _root_.L2.PO.imp {e : Option Expr} {t t' : TO} (h : PO X e t) (k : ∀ σ H Q, t' σ H Q → t σ H Q) : PO X e t' := ⟨fun pins s σ H Q I q => h.run pins s σ H Q I (k σ H Q q)⟩
theorem do_none : PO X none (LO X.K W oNone) := po_none.imp fun σ H Q ⟨ι, env, M, S, R, h⟩ => h.val S
theorem do_some (ha : PE X a (LE X.K W ma)) : PO X (some a) (LO X.K W (oSome ma)) :=
  (po_some ha).imp fun σ H Q ⟨ι, env, M, S, R, h⟩ => ⟨ι, env, M, S, R, (OutP.bind h).imp fun x M1 ι1 H1 e1 S1 h1 v rv => by
    obtain ⟨i, rfl, h2⟩ := kInt_inv h1
    cases rv.int_inv
    exact ⟨i, rfl, h2.val S1⟩⟩
theorem d_sl {lo hi : Option Expr} {ml mh : MO'} {p2 : Pos} (ha : PE X a (LE X.K W ma)) (hl : PO X lo (LO X.K W ml)) (hh : PO X hi (LO X.K W mh)) : PE X (.Subscript a (.Slice lo hi none p2) pos) (LE X.K W (eSl ma ml mh)) :=
  (pe_slice sl_D ha hl hh).imp fun σ H Q ⟨ι, env, M, S, R, h⟩ => ⟨ι, env, M, S, R, (OutP.bind h).imp fun x M1 ι1 H1 e1 S1 h1 v rv =>
    ⟨ι1, env, M1, S1, R.ext e1, (OutP.bind h1).imp fun l M2 ι2 H2 e2 S2 h2 => ⟨ι2, env, M2, S2, R.ext (e1.trans e2), (OutP.bind h2).imp fun h M3 ι3 H3 e3 S3 h3 => ⟨ι3, M3, x, S3, rv.ext (e2.trans e3), OpO.of h3⟩⟩⟩⟩
end
end TL
end
section
/-! the tree layer: calls, statements, loops, comprehensions, defs -/
namespace TL
open PySem PySem.Spec PyProof.Rows L2

/-! ### built-in functions -/
def nLen : OpN := fun ds M => match ds with
  | [.str x] => if x.length ≤ sizeLine then some (.int (x.length : Nat), M) else none
  | [.tup xs] => some (.int (xs.length : Nat), M)
  | [.ref n] => (seqAt M n).map fun xs => (.int (xs.length : Nat), M)
  | _ => none
def nMax2 : OpN := fun ds M => match ds with
  | [.int i, .int j] => some (.int (if j > i then j else i), M)
  | _ => none
def nMin2 : OpN := fun ds M => match ds with
  | [.int i, .int j] => some (.int (if j < i then j else i), M)
  | _ => none
def nList : OpN := fun ds M => match ds with
  | [.tup xs] => some (.ref M.length, M ++ [.lst xs])
  | [.ref n] => (seqAt M n).map fun xs => (.ref M.length, M ++ [.lst xs])
  | _ => none
def nTuple : OpN := fun ds M => match ds with
  | [.tup xs] => some (.tup xs, M)
  | [.ref n] => (seqAt M n).map fun xs => (.tup xs, M)
  | _ => none
section
variable {K : PySem.W.Frag} {ι : List Addr} {H : Hp} {M : Mem}
theorem RpA.one_inv {d : D} {vs : List V} (r : RpA K ι H [d] vs) : ∃ v, vs = [v] ∧ Rp K ι H d v := by
  cases r with | cons h t => cases t; exact ⟨_, rfl, h⟩
theorem RpA.two_inv {d e : D} {vs : List V} (r : RpA K ι H [d, e] vs) : ∃ v u, vs = [v, u] ∧ Rp K ι H d v ∧ Rp K ι H e u := by
  cases r with | cons h t => cases t with | cons h' t => cases t; exact ⟨_, _, rfl, h, h'⟩
end
section
variable {X : Cx}
theorem c_len : CallR X (.builtin "len") (rDN X.K nLen) := by
  refine CallR.imp call_len fun xs H Q h => ?_
  obtain ⟨ι, M, ds, S, r, h⟩ := h
  unfold nLen at h
  split at h
  · obtain ⟨v, rfl, r1⟩ := r.one_inv
    cases r1.str_inv
    split at h
    · exact ⟨_, _, rfl, ⟨by assumption, rfl⟩, h.val S (.int _)⟩
    · exact h.elim
  · obtain ⟨v, rfl, r1⟩ := r.one_inv
    obtain ⟨p, vs, rfl, t1, r2⟩ := r1.tup_inv
    exact ⟨_, _, rfl, .inr ⟨vs, t1, rfl⟩, by rw [← r2.length]; exact h.val S (.int _)⟩
  · rename_i n
    obtain ⟨v, rfl, r1⟩ := r.one_inv
    obtain ⟨p, rfl, hp⟩ := r1.ref_inv
    cases q : seqAt M n with
    | none => rw [q] at h; exact h.elim
    | some xs =>
      rw [q] at h
      obtain ⟨vs, h1, r2⟩ := S.seq hp q
      exact ⟨_, _, rfl, .inl ⟨vs, h1, rfl⟩, by rw [← r2.length]; exact h.val S (.int _)⟩
  · exact h.elim
theorem c_max2 (hc : X.calm = true) : CallR X (.builtin "max") (rDN X.K nMax2) := by
  refine CallR.imp (call_max2 hc) fun xs H Q h => ?_
  obtain ⟨ι, M, ds, S, r, h⟩ := h
  unfold nMax2 at h
  split at h
  · obtain ⟨v, u, rfl, r1, r2⟩ := r.two_inv
    cases r1.int_inv; cases r2.int_inv
    exact ⟨_, _, rfl, h.val S (.int _)⟩
  · exact h.elim
theorem c_min2 (hc : X.calm = true) : CallR X (.builtin "min") (rDN X.K nMin2) := by
  refine CallR.imp (call_min2 hc) fun xs H Q h => ?_
  obtain ⟨ι, M, ds, S, r, h⟩ := h
  unfold nMin2 at h
  split at h
  · obtain ⟨v, u, rfl, r1, r2⟩ := r.two_inv
    cases r1.int_inv; cases r2.int_inv
    exact ⟨_, _, rfl, h.val S (.int _)⟩
  · exact h.elim
theorem c_list : CallR X (.type "list") (rDN X.K nList) := by
  refine CallR.imp call_list_of fun xs H Q h => ?_
  obtain ⟨ι, M, ds, S, r, h⟩ := h
  unfold nList at h
  split at h
  · obtain ⟨v, rfl, r1⟩ := r.one_inv
    obtain ⟨p, vs, rfl, t1, r2⟩ := r1.tup_inv
    exact ⟨_, vs, rfl, .inr t1, h.newLst S r2⟩
  · rename_i n
    obtain ⟨v, rfl, r1⟩ := r.one_inv
    obtain ⟨p, rfl, hp⟩ := r1.ref_inv
    cases q : seqAt M n with
    | none => rw [q] at h; exact h.elim
    | some xs =>
      rw [q] at h
      obtain ⟨vs, h1, r2⟩ := S.seq hp q
      exact ⟨_, vs, rfl, .inl h1, h.newLst S r2⟩
  · exact h.elim
theorem c_tuple : CallR X (.type "tuple") (rDN X.K nTuple) := by
  refine CallR.imp call_tuple_of fun xs H Q h => ?_
  obtain ⟨ι, M, ds, S, r, h⟩ := h
  unfold nTuple at h
  split at h
  · obtain ⟨v, rfl, r1⟩ := r.one_inv
    obtain ⟨p, vs, rfl, t1, r2⟩ := r1.tup_inv
    exact ⟨_, vs, rfl, .inr ⟨t1, h.val S (.tup t1 r2)⟩⟩
  · rename_i n
    obtain ⟨v, rfl, r1⟩ := r.one_inv
    obtain ⟨p, rfl, hp⟩ := r1.ref_inv
    cases q : seqAt M n with
    | none => rw [q] at h; exact h.elim
    | some xs =>
      rw [q] at h
      obtain ⟨vs, h1, r2⟩ := S.seq hp q
      exact ⟨_, vs, rfl, .inl ⟨h1, h.newTup S r2⟩⟩
  · exact h.elim
end
/-! ### isinstance(x, T), T built-in -/
def tyName (M : Mem) : D → Option String
  | .err _ => none
  | .non => some "NoneType"
  | .bl _ => some "bool"
  | .int _ => some "int"
  | .str _ => some "str"
  | .tup _ => some "tuple"
  | .ref n => (seqAt M n).map fun _ => "list"
def mIsi (T : String) : Op1 := fun d M => match tyName M d with
  | some t => (kitB t T).map fun b => (.bl b, M)
  | none => none
def eIsi (T : String) (a : ME) : ME := eUn (mIsi T) a
section
variable {X : Cx} {W : WX} {e : Expr} {me : ME}
theorem tyX_of {ι : List Addr} {H : Hp} {M : Mem} {d : D} {v : V} {t : String} (S : SR X.K ι H M) (r : Rp X.K ι H d v) (h : tyName M d = some t) : TyX X.K H v (.type t) := by
  cases d with
  | non => cases r.non_inv; cases h; exact .base .non
  | bl b => cases r.bl_inv; cases h; exact .base (.bl _)
  | int i => cases r.int_inv; cases h; exact .base (.int _)
  | str x => cases r.str_inv; cases h; exact .base (.str _)
  | err x => cases h
  | tup xs =>
    obtain ⟨p, vs, rfl, t1, r1⟩ := r.tup_inv
    cases h
    rcases t1 with (h | ⟨o, h⟩) | ⟨o, its, n, h1, h2, _⟩
    · exact .base (.tup h)
    · exact .fTuple h
    · exact .kTuple h1 h2
  | ref n =>
    obtain ⟨p, rfl, hp⟩ := r.ref_inv
    have h' : (seqAt M n).map (fun _ => "list") = some t := h
    cases q : seqAt M n with
    | none => rw [q] at h'; cases h'
    | some xs =>
      rw [q] at h'
      cases h'
      obtain ⟨vs, h1, r2⟩ := S.seq hp q
      rcases h1 with (h | ⟨o, h⟩) | ⟨o, its, n, h1, h2, _⟩
      · exact .base (.lst h)
      · exact .base (.frz h)
      · exact .kList h1 h2
theorem d_isi {T : Str} {U : String} {p p2 pos : Pos} (hg : Gl X "isinstance") (hm : X.mg "isinstance" = none) (hg2 : Gl X T) (hm2 : X.mg T = none) (hv : bootBuiltins T = some (.type U)) (he : PE X e (LE X.K W me))
    (hn : T ≠ "__name__" := by decide) (hd : (T == ("__debug__" : Str)) = false := by decide) (h1 : starEach [e, .Name T p2] X.env = (false, eval e X.env) :: starEach [.Name T p2] X.env := by rfl) (h2 : starEach [.Name T p2] X.env = (false, eval (.Name T p2) X.env) :: starEach [] X.env := by rfl)
    (h3 : (backTo pos (starEach [.Name T p2] X.env)).any (·.1) = false := by rfl) :
    PE X (.Call (.Name "isinstance" p) [e, .Name T p2] [] pos) (LE X.K W (eIsi U me)) :=
  (pe_callB call_isi hg hm boot_isinstance (pa_cons he (pa_cons (pe_bltn hg2 hm2 hv (v := .ty U) rfl hn hd) pa_nil h2) h1) (by decide) (by decide) h1 h3).imp fun σ H Q ⟨ι, env, M, S, R, h⟩ =>
    ⟨ι, env, M, S, R, (OutP.bind h).imp fun d M1 ι1 H1 e1 S1 h1 v rv => by
      revert h1
      unfold mIsi
      cases q : tyName M1 d with
      | none => exact fun h1 => h1.elim
      | some t =>
        intro h1
        cases q2 : kitB t U with
        | none => simp only [q2] at h1; exact h1.elim
        | some b =>
          simp only [q2] at h1
          exact ⟨v, .ty U, .type t, .type U, b, rfl, .ty U, tyX_of S1 rv q, kit_ty q2, OutP.val S1 h1 _ (.bl _)⟩⟩
end

/-! ### calls -/
section
variable {X : Cx} {W : WX} {e : Expr} {es : List Expr} {mas : MA} {x : Str} {p pos : Pos}
theorem d_callB {id : String} {f : OpN} (hc : CallR X (.builtin id) (rDN X.K f)) (hg : Gl X x) (hm : X.mg x = none) (hv : bootBuiltins x = some (.builtin id)) (ha : PA X (e :: es) (LA X.K W mas)) (hn : x ≠ "__name__" := by decide)
    (hd : (x == ("__debug__" : Str)) = false := by decide) (hst : starEach (e :: es) X.env = (false, eval e X.env) :: starEach es X.env := by rfl) (hpl : (backTo pos (starEach es X.env)).any (·.1) = false := by rfl) :
    PE X (.Call (.Name x p) (e :: es) [] pos) (LE X.K W (eCallO f mas)) :=
  (pe_callB hc hg hm hv ha hn hd hst hpl).imp fun σ H Q ⟨ι, env, M, S, R, h⟩ => ⟨ι, env, M, S, R, (OutP.bind h).imp fun ds M1 ι1 H1 e1 S1 h1 vs rv => ⟨ι1, M1, ds, S1, rv, OpO.of h1⟩⟩
theorem d_callTy {T : String} {f : OpN} (hc : CallR X (.type T) (rDN X.K f)) (hg : Gl X x) (hm : X.mg x = none) (hv : bootBuiltins x = some (.type T)) (ha : PA X (e :: es) (LA X.K W mas)) (hn : x ≠ "__name__" := by decide)
    (hd : (x == ("__debug__" : Str)) = false := by decide) (hst : starEach (e :: es) X.env = (false, eval e X.env) :: starEach es X.env := by rfl) (hpl : (backTo pos (starEach es X.env)).any (·.1) = false := by rfl) :
    PE X (.Call (.Name x p) (e :: es) [] pos) (LE X.K W (eCallO f mas)) :=
  (pe_callTy hc hg hm hv ha hn hd hst hpl).imp fun σ H Q ⟨ι, env, M, S, R, h⟩ => ⟨ι, env, M, S, R, (OutP.bind h).imp fun ds M1 ι1 H1 e1 S1 h1 vs rv => ⟨ι1, M1, ds, S1, rv, OpO.of h1⟩⟩
end
abbrev Fn := List D → Mem → Out D
/-- what a def of ours promises -/
def spD (K : PySem.W.Frag) (n : Nat) (m : Fn) : Sp := fun vs H Q E => vs.length = n ∧ ∃ ι ds M, SR K ι H M ∧ RpA K ι H ds vs ∧ OutP K E ι H (m ds M) (VR K Q)
structure Callee (P : Program) (w : World) (K : PySem.W.Frag) (mg : Str → Option Value) (base : Heap) (x : Str) (n k : Nat) (m : Fn) : Prop where
  ex : ∃ (f : Addr) (fd : FuncData) (ps : List Str), FnOk P w K mg base (L2N.CX P w) k f fd ps (spD K n m) ∧ mg x = some (.ref f) ∧ PySem.W.keepIn K (.ref f) = true ∧ Binds K fd ps [] ∧ ps.length = n
  len : ∀ ds M, ds.length ≠ n → m ds M = .stuck
theorem Callee.mono {P : Program} {w : World} {K : PySem.W.Frag} {mg : Str → Option Value} {base : Heap} {x : Str} {n j k : Nat} {m : Fn} (C : Callee P w K mg base x n j m) (h : j ≤ k) : Callee P w K mg base x n k m := by
  obtain ⟨f, fd, ps, F, a, b, c, d⟩ := C.ex
  exact ⟨⟨f, fd, ps, F.mono h, a, b, c, d⟩, C.len⟩
section
variable {X : Cx} {W : WX} {e : Expr} {es : List Expr} {mas : MA} {x : Str} {p pos : Pos}
theorem d_call {k k' n : Nat} {m : Fn} (C : Ctx X W k') (F : Callee X.prog X.w X.K X.mg X.base x n k m) (hk : k ≤ k') (ha : PA X (e :: es) (LA X.K W mas)) (hg : Gl X x := by rfl)
    (hdb : (x == ("__debug__" : Str)) = false := by decide) (hst : starEach (e :: es) X.env = (false, eval e X.env) :: starEach es X.env := by rfl) (hpl : (backTo pos (starEach es X.env)).any (·.1) = false := by rfl) :
    PE X (.Call (.Name x p) (e :: es) [] pos) (LE X.K W (eCall m mas)) := by
  have hlen := F.len
  obtain ⟨f, fd, ps, F, hm, kp, hb, _⟩ := F.ex
  refine (pe_callS F (C.room.mono hk) hg hm kp hb (fun σ => L2N.passAt C.tk σ) ha hdb hst hpl).imp fun σ H Q ⟨ι, env, M, S, R, h⟩ => ⟨ι, env, M, S, R, ?_⟩
  refine (OutP.bind h).imp fun ds M1 ι1 H1 e1 S1 h1 vs rv => ⟨?_, ι1, ds, M1, S1, rv, h1⟩
  rw [← rv.length]
  by_cases q : ds.length = n
  · exact q
  · rw [hlen ds M1 q] at h1
    exact h1.elim
end

/-! ### statements -/
def thenS {α : Type} (env : Env) (o : Out α) (f : α → Mem → SOut) : SOut := match o with
  | .ok a M => f a M
  | .exc x M => .exc x env M
  | .stuck => .stuck
@[simp] theorem thenS_ok {α : Type} (env : Env) (a : α) (M : Mem) (f : α → Mem → SOut) : thenS env (.ok a M) f = f a M := rfl
@[simp] theorem thenS_exc {α : Type} (env : Env) (x : Ex) (M : Mem) (f : α → Mem → SOut) : thenS env (.exc x M) f = .exc x env M := rfl
@[simp] theorem thenS_stuck {α : Type} (env : Env) (f : α → Mem → SOut) : thenS env .stuck f = .stuck := rfl
def nextS (o : SOut) (f : Env → Mem → SOut) : SOut := match o with
  | .next env M => f env M
  | o => o
@[simp] theorem nextS_next (env : Env) (M : Mem) (f : Env → Mem → SOut) : nextS (.next env M) f = f env M := rfl
@[simp] theorem nextS_ret (d : D) (M : Mem) (f : Env → Mem → SOut) : nextS (.ret d M) f = .ret d M := rfl
@[simp] theorem nextS_exc (x : Ex) (env : Env) (M : Mem) (f : Env → Mem → SOut) : nextS (.exc x env M) f = .exc x env M := rfl
@[simp] theorem nextS_stuck (f : Env → Mem → SOut) : nextS .stuck f = .stuck := rfl
def sNil : MS := fun env M => .next env M
def sSeq (a b : MS) : MS := fun env M => nextS (a env M) b
def sExpr (e : ME) : MS := fun env M => thenS env (e env M) fun _ M1 => .next env M1
def sRet (e : ME) : MS := fun env M => thenS env (e env M) fun d M1 => .ret d M1
def sRetN : MS := fun _ M => .ret .non M
def sIf (t : MT) (a b : MS) : MS := fun env M => thenS env (t env M) fun k M1 => if k = true then a env M1 else b env M1
/-- a target of names -/
abbrev MG := D → Env → Option Env
def gOne (i : Nat) : MG := fun d env => some (env.set i (some d))
def setAll : Env → List Nat → List D → Env
  | env, i :: is, d :: ds => setAll (env.set i (some d)) is ds
  | env, _, _ => env
def gTupD (is : List Nat) : MG := fun d env => match d with
  | .tup ds => if ds.length = is.length then some (setAll env is ds) else none
  | _ => none
def sAsg (g : MG) (e : ME) : MS := fun env M => thenS env (e env M) fun d M1 => match g d env with
  | some env' => .next env' M1
  | none => .stuck
/-- o[i] = v -/
def setD (o i v : D) (M : Mem) : Option Mem := match o, i with
  | .ref n, .int k => match M[n]? with
    | some (.lst xs) => (ixN xs.length k).map fun j => M.set n (.lst (xs.set j v))
    | _ => none
  | _, _ => none
def sSub (o i e : ME) : MS := fun env M => thenS env (e env M) fun v M1 => thenS env (o env M1) fun x M2 => thenS env (i env M2) fun y M3 => match setD x y v M3 with
  | some M4 => .next env M4
  | none => .stuck
def sWhile : Nat → MT → MS → MS
  | 0, _, _ => fun _ _ => .stuck
  | n + 1, t, b => fun env M => thenS env (t env M) fun k M1 => if k = true then nextS (b env M1) (sWhile n t b) else .next env M1
/-- what a loop walks -/
structure Src where
  items : List D
  good : Mem → Prop
abbrev MI := Env → Mem → Out Src
open Classical in
noncomputable def forL (good : Mem → Prop) (g : MG) (b : MS) : List D → MS
  | [] => fun env M => if good M then .next env M else .stuck
  | d :: ds => fun env M => if good M then match g d env with
      | some env1 => nextS (b env1 M) (forL good g b ds)
      | none => .stuck
    else .stuck
noncomputable def sFor (i : MI) (g : MG) (b : MS) : MS := fun env M => thenS env (i env M) fun s M1 => forL s.good g b s.items env M1

section
variable {K : PySem.W.Frag} {W : WX} {ι : List Addr} {H : Hp} {M : Mem} {σ : L2.St} {env : Env} {En : Ends}
theorem thenS_out {α : Type} {o : Out α} {f : α → Mem → SOut} (R : EnvR K ι H env σ) (h : SOutP K W ι H (thenS env o f) En) : OutP K (W1 W σ) ι H o (fun a M ι1 H1 => SOutP K W ι1 H1 (f a M) En) := by
  cases o with
  | ok a M => exact fun ι1 H1 e1 S1 => SOutP.ext e1 h
  | exc x M => exact fun ι1 H1 cls dx e1 S1 ex => h ι1 σ H1 cls dx e1 S1 (R.ext e1) ex
  | stuck => exact h
theorem nextS_out {o : SOut} {f : Env → Mem → SOut} (h : SOutP K W ι H (nextS o f) En) : SOutP K W ι H o { En with nx := LS K W f En } := by
  cases o with
  | next env M => exact fun ι1 σ1 H1 e1 S1 R1 => ⟨ι1, env, M, S1, R1, SOutP.ext e1 h⟩
  | ret d M => exact h
  | exc x env M => exact h
  | stuck => exact h
theorem SOutP.next_val (S : SR K ι H M) (R : EnvR K ι H env σ) (h : SOutP K W ι H (.next env M) En) : En.nx σ H := h ι σ H Ext.refl S R
theorem SOutP.ret_val {d : D} {v : V} (S : SR K ι H M) (r : Rp K ι H d v) (h : SOutP K W ι H (.ret d M) En) : En.rt v H := h ι v H Ext.refl S r
theorem SOutP.imp {o : SOut} {En' : Ends} (h : SOutP K W ι H o En) (hn : ∀ σ H, En.nx σ H → En'.nx σ H) (hr : ∀ v H, En.rt v H → En'.rt v H) : SOutP K W ι H o En' := by
  cases o with
  | next env M => exact fun ι1 σ1 H1 e1 S1 R1 => hn _ _ (h ι1 σ1 H1 e1 S1 R1)
  | ret d M => exact fun ι1 v H1 e1 S1 R1 => hr _ _ (h ι1 v H1 e1 S1 R1)
  | exc x env M => exact h
  | stuck => exact h
end
/-- targets -/
def LG (K : PySem.W.Frag) (f : MG) : TG := fun v σ H Q => ∃ ι env d env', Rp K ι H d v ∧ EnvR K ι H env σ ∧ f d env = some env' ∧ ∀ σ', EnvR K ι H env' σ' → Q σ' H
theorem _root_.L2.PG.imp {X : Cx} {e : Expr} {t t' : TG} (h : PG X e t) (k : ∀ v σ H Q, t' v σ H Q → t v σ H Q) : PG X e t' := ⟨fun pins s σ H v u Q I r q => h.run pins s σ H v u Q I r (k v σ H Q q)⟩
def gsN : List Nat → TGs
  | [] => gNil
  | i :: is => gCons (gName i) (gsN is)
theorem gsN_ok {K : PySem.W.Frag} {ι : List Addr} {H : Hp} {Q : L2.St → Hp → Prop} : ∀ {is : List Nat} {ds : List D} {vs : List V} {env : Env} {σ : L2.St}, RpA K ι H ds vs → EnvR K ι H env σ → ds.length = is.length →
    (∀ σ', EnvR K ι H (setAll env is ds) σ' → Q σ' H) → gsN is vs σ H Q
  | [], [], _, env, σ, .nil, R, _, h => ⟨rfl, h σ R⟩
  | i :: is, d :: ds, _, env, σ, .cons r t, R, hl, h => ⟨_, _, rfl, gsN_ok (is := is) t (R.set r i) (by simpa using hl) h⟩
section
variable {X : Cx} {W : WX} {k : Nat} {st : Stmt} {rest sts body : List Stmt} {m mb : MS} {e c o i : Expr} {me mo mi : ME} {mt : MT} {pos pos' : Pos} {tgt : Expr} {g : MG}
theorem dg_name {i : Nat} {x : Str} (nd : X.N.Nodup) (hi : X.N[i]? = some x := by rfl) (hx : Loc X.env.scope x := by first | exact .inl rfl | exact .inr rfl) (hf : X.fn x = true ∨ X.env.scope.names.lookup x = some .local := by first | exact .inl rfl | exact .inr rfl) :
    PG X (.Name x pos) (LG X.K (gOne i)) := (pg_name nd hi hx hf).imp fun v σ H Q ⟨ι, env, d, env', r, R, h, q⟩ => by
  cases h
  exact q _ (R.set r i)
theorem dg_tup {is : List Nat} {n : Nat} {g : TGs} (h : PG X tgt (gTup X.K n g)) (hn : n = is.length := by rfl) (hg : g = gsN is := by rfl) : PG X tgt (LG X.K (gTupD is)) := h.imp fun v σ H Q ⟨ι, env, d, env', r, R, h, q⟩ => by
  unfold gTupD at h
  split at h
  · obtain ⟨p, vs, rfl, t1, r1⟩ := r.tup_inv
    split at h
    · rename_i hl
      cases h
      subst hn hg
      exact ⟨p, vs, rfl, t1, by rw [← r1.length]; exact hl, gsN_ok r1 R hl q⟩
    · cases h
  · cases h
theorem ds_nil : PSs X [] (LS X.K W sNil) := pss_nil.imp fun En σ H ⟨ι, env, M, S, R, h⟩ => h.next_val S R
theorem ds_cons (h1 : PS X st (LS X.K W m)) (h2 : PSs X rest (LS X.K W mb)) : PSs X (st :: rest) (LS X.K W (sSeq m mb)) :=
  (pss_cons h1 h2).imp fun En σ H ⟨ι, env, M, S, R, h⟩ => ⟨ι, env, M, S, R, nextS_out h⟩
theorem ds_one (h1 : PS X st (LS X.K W m)) : PSs X [st] (LS X.K W m) := pss_one h1
theorem ds_pass : PS X (.Pass pos) (LS X.K W sNil) := ps_pass.imp fun En σ H ⟨ι, env, M, S, R, h⟩ => h.next_val S R
theorem ds_doc {x : Str} {j : Nat} : PS X (.Expr (.Constant (.str x) j pos) pos') (LS X.K W sNil) := ps_doc.imp fun En σ H ⟨ι, env, M, S, R, h⟩ => h.next_val S R
theorem ds_expr (he : PE X e (LE X.K W me)) (hs : swapsWith e none pos.line X.env = pure false := by rfl) : PS X (.Expr e pos) (LS X.K W (sExpr me)) :=
  (ps_expr he hs).imp fun En σ H ⟨ι, env, M, S, R, h⟩ => ⟨ι, env, M, S, R, (thenS_out R h).imp fun d M1 ι1 H1 e1 S1 h1 v rv => h1.next_val S1 (R.ext e1)⟩
theorem ds_ret (he : PE X e (LE X.K W me)) : PS X (.Return (some e) pos) (LS X.K W (sRet me)) :=
  (ps_ret he).imp fun En σ H ⟨ι, env, M, S, R, h⟩ => ⟨ι, env, M, S, R, (thenS_out R h).imp fun d M1 ι1 H1 e1 S1 h1 v rv => h1.ret_val S1 rv⟩
theorem ds_retN : PS X (.Return none pos) (LS X.K W sRetN) := ps_retN.imp fun En σ H ⟨ι, env, M, S, R, h⟩ => h.ret_val S .non
theorem ds_if {a b : List Stmt} {ma mb : MS} (hc : PT X c (LT X.K W mt)) (ha : PSs X a (LS X.K W ma)) (hb : PSs X b (LS X.K W mb)) : PS X (.If c a b pos) (LS X.K W (sIf mt ma mb)) :=
  (ps_if hc ha hb).imp fun En σ H ⟨ι, env, M, S, R, h⟩ => ⟨ι, env, M, S, R, (thenS_out R h).imp fun kk M1 ι1 H1 e1 S1 h1 => by
    show if kk = true then _ else _
    cases kk with
    | false => exact iteF ⟨ι1, env, M1, S1, R.ext e1, h1⟩
    | true => exact iteT ⟨ι1, env, M1, S1, R.ext e1, h1⟩⟩
theorem le_asg {tg : TG} {te : TE} {En : Ends} {σ : L2.St} {H : Hp} (he : ∀ Q, LE X.K W me σ H Q → te σ H Q) (hg : ∀ v σ H Q, LG X.K g v σ H Q → tg v σ H Q) (h : LS X.K W (sAsg g me) En σ H) : tAsg te tg En σ H := by
  obtain ⟨ι, env, M, S, R, h⟩ := h
  refine he _ ⟨ι, env, M, S, R, (thenS_out R h).imp fun d M1 ι1 H1 e1 S1 h1 v rv => ?_⟩
  revert h1
  cases q : g d env with
  | none => exact fun h1 => h1.elim
  | some env' => exact fun h1 => hg _ _ _ _ ⟨ι1, env, d, env', rv, R.ext e1, q, fun σ' R' => SOutP.next_val S1 R' h1⟩
theorem ds_asg (he : PE X e (LE X.K W me)) (hg : PG X tgt (LG X.K g)) (hs : swapsWithSole [tgt] e pos.line X.env = pure false := by rfl) (h2 : swappedStores [tgt] e X.env = pure none := by rfl) (h1 : (assignEach [tgt] X.env).map (·.2) = [assign tgt X.env] := by rfl) :
    PS X (.Assign [tgt] e pos) (LS X.K W (sAsg g me)) :=
  (ps_asg he hg hs h2 h1).imp fun En σ H h => le_asg (fun _ h => h) (fun _ _ _ _ h => h) h
theorem ds_set {i : Nat} {x : Str} (nd : X.N.Nodup) (he : PE X e (LE X.K W me)) (hi : X.N[i]? = some x := by rfl) (hx : Loc X.env.scope x := by first | exact .inl rfl | exact .inr rfl) (hs : swapsWith e (some (.Name x pos')) pos.line X.env = pure false := by rfl)
    (hf : X.fn x = true ∨ X.env.scope.names.lookup x = some .local := by first | exact .inl rfl | exact .inr rfl) : PS X (.Assign [.Name x pos'] e pos) (LS X.K W (sAsg (gOne i) me)) :=
  (ps_set nd hi hx he hs hf).imp fun En σ H h => le_asg (fun _ h => h) (fun v σ H Q ⟨ι, env, d, env', r, R, h, q⟩ => by cases h; exact q _ (R.set r i)) h
/-- o[i] = e -/
theorem set_D : PSet X (fun o i v H Q => ∃ ι M a b c, SR X.K ι H M ∧ Rp X.K ι H a o ∧ Rp X.K ι H b i ∧ Rp X.K ι H c v ∧ ∃ M', setD a b c M = some M' ∧ ∀ H', Ext X.K ι H ι H' → SR X.K ι H' M' → Q H') := by
  intro pins s σ H o i v ov iv u Q I ro ri rv h
  refine set_list pins s σ H o i v ov iv u Q I ro ri rv ?_
  obtain ⟨ι, M, a, b, c, S, ra, rb, rc, M', h, q⟩ := h
  unfold setD at h
  split at h
  · cases rb.int_inv
    obtain ⟨p, rfl, hp⟩ := ra.ref_inv
    split at h
    · rename_i kk _ xs m1
      obtain ⟨vs, h1, r1⟩ := S.lst hp m1
      cases q2 : ixN xs.length kk with
      | none => rw [q2] at h; cases h
      | some j =>
        rw [q2] at h
        cases h
        have nt : ¬ isTupO (H p) := by rw [h1]; exact fun z => z
        exact ⟨p, vs, kk, j, rfl, rfl, h1, by rw [← r1.length]; exact q2, q _ (Ext.upd nt) (S.write hp m1 rfl rfl ⟨_, upd_same, (r1.set rc j).ext (Ext.upd nt)⟩)⟩
    · cases h
  · cases h
theorem ds_sub (ho : PE X o (LE X.K W mo)) (hi : PE X i (LE X.K W mi)) (he : PE X e (LE X.K W me)) (hs : swapsWithSole [.Subscript o i pos'] e pos.line X.env = pure false := by rfl) (h2 : swappedStores [.Subscript o i pos'] e X.env = pure none := by rfl)
    (h1 : (assignEach [.Subscript o i pos'] X.env).map (·.2) = [assign (.Subscript o i pos') X.env] := by rfl)
    (ha : ∀ v, assign (.Subscript o i pos') X.env v = (do
      let ov ← holding [v] (eval o X.env)
      let iv ← holding [v, ov] (eval i X.env)
      standAt pos'
      holding [v, ov, iv] (setItem ov iv v)
      release [v, ov, iv] []) := by intro _; rfl) : PS X (.Assign [.Subscript o i pos'] e pos) (LS X.K W (sSub mo mi me)) :=
  (ps_asg he (pg_sub ho hi set_D ha) hs h2 h1).imp fun En σ H ⟨ι, env, M, S, R, h⟩ => ⟨ι, env, M, S, R, (thenS_out R h).imp fun v M1 ι1 H1 e1 S1 h1 vv rv =>
    ⟨ι1, env, M1, S1, R.ext e1, (thenS_out (R.ext e1) h1).imp fun x M2 ι2 H2 e2 S2 h2 xv rx => ⟨ι2, env, M2, S2, R.ext (e1.trans e2), (thenS_out (R.ext (e1.trans e2)) h2).imp fun y M3 ι3 H3 e3 S3 h3 yv ry => by
      revert h3
      cases q : setD x y v M3 with
      | none => exact fun h3 => h3.elim
      | some M4 => exact fun h3 => ⟨ι3, M3, x, y, v, S3, rx.ext e3, ry, rv.ext (e2.trans e3), M4, q, fun H' e4 S4 => h3 ι3 σ H' e4 S4 (R.ext (((e1.trans e2).trans e3).trans e4))⟩⟩⟩⟩
theorem ds_while (n : Nat) (C : Ctx X W k) (hc : PT X c (LT X.K W mt)) (hb : PSs X body (LS X.K W mb)) : PS X (.While c body [] pos) (LS X.K W (sWhile n mt mb)) :=
  (ps_while C.pass hc hb).imp fun En σ H h => ⟨fun m σ H => LS X.K W (sWhile m mt mb) En σ H, ⟨n, h⟩, fun m σ H ⟨ι, env, M, S, R, h⟩ => by
    cases m with
    | zero => exact h.elim
    | succ m =>
      refine ⟨ι, env, M, S, R, (thenS_out R h).imp fun kk M1 ι1 H1 e1 S1 h1 => ?_⟩
      show if kk = true then _ else _
      cases kk with
      | false => exact iteF (SOutP.next_val S1 (R.ext e1) h1)
      | true =>
        refine iteT ⟨fun σ' H' => LS X.K W (sWhile m mt mb) En σ' H', fun σ' H' z => ⟨m, Nat.lt_succ_self m, z⟩, ι1, env, M1, S1, R.ext e1, ?_⟩
        exact (nextS_out h1).imp (fun _ _ z => z) fun _ _ z => z⟩
/-- what an iterator does -/
def SrcJ (K : PySem.W.Frag) (ι : List Addr) (H : Hp) (s : Src) (J : It) : Prop :=
  ∀ ι1 H1 M1, Ext K ι H ι1 H1 → SR K ι1 H1 M1 → s.good M1 → ∀ i : Nat, (∀ d, s.items[i]? = some d → J.go i H1 ∧ ∀ x H', J.yld i H1 x H' → Ext K ι1 H1 ι1 H' ∧ SR K ι1 H' M1 ∧ Rp K ι1 H' d x) ∧ (s.items.length ≤ i → J.stop i H1)
def LI (K : PySem.W.Frag) (W : WX) (m : MI) : TI := fun σ H R => ∃ ι env M, SR K ι H M ∧ EnvR K ι H env σ ∧ OutP K (W1 W σ) ι H (m env M) (fun s _ ι' H' => ∀ J, SrcJ K ι' H' s J → R J H')
theorem _root_.L2.PI.imp {X : Cx} {tg e : Expr} {t t' : TI} (h : PI X tg e t) (k : ∀ σ H Q, t' σ H Q → t σ H Q) : PI X tg e t' := ⟨fun pins s σ H Q I q => h.run pins s σ H Q I (k σ H Q q)⟩
theorem drop_at {α : Type} {l : List α} {i : Nat} {d : α} {ds : List α} (h : l.drop i = d :: ds) : l[i]? = some d ∧ l.drop (i + 1) = ds := by
  have h1 : (l.drop i)[0]? = some d := by rw [h]; rfl
  rw [List.getElem?_drop] at h1
  refine ⟨by simpa using h1, ?_⟩
  have h2 := congrArg (List.drop 1) h
  rw [List.drop_drop] at h2
  simpa using h2
theorem ds_for {iter : Expr} {msrc : MI} (C : Ctx X W k) (hi : PI X tgt iter (LI X.K W msrc)) (hg : PG X tgt (LG X.K g)) (hb : PSs X body (LS X.K W mb)) (hs : ∀ x, foldedSetIterable iter X.env x = pure x := by intro _; rfl) :
    PS X (.For tgt iter body [] pos) (LS X.K W (sFor msrc g mb)) :=
  (ps_for C.pass C.calm hi hg hb hs).imp fun En σ H ⟨ι, env, M, S, R, h⟩ => ⟨ι, env, M, S, R, (thenS_out R h).imp fun s M1 ι1 H1 e1 S1 h1 J hJ => by
    refine ⟨fun i m σ2 H2 => ∃ ι2 env2 M2, Ext X.K ι1 H1 ι2 H2 ∧ SR X.K ι2 H2 M2 ∧ EnvR X.K ι2 H2 env2 σ2 ∧ SOutP X.K W ι2 H2 (forL s.good g mb (s.items.drop i) env2 M2) En ∧ m = s.items.length - i,
      ⟨_, ι1, env, M1, Ext.refl, S1, R.ext e1, h1, rfl⟩, ?_⟩
    rintro i m σ2 H2 ⟨ι2, env2, M2, e2, S2, R2, h2, rfl⟩
    cases q : s.items.drop i with
    | nil =>
      rw [q] at h2
      unfold forL at h2
      split at h2
      · rename_i gd
        refine .inl ⟨((hJ ι2 H2 M2 e2 S2 gd i).2 ?_), SOutP.next_val S2 R2 h2⟩
        have := congrArg List.length q
        simp at this
        omega
      · exact h2.elim
    | cons d ds =>
      rw [q] at h2
      unfold forL at h2
      obtain ⟨hd, hds⟩ := drop_at q
      split at h2
      · rename_i gd
        obtain ⟨go, yld⟩ := (hJ ι2 H2 M2 e2 S2 gd i).1 d hd
        split at h2
        · rename_i env3 ge
          refine .inr ⟨go, fun σ' H' => ∃ ι2 env2 M2, Ext X.K ι1 H1 ι2 H' ∧ SR X.K ι2 H' M2 ∧ EnvR X.K ι2 H' env2 σ' ∧ SOutP X.K W ι2 H' (forL s.good g mb (s.items.drop (i + 1)) env2 M2) En, ?_, ?_⟩
          · rintro σ' H' ⟨ι3, env3, M3, e3, S3, R3, h3⟩
            refine ⟨s.items.length - (i + 1), ?_, ι3, env3, M3, e3, S3, R3, h3, rfl⟩
            have := (List.getElem?_eq_some_iff.mp hd).1
            omega
          · intro x H' y
            obtain ⟨e3, S3, r3⟩ := yld x H' y
            refine ⟨ι2, env2, d, env3, r3, R2.ext e3, ge, fun σ3 R3 => ⟨ι2, env3, M2, S3, R3, ?_⟩⟩
            have h3 := SOutP.ext e3 h2
            have e4 := e2.trans e3
            revert h3
            cases mb env3 M2 with
            | next env4 M4 => exact fun h3 ι4 σ4 H4 e5 S4 R4 => ⟨ι4, env4, M4, e4.trans e5, S4, R4, by rw [hds]; exact SOutP.ext e5 h3⟩
            | ret d M4 => exact fun h3 => h3
            | exc x env4 M4 => exact fun h3 => h3
            | stuck => exact fun h3 => h3
        · exact h2.elim
      · exact h2.elim⟩
end
end TL
end
section
/-! the tree layer: what is walked, comprehensions, defs -/
namespace TL
open PySem PySem.Spec PyProof.Rows L2

/-! ### what is walked -/
def strItems (z : Str) : List D := z.cps.toList.map fun c => .str ⟨#[c]⟩
def srcOf (M : Mem) : D → Option Src
  | .tup xs => some ⟨xs, fun _ => True⟩
  | .str z => some ⟨strItems z, fun _ => True⟩
  | .ref n => (seqAt M n).map fun xs => ⟨xs, fun M' => seqAt M' n = some xs⟩
  | _ => none
def iAny (e : ME) : MI := fun env M => (e env M).bind fun d M1 => match srcOf M1 d with
  | some s => .ok s M1
  | none => .stuck
def rngItems (lo : Int) (n : Nat) : List D := (List.range n).map fun i => .int (lo + (i : Nat))
/-- bounds of a range; nothing reckons it -/
def RngOk (j : Int) : Prop := -(2 ^ 62) ≤ j ∧ j < 2 ^ 62
open Classical in
noncomputable def iRange1 (e : ME) : MI := fun env M => (e env M).bind fun d M1 => kInt d fun j => if RngOk j then .ok ⟨rngItems 0 j.toNat, fun _ => True⟩ M1 else .stuck
open Classical in
noncomputable def iRange2 (a b : ME) : MI := fun env M => (a env M).bind fun d M1 => (b env M1).bind fun d2 M2 => kInt d fun i => kInt d2 fun j =>
  if RngOk i ∧ RngOk j then .ok ⟨rngItems i (j - i).toNat, fun _ => True⟩ M2 else .stuck
section
variable {X : Cx} {W : WX} {tg e : Expr} {me : ME}
theorem pi_any {tl : TE} (hl : PE X e tl) : PI X tg e (fun σ H R => tl σ H fun x H1 => (∃ a, x = .ref a ∧ (∃ xs, SqT X.K H1 a xs) ∧ R (Itt X.K a) H1) ∨ (∃ a, x = .ref a ∧ (∃ xs, SqL X.K H1 a xs) ∧ R (Itl X.K a) H1) ∨ (∃ z, x = .str z ∧ R (Its z) H1)) := by
  refine ⟨fun pins s σ H R I h => ?_⟩
  refine thn (hl.run pins s σ H _ I h) fun v s1 ⟨x, H1, I1, r1, q1⟩ => ?_
  rcases q1 with ⟨a, rfl, ⟨xs, hq⟩, q⟩ | ⟨a, rfl, ⟨xs, hq⟩, q⟩ | ⟨z, rfl, q⟩
  · cases r1
    obtain ⟨its, rv, p, hz⟩ := I1.tuple hq
    refine wpAny_pyIter_tuple (show s1.heap.IsTuple a its.toArray from p) ?_
    refine ⟨s1.heap.objs.size, [s1.heap.objs.size], _, _, H1, rfl, I1.kept (t' := s1.toks) fun b o e => Heap.get?_push_of_some _ e, turn_tuple a _, ⟨_, Heap.get?_push_size _ rfl, rfl, rfl⟩, fun b hb => ?_, q⟩
    have e : b = s1.heap.objs.size := by simpa using hb
    subst e
    exact I1.fpOk (Nat.le_refl _) (I1.hok.fresh (Nat.le_refl _))
  · cases r1
    obtain ⟨its, rv, p, hz⟩ := I1.list hq
    refine wpAny_pyIter_list p.isList ?_
    refine ⟨s1.heap.objs.size, [s1.heap.objs.size], _, _, H1, rfl, I1.kept (t' := s1.toks) fun b o e => Heap.get?_push_of_some _ e, turn_list a _, ⟨_, Heap.get?_push_size _ rfl, rfl, rfl⟩, fun b hb => ?_, q⟩
    have e : b = s1.heap.objs.size := by simpa using hb
    subst e
    exact I1.fpOk (Nat.le_refl _) (I1.hok.fresh (Nat.le_refl _))
  · obtain ⟨t, rfl⟩ := r1
    cases ha : z.cps.all (· < 128)
    · exact wpAny_pyIter_wide ha (pi_one (tk := s1.toks) I1 _ (turn_str _ z t "str_iterator" (.inr rfl)) ⟨_, Heap.get?_push_size _ rfl, rfl, rfl⟩ q)
    · exact wpAny_pyIter_ascii ha (pi_one (tk := s1.toks) I1 _ (turn_str _ z t "str_ascii_iterator" (.inl rfl)) ⟨_, Heap.get?_push_size _ rfl, rfl, rfl⟩ q)
theorem srcJ_of {ι : List Addr} {H : Hp} {M : Mem} {d : D} {s : Src} {v : V} (S : SR X.K ι H M) (r : Rp X.K ι H d v) (h : srcOf M d = some s) {R : It → Hp → Prop} (q : ∀ J, SrcJ X.K ι H s J → R J H) :
    (∃ a, v = .ref a ∧ (∃ xs, SqT X.K H a xs) ∧ R (Itt X.K a) H) ∨ (∃ a, v = .ref a ∧ (∃ xs, SqL X.K H a xs) ∧ R (Itl X.K a) H) ∨ (∃ z, v = .str z ∧ R (Its z) H) := by
  cases d with
  | tup xs =>
    cases h
    obtain ⟨p, vs, rfl, t1, r1⟩ := r.tup_inv
    refine .inl ⟨p, rfl, ⟨vs, t1⟩, q _ fun ι1 H1 M1 e1 S1 _ i => ⟨fun d hd => ?_, fun hl => ⟨vs, e1.tup _ _ t1, by rw [← r1.length]; exact hl⟩⟩⟩
    obtain ⟨u, h1, h2⟩ := (r1.ext e1).get hd
    refine ⟨⟨vs, u, e1.tup _ _ t1, h1⟩, fun x H' y => ?_⟩
    obtain ⟨rfl, y2⟩ := y
    have e := y2 vs (e1.tup _ _ t1)
    rw [h1] at e; cases e
    exact ⟨Ext.refl, S1, h2⟩
  | str z =>
    cases h
    cases r.str_inv
    refine .inr (.inr ⟨z, rfl, q _ fun ι1 H1 M1 e1 S1 _ i => ⟨fun d hd => ?_, fun hl => ?_⟩⟩)
    · have hd' : (z.cps.toList.map fun c => D.str ⟨#[c]⟩)[i]? = some d := hd
      rw [List.getElem?_map] at hd'
      cases q2 : z.cps.toList[i]? with
      | none => rw [q2] at hd'; cases hd'
      | some c =>
        rw [q2] at hd'
        cases hd'
        have hi := (List.getElem?_eq_some_iff.mp q2).1
        have q3 : z.cps[i]? = some c := by rw [← Array.getElem?_toList]; exact q2
        refine ⟨by show i < z.cps.size; simpa using hi, fun x H' y => ?_⟩
        obtain ⟨rfl, c', hc, rfl⟩ := y
        rw [q3] at hc; cases hc
        exact ⟨Ext.refl, S1, .str _⟩
    · have hl' : (z.cps.toList.map fun c => D.str ⟨#[c]⟩).length ≤ i := hl
      show z.cps.size ≤ i
      simpa using hl'
  | ref n =>
    obtain ⟨p, rfl, hp⟩ := r.ref_inv
    have h' : (seqAt M n).map (fun xs => (⟨xs, fun M' => seqAt M' n = some xs⟩ : Src)) = some s := h
    cases q2 : seqAt M n with
    | none => rw [q2] at h'; cases h'
    | some xs =>
      rw [q2] at h'
      cases h'
      obtain ⟨vs, h1, r1⟩ := S.seq hp q2
      refine .inr (.inl ⟨p, rfl, ⟨vs, h1⟩, q _ fun ι1 H1 M1 e1 S1 gd i => ?_⟩)
      obtain ⟨us, g1, g2⟩ := S1.seq (e1.pre _ _ hp) gd
      refine ⟨fun d hd => ?_, fun hl => ⟨us, g1, by rw [← g2.length]; exact hl⟩⟩
      obtain ⟨u, h3, h4⟩ := g2.get hd
      refine ⟨⟨us, u, g1, h3⟩, fun x H' y => ?_⟩
      obtain ⟨rfl, y2⟩ := y
      have e := y2 us g1
      rw [h3] at e; cases e
      exact ⟨Ext.refl, S1, h4⟩
  | _ => cases h
theorem di_any (he : PE X e (LE X.K W me)) : PI X tg e (LI X.K W (iAny me)) :=
  (pi_any he).imp fun σ H R0 ⟨ι, env, M, S, R, h⟩ => ⟨ι, env, M, S, R, (OutP.bind h).imp fun d M1 ι1 H1 e1 S1 h1 v rv => by
    revert h1
    cases q : srcOf M1 d with
    | none => exact fun h1 => h1.elim
    | some s => exact fun h1 => srcJ_of S1 rv q (OutP.val S1 h1)⟩
theorem srcJ_rng {K : PySem.W.Frag} {ι : List Addr} {H : Hp} (lo : Int) (n : Nat) : SrcJ K ι H ⟨rngItems lo n, fun _ => True⟩ (Itr lo n) := fun ι1 H1 M1 e1 S1 _ i => by
  refine ⟨fun d hd => ?_, fun hl => ?_⟩
  · have hd' : ((List.range n).map fun i => D.int (lo + (i : Nat)))[i]? = some d := hd
    rw [List.getElem?_map] at hd'
    cases q : (List.range n)[i]? with
    | none => rw [q] at hd'; cases hd'
    | some j =>
      rw [q] at hd'
      cases hd'
      obtain ⟨h1, h2⟩ := List.getElem?_eq_some_iff.mp q
      have h2' : i = j := by simpa using h2
      subst h2'
      refine ⟨by show i < n; simpa using h1, fun x H' y => ?_⟩
      obtain ⟨rfl, rfl⟩ := y
      exact ⟨Ext.refl, S1, .int _⟩
  · have hl' : ((List.range n).map fun i => D.int (lo + (i : Nat))).length ≤ i := hl
    show n ≤ i
    simpa using hl'
theorem di_range1 {a : Expr} {ma : ME} {p pos : Pos} (hm : X.mg "range" = none) (ha : PE X a (LE X.K W ma)) (hg : Gl X "range" := by rfl) (hs : starEach [a] X.env = [(false, eval a X.env)] := by rfl) (hs' : starEach [a] X.env = (false, eval a X.env) :: starEach [] X.env := by rfl) :
    PI X tg (.Call (.Name "range" p) [a] [] pos) (LI X.K W (iRange1 ma)) :=
  (pi_range1 hg hm (pa_cons ha pa_nil hs') hs).imp fun σ H R0 ⟨ι, env, M, S, R, h⟩ => ⟨ι, env, M, S, R, (OutP.bind h).imp fun d M1 ι1 H1 e1 S1 h1 v rv => by
    obtain ⟨j, rfl, h2⟩ := kInt_inv h1
    cases rv.int_inv
    split at h2
    · rename_i c
      exact ⟨j, rfl, c.1, c.2, OutP.val S1 h2 _ (srcJ_rng 0 _)⟩
    · exact h2.elim⟩
theorem di_range2 {a b : Expr} {ma mb : ME} {p pos : Pos} (hm : X.mg "range" = none) (ha : PE X a (LE X.K W ma)) (hb : PE X b (LE X.K W mb)) (hg : Gl X "range" := by rfl) (hs : starEach [a, b] X.env = [(false, eval a X.env), (false, eval b X.env)] := by rfl) (hs2 : starEach [b] X.env = [(false, eval b X.env)] := by rfl)
    (hs' : starEach [a, b] X.env = (false, eval a X.env) :: starEach [b] X.env := by rfl) (hs'' : starEach [b] X.env = (false, eval b X.env) :: starEach [] X.env := by rfl) :
    PI X tg (.Call (.Name "range" p) [a, b] [] pos) (LI X.K W (iRange2 ma mb)) :=
  (pi_range2 hg hm (pa_cons ha (pa_cons hb pa_nil hs'') hs') hs hs2).imp fun σ H R0 ⟨ι, env, M, S, R, h⟩ => ⟨ι, env, M, S, R, (OutP.bind h).imp fun d M1 ι1 H1 e1 S1 h1 v rv => ⟨ι1, env, M1, S1, R.ext e1, (OutP.bind h1).imp fun d2 M2 ι2 H2 e2 S2 h2 u ru => by
    obtain ⟨i, rfl, h3⟩ := kInt_inv h2
    obtain ⟨j, rfl, h4⟩ := kInt_inv h3
    cases rv.int_inv
    cases ru.int_inv
    split at h4
    · rename_i c
      exact ⟨i, j, rfl, ⟨c.1.1, c.1.2, c.2.1, c.2.2⟩, OutP.val S2 h4 _ (srcJ_rng i _)⟩
    · exact h4.elim⟩⟩
end

/-! ### comprehensions -/
def Out.nox {α : Type} (o : Out α) : Out α := match o with
  | .exc _ _ => .stuck
  | o => o
@[simp] theorem Out.nox_ok {α : Type} (a : α) (M : Mem) : (Out.ok a M).nox = .ok a M := rfl
@[simp] theorem Out.nox_stuck {α : Type} : (Out.stuck : Out α).nox = .stuck := rfl
@[simp] theorem Out.bind_assoc {α β γ : Type} (o : Out α) (f : α → Mem → Out β) (g : β → Mem → Out γ) : (o.bind f).bind g = o.bind fun a M => (f a M).bind g := by cases o <;> rfl
theorem OutP.nox {K : PySem.W.Frag} {W W' : Value → Option Addr → Hp → Prop} {ι : List Addr} {H : Hp} {α β : Type} {o : Out α} {f : α → Mem → Out β} {R : β → Mem → List Addr → Hp → Prop} (h : OutP K W ι H (o.nox.bind f) R) :
    OutP K W' ι H o (fun a M ι1 H1 => OutP K W ι1 H1 (f a M) R) := by
  cases o with
  | ok a M => exact fun ι' H' e s => OutP.ext e h
  | exc x M => exact h.elim
  | stuck => exact h
open Classical in
noncomputable def compL (good : Mem → Prop) (i : Nat) (t : MT) (e : ME) (n : Nat) (env : Env) : List D → Mem → Out Unit
  | [], M => if good M then .ok () M else .stuck
  | d :: ds, M => if good M then (t (env.set i (some d)) M).nox.bind fun k M1 => if k = true then (e (env.set i (some d)) M1).nox.bind fun y M2 => match M2[n]? with
        | some (.lst acc) => if acc.length < sizeLine then compL good i t e n env ds (M2.set n (.lst (acc ++ [y]))) else .stuck
        | _ => .stuck
      else compL good i t e n env ds M1
    else .stuck
noncomputable def eComp (i : Nat) (s : MI) (t : MT) (e : ME) : ME := fun env M => (s env M).bind fun s M1 => (compL s.good i t e M1.length env s.items (M1 ++ [.lst []])).bind fun _ M2 => .ok (.ref M1.length) M2
def tYesD : MT := fun _ M => .ok true M
abbrev W0 : WX := fun _ _ _ _ => False
theorem takesN0 {X : Cx} : L2N.Takes X W0 := fun _ _ x => by
  obtain ⟨_, _, _, _, _, _, _, _, _, _, _, _, _, _, _, _, z⟩ := x
  exact z.elim
theorem Ctx.blk {X : Cx} {W : WX} {k : Nat} (C : Ctx X W k) {s : Shared} {H : Hp} {scope : Scope} {cenv : PySem.Env} {fp : List Addr} : Ctx (X.blk s H scope cenv fp) W0 k := ⟨C.calm, C.nd, C.room, takesN0, PassesOwn.never⟩
section
variable {X : Cx} {W : WX} {k : Nat}
theorem dts_nil : PTs X [] (LT X.K W tYesD) := ⟨fun pins s σ H Q I ⟨ι, env, M, S, R, h⟩ => (pts_nil (X := X)).run pins s σ H Q I (OutP.val (W := W1 W σ) (R := TR Q) S h)⟩
theorem dts_one {c : Expr} {mt : MT} (h : PT X c (LT X.K W mt)) : PTs X [c] (LT X.K W mt) := pts_one h
theorem le_comp {i : Nat} {ms : MI} {mt : MT} {me : ME} {σ : L2.St} {H : Hp} {Q : VK} (h : LE X.K W (eComp i ms mt me) σ H Q) :
    tLc (LI X.K W ms) (gName i) (LT X.K W0 mt) (LE X.K W0 me) [i] σ H Q := by
  obtain ⟨ι, env, M, S, R, h⟩ := h
  refine ⟨ι, env, M, S, R, (OutP.bind h).imp fun s M1 ι1 H1 e1 S1 h1 J hJ => fun D hD => ?_⟩
  have S2 := S1.alloc (u := .lst []) hD ⟨[], upd_same, .nil⟩
  have e2 : Ext X.K ι1 H1 (ι1 ++ [D]) (upd H1 D (.lst [])) := Ext.more hD
  have hlen := S1.len
  have hat : (ι1 ++ [D])[M1.length]? = some D := by rw [← hlen]; simp
  have h2 := OutP.ext e2 h1
  generalize hn : M1.length = n at h2 hat
  refine ⟨fun j m H3 => ∃ ι3 M3, Ext X.K (ι1 ++ [D]) (upd H1 D (.lst [])) ι3 H3 ∧ SR X.K ι3 H3 M3 ∧ m = s.items.length - j ∧
    OutP X.K (W1 W σ) ι3 H3 ((compL s.good i mt me n env (s.items.drop j) M3).bind fun _ M4 => .ok (.ref n) M4) (VR X.K Q), ⟨_, _, _, Ext.refl, S2, rfl, by rw [List.drop_zero]; exact h2⟩, ?_⟩
  rintro j m H3 ⟨ι3, M3, e3, S3, rfl, h3⟩
  cases q : s.items.drop j with
  | nil =>
    rw [q] at h3
    unfold compL at h3
    split at h3
    · rename_i gd
      refine .inl ⟨(hJ ι3 H3 M3 (e2.trans e3) S3 gd j).2 ?_, OutP.val (W := W1 W σ) (R := VR X.K Q) (a := .ref n) S3 (show OutP X.K (W1 W σ) ι3 H3 (Out.ok (.ref n) M3) (VR X.K Q) from h3) _ (.ref (e3.pre _ _ hat))⟩
      have := congrArg List.length q
      simp at this
      omega
    · exact h3.elim
  | cons d ds =>
    rw [q] at h3
    unfold compL at h3
    obtain ⟨hd, hds⟩ := drop_at q
    split at h3
    · rename_i gd
      obtain ⟨go, yld⟩ := (hJ ι3 H3 M3 (e2.trans e3) S3 gd j).1 d hd
      refine .inr ⟨go, fun H' => ∃ ι3 M3, Ext X.K (ι1 ++ [D]) (upd H1 D (.lst [])) ι3 H' ∧ SR X.K ι3 H' M3 ∧
        OutP X.K (W1 W σ) ι3 H' ((compL s.good i mt me n env (s.items.drop (j + 1)) M3).bind fun _ M4 => .ok (.ref n) M4) (VR X.K Q), ?_, ?_⟩
      · rintro H' ⟨ι4, M4, e4, S4, h4⟩
        refine ⟨s.items.length - (j + 1), ?_, ι4, M4, e4, S4, rfl, h4⟩
        have := (List.getElem?_eq_some_iff.mp hd).1
        omega
      · intro x H' y
        obtain ⟨e4, S4, r4⟩ := yld x H' y
        have R4 : EnvR X.K ι3 H' (env.set i (some d)) ((wipe σ [i]).set i (some x)) := by
          have r0 := (((R.ext e1).ext (e2.trans e3)).ext e4)
          have r1 := (r0.unset i).set r4 i
          rw [List.set_set] at r1
          exact r1
        have h5 := OutP.ext e4 h3
        refine ⟨by show ((σ.set i none).set i (some x)).set i none = σ.set i none; rw [List.set_set, List.set_set], ι3, env.set i (some d), M3, S4, R4, ?_⟩
        have h6 := h5
        rw [Out.bind_assoc] at h6
        refine (OutP.nox (W' := W1 W0 _) h6).imp fun kk M5 ι5 H5 e5 S5 h7 => ?_
        show if kk = true then _ else _
        cases kk with
        | false =>
          refine iteF ⟨ι5, M5, (e3.trans e4).trans e5, S5, ?_⟩
          rw [hds]
          exact h7
        | true =>
          refine iteT ⟨ι5, _, M5, S5, R4.ext e5, ?_⟩
          have h8 : OutP X.K (W1 W σ) ι5 H5 (((me (env.set i (some d)) M5).nox.bind fun y M2 => match M2[n]? with
            | some (.lst acc) => if acc.length < sizeLine then compL s.good i mt me n env ds (M2.set n (.lst (acc ++ [y]))) else .stuck
            | _ => .stuck).bind fun _ M4 => .ok (.ref n) M4) (VR X.K Q) := h7
          rw [Out.bind_assoc] at h8
          refine (OutP.nox (W' := W1 W0 _) h8).imp fun y M6 ι6 H6 e6 S6 h9 v rv => ?_
          have hD6 : ι6[n]? = some D := e6.pre _ _ (e5.pre _ _ (e3.pre _ _ hat))
          revert h9
          split
          · rename_i acc ma
            split
            · rename_i hsz
              intro h9
              obtain ⟨vs, g1, g2⟩ := S6.lst hD6 ma
              refine ⟨vs, g1, by rw [← g2.length]; exact hsz, ι6, M6.set n (.lst (acc ++ [y])), ?_, ?_, ?_⟩
              · exact (((e3.trans e4).trans e5).trans e6).trans (Ext.upd (by rw [g1]; exact fun z => z))
              · exact S6.write hD6 ma rfl rfl ⟨_, upd_same, (g2.append (.cons rv .nil)).ext (Ext.upd (by rw [g1]; exact fun z => z))⟩
              · rw [hds]
                exact OutP.ext (Ext.upd (by rw [g1]; exact fun z => z)) h9
            · exact fun h9 => h9.elim
          · exact fun h9 => h9.elim
    · exact h3.elim
theorem d_comp {elt iter : Expr} {ifs : List Expr} {scope : Scope} {i : Nat} {x : Str} {px pos : Pos} {ms : MI} {mt : MT} {me : ME} (C : Ctx X W k) (hi : PI X (.Name x px) iter (LI X.K W ms)) (ok : BlkOk X.N X.env.scope scope [(x, i)])
    (hg : ∀ (s : Shared) (H : Hp) (C : Addr) (cl : List (Str × Addr)) (fp : List Addr), PG (X.blk s H scope (compEnvC scope cl C X.env) fp) (.Name x px) (gName i))
    (ht : ∀ (s : Shared) (H : Hp) (C : Addr) (cl : List (Str × Addr)) (fp : List Addr), Ctx (X.blk s H scope (compEnvC scope cl C X.env) fp) W0 k → PTs (X.blk s H scope (compEnvC scope cl C X.env) fp) ifs (LT X.K W0 mt))
    (he : ∀ (s : Shared) (H : Hp) (C : Addr) (cl : List (Str × Addr)) (fp : List Addr), Ctx (X.blk s H scope (compEnvC scope cl C X.env) fp) W0 k → PE (X.blk s H scope (compEnvC scope cl C X.env) fp) elt (LE X.K W0 me))
    (hs : ∀ x, foldedSetIterable iter X.env x = pure x := by intro _; rfl) : PE X (.ListComp elt [⟨.Name x px, iter, ifs, 0⟩] scope pos) (LE X.K W (eComp i ms mt me)) :=
  (pe_lc (own := [(x, i)]) C.calm C.nd hi ok hg (fun s H c cl fp => ht s H c cl fp C.blk) (fun s H c cl fp => he s H c cl fp C.blk) hs).imp fun σ H Q h => le_comp h
theorem ds_setComp {elt iter : Expr} {ifs : List Expr} {scope : Scope} {i j : Nat} {x y : Str} {px py pos spos : Pos} {ms : MI} {mt : MT} {me : ME} (C : Ctx X W k) (hi : PI X (.Name x px) iter (LI X.K W ms)) (ok : BlkOk X.N X.env.scope scope [(x, i)])
    (hg : ∀ (s : Shared) (H : Hp) (C : Addr) (cl : List (Str × Addr)) (fp : List Addr), PG (X.blk s H scope (compEnvC scope cl C X.env) fp) (.Name x px) (gName i))
    (ht : ∀ (s : Shared) (H : Hp) (C : Addr) (cl : List (Str × Addr)) (fp : List Addr), Ctx (X.blk s H scope (compEnvC scope cl C X.env) fp) W0 k → PTs (X.blk s H scope (compEnvC scope cl C X.env) fp) ifs (LT X.K W0 mt))
    (he : ∀ (s : Shared) (H : Hp) (C : Addr) (cl : List (Str × Addr)) (fp : List Addr), Ctx (X.blk s H scope (compEnvC scope cl C X.env) fp) W0 k → PE (X.blk s H scope (compEnvC scope cl C X.env) fp) elt (LE X.K W0 me))
    (hy : X.N[j]? = some y := by rfl) (hyl : X.env.scope.names.lookup y = some .local := by rfl)
    (hsw : swapsWith (.ListComp elt [⟨.Name x px, iter, ifs, 0⟩] scope pos) (some (.Name y py)) spos.line X.env = pure true := by exact sw_true rfl rfl rfl (by decide +kernel))
    (hs : ∀ x, foldedSetIterable iter X.env x = pure x := by intro _; rfl) : PS X (.Assign [.Name y py] (.ListComp elt [⟨.Name x px, iter, ifs, 0⟩] scope pos) spos) (LS X.K W (sAsg (gOne j) (eComp i ms mt me))) :=
  (ps_setLc (own := [(x, i)]) C.calm C.nd hy hyl hsw hi ok hg (fun s H c cl fp => ht s H c cl fp C.blk) (fun s H c cl fp => he s H c cl fp C.blk) hs).imp fun En σ H h => by
    refine le_asg (tg := gName j) (fun Q h => le_comp h) (fun v σ H Q ⟨ι, env, d, env', r, R, h, q⟩ => by cases h; exact q _ (R.set r j)) h
end
end TL
end
section
/-! the tree layer: methods of lists, all, max, min; what a def promises -/
namespace TL
open PySem PySem.Spec PyProof.Rows L2

/-! ### methods of built-in types -/
def tyD (T : String) (M : Mem) : D → Bool
  | .str _ => decide (T = "str")
  | .ref n => decide (T = "list") && (seqAt M n).isSome
  | _ => false
def eMeth (T : String) (f : D → OpN) (o : ME) (a : MA) : ME := fun env M => (o env M).bind fun x M1 => if tyD T M1 x = true then (a env M1).bind fun xs M2 => liftO (f x xs M2) else .stuck
def mAppend : D → OpN := fun d ds M => match d, ds with
  | .ref n, [y] => match M[n]? with
    | some (.lst xs) => if xs.length < sizeLine then some (.non, M.set n (.lst (xs ++ [y]))) else none
    | _ => none
  | _, _ => none
def mExtend : D → OpN := fun d ds M => match d, ds with
  | .ref n, [.ref m] => match M[n]?, M[m]? with
    | some (.lst xs), some (.lst ys) => if xs.length + ys.length ≤ sizeLine then some (.non, M.set n (.lst (xs ++ ys))) else none
    | _, _ => none
  | _, _ => none
def mPop : D → OpN := fun d ds M => match d, ds with
  | .ref n, [] => match M[n]? with
    | some (.lst xs) => (xs[xs.length - 1]?).map fun y => (y, M.set n (.lst xs.dropLast))
    | _ => none
  | _, _ => none
def mReverse : D → OpN := fun d ds M => match d, ds with
  | .ref n, [] => match M[n]? with
    | some (.lst xs) => some (.non, M.set n (.lst xs.reverse))
    | _ => none
  | _, _ => none
def mClear : D → OpN := fun d ds M => match d, ds with
  | .ref n, [] => match M[n]? with
    | some (.lst xs) => some (.non, M.set n (.lst []))
    | _ => none
  | _, _ => none
section
variable {K : PySem.W.Frag} {ι : List Addr} {H : Hp} {M : Mem}
theorem RpA.nil_inv {vs : List V} (r : RpA K ι H [] vs) : vs = [] := by cases r; rfl
theorem tyD_ok {T : String} {d : D} {v : V} (S : SR K ι H M) (r : Rp K ι H d v) (h : tyD T M d = true) : tyV K T v H := by
  cases d with
  | str x => cases r.str_inv; exact of_decide_eq_true (p := T = "str") h
  | ref n =>
    obtain ⟨p, rfl, hp⟩ := r.ref_inv
    obtain ⟨h1, h2⟩ := Bool.and_eq_true_iff.mp h
    cases q : seqAt M n with
    | none => rw [q] at h2; cases h2
    | some xs =>
      obtain ⟨vs, h3, _⟩ := S.seq hp q
      exact .inl ⟨of_decide_eq_true h1, vs, h3⟩
  | _ => cases h
end
section
variable {X : Cx} {W : WX} {k : Nat}
theorem m_append : MtR X "list.append" (rDM X.K mAppend) := by
  refine MtR.imp mt_append fun x xs H Q h => ?_
  obtain ⟨ι, M, d, ds, S, r, rs, h⟩ := h
  unfold mAppend at h
  split at h
  · obtain ⟨p, rfl, hp⟩ := r.ref_inv
    obtain ⟨v, rfl, rv⟩ := rs.one_inv
    split at h
    · rename_i ys m1
      obtain ⟨vs, h1, r1⟩ := S.lst hp m1
      split at h
      · exact ⟨_, vs, _, rfl, rfl, h1, by rw [← r1.length]; assumption, h.setLst S hp m1 (r1.append (.cons rv .nil)) .non⟩
      · exact h.elim
    · exact h.elim
  · exact h.elim
theorem m_extend : MtR X "list.extend" (rDM X.K mExtend) := by
  refine MtR.imp mt_extend fun x xs H Q h => ?_
  obtain ⟨ι, M, d, ds, S, r, rs, h⟩ := h
  unfold mExtend at h
  split at h
  · obtain ⟨p, rfl, hp⟩ := r.ref_inv
    obtain ⟨v, rfl, rv⟩ := rs.one_inv
    obtain ⟨q, rfl, hq⟩ := rv.ref_inv
    split at h
    · rename_i m1 m2
      obtain ⟨vs, h1, r1⟩ := S.lst hp m1
      obtain ⟨us, h2, r2⟩ := S.lst hq m2
      split at h
      · exact ⟨_, _, vs, us, rfl, rfl, h1, h2, by rw [← r1.length, ← r2.length]; assumption, h.setLst S hp m1 (r1.append r2) .non⟩
      · exact h.elim
    · exact h.elim
  · exact h.elim
theorem m_pop : MtR X "list.pop" (rDM X.K mPop) := by
  refine MtR.imp mt_pop fun x xs H Q h => ?_
  obtain ⟨ι, M, d, ds, S, r, rs, h⟩ := h
  unfold mPop at h
  split at h
  · obtain ⟨p, rfl, hp⟩ := r.ref_inv
    cases rs.nil_inv
    split at h
    · rename_i ys m1
      obtain ⟨vs, h1, r1⟩ := S.lst hp m1
      cases q : ys[ys.length - 1]? with
      | none => rw [q] at h; exact h.elim
      | some y =>
        rw [q] at h
        obtain ⟨v, g1, g2⟩ := r1.get q
        exact ⟨_, vs, v, rfl, rfl, h1, by rw [← r1.length]; exact g1, OpO.setLst S h hp m1 r1.dropLast g2⟩
    · exact h.elim
  · exact h.elim
theorem m_reverse : MtR X "list.reverse" (rDM X.K mReverse) := by
  refine MtR.imp mt_reverse fun x xs H Q h => ?_
  obtain ⟨ι, M, d, ds, S, r, rs, h⟩ := h
  unfold mReverse at h
  split at h
  · obtain ⟨p, rfl, hp⟩ := r.ref_inv
    cases rs.nil_inv
    split at h
    · rename_i ys m1
      obtain ⟨vs, h1, r1⟩ := S.lst hp m1
      exact ⟨_, vs, rfl, rfl, h1, h.setLst S hp m1 r1.reverse .non⟩
    · exact h.elim
  · exact h.elim
theorem m_clear : MtR X "list.clear" (rDM X.K mClear) := by
  refine MtR.imp mt_clear fun x xs H Q h => ?_
  obtain ⟨ι, M, d, ds, S, r, rs, h⟩ := h
  unfold mClear at h
  split at h
  · obtain ⟨p, rfl, hp⟩ := r.ref_inv
    cases rs.nil_inv
    split at h
    · rename_i ys m1
      obtain ⟨vs, h1, r1⟩ := S.lst hp m1
      exact ⟨_, vs, rfl, rfl, h1, h.setLst S hp m1 .nil .non⟩
    · exact h.elim
  · exact h.elim
variable {o e : Expr} {es : List Expr} {mo : ME} {mas : MA} {name : Str} {apos cpos : Pos} {T id : String} {f : D → OpN}
theorem d_meth0 (pa : PlainAttrs T) (slot : Slot T name id) (hty : typeOf (.builtin id) = pure (.type "method_descriptor")) (hm : MtR X id (rDM X.K f)) (ho : PE X o (LE X.K W mo))
    (hbase : attributeBase o name X.env (eval o X.env) = eval o X.env := by rfl) (hline : (apos.endLine == cpos.line) = true := by rfl) : PE X (.Call (.Attribute o name apos) [] [] cpos) (LE X.K W (eMeth T f mo aNil)) :=
  (pe_bm0 pa slot hty hm ho hbase hline).imp fun σ H Q ⟨ι, env, M, S, R, h⟩ => ⟨ι, env, M, S, R, (OutP.bind h).imp fun x M1 ι1 H1 e1 S1 h1 v rv => by
    split at h1
    · rename_i ht
      exact ⟨tyD_ok S1 rv ht, ι1, M1, x, [], S1, rv, .nil, OpO.of (W := W1 W σ) h1⟩
    · exact h1.elim⟩
theorem d_meth (pa : PlainAttrs T) (slot : Slot T name id) (hty : typeOf (.builtin id) = pure (.type "method_descriptor")) (hm : MtR X id (rDM X.K f)) (ho : PE X o (LE X.K W mo)) (ha : PA X (e :: es) (LA X.K W mas))
    (hbase : attributeBase o name X.env (eval o X.env) = eval o X.env := by rfl)
    (hfew : ((backTo cpos (starEach (e :: es) X.env)).all (fun x => !x.1) && (backToKw cpos (keywordEach [] X.env)).all (fun x => x.1.isSome)
      && decide ((e :: es).length + ([] : List Keyword).length + (if ([] : List Keyword).isEmpty then 0 else 1) < 30)) = true := by rfl)
    (hline : (apos.endLine == cpos.line) = true := by rfl) (hs : starEach (e :: es) X.env = (false, eval e X.env) :: starEach es X.env := by rfl) (hplain : (backTo cpos (starEach es X.env)).any (·.1) = false := by rfl) :
    PE X (.Call (.Attribute o name apos) (e :: es) [] cpos) (LE X.K W (eMeth T f mo mas)) :=
  (pe_bm pa slot hty hm ho ha hbase hfew hline hs hplain).imp fun σ H Q ⟨ι, env, M, S, R, h⟩ => ⟨ι, env, M, S, R, (OutP.bind h).imp fun x M1 ι1 H1 e1 S1 h1 v rv => by
    split at h1
    · rename_i ht
      exact ⟨tyD_ok S1 rv ht, ι1, env, M1, S1, R.ext e1, (OutP.bind h1).imp fun xs M2 ι2 H2 e2 S2 h2 us ru => ⟨ι2, M2, x, xs, S2, rv.ext e2, ru, OpO.of h2⟩⟩
    · exact h1.elim⟩
end

/-! ### all(bools), max(ints), min(ints), sum(ints) of a list -/
def blsOf : List D → Option (List Bool)
  | [] => some []
  | .bl b :: ds => (blsOf ds).map (b :: ·)
  | _ => none
def intsOf : List D → Option (List Int)
  | [] => some []
  | .int b :: ds => (intsOf ds).map (b :: ·)
  | _ => none
def maxI : List Int → Int
  | [] => 0
  | [a] => a
  | a :: b :: r => max a (maxI (b :: r))
def minI : List Int → Int
  | [] => 0
  | [a] => a
  | a :: b :: r => min a (minI (b :: r))
theorem maxI_mem : ∀ {ns : List Int}, ns ≠ [] → maxI ns ∈ ns ∧ ∀ a ∈ ns, a ≤ maxI ns
  | [], h => absurd rfl h
  | [a], _ => by simp [maxI]
  | a :: b :: r, _ => by
    obtain ⟨h1, h2⟩ := maxI_mem (ns := b :: r) (by simp)
    refine ⟨?_, fun c hc => ?_⟩
    · show max a (maxI (b :: r)) ∈ _
      rcases Int.le_total a (maxI (b :: r)) with q | q
      · rw [Int.max_eq_right q]; exact List.mem_cons_of_mem _ h1
      · rw [Int.max_eq_left q]; exact List.mem_cons_self
    · show c ≤ max a (maxI (b :: r))
      rcases List.mem_cons.mp hc with rfl | hc
      · exact Int.le_max_left _ _
      · exact Int.le_trans (h2 c hc) (Int.le_max_right _ _)
theorem minI_mem : ∀ {ns : List Int}, ns ≠ [] → minI ns ∈ ns ∧ ∀ a ∈ ns, minI ns ≤ a
  | [], h => absurd rfl h
  | [a], _ => by simp [minI]
  | a :: b :: r, _ => by
    obtain ⟨h1, h2⟩ := minI_mem (ns := b :: r) (by simp)
    refine ⟨?_, fun c hc => ?_⟩
    · show min a (minI (b :: r)) ∈ _
      rcases Int.le_total a (minI (b :: r)) with q | q
      · rw [Int.min_eq_left q]; exact List.mem_cons_self
      · rw [Int.min_eq_right q]; exact List.mem_cons_of_mem _ h1
    · show min a (minI (b :: r)) ≤ c
      rcases List.mem_cons.mp hc with rfl | hc
      · exact Int.min_le_left _ _
      · exact Int.le_trans (Int.min_le_right _ _) (h2 c hc)
def nAll : OpN := fun ds M => match ds with
  | [.ref n] => match seqAt M n with
    | some xs => (blsOf xs).map fun bs => (.bl (bs.all id), M)
    | none => none
  | _ => none
def nMax : OpN := fun ds M => match ds with
  | [.ref n] => match seqAt M n with
    | some xs => match intsOf xs with
      | some ns => if ns = [] then none else some (.int (maxI ns), M)
      | none => none
    | none => none
  | _ => none
def nMin : OpN := fun ds M => match ds with
  | [.ref n] => match seqAt M n with
    | some xs => match intsOf xs with
      | some ns => if ns = [] then none else some (.int (minI ns), M)
      | none => none
    | none => none
  | _ => none
def nSum : OpN := fun ds M => match ds with
  | [.ref n] => match seqAt M n with
    | some xs => (intsOf xs).map fun ns => (.int ns.sum, M)
    | none => none
  | _ => none
section
variable {K : PySem.W.Frag} {ι : List Addr} {H : Hp} {M : Mem}
theorem bls_v : ∀ {ds : List D} {vs : List V} {bs : List Bool}, RpA K ι H ds vs → blsOf ds = some bs → vs = bs.map V.bl
  | [], _, _, .nil, e => by cases e; rfl
  | d :: ds, _, bs, .cons r t, e => by
    cases d with
    | bl b =>
      have e' : (blsOf ds).map (b :: ·) = some bs := e
      cases q : blsOf ds with
      | none => rw [q] at e'; cases e'
      | some cs =>
        rw [q] at e'
        cases e'
        cases r.bl_inv
        rw [bls_v t q]
        rfl
    | _ => cases e
theorem ints_v : ∀ {ds : List D} {vs : List V} {bs : List Int}, RpA K ι H ds vs → intsOf ds = some bs → vs = bs.map V.int
  | [], _, _, .nil, e => by cases e; rfl
  | d :: ds, _, bs, .cons r t, e => by
    cases d with
    | int b =>
      have e' : (intsOf ds).map (b :: ·) = some bs := e
      cases q : intsOf ds with
      | none => rw [q] at e'; cases e'
      | some cs =>
        rw [q] at e'
        cases e'
        cases r.int_inv
        rw [ints_v t q]
        rfl
    | _ => cases e
end
section
variable {X : Cx}
theorem c_all (hc : X.calm = true) : CallR X (.builtin "all") (rDN X.K nAll) := by
  refine CallR.imp (cr_all hc) fun xs H Q h => ?_
  obtain ⟨ι, M, ds, S, r, h⟩ := h
  unfold nAll at h
  split at h
  · obtain ⟨v, rfl, rv⟩ := r.one_inv
    obtain ⟨p, rfl, hp⟩ := rv.ref_inv
    split at h
    · rename_i ys m
      obtain ⟨vs, h1, r1⟩ := S.seq hp m
      cases q : blsOf ys with
      | none => rw [q] at h; exact h.elim
      | some bs =>
        rw [q] at h
        cases bls_v r1 q
        exact ⟨p, bs, rfl, h1, OpO.val S h (.bl _)⟩
    · exact h.elim
  · exact h.elim
theorem c_max (hc : X.calm = true) : CallR X (.builtin "max") (rDN X.K nMax) := by
  refine CallR.imp (cr_max hc) fun xs H Q h => ?_
  obtain ⟨ι, M, ds, S, r, h⟩ := h
  unfold nMax at h
  split at h
  · obtain ⟨v, rfl, rv⟩ := r.one_inv
    obtain ⟨p, rfl, hp⟩ := rv.ref_inv
    split at h
    · rename_i ys m
      obtain ⟨vs, h1, r1⟩ := S.seq hp m
      split at h
      · rename_i ns q
        cases ints_v r1 q
        split at h
        · exact h.elim
        · rename_i hne
          refine ⟨p, ns, rfl, h1, List.length_pos_iff.mpr hne, fun m hm hle => ?_⟩
          obtain ⟨k1, k2⟩ := maxI_mem hne
          have : m = maxI ns := Int.le_antisymm (k2 m hm) (hle _ k1)
          subst this
          exact OpO.val S h (.int _)
      · exact h.elim
    · exact h.elim
  · exact h.elim
theorem c_min (hc : X.calm = true) : CallR X (.builtin "min") (rDN X.K nMin) := by
  refine CallR.imp (cr_min hc) fun xs H Q h => ?_
  obtain ⟨ι, M, ds, S, r, h⟩ := h
  unfold nMin at h
  split at h
  · obtain ⟨v, rfl, rv⟩ := r.one_inv
    obtain ⟨p, rfl, hp⟩ := rv.ref_inv
    split at h
    · rename_i ys m
      obtain ⟨vs, h1, r1⟩ := S.seq hp m
      split at h
      · rename_i ns q
        cases ints_v r1 q
        split at h
        · exact h.elim
        · rename_i hne
          refine ⟨p, ns, rfl, h1, List.length_pos_iff.mpr hne, fun m hm hle => ?_⟩
          obtain ⟨k1, k2⟩ := minI_mem hne
          have : m = minI ns := Int.le_antisymm (hle _ k1) (k2 m hm)
          subst this
          exact OpO.val S h (.int _)
      · exact h.elim
    · exact h.elim
  · exact h.elim
theorem c_sum (hc : X.calm = true) : CallR X (.builtin "sum") (rDN X.K nSum) := by
  refine CallR.imp (cr_sum hc) fun xs H Q h => ?_
  obtain ⟨ι, M, ds, S, r, h⟩ := h
  unfold nSum at h
  split at h
  · obtain ⟨v, rfl, rv⟩ := r.one_inv
    obtain ⟨p, rfl, hp⟩ := rv.ref_inv
    split at h
    · rename_i ys m
      obtain ⟨vs, h1, r1⟩ := S.seq hp m
      cases q : intsOf ys with
      | none => rw [q] at h; exact h.elim
      | some ns =>
        rw [q] at h
        cases ints_v r1 q
        exact ⟨p, ns, rfl, h1, OpO.val S h (.int _)⟩
    · exact h.elim
  · exact h.elim
end

/-! ### defs -/
def startE (n : Nat) (ds : List D) : Env := ds.map some ++ List.replicate (n - ds.length) none
def endS : SOut → Out D
  | .next _ M => .ok .non M
  | .ret d M => .ok d M
  | .exc x _ M => .exc x M
  | .stuck => .stuck
@[simp] theorem endS_next (env : Env) (M : Mem) : endS (.next env M) = .ok .non M := rfl
@[simp] theorem endS_ret (d : D) (M : Mem) : endS (.ret d M) = .ok d M := rfl
@[simp] theorem endS_exc (x : Ex) (env : Env) (M : Mem) : endS (.exc x env M) = .exc x M := rfl
@[simp] theorem endS_stuck : endS .stuck = .stuck := rfl
/-- a def of np parameters and n names -/
def fnD (np n : Nat) (b : MS) : Fn := fun ds M => if ds.length = np then endS (b (startE n ds) M) else .stuck
def noFn : Fn := fun _ _ => .stuck
theorem envR_start {K : PySem.W.Frag} {ι : List Addr} {H : Hp} : ∀ {ds : List D} {vs : List V}, RpA K ι H ds vs → ∀ r : Nat, EnvR K ι H (ds.map some ++ List.replicate r none) (vs.map some ++ List.replicate r none)
  | _, _, .nil, r => by
    induction r with
    | zero => exact .nil
    | succ r ih => exact .cons trivial ih
  | _, _, .cons h t, r => .cons h (envR_start t r)
section
variable {P : Program} {w : World} {K : PySem.W.Frag} {mg : Str → Option Value} {base : Heap}
/-- a def by its body -/
theorem okF {x qual : Str} {params : Arguments} {body : List Stmt} {scope : Scope} {f : Addr} {fd : FuncData} {N ps : List Str} {k : Nat} {mb : MS} (F : FunD K x qual params body scope [] [] f fd) (S : FnScope N ps scope)
    (hbody : ∀ (cdv : Value) (A : Around) (outer : List PySem.Env) (s : Shared) (H : Hp) (E : XK), let X := cxOf (L2N.CX P w) P w K mg base N qual scope f cdv A outer s H E
      Ctx X (fun cls d _ H => E cls d H) k → PSs X body (LS K (fun cls d _ H => E cls d H) mb)) :
    FnOk P w K mg base (L2N.CX P w) (k + 1) f fd ps (spD K ps.length (fnD ps.length N.length mb)) := by
  refine F.ok S (fun vs H Q E h => h.1) ?_
  rintro cdv A outer s H vs Q E hr ⟨hl, ι, ds, M, SS, rs, h⟩
  have C : Ctx (cxOf (L2N.CX P w) P w K mg base N qual scope f cdv A outer s H E) (fun cls d _ H => E cls d H) k := ⟨rfl, S.nd, hr, L2N.takes_of rfl rfl rfl rfl, passes_of rfl⟩
  refine ⟨_, hbody cdv A outer s H E C, ι, startE N.length ds, M, SS, ?_, ?_⟩
  · unfold startE L2.start
    rw [rs.length]
    exact envR_start rs _
  · unfold fnD at h
    rw [if_pos (by rw [rs.length]; exact hl)] at h
    revert h
    cases mb (startE N.length ds) M with
    | next env M1 => exact fun h ι1 σ1 H1 e1 S1 _ => h ι1 H1 e1 S1 _ .non
    | ret d M1 => exact fun h ι1 v H1 e1 S1 r => h ι1 H1 e1 S1 v r
    | exc y env M1 => exact fun h ι1 σ1 H1 cls dx e1 S1 _ ex => h ι1 H1 cls dx e1 S1 ex
    | stuck => exact fun h => h
theorem okD {x qual : Str} {params : Arguments} {body : List Stmt} {scope : Scope} {f : Addr} {N ps : List Str} {k : Nat} {mb : MS} (F : ∃ fd, FunD K x qual params body scope [] [] f fd) (S : FnScope N ps scope) (hm : mg x = some (.ref f))
    (hbind : ∀ (kV doc pm : Value) (an : Option Addr) (cdv ct : Value) (us : List Value), us.length = ps.length → bindArgs (PySem.W.fnOf x qual params body scope .none kV doc pm an cdv ct) ⟨us, []⟩ = pure (ps.zip us))
    (hbody : ∀ (cdv : Value) (A : Around) (outer : List PySem.Env) (s : Shared) (H : Hp) (E : XK), let X := cxOf (L2N.CX P w) P w K mg base N qual scope f cdv A outer s H E
      Ctx X (fun cls d _ H => E cls d H) k → PSs X body (LS K (fun cls d _ H => E cls d H) mb)) :
    Callee P w K mg base x ps.length (k + 1) (fnD ps.length N.length mb) := by
  obtain ⟨fd, F⟩ := F
  exact ⟨⟨f, fd, ps, okF F S hbody, hm, F.kp, F.bindsN hbind, rfl⟩, fun ds M h => if_neg h⟩
/-- nothing is promised -/
theorem noD {x qual : Str} {params : Arguments} {body : List Stmt} {scope : Scope} {f : Addr} {ps : List Str} {k : Nat} (F : ∃ fd, FunD K x qual params body scope [] [] f fd) (hm : mg x = some (.ref f))
    (hbind : ∀ (kV doc pm : Value) (an : Option Addr) (cdv ct : Value) (us : List Value), us.length = ps.length → bindArgs (PySem.W.fnOf x qual params body scope .none kV doc pm an cdv ct) ⟨us, []⟩ = pure (ps.zip us)) :
    Callee P w K mg base x ps.length k noFn := by
  obtain ⟨fd, F⟩ := F
  exact ⟨⟨f, fd, ps, ⟨fun vs H Q E h => h.1, fun A outer s H args us vs Q E _ _ _ _ h => by obtain ⟨_, ι, ds, M, _, _, z⟩ := h; exact z.elim⟩, hm, F.kp, F.bindsN hbind, rfl⟩, fun _ _ _ => rfl⟩
end
end TL
end
section
set_option maxHeartbeats 2000000
/-! the tree layer: the head and the end -/
namespace TL
open PySem PySem.Spec PyProof.Rows L2

/-! ### the head's facts: a Bool and the defs -/
abbrev AlB : Type := Bool × List He.FnW
def obsB (ok : PySem.W.Frag → Bool) (fn : List He.DefD) (K : PySem.W.Frag) : AlB := (ok K && fn.all (fun d => d.ok K), fn.map fun d => He.fnW K d.at_)
def valB (fn : List He.DefD) : AlB := (true, fn.map He.DefD.val)
def SaysB (ok : PySem.W.Frag → Bool) (fn : List He.DefD) (K : PySem.W.Frag) : Prop := obsB ok fn K = valB fn
def obsBG (n : Nat) (ok : PySem.W.Frag → Bool) (fn : List He.DefD) (g : Addr → Option Obj) : AlB := obsB ok fn (He.frG g (He.asD g n))
def hookB (n : Nat) (ok : PySem.W.Frag → Bool) (fn : List He.DefD) : PySem.W.Hook where
  α := AlB
  obs := fun s => obsBG n ok fn s.heap.get?
  val := fun _ => valB fn
  says := fun _ h => ∃ K : PySem.W.Frag, K.In h ∧ SaysB ok fn K
  of := fun _ _ e => ⟨_, He.frG_in, e⟩
  keeps := fun _ _ _ ⟨K, hK, c⟩ k => ⟨K, PySem.W.Frag.In.keeps hK k, c⟩
theorem obsBG_eq {n : Nat} {ok : PySem.W.Frag → Bool} {fn : List He.DefD} {g : Addr → Option Obj} {s : Shared} (h : ∀ a, g a = s.heap.get? a) : obsBG n ok fn g = (hookB n ok fn).obs s := by
  have e : g = s.heap.get? := funext h
  rw [e] <;> rfl
section
variable {ok : PySem.W.Frag → Bool} {fn : List He.DefD} {K : PySem.W.Frag}
theorem SaysB.fact (c : SaysB ok fn K) : ok K = true := (He.ba (show (ok K && fn.all fun d => d.ok K) = true from congrArg (fun z : AlB => z.1) c)).1
theorem SaysB.def_ (c : SaysB ok fn K) (i : Nat) {d : He.DefD} (h : fn[i]? = some d := by rfl) : ∃ fd, FunD K d.name d.qual d.params d.body d.scope (d.dvs K) (d.kws K) (He.fAd K d.at_) fd := by
  have c2 := (He.ba (show (ok K && fn.all fun d => d.ok K) = true from congrArg (fun z : AlB => z.1) c)).2
  have e : fn.map (fun d => He.fnW K d.at_) = fn.map He.DefD.val := congrArg (fun z : AlB => z.2) c
  have e2 : (fn.map fun d => He.fnW K d.at_)[i]? = (fn.map He.DefD.val)[i]? := by rw [e]
  rw [List.getElem?_map, List.getElem?_map, h] at e2
  exact He.DefD.funD (Option.some.inj e2) (List.all_eq_true.mp c2 d (List.mem_of_getElem? h))
/-- all of some -/
theorem all_at {α : Type} {p : α → Bool} {l : List α} (h : l.all p = true) (i : Nat) {a : α} (e : l[i]? = some a := by rfl) : p a = true := List.all_eq_true.mp h a (List.mem_of_getElem? e)
/-- the module's name x is a tuple of these -/
theorem glob_tup {h : Heap} {mg : Str → Option Value} (X : K.In h) (G : h.Ns mainGlobals mg) {x : Str} {vs : List He.Dv} {ds : List D} (c1 : (He.Fa.glo x).ok K = true) (c2 : He.tupB K x vs = true) (r : ∀ ι H, RpA K ι H ds (vs.map (He.Dv.v K))) : Glob K mg x (.tup ds) :=
  ⟨.ref (He.ga K x), _, He.glo_ok X G c1, rfl, fun ι H => .tup (He.tupB_ok c2 H) (r ι H)⟩
theorem glob_int {h : Heap} {mg : Str → Option Value} (X : K.In h) (G : h.Ns mainGlobals mg) {x : Str} {i : Int} (c : (He.Fa.int x i).ok K = true) : Glob K mg x (.int i) := by
  obtain ⟨t, e⟩ := He.int_ok X G c
  exact ⟨.int i, _, e, ⟨t, rfl⟩, fun ι H => .int i⟩
theorem glob_str {h : Heap} {mg : Str → Option Value} (X : K.In h) (G : h.Ns mainGlobals mg) {x z : Str} (c : (He.Fa.str x z).ok K = true) : Glob K mg x (.str z) := by
  obtain ⟨t, e⟩ := He.str_ok X G c
  exact ⟨.str z, _, e, ⟨t, rfl⟩, fun ι H => .str z⟩
end
/-! ### the end -/
theorem walk_ofW {l : PySem.W.OpenLaw} {n k : Nat} {q : Program} {loose : List Str} {XP : (Str → Option Value) → Heap → Prop} {YP : World → Heap → Prop} {d : DefRec} {CX : World → CXT} {x : Str}
    (hn : l.most = some n) (hn2 : n ≤ sizeLine) (hdf : d.params.defaults = []) (hr : Room k callerA)
    (F : ∀ (w : World) (mg : Str → Option Value) (fa : Addr) (h : Heap), YP w h → h.Ns mainGlobals mg → mg d.name = some (.ref fa) →
      ∃ (K : PySem.W.Frag) (fd : FuncData) (sp : Sp), K.In h ∧ (∀ (s : Shared) (u : Value), BindsTo s fd ⟨[u], []⟩ [(x, u)]) ∧
        (∀ (H : Hp) (a : Addr) (ns : List Int), ns.length ≤ n → Only H → SqL K H a (ns.map V.int) → sp [.ref a] H (fun v _ => v = .bl true) fun _ _ _ => False) ∧
        ∀ base : Heap, K.In base → base.Ns mainGlobals mg → FnOk l.prog w K mg base (CX w) k fa fd [x] sp)
    (hCX : ∀ (w : World) (H : Hp) (s : Shared) (e : Value) (s' : Shared), CX w [] H s (fun _ _ _ => False) e s' → False) :
    PySem.W.WalkO q loose XP YP l.row.toRowW d [] (fun f vs => PySem.call f vs) := by
  refine Att.attach_call hn hdf fun w s₀ s₁ mg mb fa o pm cd doc a vs ns G Y ho hd hcd hmg hobj hints hlen hg => ?_
  obtain ⟨K, fd, sp, KX, hb, hsp, hF⟩ := F w mg fa _ Y G.T.g hmg
  exact law_call KX G.T.g G.T.b G.T.builtins G.T.nolimit hg hobj hints (Nat.le_trans hlen hn2) hr hF hb (fun H hO hS => hsp H a ns hlen hO hS) fun H e s' => hCX w H s₁ e s'
theorem cx_false {P : Program} {w : World} {H : Hp} {s : Shared} {e : Value} {s' : Shared} (h : L2N.CX P w [] H s (fun _ _ _ => False) e s') : False := by
  obtain ⟨_, _, _, _, _, _, _, _, _, _, _, _, z⟩ := h
  exact z
theorem ints_rp {K : PySem.W.Frag} {ι : List Addr} {H : Hp} : ∀ ns : List Int, RpA K ι H (ns.map D.int) (ns.map V.int)
  | [] => .nil
  | i :: ns => .cons (.int i) (ints_rp ns)
theorem law_sp {K : PySem.W.Frag} {m : Fn} {H : Hp} {a : Addr} {ns : List Int} (hO : Only H) (hS : SqL K H a (ns.map V.int)) (h : ∃ M', m [.ref 0] [.rol (ns.map D.int)] = .ok (.bl true) M') :
    spD K 1 m [.ref a] H (fun v _ => v = .bl true) fun _ _ _ => False := by
  obtain ⟨M', h⟩ := h
  refine ⟨rfl, [a], [.ref 0], [.rol (ns.map D.int)], ⟨rfl, fun n b o h1 h2 => ?_, fun n m b o u h1 h2 h3 h4 m1 m2 => ?_⟩, .cons (.ref rfl) .nil, ?_⟩
  · match n, h1, h2 with
    | 0, h1, h2 =>
      cases h1; cases h2
      refine ⟨_, ?_, ints_rp ns⟩
      rcases hS with (h | ⟨o, h⟩) | h
      · rcases hO a with q | ⟨o, xs, q⟩ <;> rw [q] at h <;> cases h
      · exact .inl ⟨o, h⟩
      · exact .inr h
    | n + 1, h1, h2 => cases h1
  · match n, h3 with
    | 0, h3 => cases h3; cases m1
    | n + 1, h3 => cases h3
  · rw [h]
    exact fun ι' H' e s v r => r.bl_inv
end TL
end
section
/-! the tree layer: further built-ins -/
namespace TL
open PySem PySem.Spec PyProof.Rows L2
theorem Ctx.hu {X : Cx} {W : WX} {k : Nat} (C : Ctx X W k) : X.A.units + 64 < cLine := C.room.units
def nInt : OpN := fun ds M => match ds with
  | [.int i] => some (.int i, M)
  | [.bl b] => some (.int (if b then 1 else 0), M)
  | _ => none
theorem c_int {X : Cx} : CallR X (.type "int") (rDN X.K nInt) := by
  refine CallR.imp call_int1 fun xs H Q h => ?_
  obtain ⟨ι, M, ds, S, r, h⟩ := h
  unfold nInt at h
  split at h
  · obtain ⟨v, rfl, rv⟩ := r.one_inv
    cases rv.int_inv
    exact .inl ⟨_, rfl, h.val S (.int _)⟩
  · obtain ⟨v, rfl, rv⟩ := r.one_inv
    cases rv.bl_inv
    exact .inr ⟨_, rfl, OpO.val S h (.int _)⟩
  · exact h.elim
end TL
end
section
/-! the tree layer: how mirrors are reckoned -/
namespace TL
open PySem PySem.Spec PyProof.Rows L2

section
variable {env : Env} {M : Mem}
@[simp] theorem eVar_ap {i : Nat} : eVar i env M = match env[i]? with | some (some d) => .ok d M | _ => .stuck := rfl
@[simp] theorem eC_ap {d : D} : eC d env M = .ok d M := rfl
@[simp] theorem eBin_ap {f : Op2} {a b : ME} : eBin f a b env M = (a env M).bind fun x M1 => (b env M1).bind fun y M2 => liftO (f x y M2) := rfl
@[simp] theorem eUn_ap {f : Op1} {a : ME} : eUn f a env M = (a env M).bind fun x M1 => liftO (f x M1) := rfl
@[simp] theorem eChain_ap {f g : Op2} {a b c : ME} : eChain f g a b c env M = (a env M).bind fun x M1 => (b env M1).bind fun y M2 => (liftO (f x y M2)).bind fun z M3 => kBl z fun k =>
  if k = true then (c env M3).bind fun w M4 => liftO (g y w M4) else .ok (.bl false) M3 := rfl
@[simp] theorem eAnd_ap {a b : ME} : eAnd a b env M = (a env M).bind fun x M1 => kBl x fun k => if k = true then b env M1 else .ok (.bl false) M1 := rfl
@[simp] theorem eOr_ap {a b : ME} : eOr a b env M = (a env M).bind fun x M1 => kBl x fun k => if k = true then .ok (.bl true) M1 else b env M1 := rfl
@[simp] theorem eNot_ap {a : ME} : eNot a env M = (a env M).bind fun x M1 => kBl x fun k => .ok (.bl (!k)) M1 := rfl
@[simp] theorem eIf_ap {t : MT} {a b : ME} : eIf t a b env M = (t env M).bind fun k M1 => if k = true then a env M1 else b env M1 := rfl
@[simp] theorem tB_ap {e : ME} : tB e env M = (e env M).bind fun d M1 => kBl d fun k => .ok k M1 := rfl
@[simp] theorem tTru_ap {e : ME} : tTru e env M = (e env M).bind fun d M1 => match truD M1 d with | some k => .ok k M1 | none => .stuck := rfl
@[simp] theorem tAnd_ap {a b : MT} : tAnd a b env M = (a env M).bind fun k M1 => if k = true then b env M1 else .ok false M1 := rfl
@[simp] theorem tOr_ap {a b : MT} : tOr a b env M = (a env M).bind fun k M1 => if k = true then .ok true M1 else b env M1 := rfl
@[simp] theorem tNot_ap {a : MT} : tNot a env M = (a env M).bind fun k M1 => .ok (!k) M1 := rfl
@[simp] theorem aNil_ap : aNil env M = .ok [] M := rfl
@[simp] theorem aCons_ap {a : ME} {r : MA} : aCons a r env M = (a env M).bind fun x M1 => (r env M1).bind fun xs M2 => .ok (x :: xs) M2 := rfl
@[simp] theorem eTup_ap {a : MA} : eTup a env M = (a env M).bind fun xs M1 => if xs.length ≤ 1000 then .ok (.tup xs) M1 else .stuck := rfl
@[simp] theorem eLst_ap {a : MA} : eLst a env M = (a env M).bind fun xs M1 => if xs.length ≤ 1000 then .ok (.ref M1.length) (M1 ++ [.lst xs]) else .stuck := rfl
@[simp] theorem eCall_ap {m : Fn} {a : MA} : eCall m a env M = (a env M).bind m := rfl
@[simp] theorem eCallO_ap {f : OpN} {a : MA} : eCallO f a env M = (a env M).bind fun xs M1 => liftO (f xs M1) := rfl
@[simp] theorem oNone_ap : oNone env M = .ok none M := rfl
@[simp] theorem oSome_ap {a : ME} : oSome a env M = (a env M).bind fun x M1 => kInt x fun i => .ok (some i) M1 := rfl
@[simp] theorem eSl_ap {a : ME} {lo hi : MO'} : eSl a lo hi env M = (a env M).bind fun x M1 => (lo env M1).bind fun l M2 => (hi env M2).bind fun h M3 => liftO (mSl x l h M3) := rfl
@[simp] theorem eIsi_ap {T : String} {a : ME} : eIsi T a env M = (a env M).bind fun x M1 => liftO (mIsi T x M1) := rfl
@[simp] theorem eMeth_ap {T : String} {f : D → OpN} {o : ME} {a : MA} : eMeth T f o a env M = (o env M).bind fun x M1 => if tyD T M1 x = true then (a env M1).bind fun xs M2 => liftO (f x xs M2) else .stuck := rfl
@[simp] theorem sNil_ap : sNil env M = .next env M := rfl
@[simp] theorem sSeq_ap {a b : MS} : sSeq a b env M = nextS (a env M) b := rfl
@[simp] theorem sExpr_ap {e : ME} : sExpr e env M = thenS env (e env M) fun _ M1 => .next env M1 := rfl
@[simp] theorem sRet_ap {e : ME} : sRet e env M = thenS env (e env M) fun d M1 => .ret d M1 := rfl
@[simp] theorem sRetN_ap : sRetN env M = .ret .non M := rfl
@[simp] theorem sIf_ap {t : MT} {a b : MS} : sIf t a b env M = thenS env (t env M) fun k M1 => if k = true then a env M1 else b env M1 := rfl
@[simp] theorem sAsg_ap {g : MG} {e : ME} : sAsg g e env M = thenS env (e env M) fun d M1 => match g d env with | some env' => .next env' M1 | none => .stuck := rfl
@[simp] theorem sSub_ap {o i e : ME} : sSub o i e env M = thenS env (e env M) fun v M1 => thenS env (o env M1) fun x M2 => thenS env (i env M2) fun y M3 => match setD x y v M3 with | some M4 => .next env M4 | none => .stuck := rfl
@[simp] theorem sFor_ap {i : MI} {g : MG} {b : MS} : sFor i g b env M = thenS env (i env M) fun s M1 => forL s.good g b s.items env M1 := rfl
@[simp] theorem gOne_ap {i : Nat} {d : D} : gOne i d env = some (env.set i (some d)) := rfl
@[simp] theorem tYesD_ap : tYesD env M = .ok true M := rfl
open Classical in
@[simp] theorem iRange1_ap {e : ME} : iRange1 e env M = (e env M).bind fun d M1 => kInt d fun j => if RngOk j then .ok ⟨rngItems 0 j.toNat, fun _ => True⟩ M1 else .stuck := rfl
open Classical in
@[simp] theorem iRange2_ap {a b : ME} : iRange2 a b env M = (a env M).bind fun d M1 => (b env M1).bind fun d2 M2 => kInt d fun i => kInt d2 fun j => if RngOk i ∧ RngOk j then .ok ⟨rngItems i (j - i).toNat, fun _ => True⟩ M2 else .stuck := rfl
@[simp] theorem rngOk_of {j : Int} (h0 : 0 ≤ j) (h1 : j ≤ 1000000) : RngOk j := ⟨Int.le_trans (by decide) h0, Int.lt_of_le_of_lt h1 (by decide)⟩
@[simp] theorem rngOk_nat {n : Nat} (h1 : n ≤ 1000000) : RngOk (n : Int) := rngOk_of (by omega) (by omega)
@[simp] theorem iAny_ap {e : ME} : iAny e env M = (e env M).bind fun d M1 => match srcOf M1 d with | some s => .ok s M1 | none => .stuck := rfl
@[simp] theorem eComp_ap {i : Nat} {s : MI} {t : MT} {e : ME} : eComp i s t e env M = (s env M).bind fun s M1 => (compL s.good i t e M1.length env s.items (M1 ++ [.lst []])).bind fun _ M2 => .ok (.ref M1.length) M2 := rfl
@[simp] theorem gTupD_ap {is : List Nat} {ds : List D} : gTupD is (.tup ds) env = if ds.length = is.length then some (setAll env is ds) else none := rfl
@[simp] theorem setAll_cons {i : Nat} {is : List Nat} {d : D} {ds : List D} : setAll env (i :: is) (d :: ds) = setAll (env.set i (some d)) is ds := rfl
@[simp] theorem setAll_nil {ds : List D} : setAll env [] ds = env := by cases ds <;> rfl
/-! operations -/
variable {i j : Int} {b c : Bool} {x y : Str} {xs ys : List D} {n m : Nat} {d e : D}
@[simp] theorem mAdd_int : mAdd (.int i) (.int j) M = some (.int (i + j), M) := rfl
@[simp] theorem mAdd_tup : mAdd (.tup xs) (.tup ys) M = if xs.length + ys.length ≤ sizeLine then some (.tup (xs ++ ys), M) else none := rfl
@[simp] theorem mAdd_str : mAdd (.str x) (.str y) M = if x.length + y.length ≤ sizeLine then some (.str (x ++ y), M) else none := rfl
@[simp] theorem mAdd_ref : mAdd (.ref n) (.ref m) M = match M[n]?, M[m]? with
    | some (.lst xs), some (.lst ys) => if xs.length + ys.length ≤ sizeLine then some (.ref M.length, M ++ [.lst (xs ++ ys)]) else none
    | _, _ => none := rfl
@[simp] theorem mSub_int : mSub (.int i) (.int j) M = some (.int (i - j), M) := rfl
@[simp] theorem mMod_int : mMod (.int i) (.int j) M = if 0 < j then some (.int (i % j), M) else none := rfl
@[simp] theorem mFdiv_int : mFdiv (.int i) (.int j) M = if 0 < j ∧ j < 1073741824 then some (.int (i / j), M) else none := rfl
@[simp] theorem mPow_int : mPow (.int i) (.int j) M = if 0 ≤ j ∧ j ≤ 1000000 ∧ i.natAbs < 2 ^ 64 then some (.int (i ^ j.toNat), M) else none := rfl
@[simp] theorem mMul_int : mMul (.int i) (.int j) M = @ite _ ((-(2 ^ 64) < i ∧ i < 2 ^ 64) ∨ (-(2 ^ 64) < j ∧ j < 2 ^ 64)) (Classical.propDecidable _) (some (.int (i * j), M)) none := rfl
@[simp] theorem mNeg_int : mNeg (.int i) M = some (.int (-i), M) := rfl
@[simp] theorem mLt_int : mCmp (fun i j => decide (i < j)) (.int i) (.int j) M = some (.bl (decide (i < j)), M) := rfl
@[simp] theorem mLe_int : mCmp (fun i j => decide (i ≤ j)) (.int i) (.int j) M = some (.bl (decide (i ≤ j)), M) := rfl
@[simp] theorem mGt_int : mCmp (fun i j => decide (j < i)) (.int i) (.int j) M = some (.bl (decide (j < i)), M) := rfl
@[simp] theorem mGe_int : mCmp (fun i j => decide (j ≤ i)) (.int i) (.int j) M = some (.bl (decide (j ≤ i)), M) := rfl
theorem mEq_eq : mEq d e M = (eqD M d e).map fun k => (.bl k, M) := rfl
theorem mNe_eq : mNe d e M = (eqD M d e).map fun k => (.bl (!k), M) := rfl
@[simp] theorem eqD_int : eqD M (.int i) (.int j) = some (decide (i = j)) := by
  have : (i == j) = decide (i = j) := rfl
  rw [← this]; rfl
@[simp] theorem mEq_int : mEq (.int i) (.int j) M = some (.bl (decide (i = j)), M) := by rw [mEq_eq, eqD_int]; rfl
@[simp] theorem mNe_int : mNe (.int i) (.int j) M = some (.bl (!decide (i = j)), M) := by rw [mNe_eq, eqD_int]; rfl
@[simp] theorem mIs_non : mIs d .non M = some (.bl (isNon d), M) := rfl
@[simp] theorem mIsNot_non : mIsNot d .non M = some (.bl (!isNon d), M) := rfl
@[simp] theorem mIs_bl : mIs (.bl b) (.bl c) M = some (.bl (b == c), M) := rfl
@[simp] theorem mIsNot_bl : mIsNot (.bl b) (.bl c) M = some (.bl (!(b == c)), M) := rfl
@[simp] theorem isNon_non : isNon .non = true := rfl
@[simp] theorem isNon_int : isNon (.int i) = false := rfl
@[simp] theorem isNon_bl : isNon (.bl b) = false := rfl
@[simp] theorem isNon_str : isNon (.str x) = false := rfl
@[simp] theorem isNon_tup : isNon (.tup xs) = false := rfl
@[simp] theorem isNon_ref : isNon (.ref n) = false := rfl
@[simp] theorem mIdx_tup : mIdx (.tup xs) (.int i) M = (atI xs i).map fun d => (d, M) := rfl
@[simp] theorem mIdx_ref : mIdx (.ref n) (.int i) M = match seqAt M n with | some xs => (atI xs i).map fun d => (d, M) | none => none := rfl
@[simp] theorem mSl_tup {lo hi : Option Int} : mSl (.tup xs) lo hi M = some (.tup (cutL xs lo hi), M) := rfl
@[simp] theorem mSl_ref {lo hi : Option Int} : mSl (.ref n) lo hi M = match seqAt M n with | some xs => some (.ref M.length, M ++ [.lst (cutL xs lo hi)]) | none => none := rfl
@[simp] theorem nLen_tup : nLen [.tup xs] M = some (.int (xs.length : Nat), M) := rfl
@[simp] theorem nLen_ref : nLen [.ref n] M = (seqAt M n).map fun xs => (.int (xs.length : Nat), M) := rfl
@[simp] theorem nLen_str : nLen [.str x] M = if x.length ≤ sizeLine then some (.int (x.length : Nat), M) else none := rfl
@[simp] theorem nMax2_int : nMax2 [.int i, .int j] M = some (.int (if j > i then j else i), M) := rfl
@[simp] theorem nMin2_int : nMin2 [.int i, .int j] M = some (.int (if j < i then j else i), M) := rfl
@[simp] theorem nInt_int : nInt [.int i] M = some (.int i, M) := rfl
@[simp] theorem nInt_bl : nInt [.bl b] M = some (.int (if b then 1 else 0), M) := rfl
@[simp] theorem mIsi_int {T : String} : mIsi T (.int i) M = (kitB "int" T).map fun b => (.bl b, M) := rfl
@[simp] theorem mIsi_bl {T : String} : mIsi T (.bl b) M = (kitB "bool" T).map fun b => (.bl b, M) := rfl
@[simp] theorem mIsi_str {T : String} : mIsi T (.str x) M = (kitB "str" T).map fun b => (.bl b, M) := rfl
@[simp] theorem mIsi_non {T : String} : mIsi T .non M = (kitB "NoneType" T).map fun b => (.bl b, M) := rfl
@[simp] theorem mIsi_tup {T : String} : mIsi T (.tup xs) M = (kitB "tuple" T).map fun b => (.bl b, M) := rfl
theorem mIsi_ref {T : String} (h : seqAt M n = some xs) : mIsi T (.ref n) M = (kitB "list" T).map fun b => (.bl b, M) := by
  have e : tyName M (.ref n) = some "list" := by show (seqAt M n).map (fun _ => "list") = _; rw [h]; rfl
  unfold mIsi; rw [e]
@[simp] theorem kit_ii : kitB "int" "int" = some true := by decide +kernel
@[simp] theorem kit_ib : kitB "int" "bool" = some false := by decide +kernel
@[simp] theorem kit_it : kitB "int" "tuple" = some false := by decide +kernel
@[simp] theorem kit_is : kitB "int" "str" = some false := by decide +kernel
@[simp] theorem kit_il : kitB "int" "list" = some false := by decide +kernel
@[simp] theorem kit_bi : kitB "bool" "int" = some true := by decide +kernel
@[simp] theorem kit_bb : kitB "bool" "bool" = some true := by decide +kernel
@[simp] theorem kit_bt : kitB "bool" "tuple" = some false := by decide +kernel
@[simp] theorem kit_bs : kitB "bool" "str" = some false := by decide +kernel
@[simp] theorem kit_bl : kitB "bool" "list" = some false := by decide +kernel
@[simp] theorem kit_si : kitB "str" "int" = some false := by decide +kernel
@[simp] theorem kit_sb : kitB "str" "bool" = some false := by decide +kernel
@[simp] theorem kit_st : kitB "str" "tuple" = some false := by decide +kernel
@[simp] theorem kit_ss : kitB "str" "str" = some true := by decide +kernel
@[simp] theorem kit_sl : kitB "str" "list" = some false := by decide +kernel
@[simp] theorem kit_ni : kitB "NoneType" "int" = some false := by decide +kernel
@[simp] theorem kit_nb : kitB "NoneType" "bool" = some false := by decide +kernel
@[simp] theorem kit_nt : kitB "NoneType" "tuple" = some false := by decide +kernel
@[simp] theorem kit_ns : kitB "NoneType" "str" = some false := by decide +kernel
@[simp] theorem kit_nl : kitB "NoneType" "list" = some false := by decide +kernel
@[simp] theorem kit_ti : kitB "tuple" "int" = some false := by decide +kernel
@[simp] theorem kit_tb : kitB "tuple" "bool" = some false := by decide +kernel
@[simp] theorem kit_tt : kitB "tuple" "tuple" = some true := by decide +kernel
@[simp] theorem kit_ts : kitB "tuple" "str" = some false := by decide +kernel
@[simp] theorem kit_tl : kitB "tuple" "list" = some false := by decide +kernel
@[simp] theorem kit_li : kitB "list" "int" = some false := by decide +kernel
@[simp] theorem kit_lb : kitB "list" "bool" = some false := by decide +kernel
@[simp] theorem kit_lt : kitB "list" "tuple" = some false := by decide +kernel
@[simp] theorem kit_ls : kitB "list" "str" = some false := by decide +kernel
@[simp] theorem kit_ll : kitB "list" "list" = some true := by decide +kernel
end
/-- it ends with a value, and this is so of it -/
def Ret {α : Type} (o : Out α) (P : α → Mem → Prop) : Prop := ∃ a M, o = .ok a M ∧ P a M
theorem Ret.ok_iff {α : Type} {a : α} {M : Mem} {P : α → Mem → Prop} : Ret (.ok a M) P ↔ P a M := ⟨fun ⟨_, _, e, h⟩ => by cases e; exact h, fun h => ⟨_, _, rfl, h⟩⟩
theorem Ret.ok {α : Type} {a : α} {M : Mem} {P : α → Mem → Prop} (h : P a M) : Ret (.ok a M) P := ⟨_, _, rfl, h⟩
theorem Ret.imp {α : Type} {o : Out α} {P Q : α → Mem → Prop} (h : Ret o P) (k : ∀ a M, P a M → Q a M) : Ret o Q := by
  obtain ⟨a, M, e, p⟩ := h
  exact ⟨a, M, e, k a M p⟩
theorem Ret.bind {α β : Type} {o : Out α} {f : α → Mem → Out β} {P : α → Mem → Prop} {Q : β → Mem → Prop} (h : Ret o P) (k : ∀ a M, P a M → Ret (f a M) Q) : Ret (o.bind f) Q := by
  obtain ⟨a, M, rfl, p⟩ := h
  exact k a M p
/-! places -/
theorem atI_ok {α : Type} {xs : List α} {i : Int} (h0 : 0 ≤ i) (h1 : i < xs.length) : ∃ a, xs[i.toNat]? = some a ∧ atI xs i = some a := by
  have hl : i.toNat < xs.length := by omega
  refine ⟨xs[i.toNat], List.getElem?_eq_getElem hl, ?_⟩
  unfold atI ixN
  rw [if_pos h0, if_pos h1]
  exact List.getElem?_eq_getElem hl
theorem seqAt_lst {M : Mem} {n : Nat} {xs : List D} (h : M[n]? = some (.lst xs)) : seqAt M n = some xs := by unfold seqAt; rw [h]
theorem seqAt_rol {M : Mem} {n : Nat} {xs : List D} (h : M[n]? = some (.rol xs)) : seqAt M n = some xs := by unfold seqAt; rw [h]
@[simp] theorem atI_0 {α : Type} {a : α} {xs : List α} : atI (a :: xs) 0 = some a := by simp [atI, ixN]
theorem atI_lit {α : Type} {xs : List α} (k : Nat) {a : α} (h : xs[k]? = some a) : atI xs (k : Int) = some a := atI_nat h
@[simp] theorem atI_1 {α : Type} {a b : α} {xs : List α} : atI (a :: b :: xs) 1 = some b := atI_lit (xs := a :: b :: xs) 1 rfl
@[simp] theorem atI_2 {α : Type} {a b c : α} {xs : List α} : atI (a :: b :: c :: xs) 2 = some c := atI_lit (xs := a :: b :: c :: xs) 2 rfl
@[simp] theorem atI_3 {α : Type} {a b c d : α} {xs : List α} : atI (a :: b :: c :: d :: xs) 3 = some d := atI_lit (xs := a :: b :: c :: d :: xs) 3 rfl
@[simp] theorem atI_4 {α : Type} {a b c d e : α} {xs : List α} : atI (a :: b :: c :: d :: e :: xs) 4 = some e := atI_lit (xs := a :: b :: c :: d :: e :: xs) 4 rfl
@[simp] theorem atI_5 {α : Type} {a b c d e f : α} {xs : List α} : atI (a :: b :: c :: d :: e :: f :: xs) 5 = some f := atI_lit (xs := a :: b :: c :: d :: e :: f :: xs) 5 rfl
@[simp] theorem atI_6 {α : Type} {a b c d e f g : α} {xs : List α} : atI (a :: b :: c :: d :: e :: f :: g :: xs) 6 = some g := atI_lit (xs := a :: b :: c :: d :: e :: f :: g :: xs) 6 rfl
end TL
end
section
/-! the tree layer: data without memory -/
namespace TL
open PySem PySem.Spec PyProof.Rows L2
mutual
/-- no list in it, its texts are texts, at most n deep -/
def pureD : D → Nat → Bool
  | .non, _ => true
  | .bl _, _ => true
  | .int _, _ => true
  | .str x, _ => PyData.strOk x
  | .tup _, 0 => false
  | .tup xs, n + 1 => pureL xs n
  | .ref _, _ => false
  | .err _, _ => false
def pureL : List D → Nat → Bool
  | [], _ => true
  | x :: xs, n => pureD x n && pureL xs n
end
mutual
def pyD : D → PyData
  | .non => .none
  | .bl b => .bool b
  | .int i => .int i
  | .str x => .str x
  | .tup xs => .tuple (pyL xs)
  | .ref _ => .none
  | .err _ => .none
def pyL : List D → List PyData
  | [] => []
  | x :: xs => pyD x :: pyL xs
end
mutual
theorem toP_pure {M : Mem} : ∀ (d : D) (n : Nat), pureD d n = true → toP (n + 1) M d = some (pyD d)
  | .non, _, _ => rfl
  | .bl _, _, _ => rfl
  | .int _, _, _ => rfl
  | .str _, _, _ => rfl
  | .tup xs, 0, h => by simp [pureD] at h
  | .tup xs, n + 1, h => by
    have h' : pureL xs n = true := by simpa [pureD] using h
    show (optAll (toP (n + 1) M) xs).map PyData.tuple = _
    rw [toP_pureL xs n h']
    simp [pyD]
  | .ref _, _, h => by simp [pureD] at h
  | .err _, _, h => by simp [pureD] at h
theorem toP_pureL {M : Mem} : ∀ (ds : List D) (n : Nat), pureL ds n = true → optAll (toP (n + 1) M) ds = some (pyL ds)
  | [], _, _ => rfl
  | x :: xs, n, h => by
    have h' : pureD x n = true ∧ pureL xs n = true := by simpa [pureL] using h
    unfold optAll
    rw [toP_pure x n h'.1, toP_pureL xs n h'.2]
    simp [pyL]
end
mutual
theorem lay_pure : ∀ (d : D) (n : Nat), pureD d n = true → (pyD d).canLay0 = true ∧ (pyD d).depth ≤ n
  | .non, _, _ => by simp [pyD, PyData.canLay0, PyData.depth]
  | .bl _, _, _ => by simp [pyD, PyData.canLay0, PyData.depth]
  | .int _, _, _ => by simp [pyD, PyData.canLay0, PyData.depth]
  | .str x, _, h => by
    have h' : PyData.strOk x = true := by simpa [pureD] using h
    simp [pyD, PyData.canLay0, PyData.depth, h']
  | .tup xs, 0, h => by simp [pureD] at h
  | .tup xs, n + 1, h => by
    have h' : pureL xs n = true := by simpa [pureD] using h
    obtain ⟨h1, h2⟩ := lay_pureL xs n h'
    simp [pyD, PyData.canLay0, PyData.depth, h1, h2]
  | .ref _, _, h => by simp [pureD] at h
  | .err _, _, h => by simp [pureD] at h
theorem lay_pureL : ∀ (ds : List D) (n : Nat), pureL ds n = true → PyData.canLayAll0 (pyL ds) = true ∧ PyData.depthAll (pyL ds) ≤ n
  | [], _, _ => by simp [pyL, PyData.canLayAll0, PyData.depthAll]
  | x :: xs, n, h => by
    have h' : pureD x n = true ∧ pureL xs n = true := by simpa [pureL] using h
    obtain ⟨h1, h2⟩ := lay_pure x n h'.1
    obtain ⟨h3, h4⟩ := lay_pureL xs n h'.2
    simp [pyL, PyData.canLayAll0, PyData.depthAll, h1, h3]
    omega
end
theorem toP_mono {M : Mem} {f g : Nat} (h : f ≤ g) : ∀ {d : D} {p : PyData}, toP f M d = some p → toP g M d = some p := by
  induction f generalizing g with
  | zero => intro d p e; cases e
  | succ f ih =>
    intro d p e
    obtain ⟨g, rfl⟩ : ∃ k, g = k + 1 := ⟨g - 1, by omega⟩
    have ihL : ∀ {ds : List D} {ps : List PyData}, optAll (toP f M) ds = some ps → optAll (toP g M) ds = some ps := by
      intro ds
      induction ds with
      | nil => intro ps e; exact e
      | cons x xs ih2 =>
        intro ps e
        unfold optAll at e ⊢
        split at e
        · rename_i y ys h1 h2
          cases e
          rw [ih (by omega) h1, ih2 h2]
        · cases e
    cases d with
    | tup xs =>
      have e' : (optAll (toP f M) xs).map PyData.tuple = some p := e
      cases q : optAll (toP f M) xs with
      | none => rw [q] at e'; cases e'
      | some ps =>
        rw [q] at e'
        show (optAll (toP g M) xs).map PyData.tuple = some p
        rw [ihL q]; exact e'
    | ref n =>
      have e' : (match seqAt M n with | some xs => (optAll (toP f M) xs).map PyData.list | none => none) = some p := e
      show (match seqAt M n with | some xs => (optAll (toP g M) xs).map PyData.list | none => none) = some p
      cases q0 : seqAt M n with
      | none => rw [q0] at e'; cases e'
      | some xs =>
        simp only [q0] at e' ⊢
        cases q : optAll (toP f M) xs with
        | none => rw [q] at e'; cases e'
        | some ps => rw [q] at e'; rw [ihL q]; exact e'
    | _ => exact e
theorem shaped_pure {d : D} {n : Nat} (h : pureD d n = true) (hn : n ≤ 63) : SeqAt.shaped (pyD d) = true := by
  obtain ⟨h1, h2⟩ := lay_pure d n h
  unfold SeqAt.shaped
  rw [h1, Bool.true_and]
  exact decide_eq_true (by omega)
/-- == of data without memory -/
theorem eqD_pure {M : Mem} {a b : D} {n m : Nat} (ha : pureD a n = true) (hb : pureD b m = true) (hn : n ≤ 63) (hm : m ≤ 63) : eqD M a b = some (PyData.eqv (pyD a) (pyD b)) := by
  unfold eqD
  rw [toP_mono (by omega) (toP_pure (M := M) a n ha), toP_mono (by omega) (toP_pure (M := M) b m hb)]
  simp only [shaped_pure ha hn, shaped_pure hb hm, and_self, if_true]
theorem pure_mono : ∀ {d : D} {n m : Nat}, pureD d n = true → n ≤ m → pureD d m = true := by
  have h : ∀ d : D, ∀ n m, n ≤ m → pureD d n = true → pureD d m = true := by
    intro d
    refine D.rec (motive_1 := fun d => ∀ n m, n ≤ m → pureD d n = true → pureD d m = true) (motive_2 := fun ds => ∀ n m, n ≤ m → pureL ds n = true → pureL ds m = true) ?_ ?_ ?_ ?_ ?_ ?_ ?_ ?_ ?_ d
    · intros; simp [pureD]
    · intros; simp [pureD]
    · intros; simp [pureD]
    · intro x n m _ h; simpa [pureD] using h
    · intro xs ih n m hm h
      cases n with
      | zero => simp [pureD] at h
      | succ n =>
        cases m with
        | zero => omega
        | succ m =>
          have h' : pureL xs n = true := by simpa [pureD] using h
          have := ih n m (by omega) h'
          simpa [pureD] using this
    · intro n k m _ h; simp [pureD] at h
    · intro x k m _ h; simp [pureD] at h
    · intros; simp [pureL]
    · intro x xs ih1 ih2 n m hm h
      have h' : pureD x n = true ∧ pureL xs n = true := by simpa [pureL] using h
      simp [pureL, ih1 n m hm h'.1, ih2 n m hm h'.2]
  intro d n m h1 h2
  exact h d n m h2 h1
end TL
end
section
/-! the tree layer: how outcomes are put in a row; memories -/
namespace TL
open PySem PySem.Spec PyProof.Rows L2
section
variable {α β : Type} {env : Env} {M : Mem} {o : Out α}
@[simp] theorem endS_thenS (f : α → Mem → SOut) : endS (thenS env o f) = o.bind fun a M => endS (f a M) := by cases o <;> rfl
@[simp] theorem nextS_thenS (f : α → Mem → SOut) (g : Env → Mem → SOut) : nextS (thenS env o f) g = thenS env o fun a M => nextS (f a M) g := by cases o <;> rfl
@[simp] theorem thenS_bind (f : α → Mem → Out β) (g : β → Mem → SOut) : thenS env (o.bind f) g = thenS env o fun a M => thenS env (f a M) g := by cases o <;> rfl
@[simp] theorem nextS_nextS (s : SOut) (f g : Env → Mem → SOut) : nextS (nextS s f) g = nextS s fun e M => nextS (f e M) g := by cases s <;> rfl
end
/-- all that stood stands -/
def Keep (M M' : Mem) : Prop := M.length ≤ M'.length ∧ ∀ n, n < M.length → M'[n]? = M[n]?
theorem Keep.refl (M : Mem) : Keep M M := ⟨Nat.le_refl _, fun _ _ => rfl⟩
theorem Keep.trans {M M1 M2 : Mem} (a : Keep M M1) (b : Keep M1 M2) : Keep M M2 := ⟨Nat.le_trans a.1 b.1, fun n h => (b.2 n (Nat.lt_of_lt_of_le h a.1)).trans (a.2 n h)⟩
theorem Keep.more (M G : Mem) : Keep M (M ++ G) := ⟨by simp, fun n h => List.getElem?_append_left h⟩
theorem Keep.at {M M' : Mem} (k : Keep M M') {n : Nat} {o : MO} (h : M[n]? = some o) : M'[n]? = some o := (k.2 n (List.getElem?_eq_some_iff.mp h).1).trans h
/-- the last one of a memory changes, all ahead stands -/
theorem Keep.setNew {M M' : Mem} {n : Nat} {o : MO} (k : Keep M M') (h : M.length ≤ n) : Keep M (M'.set n o) :=
  ⟨by rw [List.length_set]; exact k.1, fun m hm => by rw [List.getElem?_set_ne (by omega)]; exact k.2 m hm⟩
theorem at_len (M : Mem) (o : MO) : (M ++ [o])[M.length]? = some o := by simp
theorem lt_of_at {M : Mem} {n : Nat} {o : MO} (h : M[n]? = some o) : n < M.length := (List.getElem?_eq_some_iff.mp h).1
/-- what is walked over a tuple -/
@[simp] theorem srcOf_tup {M : Mem} {xs : List D} : srcOf M (.tup xs) = some ⟨xs, fun _ => True⟩ := rfl
@[simp] theorem srcOf_str {M : Mem} {x : Str} : srcOf M (.str x) = some ⟨strItems x, fun _ => True⟩ := rfl
theorem srcOf_ref {M : Mem} {n : Nat} {xs : List D} (h : seqAt M n = some xs) : srcOf M (.ref n) = some ⟨xs, fun M' => seqAt M' n = some xs⟩ := by
  show (seqAt M n).map _ = _
  rw [h]; rfl
theorem Keep.seq {M M' : Mem} (k : Keep M M') {n : Nat} {xs : List D} (h : seqAt M n = some xs) : seqAt M' n = some xs := by
  unfold seqAt at h ⊢
  cases q : M[n]? with
  | none => rw [q] at h; cases h
  | some o => rw [k.at q]; rw [q] at h; exact h
/-! loops -/
theorem forL_nil {good : Mem → Prop} {g : MG} {b : MS} {env : Env} {M : Mem} (h : good M) : forL good g b [] env M = .next env M := by unfold forL; rw [if_pos h]
theorem forL_cons {good : Mem → Prop} {g : MG} {b : MS} {d : D} {ds : List D} {env env1 : Env} {M : Mem} (h : good M) (hg : g d env = some env1) : forL good g b (d :: ds) env M = nextS (b env1 M) (forL good g b ds) := by
  conv => lhs; unfold forL
  rw [if_pos h, hg]
/-- a loop by its invariant -/
theorem forL_inv {good : Mem → Prop} {g : MG} {b : MS} {Q : SOut → Prop} (Inv : Nat → List D → Env → Mem → Prop) (hgood : ∀ i ds env M, Inv i ds env M → good M)
    (step : ∀ i d ds env M, Inv i (d :: ds) env M → ∃ env1, g d env = some env1 ∧ ((∃ env2 M2, b env1 M = .next env2 M2 ∧ Inv (i + 1) ds env2 M2) ∨ (Q (b env1 M) ∧ ∀ e M', b env1 M ≠ .next e M')))
    (done : ∀ i env M, Inv i [] env M → Q (.next env M)) : ∀ (ds : List D) (i : Nat) (env : Env) (M : Mem), Inv i ds env M → Q (forL good g b ds env M)
  | [], i, env, M, h => by rw [forL_nil (hgood _ _ _ _ h)]; exact done i env M h
  | d :: ds, i, env, M, h => by
    obtain ⟨env1, hg, z⟩ := step i d ds env M h
    rw [forL_cons (hgood _ _ _ _ h) hg]
    rcases z with ⟨env2, M2, e, h2⟩ | ⟨q, ne⟩
    · rw [e]
      exact forL_inv Inv hgood step done ds (i + 1) env2 M2 h2
    · revert q ne
      cases b env1 M with
      | next e M' => exact fun _ ne => absurd rfl (ne e M')
      | ret d M' => exact fun q _ => q
      | exc x e M' => exact fun q _ => q
      | stuck => exact fun q _ => q
theorem compL_nil {good : Mem → Prop} {i n : Nat} {t : MT} {e : ME} {env : Env} {M : Mem} (h : good M) : compL good i t e n env [] M = .ok () M := by unfold compL; rw [if_pos h]
theorem compL_cons {good : Mem → Prop} {i n : Nat} {t : MT} {e : ME} {env : Env} {d : D} {ds : List D} {M : Mem} (h : good M) : compL good i t e n env (d :: ds) M = (t (env.set i (some d)) M).nox.bind fun k M1 => if k = true then (e (env.set i (some d)) M1).nox.bind fun y M2 => match M2[n]? with
        | some (.lst acc) => if acc.length < sizeLine then compL good i t e n env ds (M2.set n (.lst (acc ++ [y]))) else .stuck
        | _ => .stuck
      else compL good i t e n env ds M1 := by
  conv => lhs; unfold compL
  (rw [if_pos h]) <;> rfl
/-- a comprehension whose test and element leave the memory as it is: the items that are kept, each turned -/
theorem compL_pure {good : Mem → Prop} {i : Nat} {t : MT} {e : ME} {env : Env} {M : Mem} (p : D → Bool) (f : D → D) (hg : ∀ ys : List D, good (M ++ [.lst ys])) : ∀ (ds : List D) (acc : List D), acc.length + ds.length ≤ 1000000 →
    (∀ d ∈ ds, ∀ ys : List D, t (env.set i (some d)) (M ++ [.lst ys]) = .ok (p d) (M ++ [.lst ys]) ∧ (p d = true → e (env.set i (some d)) (M ++ [.lst ys]) = .ok (f d) (M ++ [.lst ys]))) →
    compL good i t e M.length env ds (M ++ [.lst acc]) = .ok () (M ++ [.lst (acc ++ (ds.filter p).map f)])
  | [], acc, _, _ => by rw [compL_nil (hg acc)]; simp
  | d :: ds, acc, hl, h => by
    obtain ⟨h1, h2⟩ := h d List.mem_cons_self acc
    rw [compL_cons (hg acc), h1]
    cases q : p d with
    | false =>
      simp only [Out.nox_ok, Out.bind_ok, Bool.false_eq_true, if_false]
      rw [compL_pure p f hg ds acc (by simp at hl; omega) fun d' hd => h d' (List.mem_cons_of_mem _ hd)]
      rw [List.filter_cons_of_neg (by rw [q]; simp)]
    | true =>
      simp only [Out.nox_ok, Out.bind_ok, if_true]
      rw [h2 q]
      simp only [Out.nox_ok, Out.bind_ok, at_len]
      rw [if_pos (by rw [sizeLine_eq]; simp at hl; omega)]
      have e1 : (M ++ [MO.lst acc]).set M.length (.lst (acc ++ [f d])) = M ++ [.lst (acc ++ [f d])] := by simp
      rw [e1, compL_pure p f hg ds (acc ++ [f d]) (by simp at hl ⊢; omega) fun d' hd => h d' (List.mem_cons_of_mem _ hd)]
      rw [List.filter_cons_of_pos q]
      simp
theorem eComp_pure {i : Nat} {s : MI} {t : MT} {e : ME} {env : Env} {M M1 : Mem} {src : Src} (p : D → Bool) (f : D → D) (hs : s env M = .ok src M1) (hg : ∀ ys : List D, src.good (M1 ++ [.lst ys])) (hl : src.items.length ≤ 1000000)
    (h : ∀ d ∈ src.items, ∀ ys : List D, t (env.set i (some d)) (M1 ++ [.lst ys]) = .ok (p d) (M1 ++ [.lst ys]) ∧ (p d = true → e (env.set i (some d)) (M1 ++ [.lst ys]) = .ok (f d) (M1 ++ [.lst ys]))) :
    eComp i s t e env M = .ok (.ref M1.length) (M1 ++ [.lst ((src.items.filter p).map f)]) := by
  show (s env M).bind _ = _
  rw [hs, Out.bind_ok, compL_pure p f hg src.items [] (by simpa using hl) h]
  simp
/-- over a list at a name -/
theorem eComp_list {i j n : Nat} {t : MT} {e : ME} {env : Env} {M : Mem} {xs : List D} (p : D → Bool) (f : D → D) (hj : env[j]? = some (some (.ref n))) (hn : seqAt M n = some xs) (hl : xs.length ≤ 1000000)
    (h : ∀ d ∈ xs, ∀ ys : List D, t (env.set i (some d)) (M ++ [.lst ys]) = .ok (p d) (M ++ [.lst ys]) ∧ (p d = true → e (env.set i (some d)) (M ++ [.lst ys]) = .ok (f d) (M ++ [.lst ys]))) :
    eComp i (iAny (eVar j)) t e env M = .ok (.ref M.length) (M ++ [.lst ((xs.filter p).map f)]) :=
  eComp_pure (src := ⟨xs, fun M' => seqAt M' n = some xs⟩) p f (by simp [hj, srcOf_ref hn]) (fun ys => (Keep.more M _).seq hn) hl h
end TL
end
section
/-! rules of rallies as data -/
namespace RL
open PySem PySem.Spec PyProof.Rows L2 TL
inductive Rule where
  | point
  | unit (to lead : Int) (cap : Option Int) (inner : Rule)
  | unitL (to lead cap : Int) (inner last : Rule)
  deriving DecidableEq
def capD : Option Int → D
  | none => .non
  | some c => .int c
abbrev pointD : D := .tup [.str "point"]
namespace Rule
def toD : Rule → D
  | point => pointD
  | unit to lead cap inner => .tup [.str "unit", .int to, .int lead, capD cap, inner.toD, .non]
  | unitL to lead cap inner last => .tup [.str "unit", .int to, .int lead, .int cap, inner.toD, last.toD]
/-- units within one another -/
def depth : Rule → Nat
  | point => 0
  | unit _ _ _ inner => inner.depth + 1
  | unitL _ _ _ inner last => max inner.depth last.depth + 1
/-- how many units -/
def units : Rule → Nat
  | point => 0
  | unit _ _ _ inner => inner.units + 1
  | unitL _ _ _ inner last => inner.units + last.units + 1
/-- numbers within their bounds -/
def good : Rule → Prop
  | point => True
  | unit to lead cap inner => 1 ≤ to ∧ to ≤ 99 ∧ 1 ≤ lead ∧ lead ≤ 99 ∧ (∀ c, cap = some c → to ≤ c ∧ c ≤ 99) ∧ inner.good
  | unitL to lead cap inner last => 1 ≤ to ∧ to ≤ 99 ∧ 1 ≤ lead ∧ lead ≤ 99 ∧ to ≤ cap ∧ cap ≤ 99 ∧ inner.good ∧ last.good
theorem ok_unit : PyData.strOk ("unit" : Str) = true := by decide +kernel
theorem ok_point : PyData.strOk ("point" : Str) = true := by decide +kernel
theorem pure_toD : ∀ r : Rule, pureD r.toD (r.depth + 1) = true
  | point => by simp [toD, depth, pureD, pureL, ok_point]
  | unit to lead cap inner => by
    have h := pure_toD inner
    cases cap <;> simp [toD, depth, pureD, pureL, capD, ok_unit, h]
  | unitL to lead cap inner last => by
    have h := pure_mono (pure_toD inner) (show inner.depth + 1 ≤ max inner.depth last.depth + 1 by omega)
    have h' := pure_mono (pure_toD last) (show last.depth + 1 ≤ max inner.depth last.depth + 1 by omega)
    simp [toD, depth, pureD, pureL, ok_unit, h, h']
theorem pyPoint : pyD pointD = .tuple [.str "point"] := by simp [pyD, pyL]
theorem eqv_point (r : Rule) : PyData.eqv (pyD r.toD) (pyD pointD) = decide (r = point) := by
  cases r <;> simp [toD, pyD, pyL, PyData.eqv, PyData.eqvAll]
end Rule
theorem pure_point : pureD pointD 1 = true := by simp [pureD, pureL, Rule.ok_point]
theorem eq_point {M : Mem} {r : Rule} (h : r.depth ≤ 60) : eqD M r.toD pointD = some (decide (r = .point)) := by
  rw [eqD_pure r.pure_toD pure_point (by omega) (by omega), Rule.eqv_point]
theorem mEq_point {M : Mem} {r : Rule} (h : r.depth ≤ 60) : mEq r.toD (.tup [.str "point"]) M = some (.bl (decide (r = .point)), M) := by rw [mEq_eq, eq_point h]; rfl
theorem mNe_point {M : Mem} {r : Rule} (h : r.depth ≤ 60) : mNe r.toD (.tup [.str "point"]) M = some (.bl (!decide (r = .point)), M) := by rw [mNe_eq, eq_point h]; rfl
@[simp] theorem isNon_capD {c : Option Int} : isNon (capD c) = c.isNone := by cases c <;> rfl
@[simp] theorem isNon_toD {r : Rule} : isNon r.toD = false := by cases r <;> rfl
end RL
end
section
set_option maxHeartbeats 4000000
/-! the laws' own drawing of rules: mirrors, and what they give -/
namespace CM
open PySem PySem.Spec PyProof.Rows L2 TL RL
noncomputable section
/- def l_tape(_law_script): 0=_law_script 1=_law_way -/
def b_l_tape : MS := (sSeq (sAsg (gOne 1) (eC (.int 0)))
    (sSeq (sIf (tB (eBin mGt (eCallO nLen (aCons (eVar 0) aNil)) (eC (.int 0)))) (sAsg (gOne 1) (eBin mMod (eBin mIdx (eVar 0) (eC (.int 0))) (eC (.int 2)))) sNil)
    (sRet (eLst (aCons (eVar 0) (aCons (eC (.int 0)) (aCons (eC (.int 0)) (aCons (eVar 1) aNil))))))))
def m_l_tape : Fn := fnD 1 2 b_l_tape
/- def l_draw(_law_tape_here, _law_many): 0=_law_tape_here 1=_law_many 2=_law_script 3=_law_spot 4=_law_cell 5=_law_mixed 6=_law_left -/
def b_l_draw : MS := (sSeq (sAsg (gOne 2) (eBin mIdx (eVar 0) (eC (.int 0))))
    (sSeq (sAsg (gOne 3) (eBin mIdx (eVar 0) (eC (.int 1))))
    (sSeq (sSub (eVar 0) (eC (.int 1)) (eBin mAdd (eVar 3) (eC (.int 1))))
    (sSeq (sAsg (gOne 4) (eC (.int 0)))
    (sSeq (sIf (tB (eBin mGt (eCallO nLen (aCons (eVar 2) aNil)) (eC (.int 0)))) (sAsg (gOne 4) (eBin mIdx (eVar 2) (eBin mMod (eIf (tB (eBin mEq (eBin mIdx (eVar 0) (eC (.int 3))) (eC (.int 1)))) (eBin mFdiv (eVar 3) (eC (.int 60))) (eVar 3)) (eCallO nLen (aCons (eVar 2) aNil))))) sNil)
    (sSeq (sIf (tB (eBin mEq (eBin mIdx (eVar 0) (eC (.int 3))) (eC (.int 1)))) (sSeq (sIf (tB (eBin mEq (eBin mMod (eVar 3) (eC (.int 60))) (eC (.int 0)))) (sSub (eVar 0) (eC (.int 2)) (eBin mFdiv (eVar 4) (eC (.int 2)))) sNil)
    (sSeq (sAsg (gOne 6) (eBin mIdx (eVar 0) (eC (.int 2))))
    (sSeq (sSub (eVar 0) (eC (.int 2)) (eBin mFdiv (eVar 6) (eVar 1)))
    (sRet (eBin mMod (eVar 6) (eVar 1)))))) sNil)
    (sSeq (sAsg (gOne 5) (eBin mMod (eBin mMul (eBin mAdd (eBin mMod (eVar 4) (eC (.int 1000003))) (eC (.int 1))) (eBin mAdd (eBin mAdd (eBin mMul (eBin mMod (eVar 3) (eC (.int 997))) (eC (.int 7919))) (eC (.int 104729))) (eVar 3))) (eC (.int 1000033))))
    (sSeq (sAsg (gOne 5) (eBin mMod (eBin mAdd (eBin mAdd (eBin mMul (eVar 5) (eVar 5)) (eBin mMul (eC (.int 3)) (eVar 5))) (eVar 3)) (eC (.int 999983))))
    (sRet (eBin mMod (eBin mMod (eBin mMul (eVar 5) (eC (.int 48271))) (eC (.int 65537))) (eVar 1)))))))))))
def m_l_draw : Fn := fnD 2 7 b_l_draw
/- def l_unit(_law_tape_here, _law_deep, _law_thin): 0=_law_tape_here 1=_law_deep 2=_law_thin 3=_law_to 4=_law_lead 5=_law_cap 6=_law_last 7=_law_inner -/
def b_l_unit (r_l_unit : Fn) (r_l_rule : Fn) : MS := (sSeq (sAsg (gOne 3) (eBin mAdd (eC (.int 1)) (eCall m_l_draw (aCons (eVar 0) (aCons (eBin mIdx (eLst (aCons (eC (.int 3)) (aCons (eC (.int 5)) (aCons (eC (.int 99)) aNil)))) (eBin mFdiv (eCall m_l_draw (aCons (eVar 0) (aCons (eC (.int 20)) aNil))) (eC (.int 8)))) aNil)))))
    (sSeq (sAsg (gOne 4) (eBin mAdd (eC (.int 1)) (eCall m_l_draw (aCons (eVar 0) (aCons (eBin mIdx (eLst (aCons (eC (.int 2)) (aCons (eC (.int 3)) (aCons (eC (.int 99)) aNil)))) (eBin mFdiv (eCall m_l_draw (aCons (eVar 0) (aCons (eC (.int 20)) aNil))) (eC (.int 9)))) aNil)))))
    (sSeq (sAsg (gOne 5) (eC .non))
    (sSeq (sAsg (gOne 6) (eC .non))
    (sSeq (sIf (tB (eBin mEq (eCall m_l_draw (aCons (eVar 0) (aCons (eC (.int 2)) aNil))) (eC (.int 1)))) (sAsg (gOne 5) (eCallO nMin2 (aCons (eC (.int 99)) (aCons (eBin mAdd (eVar 3) (eCall m_l_draw (aCons (eVar 0) (aCons (eC (.int 4)) aNil)))) aNil)))) sNil)
    (sSeq (sAsg (gOne 7) (eCall r_l_rule (aCons (eVar 0) (aCons (eBin mSub (eVar 1) (eC (.int 1))) (aCons (eVar 2) aNil)))))
    (sSeq (sIf (tAnd (tB (eBin mIsNot (eVar 5) (eC .non))) (tB (eBin mGt (eCall m_l_draw (aCons (eVar 0) (aCons (eC (.int 3)) aNil))) (eC (.int 0))))) (sAsg (gOne 6) (eCall r_l_rule (aCons (eVar 0) (aCons (eCallO nMin2 (aCons (eBin mSub (eVar 1) (eC (.int 1))) (aCons (eVar 2) aNil))) (aCons (eVar 2) aNil))))) sNil)
    (sRet (eTup (aCons (eC (.str "unit")) (aCons (eVar 3) (aCons (eVar 4) (aCons (eVar 5) (aCons (eVar 7) (aCons (eVar 6) aNil)))))))))))))))
/- def l_rule(_law_tape_here, _law_deep, _law_thin): 0=_law_tape_here 1=_law_deep 2=_law_thin -/
def b_l_rule (r_l_unit : Fn) (r_l_rule : Fn) : MS := (sSeq (sIf (tOr (tB (eBin mEq (eVar 1) (eC (.int 0)))) (tB (eBin mEq (eCall m_l_draw (aCons (eVar 0) (aCons (eC (.int 7)) aNil))) (eC (.int 3))))) (sRet (eTup (aCons (eC (.str "point")) aNil))) sNil)
    (sRet (eCall r_l_unit (aCons (eVar 0) (aCons (eVar 1) (aCons (eVar 2) aNil))))))
def g_l_unit : Nat → Fn × Fn
  | 0 => (noFn, noFn)
  | n + 1 => (fnD 3 8 (b_l_unit ((g_l_unit n).1) ((g_l_unit n).2)), fnD 3 3 (b_l_rule ((g_l_unit n).1) ((g_l_unit n).2)))
def m_l_unit (n : Nat) : Fn := (g_l_unit n).1
def m_l_rule (n : Nat) : Fn := (g_l_unit n).2
/- def l_any_rule(_law_tape_here): 0=_law_tape_here 1=_law_way -/
def b_l_any_rule : MS := (sSeq (sAsg (gOne 1) (eCall m_l_draw (aCons (eVar 0) (aCons (eC (.int 6)) aNil))))
    (sRet (eCall (m_l_rule 14) (aCons (eVar 0) (aCons (eBin mIdx (eLst (aCons (eC (.int 2)) (aCons (eC (.int 1)) (aCons (eC (.int 2)) (aCons (eC (.int 3)) (aCons (eC (.int 3)) (aCons (eC (.int 4)) aNil))))))) (eVar 1)) (aCons (eBin mIdx (eLst (aCons (eC (.int 3)) (aCons (eC (.int 3)) (aCons (eC (.int 3)) (aCons (eC (.int 3)) (aCons (eC (.int 1)) (aCons (eC (.int 1)) aNil))))))) (eVar 1)) aNil))))))
def m_l_any_rule : Fn := fnD 1 2 b_l_any_rule
end

/-- a tape at t -/
def Tape (M : Mem) (t : Nat) : Prop := ∃ (s : Nat) (ns : List Int) (spot left way : Int), M[t]? = some (.lst [.ref s, .int spot, .int left, .int way]) ∧ M[s]? = some (.rol (ns.map D.int)) ∧ ns.length ≤ 63 ∧ 0 ≤ spot
theorem cell_at {ns : List Int} (h : ns ≠ []) {k : Int} (hk : 0 ≤ k) : ∃ c : Int, atI (ns.map D.int) (k % (ns.length : Int)) = some (.int c) := by
  have hl : 0 < ns.length := List.length_pos_iff.mpr h
  have h1 : 0 ≤ k % (ns.length : Int) := Int.emod_nonneg _ (by omega)
  have h2 : k % (ns.length : Int) < ns.length := Int.emod_lt_of_pos _ (by omega)
  obtain ⟨a, e1, e2⟩ := atI_ok (xs := ns.map D.int) h1 (by rw [List.length_map]; exact h2)
  rw [List.getElem?_map] at e1
  cases q : ns[(k % (ns.length : Int)).toNat]? with
  | none => rw [q] at e1; cases e1
  | some c => rw [q] at e1; cases e1; exact ⟨c, e2⟩
def Drew (M : Mem) (t s : Nat) (spot many : Int) (d : D) (M' : Mem) : Prop := ∃ x l w : Int, d = .int (x % many) ∧ M' = M.set t (.lst [.ref s, .int (spot + 1), .int l, .int w])
theorem draw_ok {M : Mem} {t : Nat} {many : Int} (T : Tape M t) (h0 : 0 < many) (h1 : many < 1073741824) :
    Ret (m_l_draw [.ref t, .int many] M) (fun d M' => ∃ (r : Int) (o : MO), d = .int r ∧ M' = M.set t o ∧ 0 ≤ r ∧ r < many ∧ Tape (M.set t o) t) := by
  obtain ⟨s, ns, spot, left, way, ht, hs, hl, hp⟩ := T
  have hne : t ≠ s := by rintro rfl; rw [ht] at hs; cases hs
  have lt : t < M.length := (List.getElem?_eq_some_iff.mp ht).1
  have e : m_l_draw [.ref t, .int many] M = endS (b_l_draw [some (.ref t), some (.int many), none, none, none, none, none] M) := rfl
  suffices h : Ret (m_l_draw [.ref t, .int many] M) (Drew M t s spot many) by
    refine h.imp fun d M' ⟨x, l, w, h1, h2⟩ => ⟨_, _, h1, h2, Int.emod_nonneg _ (by omega), Int.emod_lt_of_pos _ h0, s, ns, spot + 1, l, w, by rw [List.getElem?_set_self lt], by rw [List.getElem?_set_ne hne]; exact hs, hl, by omega⟩
  rw [e]
  unfold b_l_draw
  have bnd : ∀ (x m : Int), 0 < m → 0 ≤ x % m ∧ x % m < m := fun x m h => ⟨Int.emod_nonneg _ (by omega), Int.emod_lt_of_pos _ h⟩
  have k1 : ∀ (x j : Int) (M : Mem), mMul (.int (x % 1000033)) (.int j) M = some (.int (x % 1000033 * j), M) := fun x j M => by
    rw [mMul_int, if_pos]; have := bnd x 1000033 (by decide); omega
  have k2 : ∀ (x j : Int) (M : Mem), mMul (.int (x % 1000003 + 1)) (.int j) M = some (.int ((x % 1000003 + 1) * j), M) := fun x j M => by
    rw [mMul_int, if_pos]; have := bnd x 1000003 (by decide); omega
  have k3 : ∀ (x j : Int) (M : Mem), mMul (.int (x % 997)) (.int j) M = some (.int (x % 997 * j), M) := fun x j M => by
    rw [mMul_int, if_pos]; have := bnd x 997 (by decide); omega
  have k4 : ∀ (j : Int) (M : Mem), mMul (.int 3) (.int j) M = some (.int (3 * j), M) := fun j M => by
    rw [mMul_int, if_pos]; omega
  have k5 : ∀ (x j : Int) (M : Mem), mMul (.int (x % 999983)) (.int j) M = some (.int (x % 999983 * j), M) := fun x j M => by
    rw [mMul_int, if_pos]; have := bnd x 999983 (by decide); omega
  have k0 : ∀ (j : Int) (M : Mem), mMul (.int 1) (.int j) M = some (.int (1 * j), M) := fun j M => by
    rw [mMul_int, if_pos]; omega
  have h2 : spot / 60 ≥ 0 := by omega
  by_cases hns : ns = []
  · subst hns
    by_cases hw : way = 1
    · by_cases h60 : spot % 60 = 0
      · simp [seqAt, ht, setD, ixN, List.getElem?_set_self lt, List.getElem?_set_ne hne, hs, hw, h60, h0, h1]
        first | exact .ok ⟨_, _, _, rfl, rfl⟩ | exact .ok ⟨0, _, _, by simp, rfl⟩
      · simp [seqAt, ht, setD, ixN, List.getElem?_set_self lt, List.getElem?_set_ne hne, hs, hw, h60, h0, h1]
        first | exact .ok ⟨_, _, _, rfl, rfl⟩ | exact .ok ⟨0, _, _, by simp, rfl⟩
    · simp [seqAt, ht, setD, ixN, List.getElem?_set_self lt, List.getElem?_set_ne hne, hs, hw, h0, h1, -mMul_int, k0, k1, k2, k3, k4, k5]
      first | exact .ok ⟨_, _, _, rfl, rfl⟩ | exact .ok ⟨0, _, _, by simp, rfl⟩
  · have hlen : 0 < ns.length := List.length_pos_iff.mpr hns
    have hlen' : (0 : Int) < (ns.length : Int) := by omega
    obtain ⟨c1, e1⟩ := cell_at hns hp
    obtain ⟨c2, e2⟩ := cell_at hns h2
    by_cases hw : way = 1
    · by_cases h60 : spot % 60 = 0
      · simp [seqAt, ht, setD, ixN, List.getElem?_set_self lt, List.getElem?_set_ne hne, hs, hw, h60, h0, h1, e1, e2, hlen, hlen']
        first | exact .ok ⟨_, _, _, rfl, rfl⟩ | exact .ok ⟨0, _, _, by simp, rfl⟩
      · simp [seqAt, ht, setD, ixN, List.getElem?_set_self lt, List.getElem?_set_ne hne, hs, hw, h60, h0, h1, e1, e2, hlen, hlen']
        first | exact .ok ⟨_, _, _, rfl, rfl⟩ | exact .ok ⟨0, _, _, by simp, rfl⟩
    · simp [seqAt, ht, setD, ixN, List.getElem?_set_self lt, List.getElem?_set_ne hne, hs, hw, h0, h1, e1, e2, hlen, hlen', -mMul_int, k0, k1, k2, k3, k4, k5]
      first | exact .ok ⟨_, _, _, rfl, rfl⟩ | exact .ok ⟨0, _, _, by simp, rfl⟩

/-- the tape at t goes on, all else stands -/
structure Adv (t : Nat) (M M' : Mem) : Prop where
  tape : Tape M' t
  len : M.length ≤ M'.length
  keep : ∀ n, n < M.length → n ≠ t → M'[n]? = M[n]?
theorem Tape.lt {M : Mem} {t : Nat} (T : Tape M t) : t < M.length := by obtain ⟨s, ns, spot, left, way, ht, _⟩ := T; exact lt_of_at ht
theorem Tape.keep {M M' : Mem} {t : Nat} (T : Tape M t) (k : Keep M M') : Tape M' t := by
  obtain ⟨s, ns, spot, left, way, ht, hs, h⟩ := T
  exact ⟨s, ns, spot, left, way, k.at ht, k.at hs, h⟩
theorem Adv.trans {t : Nat} {M M1 M2 : Mem} (a : Adv t M M1) (b : Adv t M1 M2) : Adv t M M2 :=
  ⟨b.tape, Nat.le_trans a.len b.len, fun n h hn => (b.keep n (Nat.lt_of_lt_of_le h a.len) hn).trans (a.keep n h hn)⟩
theorem Adv.of {t : Nat} {M M1 : Mem} (T : Tape M t) (k : Keep M M1) : Adv t M M1 := ⟨T.keep k, k.1, fun n h _ => k.2 n h⟩
theorem Adv.refl {t : Nat} {M : Mem} (T : Tape M t) : Adv t M M := .of T (.refl M)
theorem Adv.at {t : Nat} {M M1 : Mem} (a : Adv t M M1) {n : Nat} {o : MO} (h : M[n]? = some o) (hn : n ≠ t) : M1[n]? = some o := (a.keep n (lt_of_at h) hn).trans h
theorem Adv.seq {t : Nat} {M M1 : Mem} (a : Adv t M M1) {n : Nat} {xs : List D} (h : seqAt M n = some xs) (hn : n ≠ t) : seqAt M1 n = some xs := by
  unfold seqAt at h ⊢
  cases q : M[n]? with
  | none => rw [q] at h; cases h
  | some o => rw [a.at q hn]; rw [q] at h; exact h
/-- what a drawn number is -/
def DrawQ (t : Nat) (M : Mem) (many : Int) (d : D) (M' : Mem) : Prop := ∃ r : Int, d = .int r ∧ 0 ≤ r ∧ r < many ∧ Adv t M M'
theorem draw {M : Mem} {t : Nat} {many : Int} (T : Tape M t) (h0 : 0 < many) (h1 : many < 1073741824) : Ret (m_l_draw [.ref t, .int many] M) (DrawQ t M many) :=
  (draw_ok T h0 h1).imp fun d M' ⟨r, o, h1, h2, h3, h4, h5⟩ => ⟨r, h1, h3, h4, by rw [h2]; exact h5, by rw [h2, List.length_set]; omega, fun n hn hne => by rw [h2, List.getElem?_set_ne (Ne.symm hne)]⟩
/-- the tape is made -/
theorem tape_ok {M : Mem} {s : Nat} {ns : List Int} (hs : M[s]? = some (.rol (ns.map D.int))) (hl : ns.length ≤ 63) : ∃ way : Int, m_l_tape [.ref s] M = .ok (.ref M.length) (M ++ [.lst [.ref s, .int 0, .int 0, .int way]]) := by
  have e : m_l_tape [.ref s] M = endS (b_l_tape [some (.ref s), none] M) := rfl
  rw [e]
  unfold b_l_tape
  by_cases hns : ns = []
  · subst hns
    exact ⟨0, by simp [seqAt, hs]⟩
  · have hlen : 0 < ns.length := List.length_pos_iff.mpr hns
    obtain ⟨c, hc⟩ : ∃ c : Int, atI (ns.map D.int) 0 = some (.int c) := by
      cases ns with
      | nil => exact absurd rfl hns
      | cons a r => exact ⟨a, by simp⟩
    exact ⟨c % 2, by simp [seqAt, hs, hlen, hc]⟩
theorem tape_at {M : Mem} {s : Nat} {ns : List Int} (hs : M[s]? = some (.rol (ns.map D.int))) (hl : ns.length ≤ 63) {way : Int} : Tape (M ++ [.lst [.ref s, .int 0, .int 0, .int way]]) M.length :=
  ⟨s, ns, 0, 0, way, at_len _ _, (Keep.more M _).at hs, hl, Int.le_refl 0⟩
/-- most units of a drawn rule -/
def ub : Nat → Nat → Nat
  | 0, _ => 0
  | d + 1, thin => 1 + ub d thin + ub (min d thin) thin
theorem ub_succ (d thin : Nat) : ub (d + 1) thin = 1 + ub d thin + ub (min d thin) thin := by rw [ub]
theorem ub_zero (thin : Nat) : ub 0 thin = 0 := by rw [ub]
def RuleQ (t : Nat) (M : Mem) (deep thin : Nat) (d : D) (M' : Mem) : Prop := ∃ r : Rule, d = r.toD ∧ r.good ∧ r.depth ≤ deep ∧ r.units ≤ ub deep thin ∧ Adv t M M'
def RuleOk (f : Fn) (deep : Nat) : Prop := ∀ (M : Mem) (t thin : Nat), Tape M t → Ret (f [.ref t, .int (deep : Nat), .int (thin : Nat)] M) (RuleQ t M deep thin)
theorem pick3 {a b c k : Int} (h0 : 0 ≤ k) (h1 : k < 3) : ∃ v : Int, (v = a ∨ v = b ∨ v = c) ∧ atI [D.int a, .int b, .int c] k = some (.int v) := by
  rcases (show k = 0 ∨ k = 1 ∨ k = 2 by omega) with rfl | rfl | rfl
  · exact ⟨a, .inl rfl, by simp⟩
  · exact ⟨b, .inr (.inl rfl), by simp⟩
  · exact ⟨c, .inr (.inr rfl), by simp⟩
theorem unit_ok {ru rr : Fn} {deep : Nat} (ih : ∀ d ≤ deep, RuleOk rr d) : RuleOk (fnD 3 8 (b_l_unit ru rr)) (deep + 1) := by
  intro M t thin T
  show Ret (endS (b_l_unit ru rr [some (.ref t), some (.int (deep + 1 : Nat)), some (.int (thin : Nat)), none, none, none, none, none] M)) _
  unfold b_l_unit
  have n1 : M.length ≠ t := fun e => by have := T.lt; omega
  simp
  refine Ret.bind (draw (T.keep (Keep.more M _)) (by decide) (by decide)) ?_
  rintro _ M1 ⟨r1, rfl, h0, h1, A1⟩
  have l1 := A1.at (at_len M _) n1
  obtain ⟨v1, hv1, ev1⟩ := pick3 (a := 3) (b := 5) (c := 99) (k := r1 / 8) (by omega) (by omega)
  simp [seqAt, l1, ev1]
  refine Ret.bind (draw A1.tape (by omega) (by omega)) ?_
  rintro _ M2 ⟨r2, rfl, h2, h3, A2⟩
  have a2 := (Adv.of T (Keep.more M _)).trans (A1.trans A2)
  have n2 : M2.length ≠ t := fun e => by have := A2.tape.lt; omega
  simp
  refine Ret.bind (draw (A2.tape.keep (Keep.more M2 _)) (by decide) (by decide)) ?_
  rintro _ M3 ⟨r3, rfl, h4, h5, A3⟩
  have l3 := A3.at (at_len M2 _) n2
  obtain ⟨v2, hv2, ev2⟩ := pick3 (a := 2) (b := 3) (c := 99) (k := r3 / 9) (by omega) (by omega)
  simp [seqAt, l3, ev2]
  refine Ret.bind (draw A3.tape (by omega) (by omega)) ?_
  rintro _ M4 ⟨r4, rfl, h6, h7, A4⟩
  have a4 := a2.trans ((Adv.of A2.tape (Keep.more M2 _)).trans (A3.trans A4))
  simp
  refine Ret.bind (draw A4.tape (by decide) (by decide)) ?_
  rintro _ M5 ⟨r5, rfl, h8, h9, A5⟩
  have a5 := a4.trans A5
  have em : (if thin < deep then (thin : Int) else (deep : Int)) = ((min deep thin : Nat) : Int) := by split <;> omega
  by_cases c5 : r5 = 1
  · simp [c5]
    refine Ret.bind (draw A5.tape (by decide) (by decide)) ?_
    rintro _ M6 ⟨r6, rfl, h10, h11, A6⟩
    have a6 := a5.trans A6
    simp
    refine Ret.bind (ih deep (Nat.le_refl _) M6 t thin A6.tape) ?_
    rintro _ M7 ⟨inner, rfl, g1, g2, g3, A7⟩
    refine Ret.bind (draw A7.tape (by decide) (by decide)) ?_
    rintro _ M8 ⟨r8, rfl, h12, h13, A8⟩
    have a8 := a6.trans (A7.trans A8)
    simp
    by_cases c8 : 0 < r8
    · simp [c8, em]
      refine Ret.bind (ih (min deep thin) (Nat.min_le_left _ _) M8 t thin A8.tape) ?_
      rintro _ M9 ⟨last, rfl, g4, g5, g6, A9⟩
      refine .ok ⟨.unitL (1 + r2) (1 + r4) (if 1 + r2 + r6 < 99 then 1 + r2 + r6 else 99) inner last, rfl, ⟨by omega, by omega, by omega, by omega, by split <;> omega, by split <;> omega, g1, g4⟩, ?_, ?_, a8.trans A9⟩
      · show max inner.depth last.depth + 1 ≤ deep + 1
        have := Nat.min_le_left deep thin
        omega
      · show inner.units + last.units + 1 ≤ _
        rw [ub_succ]
        omega
    · simp [c8]
      refine .ok ⟨.unit (1 + r2) (1 + r4) (some (if 1 + r2 + r6 < 99 then 1 + r2 + r6 else 99)) inner, rfl, ⟨by omega, by omega, by omega, by omega, fun c hc => by cases hc; constructor <;> split <;> omega, g1⟩, ?_, ?_, a8⟩
      · show inner.depth + 1 ≤ deep + 1
        omega
      · show inner.units + 1 ≤ _
        rw [ub_succ]
        omega
  · simp [c5]
    refine Ret.bind (ih deep (Nat.le_refl _) M5 t thin A5.tape) ?_
    rintro _ M7 ⟨inner, rfl, g1, g2, g3, A7⟩
    refine .ok ⟨.unit (1 + r2) (1 + r4) none inner, rfl, ⟨by omega, by omega, by omega, by omega, fun c hc => (nomatch hc), g1⟩, ?_, ?_, a5.trans A7⟩
    · show inner.depth + 1 ≤ deep + 1
      omega
    · show inner.units + 1 ≤ _
      rw [ub_succ]
      omega
theorem rule_step {ru rr : Fn} {deep : Nat} (ih : ∀ d, deep = d + 1 → RuleOk ru deep) : RuleOk (fnD 3 3 (b_l_rule ru rr)) deep := by
  intro M t thin T
  show Ret (endS (b_l_rule ru rr [some (.ref t), some (.int (deep : Nat)), some (.int (thin : Nat))] M)) _
  unfold b_l_rule
  cases deep with
  | zero =>
    simp
    exact .ok ⟨.point, rfl, trivial, Nat.le_refl _, Nat.zero_le _, .refl T⟩
  | succ deep =>
    have ne : ¬ ((deep : Int) + 1 = 0) := by omega
    simp [ne]
    refine Ret.bind (draw T (by decide) (by decide)) ?_
    rintro _ M1 ⟨r1, rfl, h0, h1, A1⟩
    by_cases c : r1 = 3
    · simp [c]
      exact .ok ⟨.point, rfl, trivial, Nat.zero_le _, Nat.zero_le _, A1⟩
    · simp [c]
      obtain ⟨d, M2, e, r, h1, h2, h3, h4, A2⟩ := ih deep rfl M1 t thin A1.tape
      rw [show ((deep + 1 : Nat) : Int) = (deep : Int) + 1 from by omega] at e
      rw [e]
      simp
      exact .ok ⟨r, h1, h2, h3, h4, A1.trans A2⟩
theorem rule_ok : ∀ (n deep : Nat), 2 * deep + 1 ≤ n → RuleOk (m_l_rule n) deep
  | 0, deep, h => by omega
  | n + 1, deep, h => by
    refine rule_step fun d hd => ?_
    match n, h with
    | 0, h => omega
    | n + 1, h =>
      subst hd
      exact unit_ok fun d' hd' => rule_ok n d' (by omega)
def AnyRuleQ (t : Nat) (M : Mem) (d : D) (M' : Mem) : Prop := ∃ r : Rule, d = r.toD ∧ r.good ∧ r.depth ≤ 4 ∧ r.units ≤ 7 ∧ Adv t M M'
theorem any_rule {M : Mem} {t : Nat} (T : Tape M t) : Ret (m_l_any_rule [.ref t] M) (AnyRuleQ t M) := by
  show Ret (endS (b_l_any_rule [some (.ref t), none] M)) _
  unfold b_l_any_rule
  simp
  refine Ret.bind (draw T (by decide) (by decide)) ?_
  rintro _ M1 ⟨r1, rfl, h0, h1, A1⟩
  obtain ⟨dp, th, e1, e2, hdp, hub⟩ : ∃ dp th : Nat, atI [D.int 2, D.int 1, D.int 2, D.int 3, D.int 3, D.int 4] r1 = some (.int dp) ∧ atI [D.int 3, D.int 3, D.int 3, D.int 3, D.int 1, D.int 1] r1 = some (.int th) ∧ dp ≤ 4 ∧ ub dp th ≤ 7 := by
    rcases (show r1 = 0 ∨ r1 = 1 ∨ r1 = 2 ∨ r1 = 3 ∨ r1 = 4 ∨ r1 = 5 by omega) with rfl | rfl | rfl | rfl | rfl | rfl
    · exact ⟨2, 3, by simp, by simp, by decide, by simp [ub]⟩
    · exact ⟨1, 3, by simp, by simp, by decide, by simp [ub]⟩
    · exact ⟨2, 3, by simp, by simp, by decide, by simp [ub]⟩
    · exact ⟨3, 3, by simp, by simp, by decide, by simp [ub]⟩
    · exact ⟨3, 1, by simp, by simp, by decide, by simp [ub]⟩
    · exact ⟨4, 1, by simp, by simp, by decide, by simp [ub]⟩
  simp [seqAt, e1, e2]
  refine Ret.bind (rule_ok 14 dp (by omega) _ t th (A1.tape.keep (Keep.more _ _))) ?_
  rintro _ M2 ⟨r, rfl, g1, g2, g3, A2⟩
  exact .ok ⟨r, rfl, g1, by omega, by omega, A1.trans ((Adv.of A1.tape (Keep.more _ _)).trans A2)⟩
end CM
end
section
/-! the tree layer: what is never reached; tuple(range ..), list(range ..) -/
namespace TL
open PySem PySem.Spec PyProof.Rows L2
/-- a statement that is never reached -/
def sStk : MS := fun _ _ => .stuck
theorem ds_stk {X : Cx} {W : WX} {s : Stmt} : PS X s (LS X.K W sStk) := ⟨fun pins s σ H En I h => by
  obtain ⟨ι, env, M, S, R, h⟩ := h
  exact h.elim⟩
end TL
namespace TL
open PySem PySem.Spec PyProof.Rows L2
open Classical in
noncomputable def eTupRg1 (e : ME) : ME := fun env M => (e env M).bind fun d M1 => kInt d fun j => if RgOk 0 j then .ok (.tup (rngItems 0 j.toNat)) M1 else .stuck
open Classical in
noncomputable def eLstRg1 (e : ME) : ME := fun env M => (e env M).bind fun d M1 => kInt d fun j => if RgOk 0 j then .ok (.ref M1.length) (M1 ++ [.lst (rngItems 0 j.toNat)]) else .stuck
open Classical in
noncomputable def eTupRg2 (a b : ME) : ME := fun env M => (a env M).bind fun d M1 => (b env M1).bind fun d2 M2 => kInt d fun i => kInt d2 fun j => if RgOk i j then .ok (.tup (rngItems i (j - i).toNat)) M2 else .stuck
open Classical in
noncomputable def eLstRg2 (a b : ME) : ME := fun env M => (a env M).bind fun d M1 => (b env M1).bind fun d2 M2 => kInt d fun i => kInt d2 fun j => if RgOk i j then .ok (.ref M2.length) (M2 ++ [.lst (rngItems i (j - i).toNat)]) else .stuck
theorem rpa_rg {K : PySem.W.Frag} {ι : List Addr} {H : Hp} (a b : Int) : RpA K ι H (rngItems a (b - a).toNat) (rgV a b) := by
  unfold rngItems rgV
  generalize List.range (b - a).toNat = l
  induction l with
  | nil => exact .nil
  | cons i l ih => exact .cons (.int _) ih
section
variable {X : Cx} {W : WX} {a b : Expr} {ma mb : ME} {p p2 pos pos2 : Pos}
theorem d_tupRg1 (hc : X.calm = true) (hm : X.mg "range" = none) (hmt : X.mg "tuple" = none) (ha : PE X a (LE X.K W ma)) (hg : Gl X "range" := by rfl) (hgt : Gl X "tuple" := by rfl) (na : starEach [a] X.env = (false, eval a X.env) :: starEach [] X.env := by rfl)
    (nr : starEach [.Call (.Name "range" p) [a] [] pos] X.env = (false, eval (.Call (.Name "range" p) [a] [] pos) X.env) :: starEach [] X.env := by rfl) :
    PE X (.Call (.Name "tuple" p2) [.Call (.Name "range" p) [a] [] pos] [] pos2) (LE X.K W (eTupRg1 ma)) :=
  (pe_tupRg hc hgt hmt (prg_1 hg hm ha na) nr).imp fun σ H Q ⟨ι, env, M, S, R, h⟩ => ⟨ι, env, M, S, R, (OutP.bind h).imp fun d M1 ι1 H1 e1 S1 h1 v rv => by
    obtain ⟨j, rfl, h2⟩ := kInt_inv h1
    cases rv.int_inv
    split at h2
    · rename_i c
      refine ⟨j, rfl, c, ?_⟩
      have e : j.toNat = (j - 0).toNat := by rw [Int.sub_zero]
      rw [e] at h2
      exact OpO.newTup S1 h2 (rpa_rg 0 j)
    · exact h2.elim⟩
theorem d_lstRg1 (hc : X.calm = true) (hm : X.mg "range" = none) (hmt : X.mg "list" = none) (ha : PE X a (LE X.K W ma)) (hg : Gl X "range" := by rfl) (hgt : Gl X "list" := by rfl) (na : starEach [a] X.env = (false, eval a X.env) :: starEach [] X.env := by rfl)
    (nr : starEach [.Call (.Name "range" p) [a] [] pos] X.env = (false, eval (.Call (.Name "range" p) [a] [] pos) X.env) :: starEach [] X.env := by rfl) :
    PE X (.Call (.Name "list" p2) [.Call (.Name "range" p) [a] [] pos] [] pos2) (LE X.K W (eLstRg1 ma)) :=
  (pe_listRg hc hgt hmt (prg_1 hg hm ha na) nr).imp fun σ H Q ⟨ι, env, M, S, R, h⟩ => ⟨ι, env, M, S, R, (OutP.bind h).imp fun d M1 ι1 H1 e1 S1 h1 v rv => by
    obtain ⟨j, rfl, h2⟩ := kInt_inv h1
    cases rv.int_inv
    split at h2
    · rename_i c
      refine ⟨j, rfl, c, ?_⟩
      have e : j.toNat = (j - 0).toNat := by rw [Int.sub_zero]
      rw [e] at h2
      exact OpO.newLst S1 h2 (rpa_rg 0 j)
    · exact h2.elim⟩
theorem d_tupRg2 (hc : X.calm = true) (hm : X.mg "range" = none) (hmt : X.mg "tuple" = none) (ha : PE X a (LE X.K W ma)) (hb : PE X b (LE X.K W mb)) (hg : Gl X "range" := by rfl) (hgt : Gl X "tuple" := by rfl) (na : starEach [a, b] X.env = (false, eval a X.env) :: starEach [b] X.env := by rfl) (nb : starEach [b] X.env = (false, eval b X.env) :: starEach [] X.env := by rfl) (hp : (backTo pos (starEach [b] X.env)).any (·.1) = false := by rfl)
    (nr : starEach [.Call (.Name "range" p) [a, b] [] pos] X.env = (false, eval (.Call (.Name "range" p) [a, b] [] pos) X.env) :: starEach [] X.env := by rfl) :
    PE X (.Call (.Name "tuple" p2) [.Call (.Name "range" p) [a, b] [] pos] [] pos2) (LE X.K W (eTupRg2 ma mb)) :=
  (pe_tupRg hc hgt hmt (prg_2 hg hm ha hb na nb hp) nr).imp fun σ H Q ⟨ι, env, M, S, R, h⟩ => ⟨ι, env, M, S, R, (OutP.bind h).imp fun d M1 ι1 H1 e1 S1 h1 v rv => ⟨ι1, env, M1, S1, R.ext e1, (OutP.bind h1).imp fun d2 M2 ι2 H2 e2 S2 h2 u ru => by
    obtain ⟨i, rfl, h3⟩ := kInt_inv h2
    obtain ⟨j, rfl, h4⟩ := kInt_inv h3
    cases rv.int_inv
    cases ru.int_inv
    split at h4
    · rename_i c
      exact ⟨i, j, rfl, rfl, c, OpO.newTup S2 h4 (rpa_rg i j)⟩
    · exact h4.elim⟩⟩
theorem d_lstRg2 (hc : X.calm = true) (hm : X.mg "range" = none) (hmt : X.mg "list" = none) (ha : PE X a (LE X.K W ma)) (hb : PE X b (LE X.K W mb)) (hg : Gl X "range" := by rfl) (hgt : Gl X "list" := by rfl) (na : starEach [a, b] X.env = (false, eval a X.env) :: starEach [b] X.env := by rfl) (nb : starEach [b] X.env = (false, eval b X.env) :: starEach [] X.env := by rfl) (hp : (backTo pos (starEach [b] X.env)).any (·.1) = false := by rfl)
    (nr : starEach [.Call (.Name "range" p) [a, b] [] pos] X.env = (false, eval (.Call (.Name "range" p) [a, b] [] pos) X.env) :: starEach [] X.env := by rfl) :
    PE X (.Call (.Name "list" p2) [.Call (.Name "range" p) [a, b] [] pos] [] pos2) (LE X.K W (eLstRg2 ma mb)) :=
  (pe_listRg hc hgt hmt (prg_2 hg hm ha hb na nb hp) nr).imp fun σ H Q ⟨ι, env, M, S, R, h⟩ => ⟨ι, env, M, S, R, (OutP.bind h).imp fun d M1 ι1 H1 e1 S1 h1 v rv => ⟨ι1, env, M1, S1, R.ext e1, (OutP.bind h1).imp fun d2 M2 ι2 H2 e2 S2 h2 u ru => by
    obtain ⟨i, rfl, h3⟩ := kInt_inv h2
    obtain ⟨j, rfl, h4⟩ := kInt_inv h3
    cases rv.int_inv
    cases ru.int_inv
    split at h4
    · rename_i c
      exact ⟨i, j, rfl, rfl, c, OpO.newLst S2 h4 (rpa_rg i j)⟩
    · exact h4.elim⟩⟩
end
end TL
end
section
set_option maxHeartbeats 4000000
/-! the tree layer: exceptions of own classes -/
namespace TL
open PySem PySem.Spec PyProof.Rows L2

/-! ### raise -/
def sRaise (c : Str) : MS := fun env M => .exc ⟨c, none⟩ env M
/-- an own class without own __init__ -/
structure ExF (K : PySem.W.Frag) (mg : Str → Option Value) (c : Str) : Prop where
  g : mg c = some (.ref (He.ga K c))
  ex : PySem.W.excIn K (He.ga K c) He.veBase "ValueError.__new__" = true
  k : PySem.W.keepIn K (.ref (He.ga K c)) = true
  s : PySem.W.subIn K (.ref (He.ga K c)) (.type "BaseException") = some true
  t : PySem.W.typeIn K (.ref (He.ga K c)) = some (.type "type")
section
variable {X : Cx} {W : WX} {k : Nat} {c m : Str} {j : Nat} {p p2 pos pos2 : Pos}
theorem ds_raise (C : Ctx X W k) (F : ExF X.K X.mg c) (hg : Gl X c := by rfl) (hdb : (c == ("__debug__" : Str)) = false := by decide) :
    PS X (.Raise (some (.Call (.Name c p) [.Constant (.str m) j p2] [] pos)) none pos2) (LS X.K W (sRaise c)) :=
  (L2N.ps_raise C.calm C.tk (L2N.pmk_own PySem.F.excBase_ValueError F.ex F.g F.k (raises_own F.s F.t) hg hdb)).imp fun En σ H ⟨ι, env, M, S, R, h⟩ => h ι σ H _ _ Ext.refl S R ⟨rfl, .inl ⟨rfl, rfl⟩⟩
end

/-! ### the exception that was caught, tracked -/
/-- where a suite stands: the exception at a is being handled, and is tracked as itself -/
abbrev Cx.suiteT (X : Cx) (a : Addr) (pn : List (Addr × Obj)) : Cx := { X with A := X.A.mark (some (.ref a)), calm := false, pn := pn, xe := fun _ _ => False }
theorem errO_ok {P : Program} {w : World} {H : Hp} {h : Heap} {a : Addr} {oe : Obj} (e : h.get? a = some oe) : ObjOk P w H h a (errO oe) := ⟨e, trivial, ⟨_, e⟩, fun _ _ _ _ => trivial⟩
section
variable {X : Cx} {pins : List (Addr × Obj)} {σ : L2.St} {H : Hp} {s : Shared}
/-- an untracked object, younger than the def's call, is tracked from now on as itself -/
theorem Inv.adopt (I : Inv X pins σ H s) {a : Addr} {oe : Obj} {vs : Array Value} (young : ∀ o, X.s_0.heap.get? a ≠ some o) (apart : ∀ p ∈ X.pn ++ pins, p.1 ≠ a) (ha : s.heap.get? a = some oe) (hd : oe.data = .fields vs) (na : H a = none) (frame : a ≠ X.env.locals) :
    Inv X pins σ (upd H a (errO oe)) s := by
  have other : ∀ {b : Addr} {o : HO}, H b = some o → upd H a (errO oe) b = some o := fun {b o} e => by rw [upd_ne (ne_of_none e na)]; exact e
  have off : ∀ {b : Addr}, b ≠ a → H b = none → upd H a (errO oe) b = none := fun hb e => by rw [upd_ne hb]; exact e
  exact
    { ok := I.ok, os := I.os, bare := I.bare, loc := I.loc, cell := I.cell, len := I.len
      base :=
        { keep := I.base.keep, slot := I.base.slot, there := I.base.there
          free := fun b o e n hx => off (fun z => young o (z ▸ e)) (I.base.free b o e n hx)
          tups := fun b xs e => other (I.base.tups b xs e)
          frzs := fun b o u e => other (I.base.frzs b o u e)
          tbls := fun b ps e => (I.base.tbls b ps e).imp fun _ z => other z }
      free := off (Ne.symm frame) I.free
      freeC := fun x c e => off (fun z => by
        obtain ⟨v, o, e1, e2⟩ := I.cell x c e
        rw [z, ha] at e1
        cases e1
        rw [hd] at e2
        cases e2) (I.freeC x c e)
      pin := fun p hp => ⟨(I.pin p hp).1, off (apart p hp) (I.pin p hp).2.1, (I.pin p hp).2.2⟩
      hok := fun b o e => by
        by_cases hb : b = a
        · subst hb
          rw [upd_same] at e
          cases e
          exact errO_ok ha
        · rw [upd_ne hb] at e
          exact (I.hok b o e).stay (fun _ _ _ q => q) (fun c hc => other hc) fun c xs hc => other hc }
/-- into the suite -/
theorem Inv.goSuite (I : Inv X pins σ H s) (a : Addr) : Inv (Cx.suiteT X a (X.pn ++ pins)) [] σ H s :=
  { ok := I.ok.suite a _, os := I.os, bare := I.bare, base := I.base, loc := I.loc, cell := I.cell, free := I.free, freeC := I.freeC, hok := I.hok, len := I.len
    pin := fun p hp => I.pin p (List.append_nil (X.pn ++ pins) ▸ hp) }
/-- out of the suite -/
theorem Inv.goOut {a : Addr} {pn' : List (Addr × Obj)} (ok : X.Ok) (I : Inv (Cx.suiteT X a (X.pn ++ pins)) pn' σ H s) : Inv X pins σ H s :=
  { ok := ok, os := I.os, bare := I.bare, base := I.base, loc := I.loc, cell := I.cell, free := I.free, freeC := I.freeC, hok := I.hok, len := I.len
    pin := fun p hp => I.pin p (List.mem_append.mpr (.inl hp)) }
end
/-- an exception has come down at a in the frame of X: what is so of the state, the record of its way in whatever form -/
structure Down (X : Cx) (pins : List (Addr × Obj)) (σ : L2.St) (H : Hp) (a : Addr) (cls : Value) (d : Option Addr) (B : Heap) (s : Shared) (h : Heap) : Prop where
  fl : HandSPX.FlyingZ B (X.env :: X.outer) a (L2N.Zn cls d) h
  inv : ∀ g, HandSPX.FlyingZ B (X.env :: X.outer) a (L2N.Zn cls d) g → h.UpToSlots g → Inv X pins σ H { s with heap := g }
  up : ∀ g, HandSPX.HeldZ B (X.env :: X.outer) a (L2N.Zn cls d) X.env.locals g → h.UpToSlots g → ∀ W : WX, W cls d σ H → L2N.XE X W (.ref a) { s with heap := g }
  free : H a = none
  young : ∀ o, X.s_0.heap.get? a ≠ some o
  apart : ∀ p ∈ X.pn ++ pins, p.1 ≠ a
  frame : a ≠ X.env.locals
section
variable {X : Cx} {pins : List (Addr × Obj)} {σ : L2.St} {H : Hp} {a : Addr} {cls : Value} {d : Option Addr} {B : Heap} {s : Shared} {h g : Heap}
theorem Down.move (D : Down X pins σ H a cls d B s h) (fl : HandSPX.FlyingZ B (X.env :: X.outer) a (L2N.Zn cls d) g) (u : h.UpToSlots g) : Down X pins σ H a cls d B s g :=
  { D with fl := fl, inv := fun g' f' u' => D.inv g' f' (u.trans u'), up := fun g' f' u' => D.up g' f' (u.trans u') }
theorem Down.here (D : Down X pins σ H a cls d B s h) : Inv X pins σ H { s with heap := h } := D.inv h D.fl (Heap.UpToSlots.refl h)
/-- the suite begins: the exception is tracked -/
theorem Down.suite (D : Down X pins σ H a cls d B s h) : ∃ oe : Obj, L2N.Zn cls d oe ∧ (∃ vs, oe.data = .fields vs) ∧ Inv (Cx.suiteT X a (X.pn ++ pins)) [] σ (upd H a (errO oe)) { s with heap := h } := by
  obtain ⟨oe, vs, at_, z, dt⟩ := D.fl.there
  exact ⟨oe, z, ⟨vs, dt⟩, Inv.goSuite (Inv.adopt D.here D.young D.apart at_ dt D.free D.frame) a⟩
/-- the clause's class is read -/
theorem Down.reads {x : Str} {c : Value} {np : Pos} (D : Down X pins σ H a cls d B s h) (hc : Names X x c) {Q : Value → Shared → Prop} {E : Value → Shared → Prop} (q : Q c { s with heap := h }) :
    wpAny (model X.prog X.w) (X.A.mark (some (.ref a))) (eval (.Name x np) X.env) Q E { s with heap := h } := by
  have I : Inv (Cx.suiteT X a (X.pn ++ pins)) [] σ H { s with heap := h } := Inv.goSuite D.here a
  obtain ⟨g, nd, m | ⟨m, v, nn⟩⟩ := hc
  · exact ld_glob I g m q nd
  · exact ld_blt I g m v q nn nd
/-- the clause's class is held against it -/
theorem Down.fits {c : Value} {b : Bool} (D : Down X pins σ H a cls d B s h) (e : PySem.W.exmOne X.K cls c = some b) : PySem.W.Looks (model X.prog X.w) h (excMatches (.ref a) c) b := by
  obtain ⟨oe, vs, at_, z, dt⟩ := D.fl.there
  refine PySem.W.exm_one D.here.kIn ?_ e
  intro A Q E s1 k q
  exact wpAny_typeOf_ref (k _ _ at_) (z.1 ▸ q)
/-- no clause takes it: it goes on -/
theorem Down.on {W : WX} {Q : Flow → Shared → Prop} (D : Down X pins σ H a cls d B s h) (hf : X.env.frame = some X.env.locals) (tk : L2N.Takes X W) (w : W cls d σ H) :
    wpAny (model X.prog X.w) X.A (handleBy (.ref a) X.env []) Q X.xe { s with heap := h } := by
  obtain ⟨_, _, _, oe, vs, T, _, _, at_, _, dt, v1, _⟩ := D.fl
  have last : wpAny (model X.prog X.w) X.A (setFlight (.ref a) X.env.frame) (fun _ t => wpAny (model X.prog X.w) X.A (throw (.ref a) : Sem Flow) Q X.xe t) X.xe { s with heap := h } := by
    rw [hf]
    exact HandSPX.setFlight_upZ D.fl fun g hg ug => wpAny_throw (tk _ _ (D.up g hg ug W w))
  apply wpAny_handleBy_nil
  show wpAny _ _ (PySem.passOn _ _ _) _ _ _
  unfold PySem.passOn
  apply wpAny_bind
  refine wpAny_field at_ dt v1 ?_
  rw [if_neg (by simp)]
  first
    | exact wpAny_bind last
    | exact wpAny_bind (wpAny_pure (wpAny_bind last))
end
/-- what was raised in the body of a try, where it is caught -/
theorem caught {X : Cx} {pins : List (Addr × Obj)} {W : WX} {u : Value} {s : Shared} {xe : Value → Shared → Prop} {Q : Unit → Shared → Prop} {E : Value → Shared → Prop} (ok : X.Ok) (hex : X.ex = []) (hs : X.stack = X.env :: X.outer) (hf : X.env.frame = some X.env.locals)
    (x : L2N.XE (X.tr (X.pn ++ pins) xe) W u s) (go : ∀ (a : Addr) (cls : Value) (d : Option Addr) (B : Heap) (σ : L2.St) (H : Hp) (h : Heap), u = .ref a → W cls d σ H → Down X pins σ H a cls d B s h → Q () { s with heap := h }) :
    wpAny (model X.prog X.w) X.A (noteFrame u X.env) (fun _ t => wpAny (model X.prog X.w) X.A (setFlight u none) Q E t) E s := by
  obtain ⟨a, B, s1, pn1, σ1, H1, cls, d, rfl, I1, ground, up1, sky, free, os1, bare1, w1⟩ := x
  have I : Inv X pins σ1 H1 s1 := I1.ofTry ok
  have fr : X.A.frames = some (X.env :: X.outer) := hs ▸ ok.frames
  have sk : Sky B (X.env :: X.outer) a (L2N.Zn cls d) X.env.locals s.heap := hs ▸ sky
  refine L2N.Sky.land L2N.Zn.steady fr hf sk fun h fl up2 => go a cls d B σ1 H1 h rfl w1 ?_
  have inv : ∀ g, HandSPX.FlyingZ B (X.env :: X.outer) a (L2N.Zn cls d) g → h.UpToSlots g → Inv X pins σ1 H1 { s with heap := g } := fun g fg ug => I.landed ground fg.1 ((up1.trans up2).trans ug) os1 bare1
  obtain ⟨oe, vs, at_, _, dt⟩ := fl.there
  have noFrame : a ∉ frs (X.env :: X.outer) := by
    intro m
    obtain ⟨_, o, e, nf⟩ := fl.2.2.1.mem m
    rw [at_] at e
    cases e
    exact nf _ dt
  have nL : a ≠ X.env.locals := fun z => noFrame (List.mem_filterMap.mpr ⟨X.env, List.mem_cons_self, z ▸ hf⟩)
  have old : ∀ b o, s1.heap.get? b = some o → b ∉ frs (X.env :: X.outer) → b ≠ a := by
    intro b o e nb z
    have e2 := ground b o e (hs ▸ nb)
    rw [z, fl.2.1] at e2
    cases e2
  refine { fl := fl, inv := inv, free := free, frame := nL, up := fun g fg ug V v => ?_, young := fun o e => ?_, apart := fun p hp => ?_ }
  · exact ⟨a, B, s1, pins, σ1, H1, cls, d, rfl, I, ground, (up1.trans up2).trans ug, .inr (.inr (hs ▸ fg)), free, os1, bare1, v⟩
  · obtain ⟨o1, e1⟩ := I.base.there a o e (hex ▸ List.not_mem_nil)
    exact old a o1 e1 noFrame rfl
  · obtain ⟨e1, _, n1, n2, _⟩ := I.pin p hp
    refine old p.1 p.2 e1 fun m => ?_
    exact (List.mem_cons.mp (I.stkSub p.1 (hs ▸ m))).elim n1 n2
/-! ### try: body, clauses -/
/-- a clause: its class, its slot, its suite -/
structure Hd where
  c : Value
  slot : Option Nat
  ts : TS
def setO (σ : L2.St) (i : Option Nat) (v : Option V) : L2.St := match i with
  | some i => σ.set i v
  | none => σ
/-- behind a suite its name goes -/
def goneD (D : Ends) (i : Option Nat) : Ends := { nx := fun σ H => D.nx (setO σ i none) H, rt := D.rt, bk := fun σ H => D.bk (setO σ i none) H, ct := fun σ H => D.ct (setO σ i none) H }
def wHds (K : PySem.W.Frag) (Wout : WX) (D : Ends) : List Hd → WX
  | [] => Wout
  | hd :: r => fun cls d σ H => ∃ b, PySem.W.exmOne K cls hd.c = some b ∧
    (b = true → ∀ (a : Addr) (oe : Obj), H a = none → L2N.Zn cls d oe → (∃ vs, oe.data = .fields vs) → hd.ts (goneD D hd.slot) (setO σ hd.slot (some (.ref a))) (upd H a (errO oe))) ∧
    (b = false → wHds K Wout D r cls d σ H)
inductive HdsT (X : Cx) : List ExceptHandler → List Hd → Prop
  | nil : HdsT X [] []
  | one {x : Str} {c : Value} {ts : TS} {b0 : Stmt} {su : List Stmt} {np pos' : Pos} {hds : List ExceptHandler} {l : List Hd} (hc : Names X x c)
      (hsu : ∀ (a : Addr) (pn : List (Addr × Obj)), PSs (Cx.suiteT X a pn) (b0 :: su) ts) (r : HdsT X hds l) :
      HdsT X (.ExceptHandler (some (.Name x np)) none (b0 :: su) pos' :: hds) (⟨c, none, ts⟩ :: l)
  | as {x n : Str} {i : Nat} {c : Value} {ts : TS} {b0 : Stmt} {su : List Stmt} {np pos' : Pos} {hds : List ExceptHandler} {l : List Hd} (hc : Names X x c) (hi : X.N[i]? = some n) (hln : X.env.kindOf n = some .local)
      (hsu : ∀ (a : Addr) (pn : List (Addr × Obj)), PSs (Cx.suiteT X a pn) (b0 :: su) ts) (r : HdsT X hds l) :
      HdsT X (.ExceptHandler (some (.Name x np)) (some n) (b0 :: su) pos' :: hds) (⟨c, some i, ts⟩ :: l)
section
variable {X : Cx} {pins : List (Addr × Obj)} {D : Ends}
/-- how a suite's end is the try's end, where nothing is to be undone -/
theorem end_plain {a : Addr} {f : Flow} {s : Shared} (ok : X.Ok) (e : SP (Cx.suiteT X a (X.pn ++ pins)) [] (goneD D none) f s) : SP X pins D f s := by
  cases f with
  | ret u => exact e.imp fun _ e => e.imp fun _ e => e.imp fun _ e => ⟨Inv.goOut ok e.1, e.2⟩
  | next => exact e.imp fun _ e => e.imp fun _ e => ⟨Inv.goOut ok e.1, e.2⟩
  | brk => exact e.imp fun _ e => e.imp fun _ e => ⟨Inv.goOut ok e.1, e.2⟩
  | cont => exact e.imp fun _ e => e.imp fun _ e => ⟨Inv.goOut ok e.1, e.2⟩
/-- .. where the name goes -/
theorem end_named {a : Addr} {i : Nat} {n : Str} {pos : Pos} {f : Flow} {s : Shared} {E : Value → Shared → Prop} (ok : X.Ok) (hN : X.N.Nodup) (hi : X.N[i]? = some n) (hln : X.env.kindOf n = some .local)
    (e : SP (Cx.suiteT X a (X.pn ++ pins)) [] (goneD D (some i)) f s) : wpAny (model X.prog X.w) X.A (do bindName X.env n .none; unbindBehindTheSuite X.env n pos) (fun _ t => SP X pins D f t) E s := by
  cases f with
  | ret u =>
    obtain ⟨v, σ, H, I, r, q⟩ := e
    exact gone_ok (Inv.goOut ok I) hN hi hln fun t J => ⟨v, _, H, J, r, q⟩
  | next =>
    obtain ⟨σ, H, I, q⟩ := e
    exact gone_ok (Inv.goOut ok I) hN hi hln fun t J => ⟨_, H, J, q⟩
  | brk =>
    obtain ⟨σ, H, I, q⟩ := e
    exact gone_ok (Inv.goOut ok I) hN hi hln fun t J => ⟨_, H, J, q⟩
  | cont =>
    obtain ⟨σ, H, I, q⟩ := e
    exact gone_ok (Inv.goOut ok I) hN hi hln fun t J => ⟨_, H, J, q⟩
/-- the clauses, one after the other -/
theorem clauses {Wout : WX} {σ : L2.St} {H : Hp} {a : Addr} {cls : Value} {d : Option Addr} {B : Heap} {s : Shared} {h : Heap} (ok : X.Ok) (hf : X.env.frame = some X.env.locals) (hN : X.N.Nodup) (tk : L2N.Takes X Wout) (Dn : Down X pins σ H a cls d B s h) :
    ∀ {hds : List ExceptHandler} {l : List Hd}, HdsT X hds l → wHds X.K Wout D l cls d σ H → wpAny (model X.prog X.w) X.A (handleBy (.ref a) X.env hds) (SP X pins D) X.xe { s with heap := h }
  | _, _, .nil, w => Dn.on hf tk w
  | _, _, .one hc hsu r, ⟨b, e, yes, no⟩ => by
    apply wpAny_handleBy_cons (h := codeAny_handlers_test (Dn.reads hc ((Dn.fits e).here ?_)))
    · exact fun q => by cases q
    cases b with
    | false => exact clauses ok hf hN tk Dn r (no rfl)
    | true =>
      apply codeAny_handlers_suite
      refine HandSPX.lands_againZ Dn.fl fun g fg ug => ?_
      obtain ⟨oe, z, dt, I⟩ := (Dn.move fg ug).suite
      exact wpAny_mono ((hsu a _).run _ _ _ _ _ I (yes rfl a oe Dn.free z dt)) (fun f t e => end_plain ok e) fun _ _ z => z.elim
  | _, _, .as hc hi hln hsu r, ⟨b, e, yes, no⟩ => by
    apply wpAny_handleBy_cons (h := codeAny_handlers_test (Dn.reads hc ((Dn.fits e).here ?_)))
    · exact fun q => by cases q
    cases b with
    | false => exact clauses ok hf hN tk Dn r (no rfl)
    | true =>
      apply codeAny_handlers_suite_as
      refine HandSPX.lands_againZ Dn.fl fun g fg ug => ?_
      obtain ⟨oe, z, dt, I⟩ := (Dn.move fg ug).suite
      refine store_ok (X := Cx.suiteT X a (X.pn ++ pins)) (v := .ref a) I hN hi (.inl hln) rfl (fun t J => ?_) (.inr hln)
      exact wpAny_mono ((hsu a _).run _ _ _ _ _ J (yes rfl a oe Dn.free z dt)) (fun f t e => end_named ok hN hi hln e) fun _ _ z => z.elim
end
section
variable {X : Cx} {body : List Stmt} {h0 : ExceptHandler} {hds : List ExceptHandler} {l : List Hd} {pos : Pos} {tb : WX → TS} {Wout : WX}
theorem ps_tryT (hex : X.ex = []) (hs : X.stack = X.env :: X.outer) (hf : X.env.frame = some X.env.locals) (hN : X.N.Nodup) (tk : L2N.Takes X Wout)
    (hb : ∀ (W : WX) (pn : List (Addr × Obj)) (xe : Value → Shared → Prop), L2N.Takes (X.tr pn xe) W → PassesOwn (model X.prog X.w) X.A X.env xe → PSs (X.tr pn xe) body (tb W))
    (hh : HdsT X (h0 :: hds) l) : PS X (.Try body (h0 :: hds) [] [] pos) (fun D σ H => tb (wHds X.K Wout D l) D σ H) := by
  constructor
  intro pins s σ H D I h
  apply wpAny_Try_except
  have B := hb (wHds X.K Wout D l) (X.pn ++ pins) (fun e s1 => wpAny (model X.prog X.w) X.A (noteFrame e X.env) (fun _ s2 => wpAny (model X.prog X.w) X.A (setFlight e none)
    (fun _ s3 => wpAny (model X.prog X.w) X.A (handleBy e X.env (h0 :: hds)) (SP X pins D) X.xe s3) X.xe s2) X.xe s1)
    (fun u t x => caught I.ok hex hs hf x fun a cls d B σ1 H1 g eu w Dn => by subst eu; exact clauses I.ok hf hN tk Dn hh w) PassesOwn.looking
  refine wpAny_mono (B.run [] s σ H D (I.toTry _) h) (fun f t e => ?_) fun _ _ z => z
  cases f with
  | ret u => exact e.imp fun _ e => e.imp fun _ e => e.imp fun _ e => ⟨e.1.ofTry I.ok, e.2⟩
  | next => exact wpAny_execs_nil (e.imp fun _ e => e.imp fun _ e => ⟨e.1.ofTry I.ok, e.2⟩)
  | brk => exact e.imp fun _ e => e.imp fun _ e => ⟨e.1.ofTry I.ok, e.2⟩
  | cont => exact e.imp fun _ e => e.imp fun _ e => ⟨e.1.ofTry I.ok, e.2⟩
end

/-! ### the mirror of try -/
/-- own exception classes: all stand right under ScoreError -/
def subX (c C : Str) : Bool := c == C || (C == "ScoreError" || C == "ValueError")
def setE (env : TL.Env) (i : Option Nat) (d : Option D) : TL.Env := match i with
  | some i => env.set i d
  | none => env
def undoS (i : Option Nat) : SOut → SOut
  | .next env M => .next (setE env i none) M
  | .ret d M => .ret d M
  | _ => .stuck
structure HdM where
  C : Str
  slot : Option Nat
  m : MS
def hdsRun (x : Ex) : List HdM → MS
  | [] => fun env M => .exc x env M
  | h :: r => fun env M => if subX x.cls h.C = true then undoS h.slot (h.m (setE env h.slot (some (.err x))) M) else hdsRun x r env M
def sTry (cl : List Str) (b : MS) (hs : List HdM) : MS := fun env M => match b env M with
  | .exc x env1 M1 => if x.cls ∈ cl then hdsRun x hs env1 M1 else .stuck
  | o => o
/-- what is known of the classes -/
def ExSub (K : PySem.W.Frag) (cl hl : List Str) : Prop := ∀ c ∈ cl, ∀ C ∈ hl, PySem.W.exmOne K (.ref (He.ga K c)) (.ref (He.ga K C)) = some (subX c C)
/-- the context of a suite, or of a def called from one -/
structure CtxH (X : Cx) (W : WX) (k : Nat) : Prop where
  nd : X.N.Nodup
  room : L2H.RoomH k X.A
  tk : L2N.Takes X W
theorem CtxH.hu {X : Cx} {W : WX} {k : Nat} (C : CtxH X W k) : X.A.units + 64 < cLine := by have := C.room.un; omega
inductive HdsM (X : Cx) (cl : List Str) : List ExceptHandler → List HdM → Prop
  | nil : HdsM X cl [] []
  | one {x : Str} {m : MS} {b₀ : Stmt} {suite : List Stmt} {np pos' : Pos} {hds : List ExceptHandler} {l : List HdM} (hg : Gl X x) (hdb : (x == ("__debug__" : Str)) = false) (hm : X.mg x = some (.ref (He.ga X.K x))) (hsub : ∀ c ∈ cl, PySem.W.exmOne X.K (.ref (He.ga X.K c)) (.ref (He.ga X.K x)) = some (subX c x))
      (hsu : ∀ (a : Addr) (pn : List (Addr × Obj)), PSs (Cx.suiteT X a pn) (b₀ :: suite) (LS X.K W0 m)) (r : HdsM X cl hds l) :
      HdsM X cl (.ExceptHandler (some (.Name x np)) none (b₀ :: suite) pos' :: hds) (⟨x, none, m⟩ :: l)
  | as {x n : Str} {i : Nat} {m : MS} {b₀ : Stmt} {suite : List Stmt} {np pos' : Pos} {hds : List ExceptHandler} {l : List HdM} (hg : Gl X x) (hdb : (x == ("__debug__" : Str)) = false) (hm : X.mg x = some (.ref (He.ga X.K x))) (hsub : ∀ c ∈ cl, PySem.W.exmOne X.K (.ref (He.ga X.K c)) (.ref (He.ga X.K x)) = some (subX c x))
      (hi : X.N[i]? = some n) (hln : X.env.kindOf n = some .local)
      (hsu : ∀ (a : Addr) (pn : List (Addr × Obj)), PSs (Cx.suiteT X a pn) (b₀ :: suite) (LS X.K W0 m)) (r : HdsM X cl hds l) :
      HdsM X cl (.ExceptHandler (some (.Name x np)) (some n) (b₀ :: suite) pos' :: hds) (⟨x, some i, m⟩ :: l)
def HdM.hd (K : PySem.W.Frag) (h : HdM) : Hd := ⟨.ref (He.ga K h.C), h.slot, LS K W0 h.m⟩
theorem HdsM.hds {X : Cx} {cl : List Str} : ∀ {hs : List ExceptHandler} {l : List HdM}, HdsM X cl hs l → HdsT X hs (l.map (HdM.hd X.K))
  | _, _, .nil => .nil
  | _, _, .one hg hdb hm _ hsu r => .one ⟨hg, hdb, .inl hm⟩ hsu r.hds
  | _, _, .as hg hdb hm _ hi hln hsu r => .as ⟨hg, hdb, .inl hm⟩ hi hln hsu r.hds
theorem HdsM.sub {X : Cx} {cl : List Str} : ∀ {hs : List ExceptHandler} {l : List HdM}, HdsM X cl hs l → ∀ h ∈ l, ∀ c ∈ cl, PySem.W.exmOne X.K (.ref (He.ga X.K c)) (.ref (He.ga X.K h.C)) = some (subX c h.C)
  | _, _, .nil, h, hh => nomatch hh
  | _, _, .one hg hdb hm hs hsu r, h, hh => by
    rcases List.mem_cons.mp hh with rfl | hh
    · exact hs
    · exact r.sub h hh
  | _, _, .as hg hdb hm hs hi hln hsu r, h, hh => by
    rcases List.mem_cons.mp hh with rfl | hh
    · exact hs
    · exact r.sub h hh
section
variable {K : PySem.W.Frag} {W : WX} {En : Ends}
theorem EnvR.setO {ι : List Addr} {H : Hp} {d : D} {v : V} (r : Rp K ι H d v) {env : TL.Env} {σ : L2.St} (R : EnvR K ι H env σ) (i : Option Nat) : EnvR K ι H (setE env i (some d)) (TL.setO σ i (some v)) := by
  cases i with
  | none => exact R
  | some i => exact R.set r i
theorem EnvR.unsetO {ι : List Addr} {H : Hp} {env : TL.Env} {σ : L2.St} (R : EnvR K ι H env σ) (i : Option Nat) : EnvR K ι H (setE env i none) (TL.setO σ i none) := by
  cases i with
  | none => exact R
  | some i => exact R.unset i
theorem wHds_of {x : Ex} {cl : List Str} (hx : x.cls ∈ cl) {cls : Value} {dx : Option Addr} {ι : List Addr} {σ : L2.St} {H : Hp} {env : TL.Env} {M : Mem} (S : SR K ι H M) (R : EnvR K ι H env σ) (ex : ExR K ι x cls dx H) :
    ∀ {l : List HdM}, (∀ h ∈ l, ∀ c ∈ cl, PySem.W.exmOne K (.ref (He.ga K c)) (.ref (He.ga K h.C)) = some (subX c h.C)) → SOutP K W ι H (hdsRun x l env M) En → wHds K W En (l.map (HdM.hd K)) cls dx σ H
  | [], _, h => h ι σ H cls dx Ext.refl S R ex
  | hd :: l, hs, h => by
    obtain ⟨ec, ed⟩ := ex
    have h0 : SOutP K W ι H (if subX x.cls hd.C = true then undoS hd.slot (hd.m (setE env hd.slot (some (.err x))) M) else hdsRun x l env M) En := h
    refine ⟨subX x.cls hd.C, by rw [ec]; exact hs hd List.mem_cons_self _ hx, fun hb a oe na hz hv => ?_, fun hb => ?_⟩
    · rw [if_pos hb] at h0
      obtain ⟨vs, hv⟩ := hv
      have e1 : Ext K ι H ι (upd H a (errO oe)) := Ext.new na
      have h1 := SOutP.ext e1 h0
      have er : ErrAt K (upd H a (errO oe)) a x := by
        refine ⟨oe, vs, upd_same, hz.1.trans ec, hv, hz.2.2 vs hv, ?_⟩
        rw [hz.2.1]
        rcases ed with ed | ⟨i, d, e1, e2, e3⟩
        · exact .inl ed
        · exact .inr ⟨i, d, e1, e2, by rw [upd_ne (ne_of_none e3 na)]; exact e3⟩
      refine ⟨ι, _, M, S.new na, (R.ext e1).setO (.err er) hd.slot, ?_⟩
      revert h1
      cases hd.m (setE env hd.slot (some (.err x))) M with
      | next env2 M2 => exact fun h1 ι2 σ2 H2 e2 S2 R2 => h1 ι2 _ H2 e2 S2 (R2.unsetO hd.slot)
      | ret d M2 => exact fun h1 => h1
      | exc y env2 M2 => exact fun h1 => h1.elim
      | stuck => exact fun h1 => h1
    · rw [if_neg (by rw [hb]; exact Bool.false_ne_true)] at h0
      exact wHds_of hx S R ⟨ec, ed⟩ (fun h hh => hs h (List.mem_cons_of_mem _ hh)) h0
end
section
variable {X : Cx} {W : WX} {k : Nat} {body : List Stmt} {h₀ : ExceptHandler} {hds : List ExceptHandler} {l : List HdM} {cl : List Str} {mb : MS} {pos : Pos}
theorem Ctx.tr {X : Cx} {W : WX} {k : Nat} (C : Ctx X W k) {W' : WX} {pn : List (Addr × Obj)} {xe : Value → Shared → Prop} (tk : L2N.Takes (X.tr pn xe) W') (ps : PassesOwn (model X.prog X.w) X.A X.env xe) : Ctx (X.tr pn xe) W' k :=
  ⟨C.calm, C.nd, C.room, tk, ps⟩
theorem ds_try (C : Ctx X W k) (hb : ∀ (W' : WX) (pn : List (Addr × Obj)) (xe : Value → Shared → Prop), Ctx (X.tr pn xe) W' k → PSs (X.tr pn xe) body (LS X.K W' mb)) (hh : HdsM X cl (h₀ :: hds) l)
    (hex : X.ex = [] := by rfl) (hs : X.stack = X.env :: X.outer := by rfl) (hf : X.env.frame = some X.env.locals := by rfl) : PS X (.Try body (h₀ :: hds) [] [] pos) (LS X.K W (sTry cl mb l)) :=
  (ps_tryT hex hs hf C.nd C.tk (tb := fun W' => LS X.K W' mb) (fun W' pn xe tk ps => hb W' pn xe (C.tr tk ps)) hh.hds).imp fun En σ H ⟨ι, env, M, S, R, h⟩ => ⟨ι, env, M, S, R, by
    unfold sTry at h
    revert h
    cases mb env M with
    | next env1 M1 => exact fun h => h
    | ret d M1 => exact fun h => h
    | stuck => exact fun h => h
    | exc x env1 M1 =>
      intro h ι1 σ1 H1 cls dx e1 S1 R1 ex
      have h0 : SOutP X.K W ι H (if x.cls ∈ cl then hdsRun x l env1 M1 else .stuck) En := h
      by_cases hx : x.cls ∈ cl
      · rw [if_pos hx] at h0
        exact wHds_of hx S1 R1 ex hh.sub (SOutP.ext e1 h0)
      · rw [if_neg hx] at h0
        exact h0.elim⟩
theorem ctxH_suite (C : Ctx X W k) {a : Addr} {pn : List (Addr × Obj)} : CtxH (Cx.suiteT X a pn) W0 k := ⟨C.nd, ⟨C.room.dp, C.room.un⟩, takesN0⟩
end

/-! ### defs called where an exception is handled -/
/-- what a def promises there: nothing that it does asks what is handled -/
structure FnT (P : Program) (w : World) (K : PySem.W.Frag) (mg : Str → Option Value) (base : Heap) (CX : CXT) (k : Nat) (f : Addr) (fd : FuncData) (ps : List Str) (sp : Sp) : Prop where
  len : ∀ vs H Q E, sp vs H Q E → vs.length = ps.length
  run : ∀ (A : Around) (outer : List PySem.Env) (s : Shared) (H : Hp) (args : Args) (us : List Value) (vs : List V) (Q : VK) (E : XK), L2H.RoomH k A → Env0 P w K mg base A outer s H → BindsTo s fd args (ps.zip us) → Vals vs us → sp vs H Q E →
    codeAny (model P w) A (.call (.ref f) args) (CR CX outer P w H s Q E) s
/-- its body's context -/
def cxT (CX : CXT) (P : Program) (w : World) (K : PySem.W.Frag) (mg : Str → Option Value) (base : Heap) (N : List Str) (qual : Str) (scope : Scope) (f : Addr) (cd : Value) (A : Around) (outer : List PySem.Env) (s : Shared) (H : Hp) (E : XK) : Cx :=
  { cxOf CX P w K mg base N qual scope f cd A outer s H E with calm := false }
/-- an exception that is handled around changes nothing of where things stand -/
theorem env0_mark {P : Program} {w : World} {K : PySem.W.Frag} {mg : Str → Option Value} {base : Heap} {A : Around} {outer : List PySem.Env} {s : Shared} {H : Hp} (e : Env0 P w K mg base A outer s H) : Env0 P w K mg base { A with handled := none } outer s H :=
  { e with frames := e.frames }
theorem ok_mark {CX : CXT} {P : Program} {w : World} {K : PySem.W.Frag} {mg : Str → Option Value} {base : Heap} {N : List Str} {qual : Str} {scope : Scope} {f : Addr} {cd : Value} {A : Around} {outer : List PySem.Env} {s : Shared} {H : Hp} {E : XK}
    (o : (cxOf CX P w K mg base N qual scope f cd { A with handled := none } outer s H E).Ok) : (cxT CX P w K mg base N qual scope f cd A outer s H E).Ok :=
  { mod := o.mod, kind := o.kind, glob := o.glob, blt := o.blt, above := o.above, inj := o.inj, has := o.has, cab := o.cab, hd := fun z => (Bool.false_ne_true z).elim, frames := o.frames, stk := o.stk, exf := o.exf, bs := o.bs, bsz := o.bsz, noex := o.noex, exfs := o.exfs, funs := o.funs, frf := o.frf }
section
variable {P : Program} {w : World} {K : PySem.W.Frag} {mg : Str → Option Value} {base : Heap} {x qual : Str} {params : Arguments} {body : List Stmt} {scope : Scope} {f : Addr} {fd : FuncData} {N ps : List Str} {k : Nat} {CX : CXT} {sp : Sp}
theorem fnT (F : FunD K x qual params body scope [] [] f fd) (S : FnScope N ps scope) (len : ∀ vs H Q E, sp vs H Q E → vs.length = ps.length)
    (hbody : ∀ (cd : Value) (A : Around) (outer : List PySem.Env) (s : Shared) (H : Hp) (vs : List V) (Q : VK) (E : XK), L2H.RoomH k (A.deeper (envOfC qual scope s.heap.objs.size f cd)) → sp vs H Q E →
      ∃ t, PSs (cxT CX P w K mg base N qual scope f cd A outer s H E) body t ∧ t { nx := fun _ H' => Q .non H', rt := Q } (L2.start N vs) H) : FnT P w K mg base CX (k + 1) f fd ps sp where
  len := len
  run A outer s H args us vs Q E room e0 bound vals want := by
    obtain ⟨_, _, _, _, _, _, _, cd, _, _, rfl, at_, code, _, _⟩ := F.ex
    have held : ∀ b o, base.get? b = some o → s.heap.get? b = some o := fun b o e => (e0.bs b o e).1
    have inK := e0.mod.kin.keeps held
    have lim := e0.mod.nolimit.keeps held
    refine codeAny_call_function room.depth (inK f _ at_) rfl S.co S.gen rfl (PySem.W.codeRec_of inK code) (bound _ _ _ _ (wpAny_newFunctionEnv_cells S.kind ?_ ?_))
    · intro y hy
      have m : y.1 ∈ ps := (List.of_mem_zip (show (y.1, y.2) ∈ ps.zip us from hy)).1
      exact (S.par y.1 m).imp id fun q => ⟨q, PySem.W.cellsFrom_some _ _ _ (.inl q)⟩
    · intro env ee s1 call
      subst ee
      refine ⟨lim.keeps call.toInCall.keep, codeAny_func ?_⟩
      have J := inv_start (CX := CX) (E := E) S (A := { A with handled := none }) rfl (env0_mark e0) (len _ _ _ _ want) vals call
      have I : Inv (cxT CX P w K mg base N qual scope f cd A outer s H E) [] (L2.start N vs) H s1 :=
        { ok := ok_mark J.ok, os := J.os, bare := J.bare, base := J.base, loc := J.loc, cell := J.cell, free := J.free, freeC := J.freeC, pin := J.pin, hok := J.hok, len := J.len }
      obtain ⟨t, run, q⟩ := hbody cd A outer s H vs Q E (room.deeper _) want
      refine wpAny_mono (run.run [] s1 _ H _ I q) (fun fl s2 e => ?_) fun _ _ e => e
      cases fl with
      | next => obtain ⟨_, H2, I2, q2⟩ := e; exact ⟨.non, H2, I2.os, I2.bare, I2.base, I2.hok, rfl, q2⟩
      | ret u => obtain ⟨v, _, H2, I2, r2, q2⟩ := e; exact ⟨v, H2, I2.os, I2.bare, I2.base, I2.hok, r2, q2⟩
      | brk => exact e.elim fun _ e => e.elim fun _ e => e.2.elim
      | cont => exact e.elim fun _ e => e.elim fun _ e => e.2.elim
end
structure CalleeT (P : Program) (w : World) (K : PySem.W.Frag) (mg : Str → Option Value) (base : Heap) (x : Str) (n k : Nat) (m : Fn) : Prop where
  ex : ∃ (f : Addr) (fd : FuncData) (ps : List Str), FnT P w K mg base (L2N.CX P w) k f fd ps (spD K n m) ∧ mg x = some (.ref f) ∧ PySem.W.keepIn K (.ref f) = true ∧ Binds K fd ps [] ∧ ps.length = n
  len : ∀ ds M, ds.length ≠ n → m ds M = .stuck
section
variable {P : Program} {w : World} {K : PySem.W.Frag} {mg : Str → Option Value} {base : Heap}
theorem okT {x qual : Str} {params : Arguments} {body : List Stmt} {scope : Scope} {f : Addr} {N ps : List Str} {k : Nat} {mb : MS} (F : ∃ fd, FunD K x qual params body scope [] [] f fd) (S : FnScope N ps scope) (hm : mg x = some (.ref f))
    (hbind : ∀ (kV doc pm : Value) (an : Option Addr) (cdv ct : Value) (us : List Value), us.length = ps.length → bindArgs (PySem.W.fnOf x qual params body scope .none kV doc pm an cdv ct) ⟨us, []⟩ = pure (ps.zip us))
    (hbody : ∀ (cdv : Value) (A : Around) (outer : List PySem.Env) (s : Shared) (H : Hp) (E : XK), let X := cxT (L2N.CX P w) P w K mg base N qual scope f cdv A outer s H E
      CtxH X (fun cls d _ H => E cls d H) k → PSs X body (LS K (fun cls d _ H => E cls d H) mb)) :
    CalleeT P w K mg base x ps.length (k + 1) (fnD ps.length N.length mb) := by
  obtain ⟨fd, F⟩ := F
  refine ⟨⟨f, fd, ps, fnT F S (fun vs H Q E h => h.1) ?_, hm, F.kp, F.bindsN hbind, rfl⟩, fun ds M h => if_neg h⟩
  rintro cdv A outer s H vs Q E hr ⟨hl, ι, ds, M, SS, rs, h⟩
  refine ⟨_, hbody cdv A outer s H E ⟨S.nd, hr, L2N.takes_of rfl rfl rfl rfl⟩, ι, startE N.length ds, M, SS, ?_, ?_⟩
  · unfold startE L2.start
    rw [rs.length]
    exact envR_start rs _
  · unfold fnD at h
    rw [if_pos (by rw [rs.length]; exact hl)] at h
    revert h
    cases mb (startE N.length ds) M with
    | next env M1 => exact fun h ι1 σ1 H1 e1 S1 _ => h ι1 H1 e1 S1 _ .non
    | ret d M1 => exact fun h ι1 v H1 e1 S1 r => h ι1 H1 e1 S1 v r
    | exc y env M1 => exact fun h ι1 σ1 H1 cls dx e1 S1 _ ex => h ι1 H1 cls dx e1 S1 ex
    | stuck => exact fun h => h
end
section
variable {X : Cx} {W : WX} {e : Expr} {es : List Expr} {mas : MA} {x : Str} {p pos : Pos}
/-- such a call -/
theorem pe_callT {CX : CXT} {k : Nat} {f : Addr} {fd : FuncData} {ps : List Str} {sp : Sp} {E : L2.St → XK} {t : TA} (F : FnT X.prog X.w X.K X.mg X.base CX k f fd ps sp) (room : L2H.RoomH k X.A) (hg : Gl X x) (hm : X.mg x = some (.ref f)) (kp : PySem.W.keepIn X.K (.ref f) = true) (bi : Binds X.K fd ps [])
    (ps' : ∀ σ, PassesAt CX X σ (E σ)) (ha : PA X (e :: es) t) (hdb : (x == ("__debug__" : Str)) = false) (st : starEach (e :: es) X.env = (false, eval e X.env) :: starEach es X.env) (pl : (backTo pos (starEach es X.env)).any (·.1) = false) :
    PE X (.Call (.Name x p) (e :: es) [] pos) (tCallS sp E t) where
  run pins s σ H Q I want := by
    apply wpAny_Call_Name_kw
    refine ld_glob I hg hm ?_ hdb
    refine PySem.W.callWith_K (h₀ := X.base) I.ok.mod.kin kp ?_ st pl
    refine thn (ha.run pos pins s σ H _ I want) ?_
    rintro us s1 ⟨vs, H1, I1, vals, q⟩
    refine ⟨I1.kIn, ?_⟩
    have many : (us ++ []).length = ps.length := by rw [List.append_nil, ← vals.length]; exact F.len _ _ _ _ q
    have bound : BindsTo s1 fd ⟨us, []⟩ (ps.zip us) := by
      have b := bi s1 us I1.kIn many
      rwa [List.append_nil] at b
    apply wpAny_call
    refine codeAny_mono (F.run X.A X.stack s1 H1 _ us vs Q (E σ) room I1.env0 bound vals q) ?_
    rintro (er | fl) s2 e2
    · exact ps' σ pins H1 s1 er s2 I1 e2
    · cases fl with
      | ret u => exact I1.after e2
      | next => exact e2.elim
      | brk => exact e2.elim
      | cont => exact e2.elim
theorem d_callT {k k' n : Nat} {m : Fn} (C : CtxH X W k') (F : CalleeT X.prog X.w X.K X.mg X.base x n k m) (hk : k ≤ k') (ha : PA X (e :: es) (LA X.K W mas)) (hg : Gl X x := by rfl)
    (hdb : (x == ("__debug__" : Str)) = false := by decide) (hst : starEach (e :: es) X.env = (false, eval e X.env) :: starEach es X.env := by rfl) (hpl : (backTo pos (starEach es X.env)).any (·.1) = false := by rfl) :
    PE X (.Call (.Name x p) (e :: es) [] pos) (LE X.K W (eCall m mas)) := by
  have hlen := F.len
  obtain ⟨f, fd, ps, F, hm, kp, hb, _⟩ := F.ex
  refine (pe_callT F (C.room.mono hk) hg hm kp hb (fun σ => L2N.passAt C.tk σ) ha hdb hst hpl).imp fun σ H Q ⟨ι, env, M, S, R, h⟩ => ⟨ι, env, M, S, R, ?_⟩
  refine (OutP.bind h).imp fun ds M1 ι1 H1 e1 S1 h1 vs rv => ⟨?_, ι1, ds, M1, S1, rv, h1⟩
  rw [← rv.length]
  by_cases q : ds.length = n
  · exact q
  · rw [hlen ds M1 q] at h1
    exact h1.elim
end
end TL
end
section
set_option maxHeartbeats 4000000
/-! the tree layer: what is asked of a caught exception; further methods of lists -/
namespace TL
open PySem PySem.Spec PyProof.Rows L2

/-! ### the classes -/
/-- what a class says, so that isinstance and fields of its instances go the usual way -/
def isCB (K : PySem.W.Frag) (c : Str) : Bool :=
  He.eqO (PySem.W.findIn K (.ref (He.ga K c)) "__class__") (some (some (.builtin "object.__class__"))) && (xfB K (He.ga K c) &&
    (decide (PySem.W.mroIn K (He.ga K c) (.type "object") = some true) && (He.eqO (PySem.W.specialIn K (.builtin "object.__class__") "__get__") (some (some (.builtin "getset_descriptor.__get__"))) && decide (PySem.W.takesIn K (.builtin "object.__class__") = some true))))
structure IsC (K : PySem.W.Frag) (C : Addr) : Prop where
  x : XfC K C
  cl : PySem.W.findIn K (.ref C) "__class__" = some (some (.builtin "object.__class__"))
  mro : PySem.W.mroIn K C (.type "object") = some true
  get : PySem.W.specialIn K (.builtin "object.__class__") "__get__" = some (some (.builtin "getset_descriptor.__get__"))
  take : PySem.W.takesIn K (.builtin "object.__class__") = some true
theorem isCB_ok {K : PySem.W.Frag} {c : Str} (h : isCB K c = true) : IsC K (He.ga K c) := by
  obtain ⟨h1, h⟩ := He.ba h
  obtain ⟨h2, h⟩ := He.ba h
  obtain ⟨h3, h⟩ := He.ba h
  obtain ⟨h4, h5⟩ := He.ba h
  exact ⟨xfB_ok h2, He.eqO_ok h1, of_decide_eq_true h3, He.eqO_ok h4, of_decide_eq_true h5⟩
theorem IsC.kit {K : PySem.W.Frag} {C x : Addr} {ox : Obj} {od : Option Obj} (T : IsC K C) : PySem.W.KitX K (.ref x) (.ref C) (fun h => PySem.W.InstAt h x ox C od) :=
  PySem.W.kitx_exc (by obtain ⟨cd, hc, _⟩ := PySem.W.any_some T.x.hdC; rw [hc]; rfl) T.x.ga T.x.gg T.x.exC T.cl T.get T.take T.mro
/-- the classes cl, held against the classes hl and ValueError -/
def isTB (K : PySem.W.Frag) (cl hl : List Str) : Bool := cl.all fun c => isCB K c && (decide (PySem.W.kitOne K (.ref (He.ga K c)) (.type "ValueError") = some true) && hl.all fun C => decide (PySem.W.kitOne K (.ref (He.ga K c)) (.ref (He.ga K C)) = some (subX c C)))
structure IsT (K : PySem.W.Frag) (cl hl : List Str) : Prop where
  c : ∀ c ∈ cl, IsC K (He.ga K c)
  v : ∀ c ∈ cl, PySem.W.kitOne K (.ref (He.ga K c)) (.type "ValueError") = some true
  h : ∀ c ∈ cl, ∀ C ∈ hl, PySem.W.kitOne K (.ref (He.ga K c)) (.ref (He.ga K C)) = some (subX c C)
theorem isTB_ok {K : PySem.W.Frag} {cl hl : List Str} (h : isTB K cl hl = true) : IsT K cl hl := by
  have h' := fun c hc => He.ba (List.all_eq_true.mp h c hc)
  exact ⟨fun c hc => isCB_ok (h' c hc).1, fun c hc => of_decide_eq_true (He.ba (h' c hc).2).1, fun c hc C hC => of_decide_eq_true (List.all_eq_true.mp (He.ba (h' c hc).2).2 C hC)⟩
/-- .. held by except clauses -/
def exSubB (K : PySem.W.Frag) (cl hl : List Str) : Bool := cl.all fun c => hl.all fun C => decide (PySem.W.exmOne K (.ref (He.ga K c)) (.ref (He.ga K C)) = some (subX c C))
theorem exSubB_ok {K : PySem.W.Frag} {cl hl : List Str} (h : exSubB K cl hl = true) : ExSub K cl hl := fun c hc C hC => of_decide_eq_true (List.all_eq_true.mp (List.all_eq_true.mp h c hc) C hC)
theorem ExSub.of {K : PySem.W.Frag} {cl hl : List Str} (h : ExSub K cl hl) {C : Str} (hC : C ∈ hl) : ∀ c ∈ cl, PySem.W.exmOne K (.ref (He.ga K c)) (.ref (He.ga K C)) = some (subX c C) := fun c hc => h c hc C hC
section
variable {X : Cx} {W : WX} {pins : List (Addr × Obj)} {σ : L2.St} {H : Hp} {s : Shared}
theorem err_inst (I : L2.Inv X pins σ H s) {a : Addr} {x : Ex} (h : ErrAt X.K H a x) : ∃ oe od, PySem.W.InstAt s.heap a oe (He.ga X.K x.cls) od := by
  obtain ⟨oe, vs, h1, h2, h3, h4, h5⟩ := h
  have h6 : s.heap.get? a = some oe := (I.hok a _ h1).1
  have no : PySem.W.notCls oe = true := by unfold PySem.W.notCls; rw [h3]
  rcases h5 with ⟨_, h5⟩ | ⟨i, d, _, h5, h7⟩
  · exact ⟨oe, none, ⟨h6, h2, no, by rw [h5]; trivial⟩⟩
  · obtain ⟨mA, hns, _⟩ := (show ObjOk X.prog X.w H s.heap d (.xd _) from I.hok d _ h7)
    obtain ⟨od, ho, _⟩ := lookIn_ns hns
    exact ⟨oe, some od, ⟨h6, h2, no, by rw [h5]; exact ho⟩⟩
/-! ### isinstance of a caught exception -/
/-- the classes asked for: own ones by name, ValueError -/
def clsV (K : PySem.W.Frag) (C : Str) : V := if C = "ValueError" then .ty "ValueError" else .ref (He.ga K C)
def clsU (K : PySem.W.Frag) (C : Str) : Value := if C = "ValueError" then .type "ValueError" else .ref (He.ga K C)
theorem cls_rel {K : PySem.W.Frag} {C : Str} {u : Value} (r : RelV (clsV K C) u) : u = clsU K C := by
  unfold clsV at r
  unfold clsU
  by_cases h : C = "ValueError"
  · rw [if_pos h] at r ⊢; exact r
  · rw [if_neg h] at r ⊢; exact r
theorem IsT.one {K : PySem.W.Frag} {cl hl : List Str} (T : IsT K cl hl) {c C : Str} (hc : c ∈ cl) (hC : C = "ValueError" ∨ C ∈ hl) : PySem.W.kitOne K (.ref (He.ga K c)) (clsU K C) = some (subX c C) := by
  unfold clsU
  by_cases h : C = "ValueError"
  · rw [if_pos h, T.v c hc, h]; simp [subX]
  · rw [if_neg h]; exact T.h c hc C (hC.resolve_left h)
def rErr (K : PySem.W.Frag) (cl : List Str) (C : Str) : List V → Hp → VK → Prop := fun xs H Q => ∃ (a : Addr) (x : Ex), xs = [.ref a, clsV K C] ∧ ErrAt K H a x ∧ x.cls ∈ cl ∧ Q (.bl (subX x.cls C)) H
theorem c_isErr {cl hl : List Str} (T : IsT X.K cl hl) {C : Str} (hC : C = "ValueError" ∨ C ∈ hl) : CallR X (.builtin "isinstance") (rErr X.K cl C) := by
  intro pins s σ H xs us Q I r h
  obtain ⟨a, x, rfl, he, hc, q⟩ := h
  obtain ⟨u1, u2, rfl, r1, r2⟩ := vals2 r
  obtain rfl : u1 = Value.ref a := r1
  obtain rfl := cls_rel r2
  obtain ⟨oe, od, J⟩ := err_inst I he
  exact PySem.W.kia_one (T.c _ hc).kit I.kIn J (T.one hc hC) (fun z => nomatch z) fun tk => ⟨.bl _, H, I.tok tk, rfl, q⟩
def rErrs (K : PySem.W.Frag) (cl Cs : List Str) : List V → Hp → VK → Prop := fun xs H Q => ∃ (a tp : Addr) (x : Ex), xs = [.ref a, .ref tp] ∧ H tp = some (.tup (Cs.map (clsV K))) ∧ ErrAt K H a x ∧ x.cls ∈ cl ∧ Q (.bl (Cs.any (subX x.cls))) H
theorem IsT.any {K : PySem.W.Frag} {cl hl : List Str} (T : IsT K cl hl) {c : Str} (hc : c ∈ cl) : ∀ {Cs : List Str}, (∀ C ∈ Cs, C = "ValueError" ∨ C ∈ hl) → PySem.W.kitAny K (.ref (He.ga K c)) (Cs.map (clsU K)) = some (Cs.any (subX c))
  | [], _ => rfl
  | C :: Cs, h => by
    refine kitAny_cons (T.one hc (h C List.mem_cons_self)) (fun e => ?_) fun e => ?_
    · rw [T.any hc fun C' h' => h C' (List.mem_cons_of_mem _ h')]; simp [e]
    · simp [e]
theorem clss_rel {K : PySem.W.Frag} : ∀ {Cs : List Str} {us : List Value}, Vals (Cs.map (clsV K)) us → us = Cs.map (clsU K)
  | [], _, .nil => rfl
  | C :: Cs, _, .cons r t => by rw [cls_rel r, clss_rel t]; rfl
theorem c_isErrs {cl hl : List Str} (T : IsT X.K cl hl) {Cs : List Str} (hC : ∀ C ∈ Cs, C = "ValueError" ∨ C ∈ hl) : CallR X (.builtin "isinstance") (rErrs X.K cl Cs) := by
  intro pins s σ H xs us Q I r h
  obtain ⟨a, tp, x, rfl, ht, he, hc, q⟩ := h
  obtain ⟨u1, u2, rfl, r1, r2⟩ := vals2 r
  obtain rfl : u1 = Value.ref a := r1
  obtain rfl : u2 = Value.ref tp := r2
  obtain ⟨oe, od, J⟩ := err_inst I he
  obtain ⟨_, its, rv, ⟨o1, o2, o3, o4⟩, h1, h2, n, h3⟩ := (show ObjOk X.prog X.w H s.heap tp (.tup _) from I.hok tp _ ht)
  simp only at h2 h3
  subst h2 h3
  obtain rfl := clss_rel rv
  exact PySem.W.kia_tup (T.c _ hc).kit I.kIn J h1 (T.any hc hC) (fun z => nomatch z) fun tk => ⟨.bl _, H, I.tok tk, rfl, q⟩
end
def mIsE (cl : List Str) (C : Str) : Op1 := fun d M => match d with
  | .err x => if x.cls ∈ cl then some (.bl (subX x.cls C), M) else none
  | _ => none
def mIsEs (cl Cs : List Str) : Op1 := fun d M => match d with
  | .err x => if x.cls ∈ cl then some (.bl (Cs.any (subX x.cls)), M) else none
  | _ => none
def eIsE (cl : List Str) (C : Str) (a : ME) : ME := eUn (mIsE cl C) a
def eIsEs (cl Cs : List Str) (a : ME) : ME := eUn (mIsEs cl Cs) a
section
variable {X : Cx} {W : WX} {e : Expr} {me : ME} {p p2 p3 pos : Pos}
theorem Rp.err_inv {K : PySem.W.Frag} {ι : List Addr} {H : Hp} {x : Ex} {v : V} (r : Rp K ι H (.err x) v) : ∃ a, v = .ref a ∧ ErrAt K H a x := by cases r with | err h => exact ⟨_, rfl, h⟩
/-- a class by its name -/
theorem pe_cls {C : Str} (hg : Gl X C) (hm : (C = "ValueError" ∧ X.mg C = none) ∨ (C ≠ "ValueError" ∧ X.mg C = some (.ref (He.ga X.K C)))) (hd : (C == ("__debug__" : Str)) = false := by decide) : PE X (.Name C p2) (tC (clsV X.K C)) := by
  rcases hm with ⟨rfl, hm⟩ | ⟨hn, hm⟩
  · exact pe_bltn hg hm PyProof.Rows.Boot.«ValueError» (v := clsV X.K "ValueError") (by rw [show clsV X.K "ValueError" = .ty "ValueError" from if_pos rfl]; rfl) (by decide) hd
  · refine pe_glob hg hm ?_ hd
    rw [show clsV X.K C = .ref (He.ga X.K C) from if_neg hn]
    rfl
theorem d_isE {cl hl : List Str} {C : Str} (T : IsT X.K cl hl) (hC : C = "ValueError" ∨ C ∈ hl) (hi : X.mg "isinstance" = none) (hm : (C = "ValueError" ∧ X.mg C = none) ∨ (C ≠ "ValueError" ∧ X.mg C = some (.ref (He.ga X.K C)))) (he : PE X e (LE X.K W me))
    (hgi : Gl X "isinstance" := by rfl) (hg : Gl X C := by rfl) (hd : (C == ("__debug__" : Str)) = false := by decide)
    (h1 : starEach [e, .Name C p2] X.env = (false, eval e X.env) :: starEach [.Name C p2] X.env := by rfl) (h2 : starEach [.Name C p2] X.env = (false, eval (.Name C p2) X.env) :: starEach [] X.env := by rfl)
    (h3 : (backTo pos (starEach [.Name C p2] X.env)).any (·.1) = false := by rfl) : PE X (.Call (.Name "isinstance" p) [e, .Name C p2] [] pos) (LE X.K W (eIsE cl C me)) :=
  (pe_callB (c_isErr T hC) hgi hi boot_isinstance (pa_cons he (pa_cons (pe_cls hg hm hd) pa_nil h2) h1) (by decide) (by decide) h1 h3).imp fun σ H Q ⟨ι, env, M, S, R, h⟩ => ⟨ι, env, M, S, R, (OutP.bind h).imp fun d M1 ι1 H1 e1 S1 h1 v rv => by
    cases d with
    | err x =>
      obtain ⟨a, rfl, hx⟩ := rv.err_inv
      have h2 : OutP X.K (W1 W σ) ι1 H1 (liftO (if x.cls ∈ cl then some (D.bl (subX x.cls C), M1) else none)) (VR X.K Q) := h1
      by_cases hc : x.cls ∈ cl
      · rw [if_pos hc] at h2
        exact ⟨a, x, rfl, hx, hc, OutP.val S1 h2 _ (.bl _)⟩
      · rw [if_neg hc] at h2
        exact h2.elim
    | _ => exact h1.elim⟩
/-- names of classes, one after another -/
inductive ClsNames (X : Cx) : List Str → List Expr → Prop
  | nil : ClsNames X [] []
  | cons {C : Str} {Cs : List Str} {es : List Expr} {p2 : Pos} (hg : Gl X C) (hd : (C == ("__debug__" : Str)) = false) (hm : (C = "ValueError" ∧ X.mg C = none) ∨ (C ≠ "ValueError" ∧ X.mg C = some (.ref (He.ga X.K C))))
      (hs : starEach (.Name C p2 :: es) X.env = (false, eval (.Name C p2) X.env) :: starEach es X.env) (r : ClsNames X Cs es) : ClsNames X (C :: Cs) (.Name C p2 :: es)
theorem ClsNames.pa {Cs : List Str} {es : List Expr} (N : ClsNames X Cs es) : PA X es (fun _ H Q => Q (Cs.map (clsV X.K)) H) := by
  induction N with
  | nil => exact pa_nil
  | cons hg hd hm hs r ih => exact pa_cons (pe_cls hg hm hd) ih hs
theorem d_isEs {cl hl Cs : List Str} {ns : List Expr} {j : Nat} (T : IsT X.K cl hl) (hC : ∀ C ∈ Cs, C = "ValueError" ∨ C ∈ hl) (hi : X.mg "isinstance" = none) (N : ClsNames X Cs ns) (he : PE X e (LE X.K W me))
    (hl' : Cs.length ≤ 100 := by decide) (hgi : Gl X "isinstance" := by rfl)
    (h1 : starEach [e, .Tuple ns j p2] X.env = (false, eval e X.env) :: starEach [.Tuple ns j p2] X.env := by rfl) (h2 : starEach [.Tuple ns j p2] X.env = (false, eval (.Tuple ns j p2) X.env) :: starEach [] X.env := by rfl)
    (h3 : (backTo pos (starEach [.Tuple ns j p2] X.env)).any (·.1) = false := by rfl) : PE X (.Call (.Name "isinstance" p) [e, .Tuple ns j p2] [] pos) (LE X.K W (eIsEs cl Cs me)) :=
  (pe_callB (c_isErrs T hC) hgi hi boot_isinstance (pa_cons he (pa_cons (pe_tup N.pa) pa_nil h2) h1) (by decide) (by decide) h1 h3).imp fun σ H Q ⟨ι, env, M, S, R, h⟩ => ⟨ι, env, M, S, R, (OutP.bind h).imp fun d M1 ι1 H1 e1 S1 h1 v rv => by
    cases d with
    | err x =>
      obtain ⟨a, rfl, hx⟩ := rv.err_inv
      have h2 : OutP X.K (W1 W σ) ι1 H1 (liftO (if x.cls ∈ cl then some (D.bl (Cs.any (subX x.cls)), M1) else none)) (VR X.K Q) := h1
      by_cases hc : x.cls ∈ cl
      · rw [if_pos hc] at h2
        refine ⟨by rw [List.length_map, sizeLine_eq]; omega, fun tp ht => ?_⟩
        have e2 : Ext X.K ι1 H1 ι1 (upd H1 tp (.tup (Cs.map (clsV X.K)))) := Ext.new ht
        exact ⟨a, tp, x, rfl, upd_same, e2.err _ _ hx, hc, OutP.val (S1.new ht) (OutP.ext e2 h2) _ (.bl _)⟩
      · rw [if_neg hc] at h2
        exact h2.elim
    | _ => exact h1.elim⟩
/-! ### e.at -/
def mAt : Op1 := fun d M => match d with
  | .err x => x.at_.map fun i => (.int i, M)
  | _ => none
/-- classes whose instances bear at: cl, all of those that are made with it -/
def atB (K : PySem.W.Frag) (cl : List Str) : Bool := cl.all fun c => xfB K (He.ga K c) && He.eqO (PySem.W.findIn K (.ref (He.ga K c)) "at") (some none)
def eAt (cl : List Str) (a : ME) : ME := fun env M => (a env M).bind fun d M1 => match d with
  | .err x => if x.cls ∈ cl then liftO (mAt (.err x) M1) else .stuck
  | _ => .stuck
theorem d_at {cl : List Str} (T : atB X.K cl = true) (he : PE X e (LE X.K W me)) (hb : attributeBase e "at" X.env (eval e X.env) = eval e X.env := by rfl) : PE X (.Attribute e "at" pos) (LE X.K W (eAt cl me)) := by
  constructor
  rintro pins s σ H Q I ⟨ι, env, M, S, R, h⟩
  refine attr_of hb (thn (he.run pins s σ H _ I ⟨ι, env, M, S, R, (OutP.bind h).imp (R' := VR X.K fun v H1 => ∃ a x i, v = .ref a ∧ ErrAt X.K H1 a x ∧ x.cls ∈ cl ∧ x.at_ = some i ∧ Q (.int i) H1) fun d M1 ι1 H1 e1 S1 h1 v rv => ?_⟩) ?_)
  · cases d with
    | err x =>
      obtain ⟨a, rfl, hx⟩ := rv.err_inv
      have h2 : OutP X.K (W1 W σ) ι1 H1 (if x.cls ∈ cl then liftO (x.at_.map fun i => (D.int i, M1)) else .stuck) (VR X.K Q) := h1
      by_cases hc : x.cls ∈ cl
      · rw [if_pos hc] at h2
        cases ea : x.at_ with
        | none => rw [ea] at h2; exact h2.elim
        | some i => rw [ea] at h2; exact ⟨a, x, i, rfl, hx, hc, ea, OutP.val S1 h2 _ (.int _)⟩
      · rw [if_neg hc] at h2
        exact h2.elim
    | _ => exact h1.elim
  · rintro u s1 ⟨v, H1, I1, rx, a, x, i, rfl, hx, hc, ea, q⟩
    obtain rfl : u = Value.ref a := rx
    obtain ⟨T1, T2⟩ := He.ba (List.all_eq_true.mp T _ hc)
    have T1 := xfB_ok T1
    obtain ⟨oe, vs, h1, h2, h3, h4, h5⟩ := hx
    have h6 : s1.heap.get? a = some oe := (I1.hok a _ h1).1
    rcases h5 with ⟨h5, _⟩ | ⟨i', d, h5, h7, h8⟩
    · rw [ea] at h5; cases h5
    rw [ea] at h5
    cases h5
    obtain ⟨mA, hns, hr⟩ := (show ObjOk X.prog X.w H1 s1.heap d (.xd _) from I1.hok d _ h8)
    obtain ⟨od, ho, hl⟩ := lookIn_ns hns
    obtain ⟨w, hw, rw'⟩ := RelO.some_of (v := V.int i) (o := mA "at") (by have := hr "at"; simpa [List.lookup] using this)
    have no : PySem.W.notCls oe = true := by unfold PySem.W.notCls; rw [h3]
    have J : PySem.W.InstAt s1.heap a oe (He.ga X.K x.cls) (some od) := ⟨h6, h2, no, by rw [h7]; exact ho⟩
    exact HandSPX.exc_get I1.kIn J T1.ga T1.gg T1.exC (PySem.W.findObj_own T1.hdC (He.eqO_ok T2) rfl (by rw [hl, hw])) (handed_of rw') ⟨.int i, H1, I1.tok _, rw', q⟩
end
end TL
end
section
set_option maxHeartbeats 4000000
/-! the tree layer: count and index of flat things; exceptions made with a number -/
namespace TL
open PySem PySem.Spec PyProof.Rows L2
def mCount : D → OpN := fun d ds M => match d, ds with
  | .ref n, [y] => match seqAt M n with
    | some xs => if flatD y = true ∧ xs.all flatD = true then some (.int ((xs.countP fun x => eqF x y : Nat) : Int), M) else none
    | none => none
  | _, _ => none
def mIndex : D → OpN := fun d ds M => match d, ds with
  | .ref n, [y] => match seqAt M n with
    | some xs => if flatD y = true ∧ xs.all flatD = true then (xs.findIdx? fun x => eqF x y).map fun j => (.int ((j : Nat) : Int), M) else none
    | none => none
  | _, _ => none
theorem countP_V {x : V} : ∀ {xs : List V} {us : List Value}, Vals xs us → xs.all flatV = true → us.countP (eqU x) = xs.countP fun y => eqV y x
  | _, _, .nil, _ => rfl
  | y :: xs, u :: us, .cons r t, f => by
    obtain ⟨f1, f2⟩ := Bool.and_eq_true_iff.mp (List.all_cons ▸ f)
    rw [List.countP_cons, List.countP_cons, countP_V t f2, eqU_of r f1]
theorem countP_D {K : PySem.W.Frag} {ι : List Addr} {H : Hp} {d : D} {v : V} (r : Rp K ι H d v) : ∀ {ds : List D} {vs : List V}, RpA K ι H ds vs → (vs.countP fun y => eqV y v) = ds.countP fun x => eqF x d
  | _, _, .nil => rfl
  | _, _, .cons q t => by rw [List.countP_cons, List.countP_cons, countP_D r t, eqF_v q r]
section
variable {X : Cx}
theorem m_count : MtR X "list.count" (rDM X.K mCount) := by
  intro pins s σ H x xs v us Q I rx rxs h
  obtain ⟨ι, M, d, ds, S, r, rs, h⟩ := h
  unfold mCount at h
  split at h
  · obtain ⟨p, rfl, hp⟩ := r.ref_inv
    obtain ⟨y', rfl, ry⟩ := rs.one_inv
    split at h
    · rename_i m
      obtain ⟨vs, h1, r1⟩ := S.seq hp m
      split at h
      · rename_i y c
        obtain rfl : v = Value.ref p := rx
        obtain ⟨uy, rfl, ru⟩ := rxs.one
        have fy : flatV y' = true := by rw [flat_v ry]; exact c.1
        have fs : vs.all flatV = true := by rw [flat_all r1]; exact c.2
        obtain ⟨its, rv, ⟨⟨o1, o2, o3, o4⟩, n, ho, hc, hdn, hd⟩, hlen⟩ := I.list h1
        simp only at hc hd
        subst hc hd
        refine call_meets PySem.F.slot_list_count ⟨_, ho, rfl⟩ PySem.F.entry_list_count (PySem.F.args_list_count_2 _ _) (SeqAt.list_countAt p its.toArray n o2 o4 uy (eqU y')) ⟨ho, fun u hu => mem_eqAt ru fy rv fs u (by simpa using hu), ?_⟩
        have e : its.toArray.toList.countP (eqU y') = _ := (countP_V rv fs).trans (countP_D ry r1)
        refine ⟨.int _, H, I.tok _, ⟨s.toks, ?_⟩, h.val S (.int _)⟩
        show Value.int ((its.toArray.toList.countP (eqU y') : Nat) : Int) s.toks = _
        rw [e]
      · exact h.elim
    · exact h.elim
  · exact h.elim
theorem m_index : MtR X "list.index" (rDM X.K mIndex) := by
  refine MtR.imp mt_index fun x xs H Q h => ?_
  obtain ⟨ι, M, d, ds, S, r, rs, h⟩ := h
  unfold mIndex at h
  split at h
  · rename_i n y
    obtain ⟨p, rfl, hp⟩ := r.ref_inv
    obtain ⟨y', rfl, ry⟩ := rs.one_inv
    split at h
    · rename_i xs0 m
      obtain ⟨vs, h1, r1⟩ := S.seq hp m
      split at h
      · rename_i c
        cases q : xs0.findIdx? fun x => eqF x y with
        | none => rw [q] at h; exact h.elim
        | some j =>
          rw [q] at h
          obtain ⟨hj, e1, e2⟩ := List.findIdx?_eq_some_iff_getElem.mp q
          obtain ⟨z, g1, g2⟩ := r1.get (List.getElem?_eq_getElem hj)
          refine ⟨p, vs, y', j, z, rfl, rfl, h1, by rw [flat_v ry]; exact c.1, by rw [flat_all r1]; exact c.2, g1, by rw [eqF_v g2 ry]; exact e1, fun k z' hk hz => ?_, OpO.val S h (.int _)⟩
          obtain ⟨z2, g3, g4⟩ := r1.get (List.getElem?_eq_getElem (show k < xs0.length by omega))
          rw [g3] at hz
          cases hz
          rw [eqF_v g4 ry]
          have := e2 k hk
          simpa using this
      · exact h.elim
    · exact h.elim
  · exact h.elim
end
/-- a class's facts off the head -/
theorem exF_of {K : PySem.W.Frag} {h : Heap} {mg : Str → Option Value} (X : K.In h) (G : h.Ns mainGlobals mg) {c : Str} (c1 : (He.Fa.glo c).ok K = true) (c2 : (He.Fa.exc c).ok K = true) : ExF K mg c := by
  obtain ⟨h1, h2, h3, h4⟩ := He.exc_ok c2
  exact ⟨He.glo_ok X G c1, h1, h2, h3, h4⟩
end TL
end
section
/-! the tree layer: while, lists compared -/
namespace TL
open PySem PySem.Spec PyProof.Rows L2
/-- a while by its invariant, that holds a measure -/
theorem sWhile_inv {t : MT} {b : MS} {Q : SOut → Prop} (Inv : Nat → Env → Mem → Prop)
    (h : ∀ m env M, Inv m env M → ∃ k M1, t env M = .ok k M1 ∧ (k = false → Q (.next env M1)) ∧ (k = true → (∃ env2 M2 m2, b env M1 = .next env2 M2 ∧ Inv m2 env2 M2 ∧ m2 < m) ∨ (Q (b env M1) ∧ ∀ e M', b env M1 ≠ .next e M'))) :
    ∀ (n m : Nat) (env : Env) (M : Mem), Inv m env M → m < n → Q (sWhile n t b env M)
  | 0, _, _, _, _, hn => absurd hn (Nat.not_lt_zero _)
  | n + 1, m, env, M, hi, hn => by
    obtain ⟨k, M1, e, h1, h2⟩ := h m env M hi
    show Q (thenS env (t env M) fun k M1 => if k = true then nextS (b env M1) (sWhile n t b) else .next env M1)
    rw [e, thenS_ok]
    cases k with
    | false => exact h1 rfl
    | true =>
      rw [if_pos rfl]
      rcases h2 rfl with ⟨env2, M2, m2, e2, hi2, hm⟩ | ⟨q, ne⟩
      · rw [e2]
        exact sWhile_inv Inv h n m2 env2 M2 hi2 (by omega)
      · revert q ne
        cases b env M1 with
        | next e M' => exact fun _ ne => absurd rfl (ne e M')
        | ret d M' => exact fun q _ => q
        | exc x e M' => exact fun q _ => q
        | stuck => exact fun q _ => q
theorem toP_ref {M : Mem} {n k : Nat} {xs : List D} (h : seqAt M n = some xs) (hp : pureL xs k = true) : toP (k + 2) M (.ref n) = some (.list (pyL xs)) := by
  show (match seqAt M n with | some xs => (optAll (toP (k + 1) M) xs).map PyData.list | none => none) = _
  rw [h]
  simp only [toP_pureL xs k hp]
  rfl
theorem shaped_list {xs : List D} {k : Nat} (hp : pureL xs k = true) (hk : k ≤ 62) : SeqAt.shaped (.list (pyL xs)) = true := by
  obtain ⟨h1, h2⟩ := lay_pureL xs k hp
  unfold SeqAt.shaped
  have e : (PyData.list (pyL xs)).canLay0 = true := by simpa [PyData.canLay0] using h1
  rw [e, Bool.true_and]
  refine decide_eq_true ?_
  show PyData.depthAll (pyL xs) + 1 ≤ 64
  omega
theorem eqD_ref {M : Mem} {n m k j : Nat} {xs ys : List D} (h1 : seqAt M n = some xs) (h2 : seqAt M m = some ys) (p1 : pureL xs k = true) (p2 : pureL ys j = true) (hk : k ≤ 62) (hj : j ≤ 62) : eqD M (.ref n) (.ref m) = some (PyData.eqvAll (pyL xs) (pyL ys)) := by
  unfold eqD
  rw [toP_mono (by omega) (toP_ref h1 p1), toP_mono (by omega) (toP_ref h2 p2)]
  simp only [shaped_list p1 hk, shaped_list p2 hj, and_self, if_true, PyData.eqv]
theorem eqD_refT {M : Mem} {n k j : Nat} {xs : List D} {d : D} (h1 : seqAt M n = some xs) (p1 : pureL xs k = true) (hk : k ≤ 62) (p2 : pureD d j = true) (hj : j ≤ 62) : eqD M (.ref n) d = some (PyData.eqv (.list (pyL xs)) (pyD d)) := by
  unfold eqD
  rw [toP_mono (by omega) (toP_ref h1 p1), toP_mono (by omega) (toP_pure (M := M) d j p2)]
  simp only [shaped_list p1 hk, shaped_pure p2 (show j ≤ 63 by omega), and_self, if_true]
theorem eqD_Tref {M : Mem} {n k j : Nat} {xs : List D} {d : D} (h1 : seqAt M n = some xs) (p1 : pureL xs k = true) (hk : k ≤ 62) (p2 : pureD d j = true) (hj : j ≤ 62) : eqD M d (.ref n) = some (PyData.eqv (pyD d) (.list (pyL xs))) := by
  unfold eqD
  rw [toP_mono (by omega) (toP_ref h1 p1), toP_mono (by omega) (toP_pure (M := M) d j p2)]
  simp only [shaped_list p1 hk, shaped_pure p2 (show j ≤ 63 by omega), and_self, if_true]
theorem eqvAll_nil {xs : List D} : PyData.eqvAll (pyL xs) (pyL []) = xs.isEmpty := by cases xs <;> simp [pyL, PyData.eqvAll]
/-- xs == [], xs != [] -/
theorem mNe_nil {M : Mem} {n m k : Nat} {xs : List D} (h1 : seqAt M n = some xs) (h2 : seqAt M m = some []) (p1 : pureL xs k = true) (hk : k ≤ 62) : mNe (.ref n) (.ref m) M = some (.bl (!xs.isEmpty), M) := by
  rw [mNe_eq, eqD_ref h1 h2 p1 (show pureL [] 0 = true by simp [pureL]) hk (by omega), eqvAll_nil]; rfl
theorem mEq_nil {M : Mem} {n m k : Nat} {xs : List D} (h1 : seqAt M n = some xs) (h2 : seqAt M m = some []) (p1 : pureL xs k = true) (hk : k ≤ 62) : mEq (.ref n) (.ref m) M = some (.bl xs.isEmpty, M) := by
  rw [mEq_eq, eqD_ref h1 h2 p1 (show pureL [] 0 = true by simp [pureL]) hk (by omega), eqvAll_nil]; rfl
theorem pureL_all {xs : List D} {k : Nat} (h : ∀ x ∈ xs, pureD x k = true) : pureL xs k = true := by
  induction xs with
  | nil => simp [pureL]
  | cons x xs ih => simp [pureL, h x List.mem_cons_self, ih fun y hy => h y (List.mem_cons_of_mem _ hy)]
theorem tyD_list {M : Mem} {n : Nat} {xs : List D} (h : seqAt M n = some xs) : tyD "list" M (.ref n) = true := by
  show (decide ("list" = "list") && (seqAt M n).isSome) = true
  rw [h]; rfl
theorem mExtend_ok {M : Mem} {n m : Nat} {xs ys : List D} (h1 : M[n]? = some (.lst xs)) (h2 : M[m]? = some (.lst ys)) (hl : xs.length + ys.length ≤ 1000000) : mExtend (.ref n) [.ref m] M = some (.non, M.set n (.lst (xs ++ ys))) := by
  show (match M[n]?, M[m]? with | some (.lst xs), some (.lst ys) => if xs.length + ys.length ≤ sizeLine then some (D.non, M.set n (.lst (xs ++ ys))) else none | _, _ => none) = _
  rw [h1, h2]
  exact if_pos (by rw [sizeLine_eq]; omega)
theorem mAppend_ok {M : Mem} {n : Nat} {xs : List D} {y : D} (h1 : M[n]? = some (.lst xs)) (hl : xs.length ≤ 1000000) : mAppend (.ref n) [y] M = some (.non, M.set n (.lst (xs ++ [y]))) := by
  show (match M[n]? with | some (.lst xs) => if xs.length < sizeLine then some (D.non, M.set n (.lst (xs ++ [y]))) else none | _ => none) = _
  rw [h1]
  exact if_pos (by rw [sizeLine_eq]; omega)
theorem mAdd_lists {M : Mem} {n m : Nat} {xs ys : List D} (h1 : M[n]? = some (.lst xs)) (h2 : M[m]? = some (.lst ys)) (hl : xs.length + ys.length ≤ 1000000) : mAdd (.ref n) (.ref m) M = some (.ref M.length, M ++ [.lst (xs ++ ys)]) := by
  rw [mAdd_ref, h1, h2]
  exact if_pos (by rw [sizeLine_eq]; omega)
@[simp] theorem truD_bl {M : Mem} {b : Bool} : truD M (.bl b) = some b := rfl
@[simp] theorem truD_int {M : Mem} {i : Int} : truD M (.int i) = some (i != 0) := rfl
@[simp] theorem truD_non {M : Mem} : truD M .non = some false := rfl
@[simp] theorem mEq_non_int {M : Mem} {i : Int} : mEq .non (.int i) M = some (.bl false, M) := by
  rw [mEq_eq, eqD_pure (n := 0) (m := 0) (by simp [pureD]) (by simp [pureD]) (by decide) (by decide)]; simp [pyD, PyData.eqv]
@[simp] theorem mEq_int_non {M : Mem} {i : Int} : mEq (.int i) .non M = some (.bl false, M) := by
  rw [mEq_eq, eqD_pure (n := 0) (m := 0) (by simp [pureD]) (by simp [pureD]) (by decide) (by decide)]; simp [pyD, PyData.eqv]
@[simp] theorem mEq_bl {M : Mem} {b c : Bool} : mEq (.bl b) (.bl c) M = some (.bl (b == c), M) := by
  rw [mEq_eq, eqD_pure (n := 0) (m := 0) (by simp [pureD]) (by simp [pureD]) (by decide) (by decide)]; simp [pyD, PyData.eqv]
/-- texts are held against one another -/
theorem eqD_str {M : Mem} {x y : Str} : eqD M (.str x) (.str y) = some (decide (x = y)) := by
  unfold eqD
  show (if SeqAt.shaped (.str x) = true ∧ SeqAt.shaped (.str y) = true then some (PyData.eqv (.str x) (.str y)) else strEq (.str x) (.str y)) = _
  split
  · simp only [PyData.eqv]
    rfl
  · rfl
theorem mEq_text {M : Mem} {x y : Str} : mEq (.str x) (.str y) M = some (.bl (decide (x = y)), M) := by rw [mEq_eq, eqD_str]; rfl
theorem mNe_text {M : Mem} {x y : Str} : mNe (.str x) (.str y) M = some (.bl (!decide (x = y)), M) := by rw [mNe_eq, eqD_str]; rfl
end TL
end
section
/-! the tree layer: comprehensions whose elements make new objects -/
namespace TL
open PySem PySem.Spec PyProof.Rows L2
theorem compL_keep {good : Mem → Prop} {i n : Nat} {t : MT} {e : ME} {env : Env} (p : D → Bool) (f : D → D) (M0 : Mem) (hg : ∀ M', Keep M0 M' → good M') (hn : M0.length ≤ n) : ∀ (ds acc : List D) (M : Mem), Keep M0 M → M[n]? = some (.lst acc) → acc.length + ds.length ≤ 1000000 →
    (∀ d ∈ ds, ∀ M', Keep M0 M' → ∃ M1, t (env.set i (some d)) M' = .ok (p d) M1 ∧ Keep M' M1 ∧ (p d = true → ∃ M2, e (env.set i (some d)) M1 = .ok (f d) M2 ∧ Keep M1 M2)) →
    ∃ M2, compL good i t e n env ds M = .ok () M2 ∧ Keep M0 M2 ∧ M2[n]? = some (.lst (acc ++ (ds.filter p).map f))
  | [], acc, M, k, ha, _, _ => ⟨M, compL_nil (hg M k), k, by simpa using ha⟩
  | d :: ds, acc, M, k, ha, hl, h => by
    obtain ⟨M1, e1, k1, h2⟩ := h d List.mem_cons_self M k
    rw [compL_cons (hg M k), e1]
    have k01 := k.trans k1
    cases q : p d with
    | false =>
      simp only [Out.nox_ok, Out.bind_ok, Bool.false_eq_true, if_false]
      obtain ⟨M2, e2, k2, a2⟩ := compL_keep p f M0 hg hn ds acc M1 k01 (k1.at ha) (by simp at hl; omega) fun d' hd => h d' (List.mem_cons_of_mem _ hd)
      exact ⟨M2, e2, k2, by rw [List.filter_cons_of_neg (by rw [q]; simp)]; exact a2⟩
    | true =>
      obtain ⟨M2, e2, k2⟩ := h2 q
      simp only [Out.nox_ok, Out.bind_ok, if_true, e2]
      have a2 := k2.at (k1.at ha)
      simp only [a2]
      rw [if_pos (by rw [sizeLine_eq]; simp at hl; omega)]
      obtain ⟨M3, e3, k3, a3⟩ := compL_keep p f M0 hg hn ds (acc ++ [f d]) (M2.set n (.lst (acc ++ [f d]))) ((k01.trans k2).setNew hn) (List.getElem?_set_self (lt_of_at a2)) (by simp at hl ⊢; omega) fun d' hd => h d' (List.mem_cons_of_mem _ hd)
      refine ⟨M3, e3, k3, ?_⟩
      rw [List.filter_cons_of_pos q]
      simpa using a3
theorem eComp_keep {i : Nat} {s : MI} {t : MT} {e : ME} {env : Env} {M M1 : Mem} {src : Src} (p : D → Bool) (f : D → D) (hs : s env M = .ok src M1) (hg : ∀ M', Keep M1 M' → src.good M') (hl : src.items.length ≤ 1000000)
    (h : ∀ d ∈ src.items, ∀ M', Keep M1 M' → ∃ M2, t (env.set i (some d)) M' = .ok (p d) M2 ∧ Keep M' M2 ∧ (p d = true → ∃ M3, e (env.set i (some d)) M2 = .ok (f d) M3 ∧ Keep M2 M3)) :
    ∃ M2, eComp i s t e env M = .ok (.ref M1.length) M2 ∧ Keep M1 M2 ∧ M2[M1.length]? = some (.lst ((src.items.filter p).map f)) := by
  obtain ⟨M2, e2, k2, a2⟩ := compL_keep (n := M1.length) p f M1 hg (Nat.le_refl _) src.items [] (M1 ++ [.lst []]) (Keep.more _ _) (at_len _ _) (by simpa using hl) h
  refine ⟨M2, ?_, k2, by simpa using a2⟩
  show (s env M).bind _ = _
  rw [hs, Out.bind_ok, e2]
  rfl
/-- without a test -/
theorem eComp_keepY {i : Nat} {s : MI} {e : ME} {env : Env} {M M1 : Mem} {src : Src} (f : D → D) (hs : s env M = .ok src M1) (hg : ∀ M', Keep M1 M' → src.good M') (hl : src.items.length ≤ 1000000)
    (h : ∀ d ∈ src.items, ∀ M', Keep M1 M' → ∃ M3, e (env.set i (some d)) M' = .ok (f d) M3 ∧ Keep M' M3) :
    ∃ M2, eComp i s tYesD e env M = .ok (.ref M1.length) M2 ∧ Keep M1 M2 ∧ M2[M1.length]? = some (.lst (src.items.map f)) := by
  obtain ⟨M2, e2, k2, a2⟩ := eComp_keep (t := tYesD) (e := e) (i := i) (fun _ => true) f hs hg hl fun d hd M' k => ⟨M', rfl, Keep.refl _, fun _ => h d hd M' k⟩
  refine ⟨M2, e2, k2, ?_⟩
  rw [List.filter_eq_self.mpr (fun _ _ => rfl)] at a2
  exact a2
theorem mem_rng {lo : Int} {n : Nat} {d : D} (h : d ∈ rngItems lo n) : ∃ k : Nat, k < n ∧ d = .int (lo + k) := by
  obtain ⟨k, hk, rfl⟩ := List.mem_map.mp h
  exact ⟨k, List.mem_range.mp hk, rfl⟩
theorem rng_length {lo : Int} {n : Nat} : (rngItems lo n).length = n := by simp [rngItems]
/-- False not in a list of Trues -/
theorem inF_trues : ∀ {xs : List D}, (∀ x ∈ xs, x = .bl true) → inF (.bl false) xs = false ∧ xs.all flatD = true
  | [], _ => ⟨rfl, rfl⟩
  | x :: xs, h => by
    obtain ⟨h1, h2⟩ := inF_trues (xs := xs) fun y hy => h y (List.mem_cons_of_mem _ hy)
    have := h x List.mem_cons_self
    subst this
    refine ⟨?_, by rw [List.all_cons, h2]; rfl⟩
    show (eqF (.bl true) (.bl false) || xs.any fun y => eqF y (.bl false)) = false
    rw [show (xs.any fun y => eqF y (.bl false)) = false from h1]
    rfl
theorem mNotIn_trues {M : Mem} {n : Nat} {xs : List D} (hn : seqAt M n = some xs) (h : ∀ x ∈ xs, x = .bl true) : mNotIn (.bl false) (.ref n) M = some (.bl true, M) := by
  obtain ⟨h1, h2⟩ := inF_trues h
  show (inD M (.bl false) (.ref n)).map _ = _
  have e : inD M (.bl false) (.ref n) = some false := by
    show (match seqAt M n with | some xs => if flatD (.bl false) = true ∧ xs.all flatD = true then some (inF (.bl false) xs) else none | none => none) = _
    rw [hn]
    simp only [h2, h1, flatD, and_self, if_true]
  rw [e]; rfl
/-- what _law_alike goes through: tuples of whole numbers and truths -/
def niceD : Nat → D → Bool
  | _, .int _ => true
  | _, .bl _ => true
  | n + 1, .tup xs => decide (xs.length ≤ 1000) && xs.all (niceD n)
  | _, _ => false
end TL
end
section
/-! the tree layer: mirrors of TLA run -/
namespace TL
open PySem PySem.Spec PyProof.Rows L2
section
variable {env : Env} {M : Mem} {a b e : ME}
@[simp] theorem sStk_ap : sStk env M = .stuck := rfl
open Classical in
@[simp] theorem eTupRg1_ap : eTupRg1 e env M = (e env M).bind fun d M1 => kInt d fun j => if RgOk 0 j then .ok (.tup (rngItems 0 j.toNat)) M1 else .stuck := rfl
open Classical in
@[simp] theorem eLstRg1_ap : eLstRg1 e env M = (e env M).bind fun d M1 => kInt d fun j => if RgOk 0 j then .ok (.ref M1.length) (M1 ++ [.lst (rngItems 0 j.toNat)]) else .stuck := rfl
open Classical in
@[simp] theorem eTupRg2_ap : eTupRg2 a b env M = (a env M).bind fun d M1 => (b env M1).bind fun d2 M2 => kInt d fun i => kInt d2 fun j => if RgOk i j then .ok (.tup (rngItems i (j - i).toNat)) M2 else .stuck := rfl
open Classical in
@[simp] theorem eLstRg2_ap : eLstRg2 a b env M = (a env M).bind fun d M1 => (b env M1).bind fun d2 M2 => kInt d fun i => kInt d2 fun j => if RgOk i j then .ok (.ref M2.length) (M2 ++ [.lst (rngItems i (j - i).toNat)]) else .stuck := rfl
end
theorem rgOk_nat {i j : Nat} (h : j ≤ 1000000) (hi : i ≤ 1000000) : RgOk (i : Int) (j : Int) := RgOk.of_le (by omega) (by omega) (by omega) (by omega)
theorem intsOf_map : ∀ ns : List Int, intsOf (ns.map D.int) = some ns
  | [] => rfl
  | n :: ns => by
    show (intsOf (ns.map D.int)).map (n :: ·) = _
    rw [intsOf_map ns]; rfl
theorem blsOf_map : ∀ bs : List Bool, blsOf (bs.map D.bl) = some bs
  | [] => rfl
  | b :: bs => by
    show (blsOf (bs.map D.bl)).map (b :: ·) = _
    rw [blsOf_map bs]; rfl
theorem nMax_ints {M : Mem} {n : Nat} {ns : List Int} (h : seqAt M n = some (ns.map D.int)) (hne : ns ≠ []) : nMax [.ref n] M = some (.int (maxI ns), M) := by
  show (match seqAt M n with
    | some xs => match intsOf xs with
      | some ns => if ns = [] then none else some (D.int (maxI ns), M)
      | none => none
    | none => none) = _
  rw [h]
  simp only [intsOf_map]
  rw [if_neg hne]
theorem nMin_ints {M : Mem} {n : Nat} {ns : List Int} (h : seqAt M n = some (ns.map D.int)) (hne : ns ≠ []) : nMin [.ref n] M = some (.int (minI ns), M) := by
  show (match seqAt M n with
    | some xs => match intsOf xs with
      | some ns => if ns = [] then none else some (D.int (minI ns), M)
      | none => none
    | none => none) = _
  rw [h]
  simp only [intsOf_map]
  rw [if_neg hne]
theorem nSum_ints {M : Mem} {n : Nat} {ns : List Int} (h : seqAt M n = some (ns.map D.int)) : nSum [.ref n] M = some (.int ns.sum, M) := by
  show (match seqAt M n with
    | some xs => (intsOf xs).map fun (ns : List Int) => (D.int ns.sum, M)
    | none => none) = _
  rw [h]
  simp only [intsOf_map]
  rfl
theorem nAll_bls {M : Mem} {n : Nat} {bs : List Bool} (h : seqAt M n = some (bs.map D.bl)) : nAll [.ref n] M = some (.bl (bs.all id), M) := by
  show (match seqAt M n with
    | some xs => (blsOf xs).map fun (bs : List Bool) => (D.bl (bs.all id), M)
    | none => none) = _
  rw [h]
  simp only [blsOf_map]
  rfl
theorem nTuple_ref {M : Mem} {n : Nat} {xs : List D} (h : seqAt M n = some xs) : nTuple [.ref n] M = some (.tup xs, M) := by
  show (seqAt M n).map (fun xs => (D.tup xs, M)) = _
  rw [h]; rfl
end TL
end
section
/-! the tree layer: goals that end with a value, step by step -/
namespace TL
open PySem PySem.Spec PyProof.Rows L2
/-- this value, and all that stood stands -/
abbrev Gives (M : Mem) (d : D) : D → Mem → Prop := fun d' M' => d' = d ∧ Keep M M'
theorem Ret.eq {α : Type} {o : Out α} {P : α → Mem → Prop} {o' : Out α} (e : o = o') (h : Ret o' P) : Ret o P := e ▸ h
theorem gives_of {o : Out D} {M : Mem} {d : D} (h : Ret o (Gives M d)) : ∃ M', o = .ok d M' ∧ Keep M M' := by
  obtain ⟨d', M', e, rfl, k⟩ := h
  exact ⟨M', e, k⟩
theorem of_gives {o : Out D} {M : Mem} {d : D} (h : ∃ M', o = .ok d M' ∧ Keep M M') : Ret o (Gives M d) := by
  obtain ⟨M', e, k⟩ := h
  exact ⟨d, M', e, rfl, k⟩
/-- how a block ends: with names and a memory, or with a value -/
def SRet (o : SOut) (N : TL.Env → Mem → Prop) (R : D → Mem → Prop) : Prop := match o with
  | .next e M => N e M
  | .ret d M => R d M
  | .exc _ _ _ => False
  | .stuck => False
section
variable {N N' : TL.Env → Mem → Prop} {R R' : D → Mem → Prop} {o : SOut} {env : TL.Env} {M : Mem}
theorem SRet.next (h : N env M) : SRet (.next env M) N R := h
theorem SRet.ret {d : D} (h : R d M) : SRet (.ret d M) N R := h
theorem SRet.imp (h : SRet o N R) (hn : ∀ e M, N e M → N' e M) (hr : ∀ d M, R d M → R' d M) : SRet o N' R' := by
  cases o with
  | next e M => exact hn _ _ h
  | ret d M => exact hr _ _ h
  | exc x e M => exact h
  | stuck => exact h
theorem SRet.nextS {f : TL.Env → Mem → SOut} (h : SRet o (fun e M => SRet (f e M) N R) R) : SRet (nextS o f) N R := by
  cases o with
  | next e M => exact h
  | ret d M => exact h
  | exc x e M => exact h
  | stuck => exact h
theorem SRet.thenS {α : Type} {p : Out α} {f : α → Mem → SOut} (h : Ret p (fun a M => SRet (f a M) N R)) : SRet (thenS env p f) N R := by
  obtain ⟨a, M, rfl, h⟩ := h
  exact h
theorem Ret.endS {Q : D → Mem → Prop} (h : SRet o (fun _ M => Q .non M) Q) : Ret (endS o) Q := by
  cases o with
  | next e M => exact .ok h
  | ret d M => exact .ok h
  | exc x e M => exact h.elim
  | stuck => exact h.elim
theorem SRet.bindS {α β : Type} {p : Out α} {g : α → Mem → Out β} {f : β → Mem → SOut} {P : α → Mem → Prop} (h : Ret p P) (k : ∀ a M, P a M → SRet (TL.thenS env (g a M) f) N R) : SRet (TL.thenS env (p.bind g) f) N R := by
  obtain ⟨a, M, rfl, h⟩ := h
  exact k a M h
theorem SRet.thenI {α : Type} {p : Out α} {f : α → Mem → SOut} {P : α → Mem → Prop} (h : Ret p P) (k : ∀ a M, P a M → SRet (f a M) N R) : SRet (TL.thenS env p f) N R := by
  obtain ⟨a, M, rfl, h⟩ := h
  exact k a M h
/-- a for by its invariant -/
theorem SRet.for_ {good : Mem → Prop} {g : MG} {b : MS} {ds : List D} (Inv : List D → TL.Env → Mem → Prop) (h0 : Inv ds env M) (hgood : ∀ ds env M, Inv ds env M → good M)
    (step : ∀ d ds env M, Inv (d :: ds) env M → ∃ env1, g d env = some env1 ∧ SRet (b env1 M) (Inv ds) R) (done : ∀ env M, Inv [] env M → N env M) : SRet (forL good g b ds env M) N R := by
  induction ds generalizing env M with
  | nil => rw [forL_nil (hgood _ _ _ h0)]; exact done _ _ h0
  | cons d ds ih =>
    obtain ⟨env1, hg, hs⟩ := step d ds env M h0
    rw [forL_cons (hgood _ _ _ h0) hg]
    exact SRet.nextS (hs.imp (fun e M h => ih h) fun d M h => h)
/-- a for with what follows it -/
theorem SRet.forN {good : Mem → Prop} {g : MG} {b : MS} {ds : List D} {k : TL.Env → Mem → SOut} (Inv : List D → TL.Env → Mem → Prop) (h0 : Inv ds env M) (hgood : ∀ ds env M, Inv ds env M → good M)
    (step : ∀ d ds env M, Inv (d :: ds) env M → ∃ env1, g d env = some env1 ∧ SRet (b env1 M) (Inv ds) R) (done : ∀ env M, Inv [] env M → SRet (k env M) N R) : SRet (TL.nextS (forL good g b ds env M) k) N R :=
  SRet.nextS (SRet.for_ Inv h0 hgood step done)
/-- a while by its invariant, that holds a measure -/
theorem SRet.while_ {t : MT} {b : MS} {n : Nat} (Inv : Nat → TL.Env → Mem → Prop) {m : Nat} (h0 : Inv m env M) (hm : m < n)
    (step : ∀ m env M, Inv m env M → Ret (t env M) (fun k M1 => if k = true then SRet (b env M1) (fun e M => ∃ m', m' < m ∧ Inv m' e M) R else N env M1)) : SRet (sWhile n t b env M) N R := by
  induction n generalizing env M m with
  | zero => omega
  | succ n ih =>
    obtain ⟨k, M1, e, h⟩ := step m env M h0
    show SRet (TL.thenS env (t env M) fun k M1 => if k = true then TL.nextS (b env M1) (sWhile n t b) else .next env M1) N R
    rw [e]
    cases k with
    | false => exact h
    | true =>
      rw [if_pos rfl] at h
      exact SRet.nextS (h.imp (fun e M ⟨m', h1, h2⟩ => ih h2 (by omega)) fun d M h => h)
theorem SRet.whileN {t : MT} {b : MS} {n : Nat} {k : TL.Env → Mem → SOut} (Inv : Nat → TL.Env → Mem → Prop) {m : Nat} (h0 : Inv m env M) (hm : m < n)
    (step : ∀ m env M, Inv m env M → Ret (t env M) (fun c M1 => if c = true then SRet (b env M1) (fun e M => ∃ m', m' < m ∧ Inv m' e M) R else SRet (k env M1) N R)) : SRet (TL.nextS (sWhile n t b env M) k) N R :=
  SRet.nextS (SRet.while_ Inv h0 hm step)
end
section
variable {good : Mem → Prop} {i n : Nat} {t : MT} {e : ME} {env : TL.Env} {ds : List D} {M0 : Mem}
/-- a comprehension: what stood stands, the items turned -/
theorem Ret.comp {P : Unit → Mem → Prop} (f : D → D) (hg : ∀ M', Keep M0 M' → good M') (hl : ds.length ≤ 1000000)
    (h : ∀ d ∈ ds, ∀ M', Keep M0 M' → Ret (e (env.set i (some d)) M') (Gives M' (f d)))
    (k : ∀ M2, Keep M0 M2 → M2[M0.length]? = some (.lst (ds.map f)) → P () M2) : Ret (compL good i tYesD e M0.length env ds (M0 ++ [.lst []])) P := by
  obtain ⟨M2, e2, k2, a2⟩ := compL_keep (n := M0.length) (t := tYesD) (e := e) (i := i) (env := env) (fun _ => true) f M0 hg (Nat.le_refl _) ds [] (M0 ++ [.lst []]) (Keep.more _ _) (at_len _ _) (by simpa using hl) fun d hd M' k' =>
    ⟨M', rfl, Keep.refl _, fun _ => gives_of (h d hd M' k')⟩
  refine ⟨(), M2, e2, k M2 k2 ?_⟩
  rw [List.filter_eq_self.mpr (fun _ _ => rfl)] at a2
  simpa using a2
theorem Ret.compF {P : Unit → Mem → Prop} (p : D → Bool) (f : D → D) (hg : ∀ M', Keep M0 M' → good M') (hl : ds.length ≤ 1000000)
    (h : ∀ d ∈ ds, ∀ M', Keep M0 M' → Ret (t (env.set i (some d)) M') (fun b M1 => b = p d ∧ Keep M' M1 ∧ (b = true → Ret (e (env.set i (some d)) M1) (Gives M1 (f d)))))
    (k : ∀ M2, Keep M0 M2 → M2[M0.length]? = some (.lst ((ds.filter p).map f)) → P () M2) : Ret (compL good i t e M0.length env ds (M0 ++ [.lst []])) P := by
  obtain ⟨M2, e2, k2, a2⟩ := compL_keep (n := M0.length) (t := t) (e := e) (i := i) (env := env) p f M0 hg (Nat.le_refl _) ds [] (M0 ++ [.lst []]) (Keep.more _ _) (at_len _ _) (by simpa using hl) fun d hd M' k' => by
    obtain ⟨b, M1, e1, rfl, k1, h1⟩ := h d hd M' k'
    exact ⟨M1, e1, k1, fun hp => gives_of (h1 hp)⟩
  exact ⟨(), M2, e2, k M2 k2 (by simpa using a2)⟩
end
end TL
end
section
set_option maxHeartbeats 4000000
/-! the tree layer: methods of texts; str, int of texts -/
namespace TL
open PySem PySem.Spec PyProof.Rows L2
def strsOf : List D → Option (List Str)
  | [] => some []
  | .str b :: ds => (strsOf ds).map (b :: ·)
  | _ => none
theorem strsOf_map : ∀ ns : List Str, strsOf (ns.map D.str) = some ns
  | [] => rfl
  | n :: ns => by
    show (strsOf (ns.map D.str)).map (n :: ·) = _
    rw [strsOf_map ns]; rfl
def joinO (a : Str) (xs : List D) : Option Str := match strsOf xs with
  | some ys => if (ys.map (·.length)).sum + ys.length * a.length ≤ sizeLine then some (Txt.join a ys) else none
  | none => none
def mJoin : D → OpN := fun d ds M => match d, ds with
  | .str a, [.ref n] => match seqAt M n with
    | some xs => (joinO a xs).map fun z => (.str z, M)
    | none => none
  | .str a, [.tup xs] => (joinO a xs).map fun z => (.str z, M)
  | _, _ => none
def mFind : D → OpN := fun d ds M => match d, ds with
  | .str a, [.str b] => some (.int (Txt.find a b), M)
  | _, _ => none
def mSplit : D → OpN := fun d ds M => match d, ds with
  | .str a, [.str b] => if (b.length == 0) = false ∧ a.length + 2 ≤ sizeLine then some (.ref M.length, M ++ [.lst ((Txt.split a b).map D.str)]) else none
  | _, _ => none
def mPartition : D → OpN := fun d ds M => match d, ds with
  | .str a, [.str b] => if (b.length == 0) = false ∧ a.length ≤ sizeLine then some (.tup [.str (Txt.partition a b).1, .str (Txt.partition a b).2.1, .str (Txt.partition a b).2.2], M) else none
  | _, _ => none
def mUpper : D → OpN := fun d ds M => match d, ds with
  | .str a, [] => if a.length ≤ 5592405 then some (.str (Txt.upper a), M) else none
  | _, _ => none
def nStr : OpN := fun ds M => match ds with
  | [.int i] => if i.natAbs.log2 < 1920 then some (.str (toString i), M) else none
  | [.str x] => some (.str x, M)
  | _ => none
def nIntS : OpN := fun ds M => match ds with
  | [.str a] => match PySem.intText? a with
    | some n => if a.length ≤ 640 then some (.int n, M) else none
    | none => none
  | _ => none
section
variable {K : PySem.W.Frag} {ι : List Addr} {H : Hp} {M : Mem}
theorem strs_v : ∀ {ds : List D} {vs : List V} {bs : List Str}, RpA K ι H ds vs → strsOf ds = some bs → vs = bs.map V.str
  | [], _, _, .nil, e => by cases e; rfl
  | d :: ds, _, bs, .cons r t, e => by
    cases d with
    | str b =>
      have e' : (strsOf ds).map (b :: ·) = some bs := e
      cases q : strsOf ds with
      | none => rw [q] at e'; cases e'
      | some cs =>
        rw [q] at e'
        cases e'
        cases r.str_inv
        rw [strs_v t q]
        rfl
    | _ => cases e
theorem strs_rp : ∀ ns : List Str, RpA K ι H (ns.map D.str) (ns.map V.str)
  | [] => .nil
  | i :: ns => .cons (.str i) (strs_rp ns)
end
section
variable {X : Cx}
theorem m_join : MtR X "str.join" (rDM X.K mJoin) := by
  refine MtR.imp mt_join fun x xs H Q h => ?_
  obtain ⟨ι, M, d, ds, S, r, rs, h⟩ := h
  unfold mJoin at h
  split at h
  · rename_i a n
    cases r.str_inv
    obtain ⟨v, rfl, rv⟩ := rs.one_inv
    obtain ⟨p, rfl, hp⟩ := rv.ref_inv
    cases q : seqAt M n with
    | none => rw [q] at h; exact h.elim
    | some ys =>
      simp only [q] at h
      obtain ⟨vs, h1, r1⟩ := S.seq hp q
      unfold joinO at h
      cases q2 : strsOf ys with
      | none => simp only [q2] at h; exact h.elim
      | some zs =>
        simp only [q2] at h
        cases strs_v r1 q2
        by_cases c : (zs.map (·.length)).sum + zs.length * a.length ≤ sizeLine
        · simp only [if_pos c] at h
          exact ⟨a, p, zs, rfl, rfl, .inl h1, by rw [sizeLine_eq] at c; exact c, OpO.val S h (.str _)⟩
        · simp only [if_neg c] at h
          exact h.elim
  · rename_i a ys
    cases r.str_inv
    obtain ⟨v, rfl, rv⟩ := rs.one_inv
    obtain ⟨p, vs, rfl, t1, r1⟩ := rv.tup_inv
    unfold joinO at h
    cases q2 : strsOf ys with
    | none => simp only [q2] at h; exact h.elim
    | some zs =>
      simp only [q2] at h
      cases strs_v r1 q2
      by_cases c : (zs.map (·.length)).sum + zs.length * a.length ≤ sizeLine
      · simp only [if_pos c] at h
        exact ⟨a, p, zs, rfl, rfl, .inr t1, by rw [sizeLine_eq] at c; exact c, OpO.val S h (.str _)⟩
      · simp only [if_neg c] at h
        exact h.elim
  · exact h.elim
theorem m_find : MtR X "str.find" (rDM X.K mFind) := by
  refine MtR.imp mt_find fun x xs H Q h => ?_
  obtain ⟨ι, M, d, ds, S, r, rs, h⟩ := h
  unfold mFind at h
  split at h
  · cases r.str_inv
    obtain ⟨v, rfl, rv⟩ := rs.one_inv
    cases rv.str_inv
    exact ⟨_, _, rfl, rfl, h.val S (.int _)⟩
  · exact h.elim
theorem m_upper : MtR X "str.upper" (rDM X.K mUpper) := by
  refine MtR.imp mt_upper fun x xs H Q h => ?_
  obtain ⟨ι, M, d, ds, S, r, rs, h⟩ := h
  unfold mUpper at h
  split at h
  · cases r.str_inv
    cases rs.nil_inv
    split at h
    · exact ⟨_, rfl, rfl, by assumption, h.val S (.str _)⟩
    · exact h.elim
  · exact h.elim
theorem m_split : MtR X "str.split" (rDM X.K mSplit) := by
  refine MtR.imp mt_split fun x xs H Q h => ?_
  obtain ⟨ι, M, d, ds, S, r, rs, h⟩ := h
  unfold mSplit at h
  split at h
  · cases r.str_inv
    obtain ⟨v, rfl, rv⟩ := rs.one_inv
    cases rv.str_inv
    split at h
    · rename_i c
      exact ⟨_, _, rfl, rfl, c.1, c.2, h.newLst S (strs_rp _)⟩
    · exact h.elim
  · exact h.elim
theorem m_partition : MtR X "str.partition" (rDM X.K mPartition) := by
  refine MtR.imp mt_partition fun x xs H Q h => ?_
  obtain ⟨ι, M, d, ds, S, r, rs, h⟩ := h
  unfold mPartition at h
  split at h
  · cases r.str_inv
    obtain ⟨v, rfl, rv⟩ := rs.one_inv
    cases rv.str_inv
    split at h
    · rename_i c
      exact ⟨_, _, rfl, rfl, c.1, c.2, h.newTup S (.cons (.str _) (.cons (.str _) (.cons (.str _) .nil)))⟩
    · exact h.elim
  · exact h.elim
theorem CallR.both {f : Value} {r1 r2 : List V → Hp → VK → Prop} (h1 : CallR X f r1) (h2 : CallR X f r2) : CallR X f (fun xs H Q => r1 xs H Q ∨ r2 xs H Q) :=
  fun pins s σ H xs us Q I r h => h.elim (h1 pins s σ H xs us Q I r) (h2 pins s σ H xs us Q I r)
theorem c_str : CallR X (.type "str") (rDN X.K nStr) := by
  refine CallR.imp (CallR.both call_str_int SkE.call_str_str) fun xs H Q h => ?_
  obtain ⟨ι, M, ds, S, r, h⟩ := h
  unfold nStr at h
  split at h
  · obtain ⟨v, rfl, rv⟩ := r.one_inv
    cases rv.int_inv
    split at h
    · exact .inl ⟨_, rfl, by assumption, h.val S (.str _)⟩
    · exact h.elim
  · obtain ⟨v, rfl, rv⟩ := r.one_inv
    cases rv.str_inv
    exact .inr ⟨_, rfl, h.val S (.str _)⟩
  · exact h.elim
theorem c_intS : CallR X (.type "int") (rDN X.K nIntS) := by
  refine CallR.imp call_int_str fun xs H Q h => ?_
  obtain ⟨ι, M, ds, S, r, h⟩ := h
  unfold nIntS at h
  split at h
  · rename_i a
    obtain ⟨v, rfl, rv⟩ := r.one_inv
    cases rv.str_inv
    cases q : PySem.intText? a with
    | none => simp only [q] at h; exact h.elim
    | some n =>
      simp only [q] at h
      by_cases c : a.length ≤ 640
      · simp only [if_pos c] at h
        exact ⟨a, n, rfl, q, c, OpO.val S h (.int _)⟩
      · simp only [if_neg c] at h
        exact h.elim
  · exact h.elim
end
/-! x in xs, x of any kind -/
def inX (M : Mem) (a b : D) : Option Bool := match inD M a b with
  | some k => some k
  | none => match toP 64 M a, toP 64 M b with
    | some p, some (.list ps) => if SeqAt.shaped p = true ∧ SeqAt.shaped (.list ps) = true then some (ps.any fun z => PyData.eqv z p) else none
    | _, _ => none
def mInX : Op2 := fun a b M => (inX M a b).map fun k => (.bl k, M)
theorem o_inX {X : Cx} (hu : X.A.units + 65 < cLine) : OpR X (compareOp .In) (rD2 X.K mInX) := by
  refine OpR.imp (o_in.or (op_inD hu)) fun x y H Q h => ?_
  obtain ⟨ι, M, a, b, S, ra, rb, h⟩ := h
  unfold mInX inX at h
  cases e : inD M a b with
  | some k =>
    rw [e] at h
    refine .inl ⟨ι, M, a, b, S, ra, rb, ?_⟩
    unfold mIn
    rw [e]
    exact h
  | none =>
    rw [e] at h
    dsimp only at h
    cases e1 : toP 64 M a with
    | none => rw [e1] at h; exact h.elim
    | some p =>
      rw [e1] at h
      cases e2 : toP 64 M b with
      | none => rw [e2] at h; exact h.elim
      | some q =>
        rw [e2] at h
        cases q with
        | list ps =>
          dsimp only at h
          by_cases c : SeqAt.shaped p = true ∧ SeqAt.shaped (.list ps) = true
          · rw [if_pos c] at h
            exact .inr ⟨p, ps, dp_of S _ _ _ _ ra e1, dp_of S _ _ _ _ rb e2, c.1, c.2, OpO.val S h (.bl _)⟩
          · rw [if_neg c] at h
            exact h.elim
        | _ => exact h.elim
theorem Ctx.hu65 {X : Cx} {W : WX} {k : Nat} (C : Ctx X W k) : X.A.units + 65 < cLine := by have := C.room.un; omega
/-! run -/
section
variable {M : Mem} {a b : Str} {n : Nat} {xs : List D} {i : Int}
theorem mJoin_ref : mJoin (.str a) [.ref n] M = match seqAt M n with
    | some xs => (joinO a xs).map fun z => (.str z, M)
    | none => none := rfl
theorem mJoin_tup : mJoin (.str a) [.tup xs] M = (joinO a xs).map fun z => (.str z, M) := rfl
@[simp] theorem mFind_str : mFind (.str a) [.str b] M = some (.int (Txt.find a b), M) := rfl
@[simp] theorem mSplit_str : mSplit (.str a) [.str b] M = if (b.length == 0) = false ∧ a.length + 2 ≤ sizeLine then some (.ref M.length, M ++ [.lst ((Txt.split a b).map D.str)]) else none := rfl
@[simp] theorem mPartition_str : mPartition (.str a) [.str b] M = if (b.length == 0) = false ∧ a.length ≤ sizeLine then some (.tup [.str (Txt.partition a b).1, .str (Txt.partition a b).2.1, .str (Txt.partition a b).2.2], M) else none := rfl
@[simp] theorem mUpper_str : mUpper (.str a) [] M = if a.length ≤ 5592405 then some (.str (Txt.upper a), M) else none := rfl
@[simp] theorem nStr_int : nStr [.int i] M = if i.natAbs.log2 < 1920 then some (.str (toString i), M) else none := rfl
@[simp] theorem nStr_str : nStr [.str a] M = some (.str a, M) := rfl
@[simp] theorem tyD_str : tyD "str" M (.str a) = true := rfl
theorem joinO_strs {ys : List Str} (h : (ys.map (·.length)).sum + ys.length * a.length ≤ 1000000) : joinO a (ys.map D.str) = some (Txt.join a ys) := by
  unfold joinO
  simp only [strsOf_map]
  exact if_pos (by rw [sizeLine_eq]; omega)
end
end TL
end
section
set_option maxHeartbeats 4000000
/-! the tree layer: objects of own classes: fields, methods, making one -/
namespace TL
open PySem PySem.Spec PyProof.Rows L2

def putD (f : Str) (d : D) : List (Str × D) → List (Str × D)
  | [] => [(f, d)]
  | (g, x) :: r => if g = f then (g, d) :: r else (g, x) :: putD f d r
section
variable {K : PySem.W.Frag} {ι : List Addr} {H : Hp}
theorem RpF.put {f : Str} {d : D} {v : V} (r : Rp K ι H d v) : ∀ {fs : List (Str × D)} {vs : List (Str × V)}, RpF K ι H fs vs → RpF K ι H (putD f d fs) (putF f v vs)
  | _, _, .nil => .cons r .nil
  | _, _, .cons (x := x) h t => by
    unfold putD putF
    by_cases e : x = f
    · rw [if_pos e, if_pos e]; exact .cons r t
    · rw [if_neg e, if_neg e]; exact .cons h (RpF.put r t)
theorem RpF.look {f : Str} : ∀ {fs : List (Str × D)} {vs : List (Str × V)}, RpF K ι H fs vs → ∀ d, fs.lookup f = some d → ∃ v, vs.lookup f = some v ∧ Rp K ι H d v
  | _, _, .nil, d, e => nomatch e
  | _, _, .cons (x := x) (v := v) h t, d, e => by
    by_cases q : f = x
    · subst q
      simp only [List.lookup, beq_self_eq_true] at e
      cases e
      exact ⟨v, by simp [List.lookup], h⟩
    · have q' : (f == x) = false := by simpa using q
      simp only [List.lookup, q'] at e
      obtain ⟨u, e1, e2⟩ := RpF.look t d e
      exact ⟨u, by simp only [List.lookup, q']; exact e1, e2⟩
theorem RpF.lookN {f : Str} : ∀ {fs : List (Str × D)} {vs : List (Str × V)}, RpF K ι H fs vs → fs.lookup f = none → vs.lookup f = none
  | _, _, .nil, e => rfl
  | _, _, .cons (x := x) h t, e => by
    by_cases q : f = x
    · subst q
      simp [List.lookup] at e
    · have q' : (f == x) = false := by simpa using q
      simp only [List.lookup, q'] at e ⊢
      exact RpF.lookN t e
theorem RpF.length : ∀ {fs : List (Str × D)} {vs : List (Str × V)}, RpF K ι H fs vs → fs.length = vs.length
  | _, _, .nil => rfl
  | _, _, .cons _ t => congrArg (· + 1) t.length
end
/-- the object there, of that class -/
def insAt (M : Mem) (c : Str) (n : Nat) : Option (List (Str × D)) := match M[n]? with
  | some (.ins c' fs) => if c' = c then some fs else none
  | _ => none
theorem insAt_some {M : Mem} {c : Str} {n : Nat} {fs : List (Str × D)} (h : insAt M c n = some fs) : M[n]? = some (.ins c fs) := by
  unfold insAt at h
  split at h
  · rename_i c' fs' e
    split at h
    · rename_i z
      subst z
      cases h
      exact e
    · cases h
  · cases h
theorem insAt_of {M : Mem} {c : Str} {n : Nat} {fs : List (Str × D)} (h : M[n]? = some (.ins c fs)) : insAt M c n = some fs := by
  unfold insAt
  rw [h]
  exact if_pos rfl
/-- a field of objects of that class -/
structure FldF (K : PySem.W.Frag) (c f : Str) : Prop where
  cls : Cls K (He.ga K c)
  no : NoAttr K (He.ga K c) f
/-- x.f -/
def mFld (c f : Str) : Op1 := fun d M => match d with
  | .ref n => match insAt M c n with
    | some fs => (fs.lookup f).map fun v => (v, M)
    | none => none
  | _ => none
def eFld (c f : Str) (e : ME) : ME := eUn (mFld c f) e
/-- x.f = v -/
def putO (c f : Str) (x v : D) (M : Mem) : Option Mem := match x with
  | .ref n => match insAt M c n with
    | some fs => if fs.length < 1000 then some (M.set n (.ins c (putD f v fs))) else none
    | none => none
  | _ => none
def sFldD (c f : Str) (o e : ME) : MS := fun env M => thenS env (e env M) fun v M1 => thenS env (o env M1) fun x M2 => match putO c f x v M2 with
  | some M3 => .next env M3
  | none => .stuck
section
variable {X : Cx} {W : WX} {k : Nat} {c f : Str} {e o : Expr} {me mo : ME} {pos pos' : Pos}
theorem d_fld (F : FldF X.K c f) (he : PE X e (LE X.K W me)) (hb : attributeBase e f X.env (eval e X.env) = eval e X.env := by rfl) : PE X (.Attribute e f pos) (LE X.K W (eFld c f me)) :=
  (pe_fld he hb).imp fun σ H Q ⟨ι, env, M, S, R, h⟩ => ⟨ι, env, M, S, R, (OutP.bind h).imp fun d M1 ι1 H1 e1 S1 h1 v rv => by
    revert h1
    unfold mFld
    cases d with
    | ref n =>
      obtain ⟨a, rfl, ha⟩ := rv.ref_inv
      cases q : insAt M1 c n with
      | none => intro h1; simp only [q] at h1; exact h1.elim
      | some fs =>
        obtain ⟨dx, vs, h2, h3⟩ := S1.ok n a _ ha (insAt_some q)
        cases q2 : fs.lookup f with
        | none => intro h1; simp only [q, q2] at h1; exact h1.elim
        | some d =>
          intro h1
          simp only [q, q2] at h1
          obtain ⟨v, e4, r4⟩ := h3.look d q2
          exact ⟨a, _, dx, vs, v, rfl, h2, F.cls, F.no, e4, OutP.val S1 h1 _ r4⟩
    | _ => exact fun h1 => h1.elim⟩
theorem ds_fld (F : FldF X.K c f) (ho : PE X o (LE X.K W mo)) (he : PE X e (LE X.K W me)) (hs : swapsWith e (some (.Attribute o f pos')) pos.line X.env = pure false := by rfl) :
    PS X (.Assign [.Attribute o f pos'] e pos) (LS X.K W (sFldD c f mo me)) :=
  (ps_fld ho he hs).imp fun En σ H ⟨ι, env, M, S, R, h⟩ => ⟨ι, env, M, S, R, (thenS_out R h).imp fun v M1 ι1 H1 e1 S1 h1 u ru =>
    ⟨ι1, env, M1, S1, R.ext e1, (thenS_out (R.ext e1) h1).imp fun x M2 ι2 H2 e2 S2 h2 y ry => by
      revert h2
      unfold putO
      cases x with
      | ref n =>
        obtain ⟨a, rfl, ha⟩ := ry.ref_inv
        cases q : insAt M2 c n with
        | none => intro h2; simp only [q] at h2; exact h2.elim
        | some fs =>
          obtain ⟨dx, vs, h3, h4⟩ := S2.ok n a _ ha (insAt_some q)
          by_cases q2 : fs.length < 1000
          · intro h2
            simp only [q, if_pos q2] at h2
            refine ⟨a, _, dx, vs, rfl, h3, F.cls, F.no, by rw [← h4.length]; exact q2, ?_⟩
            have k0 := S2.ok n a _ ha (insAt_some q)
            have nt := k0.notTup (u := .ins c fs) rfl
            have ex : Ext X.K ι2 H2 ι2 (L2.upd H2 a (.ins (He.ga X.K c) dx (putF f u vs))) := Ext.upd nt
            have r4 := (RpF.put (f := f) ((ru.ext e2).ext ex) (h4.ext ex))
            exact h2 ι2 σ _ ex (S2.write ha (insAt_some q) rfl rfl ⟨dx, _, upd_same, r4⟩) (((R.ext e1).ext e2).ext ex)
          · intro h2
            simp only [q, if_neg q2] at h2
            exact h2.elim
      | _ => exact fun h2 => h2.elim⟩⟩
end
/-! ### methods -/
/-- a method of that class; dd: what stands for arguments left out -/
structure CalleeM (P : Program) (w : World) (K : PySem.W.Frag) (mg : Str → Option Value) (base : Heap) (c m : Str) (n k : Nat) (dd : List D) (fn : Fn) : Prop where
  ex : ∃ (fd : FuncData) (ps : List Str) (dvs : List V) (ds : List Value), FnOk P w K mg base (L2N.CX P w) k (He.ma K (He.ga K c) m) fd ps (spD K n fn) ∧ Binds K fd ps ds ∧ Vals dvs ds ∧ (∀ ι H, RpA K ι H dd dvs)
  len : ∀ ds M, ds.length ≠ n → fn ds M = .stuck
  cls : Cls K (He.ga K c)
  meth : Meth K (He.ga K c) m (He.ma K (He.ga K c) m)
theorem CalleeM.mono {P : Program} {w : World} {K : PySem.W.Frag} {mg : Str → Option Value} {base : Heap} {c m : Str} {n j k : Nat} {dd : List D} {fn : Fn} (C : CalleeM P w K mg base c m n j dd fn) (h : j ≤ k) : CalleeM P w K mg base c m n k dd fn := by
  obtain ⟨fd, ps, dvs, ds, F, a, b, d⟩ := C.ex
  exact ⟨⟨fd, ps, dvs, ds, F.mono h, a, b, d⟩, C.len, C.cls, C.meth⟩
/-- x.m(..) -/
def eMeM (c m : Str) (dd : List D) (fn : Fn) (o : ME) (mas : MA) : ME := fun env M => (o env M).bind fun x M1 => match x with
  | .ref n => match insAt M1 c n with
    | some fs => if (fs.lookup m).isNone = true then (mas env M1).bind fun ds M2 => fn (.ref n :: (ds ++ dd)) M2 else .stuck
    | none => .stuck
  | _ => .stuck
/-- C(..): a new object, then its __init__ -/
def eMake (c : Str) (dd : List D) (fn : Fn) (mas : MA) : ME := fun env M => (mas env M).bind fun ds M1 => (fn (.ref M1.length :: (ds ++ dd)) (M1 ++ [.ins c []])).bind fun d M2 => match d with
  | .non => .ok (.ref M1.length) M2
  | _ => .stuck
section
variable {X : Cx} {k : Nat} {g C : Addr} {fd : FuncData} {ps : List Str} {sp : Sp} {dvs : List V} {ds : List Value} {E : L2.St → XK} {x m : Str} {p pos apos : Pos} {e o : Expr} {es : List Expr} {ta : TE} {t : TA} {CX : CXT}
def tMethX (C : Addr) (m : Str) (sp : Sp) (dvs : List V) (E : L2.St → XK) (ta : TE) (t : TA) : TE := fun σ H Q => ta σ H fun x H1 => ∃ a dx fs, x = .ref a ∧ H1 a = some (.ins C dx fs) ∧ fs.lookup m = none ∧
  t σ H1 fun vs H2 => sp (x :: (vs ++ dvs)) H2 Q (E σ)
theorem pe_methX {pl : Sem Bool} (he : PE X o ta) (c : Cls X.K C) (hm : Meth X.K C m g) (F : FnOk X.prog X.w X.K X.mg X.base CX k g fd ps sp) (room : Room k X.A) (hb : Binds X.K fd ps ds) (hd : Vals dvs ds) (hx : ∀ σ, PassesAt CX X σ (E σ)) (ha : PA X (e :: es) t)
    (hst : starEach (e :: es) X.env = (false, eval e X.env) :: starEach es X.env) (hpl : (backTo pos (starEach es X.env)).any (·.1) = false)
    (ht : eval (.Call (.Attribute o m apos) (e :: es) [] pos) X.env = (eval o X.env >>= fun ov => standAt apos.atName >>= fun _ => holding [ov] (getMethod ov m pl) >>= fun y => callWith pos y.1 y.2 (backTo pos (starEach (e :: es) X.env)) (backToKw pos (keywordEach [] X.env)))) :
    PE X (.Call (.Attribute o m apos) (e :: es) [] pos) (tMethX C m sp dvs E ta t) := by
  refine ⟨fun pins s σ H Q I h => PySem.W.methodCall_KW (pl := pl) (thn (he.run pins s σ H _ I h) ?_) ht⟩
  rintro u s1 ⟨x, H1, I1, rx, a, dx, fs, rfl, ea, l, q⟩
  obtain rfl : u = Value.ref a := rx
  refine getmeth_ok I1 ea c hm l (PySem.W.callWith_K (first := [.ref a]) (h₀ := X.base) I.ok.mod.kin hm.kp (thn (ha.run pos pins s1 σ H1 _ I1 q) ?_) hst hpl)
  rintro us s2 ⟨vs, H2, I2, r, q2⟩
  exact ⟨I2.kIn, run_fnSD (us := .ref a :: us) (vs := .ref a :: vs) F room hb hd (hx σ) I2 (.cons rfl r) q2⟩
theorem pe_methX0 {pl : Sem Bool} (he : PE X o ta) (c : Cls X.K C) (hm : Meth X.K C m g) (F : FnOk X.prog X.w X.K X.mg X.base CX k g fd ps sp) (room : Room k X.A) (hb : Binds X.K fd ps ds) (hd : Vals dvs ds) (hx : ∀ σ, PassesAt CX X σ (E σ))
    (ht : eval (.Call (.Attribute o m apos) [] [] pos) X.env = (eval o X.env >>= fun ov => standAt apos.atName >>= fun _ => holding [ov] (getMethod ov m pl) >>= fun y => callWith pos y.1 y.2 (backTo pos (starEach [] X.env)) (backToKw pos (keywordEach [] X.env)))) :
    PE X (.Call (.Attribute o m apos) [] [] pos) (tMethX C m sp dvs E ta tNil) := by
  refine ⟨fun pins s σ H Q I h => PySem.W.methodCall_KW (pl := pl) (thn (he.run pins s σ H _ I h) ?_) ht⟩
  rintro u s1 ⟨x, H1, I1, rx, a, dx, fs, rfl, ea, l, q⟩
  obtain rfl : u = Value.ref a := rx
  refine getmeth_ok I1 ea c hm l (PySem.W.callWith_K0 (first := [.ref a]) I1.kIn hm.kp ?_)
  exact run_fnSD (us := [.ref a]) (vs := [.ref a]) F room hb hd (hx σ) I1 (.cons rfl .nil) q
/-! making one -/
def tMakeX (C : Addr) (sp : Sp) (dvs : List V) (E : L2.St → XK) (t : TA) : TE := fun σ H Q => t σ H fun vs H1 => ∀ x dx, H1 x = none → H1 dx = none → dx ≠ x →
  sp (.ref x :: (vs ++ dvs)) (L2.upd (L2.upd H1 dx (.own x)) x (.ins C dx [])) (fun v H2 => v = .non ∧ Q (.ref x) H2) (E σ)
theorem run_makeX {pins : List (Addr × Obj)} {σ : L2.St} {H : Hp} {s : Shared} {Q : VK} {us : List Value} {vs : List V} (Mm : Mk X.K C g) (F : FnOk X.prog X.w X.K X.mg X.base CX k g fd ps sp) (room : Room (k + 1) X.A) (hb : Binds X.K fd ps ds) (hd : Vals dvs ds)
    (hx : PassesAt CX X σ (E σ)) (I : Inv X pins σ H s) (r : Vals vs us)
    (want : ∀ x dx, H x = none → H dx = none → dx ≠ x → sp (.ref x :: (vs ++ dvs)) (L2.upd (L2.upd H dx (.own x)) x (.ins C dx [])) (fun v H2 => v = .non ∧ Q (.ref x) H2) (E σ)) :
    wpAny (model X.prog X.w) X.A (call (.ref C) us) (EP X pins σ Q) X.xe s := by
  have fresh1 : H (s.heap.objs.size + 1) = none := I.hok.fresh (Nat.le_succ _)
  have fresh0 : H s.heap.objs.size = none := I.hok.fresh (Nat.le_refl _)
  have w1 := want _ _ fresh1 fresh0 (Nat.ne_of_lt (Nat.lt_succ_self _))
  have J := Inv.made (C := C) I
  have rr : Vals (V.ref (s.heap.objs.size + 1) :: (vs ++ dvs)) (Value.ref (s.heap.objs.size + 1) :: (us ++ ds)) := .cons rfl (r.append hd)
  have many : (Value.ref (s.heap.objs.size + 1) :: us ++ ds).length = ps.length := (rr.length.symm.trans (F.len _ _ _ _ w1))
  have runs := F.run _ X.stack _ _ ⟨Value.ref (s.heap.objs.size + 1) :: us, []⟩ _ _ _ (E σ) (room.make C us []) (J.env0.make C us []) (hb _ (Value.ref (s.heap.objs.size + 1) :: us) J.kIn many) rr w1
  refine wpAny_call (make_map (f := g) I.kIn Mm.makes Mm.init (beq_iff_eq.mp Mm.fn) (codeAny_mono runs ?_))
  rintro (er | fl) s2 q2
  · exact hx pins _ _ er s2 J q2
  · cases fl with
    | ret u =>
      obtain ⟨v, H2, I2, rv, rfl, q3⟩ := J.after q2
      exact ⟨rv, ⟨V.ref (s.heap.objs.size + 1), H2, I2, rfl, q3⟩⟩
    | next => exact q2.elim
    | brk => exact q2.elim
    | cont => exact q2.elim
theorem pe_makeX (Mm : Mk X.K C g) (F : FnOk X.prog X.w X.K X.mg X.base CX k g fd ps sp) (room : Room (k + 1) X.A) (hg : Gl X x) (hm : X.mg x = some (.ref C)) (hb : Binds X.K fd ps ds) (hd : Vals dvs ds) (hx : ∀ σ, PassesAt CX X σ (E σ))
    (ha : PA X (e :: es) t) (hdb : (x == ("__debug__" : Str)) = false) (hst : starEach (e :: es) X.env = (false, eval e X.env) :: starEach es X.env) (hpl : (backTo pos (starEach es X.env)).any (·.1) = false) :
    PE X (.Call (.Name x p) (e :: es) [] pos) (tMakeX C sp dvs E t) := by
  refine ⟨fun pins s σ H Q I h => wpAny_Call_Name_kw (ld_glob I hg hm ?_ hdb)⟩
  refine PySem.W.callWith_K (h₀ := X.base) I.ok.mod.kin Mm.kp (thn (ha.run pos pins s σ H _ I h) ?_) hst hpl
  rintro us s1 ⟨vs, H1, I1, r, q⟩
  exact ⟨I1.kIn, run_makeX Mm F room hb hd (hx σ) I1 r q⟩
theorem pe_makeX0 (Mm : Mk X.K C g) (F : FnOk X.prog X.w X.K X.mg X.base CX k g fd ps sp) (room : Room (k + 1) X.A) (hg : Gl X x) (hm : X.mg x = some (.ref C)) (hb : Binds X.K fd ps ds) (hd : Vals dvs ds) (hx : ∀ σ, PassesAt CX X σ (E σ))
    (hdb : (x == ("__debug__" : Str)) = false) : PE X (.Call (.Name x p) [] [] pos) (tMakeX C sp dvs E tNil) := by
  refine ⟨fun pins s σ H Q I h => wpAny_Call_Name_kw (ld_glob I hg hm ?_ hdb)⟩
  exact PySem.W.callWith_K0 I.kIn Mm.kp (run_makeX (us := []) Mm F room hb hd (hx σ) I .nil h)
end
section
variable {X : Cx} {W : WX} {e o : Expr} {es : List Expr} {mo : ME} {mas : MA} {c m x : Str} {p pos apos : Pos} {dd : List D} {fn : Fn}
theorem meth_le {n : Nat} {dvs : List V} {t : TA} {σ : L2.St} {H : Hp} {Q : VK} (len : ∀ ds M, ds.length ≠ n → fn ds M = .stuck) (hr : ∀ ι H, RpA X.K ι H dd dvs) (ht : ∀ σ H Q, LA X.K W mas σ H Q → t σ H Q)
    (h : LE X.K W (eMeM c m dd fn mo mas) σ H Q) : tMethX (He.ga X.K c) m (spD X.K n fn) dvs (fun σ cls d H => W cls d σ H) (LE X.K W mo) t σ H Q := by
  obtain ⟨ι, env, M, S, R, h⟩ := h
  refine ⟨ι, env, M, S, R, (OutP.bind h).imp fun x M1 ι1 H1 e1 S1 h1 v rv => ?_⟩
  revert h1
  cases x with
  | ref j =>
    obtain ⟨a, rfl, ha⟩ := rv.ref_inv
    cases q : insAt M1 c j with
    | none => intro h1; simp only [q] at h1; exact h1.elim
    | some fs =>
      obtain ⟨dx, vs, h2, h3⟩ := S1.ok j a _ ha (insAt_some q)
      cases q2 : fs.lookup m with
      | some z => intro h1; simp only [q, q2] at h1; exact h1.elim
      | none =>
        intro h1
        simp only [q, q2] at h1
        have h1' : OutP X.K (W1 W σ) ι1 H1 ((mas env M1).bind fun ds M2 => fn (.ref j :: (ds ++ dd)) M2) (VR X.K Q) := h1
        refine ⟨a, dx, vs, rfl, h2, h3.lookN q2, ht _ _ _ ⟨ι1, env, M1, S1, R.ext e1, (OutP.bind h1').imp fun ds M2 ι2 H2 e2 S2 h4 us ru => ?_⟩⟩
        have ra : RpA X.K ι2 H2 (.ref j :: (ds ++ dd)) (.ref a :: (us ++ dvs)) := .cons (.ref (e2.pre _ _ ha)) (ru.append (hr ι2 H2))
        refine ⟨?_, ι2, _, M2, S2, ra, h4⟩
        rw [← ra.length]
        by_cases z : (D.ref j :: (ds ++ dd)).length = n
        · exact z
        · rw [len _ _ z] at h4
          exact h4.elim
  | _ => exact fun h1 => h1.elim
theorem d_meM {k k' n : Nat} (C : Ctx X W k') (F : CalleeM X.prog X.w X.K X.mg X.base c m n k dd fn) (hk : k ≤ k') (ho : PE X o (LE X.K W mo)) (ha : PA X (e :: es) (LA X.K W mas)) {pl : Sem Bool}
    (hst : starEach (e :: es) X.env = (false, eval e X.env) :: starEach es X.env := by rfl) (hpl : (backTo pos (starEach es X.env)).any (·.1) = false := by rfl)
    (ht : eval (.Call (.Attribute o m apos) (e :: es) [] pos) X.env = (eval o X.env >>= fun ov => standAt apos.atName >>= fun _ => holding [ov] (getMethod ov m pl) >>= fun y => callWith pos y.1 y.2 (backTo pos (starEach (e :: es) X.env)) (backToKw pos (keywordEach [] X.env))) := by rfl) :
    PE X (.Call (.Attribute o m apos) (e :: es) [] pos) (LE X.K W (eMeM c m dd fn mo mas)) := by
  obtain ⟨fd, ps, dvs, ds, F1, hb, hd, hr⟩ := F.ex
  exact (pe_methX (pl := pl) ho F.cls F.meth F1 (C.room.mono hk) hb hd (fun σ => L2N.passAt C.tk σ) ha hst hpl ht).imp fun σ H Q h => meth_le F.len hr (fun _ _ _ z => z) h
theorem d_meM0 {k k' n : Nat} (C : Ctx X W k') (F : CalleeM X.prog X.w X.K X.mg X.base c m n k dd fn) (hk : k ≤ k') (ho : PE X o (LE X.K W mo)) {pl : Sem Bool}
    (ht : eval (.Call (.Attribute o m apos) [] [] pos) X.env = (eval o X.env >>= fun ov => standAt apos.atName >>= fun _ => holding [ov] (getMethod ov m pl) >>= fun y => callWith pos y.1 y.2 (backTo pos (starEach [] X.env)) (backToKw pos (keywordEach [] X.env))) := by rfl) :
    PE X (.Call (.Attribute o m apos) [] [] pos) (LE X.K W (eMeM c m dd fn mo aNil)) := by
  obtain ⟨fd, ps, dvs, ds, F1, hb, hd, hr⟩ := F.ex
  exact (pe_methX0 (pl := pl) ho F.cls F.meth F1 (C.room.mono hk) hb hd (fun σ => L2N.passAt C.tk σ) ht).imp fun σ H Q h => meth_le (mas := aNil) F.len hr (fun σ H Q ⟨ι, env, M, S, R, h⟩ => h ι H Ext.refl S [] .nil) h
end

/-! ### making one -/
/-- a class that is made, by its __init__ -/
structure CalleeI (P : Program) (w : World) (K : PySem.W.Frag) (mg : Str → Option Value) (base : Heap) (c : Str) (n k : Nat) (dd : List D) (fn : Fn) : Prop where
  i : CalleeM P w K mg base c "__init__" n k dd fn
  mkr : Mk K (He.ga K c) (He.ma K (He.ga K c) "__init__")
  mg : mg c = some (.ref (He.ga K c))
section
variable {X : Cx} {W : WX} {e o : Expr} {es : List Expr} {mas : MA} {c : Str} {p pos : Pos} {dd : List D} {fn : Fn}
theorem make_le {n : Nat} {dvs : List V} {t : TA} {σ : L2.St} {H : Hp} {Q : VK} (len : ∀ ds M, ds.length ≠ n → fn ds M = .stuck) (hr : ∀ ι H, RpA X.K ι H dd dvs) (ht : ∀ σ H Q, LA X.K W mas σ H Q → t σ H Q)
    (h : LE X.K W (eMake c dd fn mas) σ H Q) : tMakeX (He.ga X.K c) (spD X.K n fn) dvs (fun σ cls d H => W cls d σ H) t σ H Q := by
  obtain ⟨ι, env, M, S, R, h⟩ := h
  refine ht _ _ _ ⟨ι, env, M, S, R, (OutP.bind h).imp fun ds M1 ι1 H1 e1 S1 h1 us ru => ?_⟩
  intro x dx nx nd ne
  have nx' : L2.upd H1 dx (.own x) x = none := by rw [upd_ne (Ne.symm ne)]; exact nx
  have g1 : Ext X.K ι1 H1 ι1 (L2.upd H1 dx (.own x)) := Ext.new nd
  have g2 : Ext X.K ι1 (L2.upd H1 dx (.own x)) (ι1 ++ [x]) (L2.upd (L2.upd H1 dx (.own x)) x (.ins (He.ga X.K c) dx [])) := Ext.more nx'
  have S2 : SR X.K (ι1 ++ [x]) (L2.upd (L2.upd H1 dx (.own x)) x (.ins (He.ga X.K c) dx [])) (M1 ++ [.ins c []]) := (S1.new nd).alloc nx' ⟨dx, [], upd_same, .nil⟩
  have at0 : (ι1 ++ [x])[M1.length]? = some x := by rw [← S1.len]; simp
  have h2 := OutP.ext (g1.trans g2) h1
  have ra : RpA X.K (ι1 ++ [x]) (L2.upd (L2.upd H1 dx (.own x)) x (.ins (He.ga X.K c) dx [])) (.ref M1.length :: (ds ++ dd)) (.ref x :: (us ++ dvs)) :=
    .cons (.ref at0) ((ru.ext (g1.trans g2)).append (hr _ _))
  refine ⟨?_, _, _, _, S2, ra, (OutP.bind h2).imp fun d M2 ι2 H2 e2 S3 h3 v rv => ?_⟩
  · rw [← ra.length]
    by_cases z : (D.ref M1.length :: (ds ++ dd)).length = n
    · exact z
    · rw [len _ _ z] at h2
      exact h2.elim
  · revert h3
    cases d with
    | non =>
      intro h3
      exact ⟨rv.non_inv, OutP.val S3 h3 _ (.ref (e2.pre _ _ at0))⟩
    | _ => exact fun h3 => h3.elim
theorem d_make {k k' n : Nat} (C : Ctx X W k') (F : CalleeI X.prog X.w X.K X.mg X.base c n k dd fn) (hk : k + 1 ≤ k') (ha : PA X (e :: es) (LA X.K W mas)) (hg : Gl X c := by rfl)
    (hdb : (c == ("__debug__" : Str)) = false := by decide) (hst : starEach (e :: es) X.env = (false, eval e X.env) :: starEach es X.env := by rfl) (hpl : (backTo pos (starEach es X.env)).any (·.1) = false := by rfl) :
    PE X (.Call (.Name c p) (e :: es) [] pos) (LE X.K W (eMake c dd fn mas)) := by
  obtain ⟨fd, ps, dvs, ds, F1, hb, hd, hr⟩ := F.i.ex
  exact (pe_makeX F.mkr F1 (C.room.mono hk) hg F.mg hb hd (fun σ => L2N.passAt C.tk σ) ha hdb hst hpl).imp fun σ H Q h => make_le F.i.len hr (fun _ _ _ z => z) h
theorem d_make0 {k k' n : Nat} (C : Ctx X W k') (F : CalleeI X.prog X.w X.K X.mg X.base c n k dd fn) (hk : k + 1 ≤ k') (hg : Gl X c := by rfl) (hdb : (c == ("__debug__" : Str)) = false := by decide) :
    PE X (.Call (.Name c p) [] [] pos) (LE X.K W (eMake c dd fn aNil)) := by
  obtain ⟨fd, ps, dvs, ds, F1, hb, hd, hr⟩ := F.i.ex
  exact (pe_makeX0 F.mkr F1 (C.room.mono hk) hg F.mg hb hd (fun σ => L2N.passAt C.tk σ) hdb).imp fun σ H Q h => make_le (mas := aNil) F.i.len hr (fun σ H Q ⟨ι, env, M, S, R, h⟩ => h ι H Ext.refl S [] .nil) h
end
/-! ### from a def to what it promises -/
section
variable {P : Program} {w : World} {K : PySem.W.Frag} {mg : Str → Option Value} {base : Heap}
theorem okFd {x qual : Str} {params : Arguments} {body : List Stmt} {scope : Scope} {dvs : List V} {f : Addr} {fd : FuncData} {N ps : List Str} {k : Nat} {mb : MS} (F : FunD K x qual params body scope dvs [] f fd) (S : FnScope N ps scope)
    (hbody : ∀ (cdv : Value) (A : Around) (outer : List PySem.Env) (s : Shared) (H : Hp) (E : XK), let X := cxOf (L2N.CX P w) P w K mg base N qual scope f cdv A outer s H E
      Ctx X (fun cls d _ H => E cls d H) k → PSs X body (LS K (fun cls d _ H => E cls d H) mb)) :
    FnOk P w K mg base (L2N.CX P w) (k + 1) f fd ps (spD K ps.length (fnD ps.length N.length mb)) := by
  refine F.ok S (fun vs H Q E h => h.1) ?_
  rintro cdv A outer s H vs Q E room ⟨many, ι, ds, M, SS, rs, h⟩
  have C : Ctx (cxOf (L2N.CX P w) P w K mg base N qual scope f cdv A outer s H E) (fun cls d _ H => E cls d H) k := ⟨rfl, S.nd, room, L2N.takes_of rfl rfl rfl rfl, passes_of rfl⟩
  have h' : OutP K E ι H (endS (mb (startE N.length ds) M)) (VR K Q) := by
    unfold fnD at h
    rwa [if_pos (by rw [rs.length]; exact many)] at h
  have R0 : EnvR K ι H (startE N.length ds) (L2.start N vs) := by
    unfold startE L2.start
    rw [rs.length]
    exact envR_start rs _
  refine ⟨_, hbody cdv A outer s H E C, ι, startE N.length ds, M, SS, R0, ?_⟩
  clear h
  revert h'
  cases mb (startE N.length ds) M with
  | next env M1 => exact fun h ι1 σ1 H1 e1 S1 _ => h ι1 H1 e1 S1 _ .non
  | ret d M1 => exact fun h ι1 v H1 e1 S1 r => h ι1 H1 e1 S1 v r
  | exc y env M1 => exact fun h ι1 σ1 H1 cls dx e1 S1 _ ex => h ι1 H1 cls dx e1 S1 ex
  | stuck => exact fun h => h
/-- a method, all arguments written -/
theorem okM {c m x qual : Str} {params : Arguments} {body : List Stmt} {scope : Scope} {N ps : List Str} {k : Nat} {mb : MS} (F : ∃ fd, FunD K x qual params body scope [] [] (He.ma K (He.ga K c) m) fd) (S : FnScope N ps scope) (hc : Cls K (He.ga K c)) (hm : Meth K (He.ga K c) m (He.ma K (He.ga K c) m))
    (hbind : ∀ (kV doc pm : Value) (an : Option Addr) (cdv ct : Value) (us : List Value), us.length = ps.length → bindArgs (PySem.W.fnOf x qual params body scope .none kV doc pm an cdv ct) ⟨us, []⟩ = pure (ps.zip us))
    (hbody : ∀ (cdv : Value) (A : Around) (outer : List PySem.Env) (s : Shared) (H : Hp) (E : XK), let X := cxOf (L2N.CX P w) P w K mg base N qual scope (He.ma K (He.ga K c) m) cdv A outer s H E
      Ctx X (fun cls d _ H => E cls d H) k → PSs X body (LS K (fun cls d _ H => E cls d H) mb)) :
    CalleeM P w K mg base c m ps.length (k + 1) [] (fnD ps.length N.length mb) := by
  obtain ⟨fd, F⟩ := F
  exact ⟨⟨fd, ps, [], [], okFd F S hbody, F.bindsN hbind, .nil, fun _ _ => .nil⟩, fun ds M h => if_neg h, hc, hm⟩
/-- a method whose last argument is left out, or written; its default a constant -/
theorem okMd {c m x qual : Str} {params : Arguments} {body : List Stmt} {scope : Scope} {N ps : List Str} {k : Nat} {mb : MS} {dv : V} {d : D} (hd : ∀ ι H, Rp K ι H d dv) (F : ∃ fd, FunD K x qual params body scope [dv] [] (He.ma K (He.ga K c) m) fd) (S : FnScope N ps scope) (hc : Cls K (He.ga K c)) (hm : Meth K (He.ga K c) m (He.ma K (He.ga K c) m))
    (n : Nat) (hn : n + 1 = ps.length)
    (hbind : ∀ (T : Addr) (kV doc pm : Value) (an : Option Addr) (cdv ct : Value) (us its : List Value), us.length = n → its.length = 1 →
      ∃ k, bindArgs (PySem.W.fnOf x qual params body scope (.ref T) kV doc pm an cdv ct) ⟨us, []⟩ = seqItems? (.ref T) >>= k ∧ k (some its.toArray) = pure (ps.zip (us ++ its)))
    (hbindN : ∀ (T : Addr) (kV doc pm : Value) (an : Option Addr) (cdv ct : Value) (us its : List Value), us.length = n + 1 → its.length = 1 →
      ∃ k, bindArgs (PySem.W.fnOf x qual params body scope (.ref T) kV doc pm an cdv ct) ⟨us, []⟩ = seqItems? (.ref T) >>= k ∧ k (some its.toArray) = pure (ps.zip us))
    (hbody : ∀ (cdv : Value) (A : Around) (outer : List PySem.Env) (s : Shared) (H : Hp) (E : XK), let X := cxOf (L2N.CX P w) P w K mg base N qual scope (He.ma K (He.ga K c) m) cdv A outer s H E
      Ctx X (fun cls d _ H => E cls d H) k → PSs X body (LS K (fun cls d _ H => E cls d H) mb)) :
    CalleeM P w K mg base c m ps.length (k + 1) [d] (fnD ps.length N.length mb) ∧ CalleeM P w K mg base c m ps.length (k + 1) [] (fnD ps.length N.length mb) := by
  obtain ⟨fd, F⟩ := F
  constructor
  · obtain ⟨ds, hv, hb⟩ := F.binds1 (ps := ps) n 0 (by simp) (by simp; omega) (by
      intro T kV doc pm an cdv ct us its h1 h2
      obtain ⟨k, e1, e2⟩ := hbind T kV doc pm an cdv ct us its h1 (by simpa using h2)
      exact ⟨k, e1, by rw [e2]; rfl⟩)
    exact ⟨⟨fd, ps, [dv], ds, okFd F S hbody, hb, hv, fun ι H => .cons (hd ι H) .nil⟩, fun ds M h => if_neg h, hc, hm⟩
  · obtain ⟨ds, hv, hb⟩ := F.binds1 (ps := ps) (n + 1) 1 (by simp) (by simp; omega) (by
      intro T kV doc pm an cdv ct us its h1 h2
      obtain ⟨k, e1, e2⟩ := hbindN T kV doc pm an cdv ct us its h1 (by simpa using h2)
      refine ⟨k, e1, ?_⟩
      have : its.drop 1 = [] := List.drop_eq_nil_of_le (by simpa using Nat.le_of_eq h2)
      rw [e2, this, List.append_nil])
    cases hv
    exact ⟨⟨fd, ps, [], [], okFd F S hbody, hb, .nil, fun _ _ => .nil⟩, fun ds M h => if_neg h, hc, hm⟩
/-- nothing is promised -/
theorem noM {c m x qual : Str} {params : Arguments} {body : List Stmt} {scope : Scope} {ps : List Str} {k : Nat} (F : ∃ fd, FunD K x qual params body scope [] [] (He.ma K (He.ga K c) m) fd) (hc : Cls K (He.ga K c)) (hm : Meth K (He.ga K c) m (He.ma K (He.ga K c) m))
    (hbind : ∀ (kV doc pm : Value) (an : Option Addr) (cdv ct : Value) (us : List Value), us.length = ps.length → bindArgs (PySem.W.fnOf x qual params body scope .none kV doc pm an cdv ct) ⟨us, []⟩ = pure (ps.zip us)) :
    CalleeM P w K mg base c m ps.length k [] noFn := by
  obtain ⟨fd, F⟩ := F
  exact ⟨⟨fd, ps, [], [], ⟨fun vs H Q E h => h.1, fun A outer s H args us vs Q E _ _ _ _ h => by obtain ⟨_, ι, ds, M, _, _, z⟩ := h; exact z.elim⟩, F.bindsN hbind, .nil, fun _ _ => .nil⟩, fun _ _ _ => rfl, hc, hm⟩
end
/-! ### running the mirrors -/
section
variable {M : Mem} {n : Nat} {c f m : Str} {fs : List (Str × D)}
theorem mFld_at {v : D} (h : M[n]? = some (.ins c fs)) (hv : fs.lookup f = some v) : mFld c f (.ref n) M = some (v, M) := by
  simp only [mFld, insAt_of h, hv, Option.map_some]
theorem putO_at {v : D} (h : M[n]? = some (.ins c fs)) (hl : fs.length < 1000) : putO c f (.ref n) v M = some (M.set n (.ins c (putD f v fs))) := by
  simp only [putO, insAt_of h]
  exact if_pos hl
end
/-- a class's statements -/
def clsB (s : Stmt) : List Stmt := match s with
  | .ClassDef (body := b) .. => b
  | _ => []
/-- x.index(y), y found -/
def mSIndex : D → OpN := fun d ds M => match d, ds with
  | .str x, [.str y] => match Builtin.Str.occurrences x y 0 x.length 1 with
    | i :: _ => some (.int (i : Nat), M)
    | [] => none
  | _, _ => none
theorem m_sindex {X : Cx} : MtR X "str.index" (rDM X.K mSIndex) := by
  refine MtR.imp mt_sindex fun x xs H Q h => ?_
  obtain ⟨ι, M, d, ds, S, r, rs, h⟩ := h
  unfold mSIndex at h
  split at h
  · cases r.str_inv
    obtain ⟨v, rfl, rv⟩ := rs.one_inv
    cases rv.str_inv
    split at h
    · rename_i e
      exact ⟨_, _, _, _, rfl, rfl, e, h.val S (.int _)⟩
    · exact h.elim
  · exact h.elim
/-! the mirrors, run -/
def meR (c m : Str) (dd : List D) (fn : Fn) (mas : MA) (env : Env) (x : D) (M1 : Mem) : Out D := match x with
  | .ref n => match insAt M1 c n with
    | some fs => if (fs.lookup m).isNone = true then (mas env M1).bind fun ds M2 => fn (.ref n :: (ds ++ dd)) M2 else .stuck
    | none => .stuck
  | _ => .stuck
def putS (env : Env) (o : Option Mem) : SOut := match o with
  | some M => .next env M
  | none => .stuck
def noneO (d x : D) (M : Mem) : Out D := match d with
  | .non => .ok x M
  | _ => .stuck
section
variable {M : Mem} {n : Nat} {c f m : Str} {fs : List (Str × D)} {dd : List D} {fn : Fn} {mas : MA} {env : Env} {o e : ME}
@[simp] theorem eMeM_ap : eMeM c m dd fn o mas env M = (o env M).bind fun x M1 => meR c m dd fn mas env x M1 := rfl
@[simp] theorem eFld_ap : eFld c f e env M = (e env M).bind fun d M1 => liftO (mFld c f d M1) := rfl
@[simp] theorem sFldD_ap : sFldD c f o e env M = thenS env (e env M) fun v M1 => thenS env (o env M1) fun x M2 => putS env (putO c f x v M2) := rfl
@[simp] theorem putS_some : putS env (some M) = .next env M := rfl
@[simp] theorem eMake_ap : eMake c dd fn mas env M = (mas env M).bind fun ds M1 => (fn (.ref M1.length :: (ds ++ dd)) (M1 ++ [.ins c []])).bind fun d M2 => noneO d (.ref M1.length) M2 := rfl
@[simp] theorem noneO_non {x : D} : noneO .non x M = .ok x M := rfl
theorem meR_at (h : M[n]? = some (.ins c fs)) (hl : fs.lookup m = none) : meR c m dd fn mas env (.ref n) M = (mas env M).bind fun ds M2 => fn (.ref n :: (ds ++ dd)) M2 := by
  simp only [meR, insAt_of h, hl]
  rfl
end
end TL
end
section
/-! rallies as data: stands, what a rally makes of them -/
namespace RL
open PySem PySem.Spec PyProof.Rows L2 TL
namespace Rule
def to : Rule → Int
  | point => 0
  | unit t _ _ _ => t
  | unitL t _ _ _ _ => t
def lead : Rule → Int
  | point => 0
  | unit _ l _ _ => l
  | unitL _ l _ _ _ => l
def cap : Rule → Option Int
  | point => none
  | unit _ _ c _ => c
  | unitL _ _ c _ _ => some c
def inner : Rule → Rule
  | point => point
  | unit _ _ _ i => i
  | unitL _ _ _ i _ => i
def last : Rule → Option Rule
  | unitL _ _ _ _ l => some l
  | _ => none
end Rule
def lastD : Option Rule → D
  | none => .non
  | some l => l.toD
theorem toD_unit : ∀ {r : Rule}, r ≠ .point → r.toD = .tup [.str "unit", .int r.to, .int r.lead, capD r.cap, r.inner.toD, lastD r.last]
  | .point, h => absurd rfl h
  | .unit _ _ _ _, _ => rfl
  | .unitL _ _ _ _ _, _ => rfl
theorem depth_inner {r : Rule} (h : r ≠ .point) : r.inner.depth < r.depth := by
  cases r with
  | point => exact absurd rfl h
  | unit _ _ _ i => simp [Rule.inner, Rule.depth]
  | unitL _ _ _ i l => simp [Rule.inner, Rule.depth]; omega
theorem depth_last {r l : Rule} (h : r.last = some l) : l.depth < r.depth := by
  cases r with
  | unitL _ _ _ i l' => simp [Rule.last] at h; subst h; simp [Rule.depth]; omega
  | _ => simp [Rule.last] at h
theorem cap_last {r l : Rule} (h : r.last = some l) : ∃ c, r.cap = some c := by
  cases r with
  | unitL _ _ c _ _ => exact ⟨c, rfl⟩
  | _ => simp [Rule.last] at h
/-- the rule by which a unit goes on at some counts -/
def within (r : Rule) (z o : Int) : Rule := match r.last, r.cap with
  | some l, some c => if z = c - 1 ∧ o = c - 1 then l else r.inner
  | _, _ => r.inner
theorem depth_within {r : Rule} (h : r ≠ .point) (z o : Int) : (within r z o).depth < r.depth := by
  unfold within
  split
  · rename_i l c hl hc
    split
    · exact depth_last hl
    · exact depth_inner h
  · exact depth_inner h
inductive Stand where
  | nil
  | st (zero one : Int) (within : Stand)
  deriving DecidableEq
namespace Stand
def toD : Stand → D
  | nil => .tup []
  | st z o w => .tup [.int z, .int o, w.toD]
def depth : Stand → Nat
  | nil => 0
  | st _ _ w => w.depth + 1
theorem pure_toD : ∀ s : Stand, pureD s.toD (s.depth + 1) = true
  | nil => by simp [toD, depth, pureD, pureL]
  | st z o w => by simp [toD, depth, pureD, pureL, pure_toD w]
theorem eqv_toD : ∀ s t : Stand, PyData.eqv (pyD s.toD) (pyD t.toD) = decide (s = t)
  | nil, nil => by simp [toD, pyD, pyL, PyData.eqv, PyData.eqvAll]
  | nil, st _ _ _ => by simp [toD, pyD, pyL, PyData.eqv, PyData.eqvAll]
  | st _ _ _, nil => by simp [toD, pyD, pyL, PyData.eqv, PyData.eqvAll]
  | st z o w, st z' o' w' => by
    have h := eqv_toD w w'
    simp only [toD, pyD, pyL, PyData.eqv, PyData.eqvAll, h]
    by_cases h1 : z = z' <;> by_cases h2 : o = o' <;> by_cases h3 : w = w' <;> simp [h1, h2, h3]
theorem eq_toD {M : Mem} {s t : Stand} (h1 : s.depth ≤ 60) (h2 : t.depth ≤ 60) : eqD M s.toD t.toD = some (decide (s = t)) := by
  rw [eqD_pure s.pure_toD t.pure_toD (by omega) (by omega), eqv_toD]
end Stand
theorem mNe_nilS {M : Mem} {s : Stand} (h : s.depth ≤ 60) : mNe s.toD (.tup []) M = some (.bl (!decide (s = .nil)), M) := by
  rw [mNe_eq, show (D.tup []) = Stand.nil.toD from rfl, Stand.eq_toD h (by simp [Stand.depth])]; rfl
theorem mEq_nilS {M : Mem} {s : Stand} (h : s.depth ≤ 60) : mEq s.toD (.tup []) M = some (.bl (decide (s = .nil)), M) := by
  rw [mEq_eq, show (D.tup []) = Stand.nil.toD from rfl, Stand.eq_toD h (by simp [Stand.depth])]; rfl
/-- the first stand -/
def begunR (r : Rule) : Stand := if h : r = .point then .nil else .st 0 0 (begunR (within r 0 0))
termination_by r.depth
decreasing_by exact depth_within h 0 0
theorem begunR_point : begunR .point = .nil := by rw [begunR]; simp
theorem begunR_unit {r : Rule} (h : r ≠ .point) : begunR r = .st 0 0 (begunR (within r 0 0)) := by rw [begunR]; simp [h]
theorem begunR_depth : ∀ (n : Nat) (r : Rule), r.depth ≤ n → (begunR r).depth ≤ r.depth
  | n, r, hn => by
    by_cases h : r = .point
    · subst h; rw [begunR_point]; exact Nat.zero_le _
    · have hd := depth_within h 0 0
      match n with
      | 0 => omega
      | n + 1 =>
        have := begunR_depth n (within r 0 0) (by omega)
        rw [begunR_unit h]
        simp only [Stand.depth]
        omega
/-- whether a unit is won by a count -/
def wonR (r : Rule) (own other : Int) : Bool := decide (r.cap = some own) || (decide (r.to ≤ own) && decide (r.lead ≤ own - other))
/-- a stand has the rule's form -/
def Fits : Rule → Stand → Prop
  | _, .nil => True
  | r, .st z o w => r ≠ .point ∧ Fits (within r z o) w
/-- a stand that is not won: it has a place for the next rally -/
def Open : Rule → Stand → Prop
  | r, .nil => r = .point
  | r, .st z o w => r ≠ .point ∧ Open (within r z o) w
theorem open_begun : ∀ (n : Nat) (r : Rule), r.depth ≤ n → Open r (begunR r)
  | n, r, hn => by
    by_cases h : r = .point
    · subst h; rw [begunR_point]; exact rfl
    · have hd := depth_within h 0 0
      match n with
      | 0 => omega
      | n + 1 =>
        rw [begunR_unit h]
        exact ⟨h, open_begun n _ (by omega)⟩
theorem open_depth : ∀ {s : Stand} {r : Rule}, Open r s → s.depth ≤ r.depth
  | .nil, _, _ => Nat.zero_le _
  | .st z o w, r, h => by
    have := open_depth h.2
    have := depth_within h.1 z o
    simp only [Stand.depth]; omega
def bump (z o : Int) (side : Bool) : Int × Int := if side then (z, o + 1) else (z + 1, o)
def ownC (p : Int × Int) (side : Bool) : Int := if side then p.2 else p.1
def otherC (p : Int × Int) (side : Bool) : Int := if side then p.1 else p.2
/-- behind a rally: the stand, whether it is won; side true is 1 -/
def ralliedR : Rule → Stand → Bool → Stand × Bool
  | _, .nil, _ => (.nil, true)
  | r, .st z o w, side =>
    let q := ralliedR (within r z o) w side
    if q.2 then
      let p := bump z o side
      if wonR r (ownC p side) (otherC p side) then (.st p.1 p.2 .nil, true) else (.st p.1 p.2 (begunR (within r p.1 p.2)), false)
    else (.st z o q.1, false)
theorem open_rallied : ∀ {s : Stand} {r : Rule} {side : Bool}, Open r s → (ralliedR r s side).2 = false → Open r (ralliedR r s side).1
  | .nil, r, side, h, e => by simp [ralliedR] at e
  | .st z o w, r, side, h, e => by
    have ih := open_rallied (side := side) h.2
    simp only [ralliedR] at e ⊢
    split at e
    · rename_i hq
      split at e
      · cases e
      · rename_i hw
        rw [if_pos hq, if_neg hw]
        exact ⟨h.1, open_begun _ _ (Nat.le_refl _)⟩
    · rename_i hq
      rw [if_neg hq]
      exact ⟨h.1, ih (by simpa using hq)⟩
theorem depth_rallied : ∀ {s : Stand} {r : Rule} {side : Bool}, Open r s → (ralliedR r s side).1.depth ≤ r.depth
  | .nil, r, side, h => Nat.zero_le _
  | .st z o w, r, side, h => by
    have ih := depth_rallied (side := side) h.2
    have hd := depth_within h.1 z o
    simp only [ralliedR]
    split
    · split
      · simp only [Stand.depth]; omega
      · have h1 := depth_within h.1 (bump z o side).1 (bump z o side).2
        have h2 := begunR_depth _ (within r (bump z o side).1 (bump z o side).2) (Nat.le_refl _)
        simp only [Stand.depth]; omega
    · simp only [Stand.depth]; omega
end RL
end
section
/-! the tree layer: exceptions, run -/
namespace TL
open PySem PySem.Spec PyProof.Rows L2
section
variable {env : TL.Env} {M : Mem} {a : ME} {x : Ex} {i : Nat} {d : D} {b m : MS} {cl : List Str} {hs : List HdM} {C : Str} {sl : Option Nat}
@[simp] theorem sRaise_ap {c : Str} : sRaise c env M = .exc ⟨c, none⟩ env M := rfl
@[simp] theorem sTry_ap : sTry cl b hs env M = match b env M with
  | .exc x env1 M1 => if x.cls ∈ cl then hdsRun x hs env1 M1 else .stuck
  | o => o := rfl
@[simp] theorem hdsRun_nil : hdsRun x [] env M = .exc x env M := rfl
@[simp] theorem hdsRun_cons : hdsRun x (⟨C, sl, m⟩ :: hs) env M = if subX x.cls C = true then undoS sl (m (setE env sl (some (.err x))) M) else hdsRun x hs env M := rfl
@[simp] theorem undoS_next : undoS sl (.next env M) = .next (setE env sl none) M := rfl
@[simp] theorem undoS_ret : undoS sl (.ret d M) = .ret d M := rfl
@[simp] theorem undoS_stuck : undoS sl .stuck = .stuck := rfl
@[simp] theorem setE_none {o : Option D} : setE env none o = env := rfl
@[simp] theorem setE_some {o : Option D} : setE env (some i) o = env.set i o := rfl
@[simp] theorem eIsE_ap : eIsE cl C a env M = (a env M).bind fun d M1 => liftO (mIsE cl C d M1) := rfl
@[simp] theorem eIsEs_ap {Cs : List Str} : eIsEs cl Cs a env M = (a env M).bind fun d M1 => liftO (mIsEs cl Cs d M1) := rfl
@[simp] theorem mIsE_err : mIsE cl C (.err x) M = if x.cls ∈ cl then some (.bl (subX x.cls C), M) else none := rfl
@[simp] theorem mIsEs_err {Cs : List Str} : mIsEs cl Cs (.err x) M = if x.cls ∈ cl then some (.bl (Cs.any (subX x.cls)), M) else none := rfl
@[simp] theorem isNon_err : isNon (.err x) = false := rfl
@[simp] theorem Out.bind_match {α β : Type} (x : Ex) (M : Mem) (f : α → Mem → Out β) : (Out.exc x M : Out α).bind f = .exc x M := rfl
end
section
variable {M : Mem} {xs : List D} {n : Nat} {k : Int}
@[simp] theorem nList_tup : nList [.tup xs] M = some (.ref M.length, M ++ [.lst xs]) := rfl
@[simp] theorem nList_ref : nList [.ref n] M = (seqAt M n).map fun xs => (.ref M.length, M ++ [.lst xs]) := rfl
@[simp] theorem nTuple_tup : nTuple [.tup xs] M = some (.tup xs, M) := rfl
theorem mMul_list (h : M[n]? = some (.lst xs)) (h0 : 0 ≤ k) (h1 : k ≤ 1000) (h2 : xs.length * k.toNat ≤ 1000000) : mMul (.ref n) (.int k) M = some (.ref M.length, M ++ [.lst (List.replicate k.toNat xs).flatten]) := by
  show (match M[n]? with
    | some (.lst xs) => @ite _ (-(2 ^ 63) ≤ k ∧ k < 2 ^ 63 ∧ xs.length * k.toNat ≤ sizeLine) (Classical.propDecidable _) (some (D.ref M.length, M ++ [MO.lst (List.replicate k.toNat xs).flatten])) none
    | _ => none) = _
  rw [h]
  exact if_pos ⟨Int.le_trans (by decide) h0, Int.lt_of_le_of_lt h1 (by decide), by rw [sizeLine_eq]; omega⟩
end
theorem mMul_sm {M : Mem} {i j : Int} (h0 : -1000000000 ≤ i) (h1 : i ≤ 1000000000) : mMul (.int i) (.int j) M = some (.int (i * j), M) := by
  rw [mMul_int, if_pos]; omega
theorem lt_of_seq {M : Mem} {n : Nat} {xs : List D} (h : seqAt M n = some xs) : n < M.length := by
  unfold seqAt at h
  cases q : M[n]? with
  | none => rw [q] at h; cases h
  | some o => exact lt_of_at q
theorem at_newK {M G : Mem} {k : Nat} : (M ++ G)[M.length + k]? = G[k]? := by rw [List.getElem?_append_right (by omega)]; simp
theorem at_new0 {M G : Mem} : (M ++ G)[M.length]? = G[0]? := by rw [List.getElem?_append_right (by omega)]; simp
theorem mMul_new {M G : Mem} {k : Nat} {c : Int} {xs : List D} (h : G[k]? = some (.lst xs)) (h0 : 0 ≤ c) (h1 : c ≤ 1000) (h2 : xs.length * c.toNat ≤ 1000000) :
    mMul (.ref (M.length + k)) (.int c) (M ++ G) = some (D.ref (M ++ G).length, M ++ G ++ [MO.lst (List.replicate c.toNat xs).flatten]) := mMul_list (by rw [at_newK, h]) h0 h1 h2
/-- it raises this, all that stood stands -/
def Throws {α : Type} (o : Out α) (M : Mem) (x : Ex) : Prop := ∃ M', o = .exc x M' ∧ Keep M M'
/-- one of a list at a drawn place -/
theorem pick_at {M : Mem} {n : Nat} {xs : List D} {r : Int} (hn : seqAt M n = some xs) (h0 : 0 ≤ r) (h1 : r < xs.length) : ∃ d, d ∈ xs ∧ mIdx (.ref n) (.int r) M = some (d, M) := by
  obtain ⟨d, g1, g2⟩ := atI_ok h0 h1
  refine ⟨d, List.mem_of_getElem? g1, ?_⟩
  show (match seqAt M n with | some xs => (atI xs r).map fun d => (d, M) | none => none) = _
  rw [hn]
  simp only [g2]
  rfl
end TL
end
section
/-! the tree layer: mirrors run from the left, what comes behind is left alone until its turn -/
namespace TLQ
open PySem PySem.Spec PyProof.Rows L2 TL
/-- a thing that is left alone -/
inductive Held {α : Sort _} : α → Type
  | mk (a : α) : Held a
def bindQ {α β : Type} (o : Out α) (f : α → Mem → Out β) (_ : Held f) : Out β := o.bind f
def thenQ {α : Type} (env : TL.Env) (o : Out α) (f : α → Mem → SOut) (_ : Held f) : SOut := thenS env o f
def nextQ (o : SOut) (f : TL.Env → Mem → SOut) (_ : Held f) : SOut := nextS o f
def kBlQ {β : Type} (d : D) (f : Bool → Out β) (_ : Held f) : Out β := kBl d f
def kIntQ {β : Type} (d : D) (f : Int → Out β) (_ : Held f) : Out β := kInt d f
section
variable {α β : Type} {env : TL.Env} {M : Mem}
@[scoped simp ↓] theorem bind_held {o : Out α} {f : α → Mem → Out β} : o.bind f = bindQ o f (.mk f) := rfl
@[scoped simp ↓] theorem then_held {o : Out α} {f : α → Mem → SOut} : thenS env o f = thenQ env o f (.mk f) := rfl
@[scoped simp ↓] theorem next_held {o : SOut} {f : TL.Env → Mem → SOut} : nextS o f = nextQ o f (.mk f) := rfl
@[scoped simp ↓] theorem kBl_held {d : D} {f : Bool → Out β} : kBl d f = kBlQ d f (.mk f) := rfl
@[scoped simp ↓] theorem kInt_held {d : D} {f : Int → Out β} : kInt d f = kIntQ d f (.mk f) := rfl
@[scoped simp] theorem bindQ_ok {a : α} {f : α → Mem → Out β} {u : Held f} : bindQ (.ok a M) f u = f a M := rfl
@[scoped simp] theorem bindQ_exc {x : Ex} {f : α → Mem → Out β} {u : Held f} : bindQ (.exc x M : Out α) f u = .exc x M := rfl
@[scoped simp] theorem bindQ_stuck {f : α → Mem → Out β} {u : Held f} : bindQ (.stuck : Out α) f u = .stuck := rfl
@[scoped simp] theorem bindQ_bindQ {γ : Type} {o : Out α} {f : α → Mem → Out β} {g : β → Mem → Out γ} {u : Held f} {v : Held g} : bindQ (bindQ o f u) g v = bindQ o (fun a M => (f a M).bind g) (.mk _) := Out.bind_assoc o f g
@[scoped simp] theorem thenQ_ok {a : α} {f : α → Mem → SOut} {u : Held f} : thenQ env (.ok a M) f u = f a M := rfl
@[scoped simp] theorem thenQ_exc {x : Ex} {f : α → Mem → SOut} {u : Held f} : thenQ env (.exc x M : Out α) f u = .exc x env M := rfl
@[scoped simp] theorem thenQ_stuck {f : α → Mem → SOut} {u : Held f} : thenQ env (.stuck : Out α) f u = .stuck := rfl
@[scoped simp] theorem thenQ_bindQ {o : Out α} {f : α → Mem → Out β} {g : β → Mem → SOut} {u : Held f} {v : Held g} : thenQ env (bindQ o f u) g v = thenQ env o (fun a M => thenS env (f a M) g) (.mk _) := thenS_bind f g
@[scoped simp] theorem nextQ_next {f : TL.Env → Mem → SOut} {u : Held f} : nextQ (.next env M) f u = f env M := rfl
@[scoped simp] theorem nextQ_ret {d : D} {f : TL.Env → Mem → SOut} {u : Held f} : nextQ (.ret d M) f u = .ret d M := rfl
@[scoped simp] theorem nextQ_exc {x : Ex} {f : TL.Env → Mem → SOut} {u : Held f} : nextQ (.exc x env M) f u = .exc x env M := rfl
@[scoped simp] theorem nextQ_stuck {f : TL.Env → Mem → SOut} {u : Held f} : nextQ .stuck f u = .stuck := rfl
@[scoped simp] theorem nextQ_thenQ {o : Out α} {f : α → Mem → SOut} {g : TL.Env → Mem → SOut} {u : Held f} {v : Held g} : nextQ (thenQ env o f u) g v = thenQ env o (fun a M => nextS (f a M) g) (.mk _) := nextS_thenS f g
@[scoped simp] theorem nextQ_nextQ {o : SOut} {f g : TL.Env → Mem → SOut} {u : Held f} {v : Held g} : nextQ (nextQ o f u) g v = nextQ o (fun e M => nextS (f e M) g) (.mk _) := nextS_nextS o f g
@[scoped simp] theorem endS_thenQ {o : Out α} {f : α → Mem → SOut} {u : Held f} : endS (thenQ env o f u) = bindQ o (fun a M => endS (f a M)) (.mk _) := endS_thenS f
@[scoped simp] theorem kBlQ_bl {b : Bool} {f : Bool → Out β} {u : Held f} : kBlQ (.bl b) f u = f b := rfl
@[scoped simp] theorem kIntQ_int {i : Int} {f : Int → Out β} {u : Held f} : kIntQ (.int i) f u = f i := rfl
@[scoped simp] theorem undoS_thenQ {sl : Option Nat} {o : Out α} {f : α → Mem → SOut} {u : Held f} (h : ∀ x M, o ≠ .exc x M) : undoS sl (thenQ env o f u) = thenQ env o (fun a M => undoS sl (f a M)) (.mk _) := by
  cases o with
  | ok a M => rfl
  | exc x M => exact absurd rfl (h x M)
  | stuck => rfl
/-! goals that begin with a thing of its own -/
variable {N : TL.Env → Mem → Prop} {R : D → Mem → Prop}
theorem Ret.bindQ {o : Out α} {f : α → Mem → Out β} {u : Held f} {P : α → Mem → Prop} {Q : β → Mem → Prop} (h : Ret o P) (k : ∀ a M, P a M → Ret (f a M) Q) : Ret (TLQ.bindQ o f u) Q := Ret.bind h k
theorem SRet.thenQ {o : Out α} {f : α → Mem → SOut} {u : Held f} {P : α → Mem → Prop} (h : Ret o P) (k : ∀ a M, P a M → SRet (f a M) N R) : SRet (TLQ.thenQ env o f u) N R := SRet.thenI h k
theorem SRet.forQ {good : Mem → Prop} {g : MG} {b : MS} {ds : List D} {k : TL.Env → Mem → SOut} {u : Held k} (Inv : List D → TL.Env → Mem → Prop) (h0 : Inv ds env M) (hgood : ∀ ds env M, Inv ds env M → good M)
    (step : ∀ d ds env M, Inv (d :: ds) env M → ∃ env1, g d env = some env1 ∧ SRet (b env1 M) (Inv ds) R) (done : ∀ env M, Inv [] env M → SRet (k env M) N R) : SRet (TLQ.nextQ (forL good g b ds env M) k u) N R := SRet.forN Inv h0 hgood step done
theorem SRet.whileQ {t : MT} {b : MS} {n : Nat} {k : TL.Env → Mem → SOut} {u : Held k} (Inv : Nat → TL.Env → Mem → Prop) {m : Nat} (h0 : Inv m env M) (hm : m < n)
    (step : ∀ m env M, Inv m env M → Ret (t env M) (fun c M1 => if c = true then SRet (b env M1) (fun e M => ∃ m', m' < m ∧ Inv m' e M) R else SRet (k env M1) N R)) : SRet (TLQ.nextQ (sWhile n t b env M) k u) N R := SRet.whileN Inv h0 hm step
theorem SRet.nextQ {o : SOut} {f : TL.Env → Mem → SOut} {u : Held f} (h : SRet o (fun e M => SRet (f e M) N R) R) : SRet (TLQ.nextQ o f u) N R := SRet.nextS h
end
@[scoped simp] theorem str_inj {a b : String} : Str.ofString a = Str.ofString b ↔ a = b := by
  refine ⟨fun h => ?_, fun h => by rw [h]⟩
  rw [Str.ofString_eq_toList, Str.ofString_eq_toList] at h
  have h1 := congrArg (fun s : Str => s.cps.toList) h
  simp only at h1
  have h2 : a.toList = b.toList := (List.map_inj_right fun c d e => Char.ext (UInt32.toNat_inj.mp e)).mp h1
  exact String.toList_inj.mp h2
@[scoped simp] theorem str_beq {a b : String} : (Str.ofString a == Str.ofString b) = decide (a = b) := by
  by_cases h : a = b
  · subst h; simp
  · have : Str.ofString a ≠ Str.ofString b := fun e => h (str_inj.mp e)
    simp [h]
section
variable {M : Mem} {n : Nat} {y : D}
@[scoped simp] theorem mCount_ap : mCount (.ref n) [y] M = match seqAt M n with
    | some xs => if flatD y = true ∧ xs.all flatD = true then some (.int ((xs.countP fun x => eqF x y : Nat) : Int), M) else none
    | none => none := rfl
@[scoped simp] theorem mIndex_ap : mIndex (.ref n) [y] M = match seqAt M n with
    | some xs => if flatD y = true ∧ xs.all flatD = true then (xs.findIdx? fun x => eqF x y).map fun j => (.int ((j : Nat) : Int), M) else none
    | none => none := rfl
@[scoped simp] theorem tyD_ref : tyD "list" M (.ref n) = (seqAt M n).isSome := by show (decide ("list" = "list") && (seqAt M n).isSome) = _; simp
@[scoped simp] theorem mNe_bl {b c : Bool} : mNe (.bl b) (.bl c) M = some (.bl (!(b == c)), M) := by
  rw [mNe_eq, eqD_pure (n := 0) (m := 0) (by simp [pureD]) (by simp [pureD]) (by decide) (by decide)]; simp [pyD, PyData.eqv]
@[scoped simp] theorem flat_bl {b : Bool} : flatD (.bl b) = true := rfl
@[scoped simp] theorem flat_int {b : Int} : flatD (.int b) = true := rfl
@[scoped simp] theorem flat_str {b : Str} : flatD (.str b) = true := rfl
@[scoped simp] theorem flat_non : flatD .non = true := rfl
@[scoped simp] theorem eqF_bl {b c : Bool} : eqF (.bl b) (.bl c) = (b == c) := rfl
@[scoped simp] theorem eqF_int {b c : Int} : eqF (.int b) (.int c) = (b == c) := rfl
@[scoped simp] theorem eqF_str {b c : Str} : eqF (.str b) (.str c) = (b == c) := rfl
/-- a place behind a memory -/
theorem seq_new {G : Mem} {k : Nat} : seqAt (M ++ G) (M.length + k) = seqAt G k := by unfold seqAt; rw [List.getElem?_append_right (by omega)]; simp
theorem seq_new0 {G : Mem} : seqAt (M ++ G) M.length = seqAt G 0 := by unfold seqAt; rw [List.getElem?_append_right (by omega)]; simp
end
@[scoped simp] theorem line_is : sizeLine = 16777216 := sizeLine_eq
theorem strOk_of (s : String) : PyData.strOk (Str.ofString s) = true := by
  rw [Str.ofString_eq_toList]
  unfold PyData.strOk
  rw [← Array.all_toList]
  simp only [List.all_map, List.all_eq_true]
  intro c _
  have h := c.valid
  have e : c.toNat = c.val.toNat := rfl
  refine decide_eq_true ?_
  show c.toNat < 0x110000
  rw [e]
  rcases h with h | h <;> simp at h ⊢ <;> omega
@[scoped simp] theorem mEq_str {x y : String} {M : Mem} : mEq (.str (Str.ofString x)) (.str (Str.ofString y)) M = some (.bl (decide (x = y)), M) := by
  rw [mEq_eq, eqD_pure (n := 0) (m := 0) (by simp [pureD, strOk_of]) (by simp [pureD, strOk_of]) (by decide) (by decide)]; simp [pyD, PyData.eqv]
@[scoped simp] theorem mNe_str {x y : String} {M : Mem} : mNe (.str (Str.ofString x)) (.str (Str.ofString y)) M = some (.bl (!decide (x = y)), M) := by
  rw [mNe_eq, eqD_pure (n := 0) (m := 0) (by simp [pureD, strOk_of]) (by simp [pureD, strOk_of]) (by decide) (by decide)]; simp [pyD, PyData.eqv]
end TLQ
end
section
set_option maxHeartbeats 4000000
/-! rules as words: shown and read -/
namespace CW
open PySem PySem.Spec PyProof.Rows L2 TL CM
noncomputable section
/- def words_of(rule): 0=rule 1=words -/
def b_words_of (r_words_of : Fn) : MS := (sSeq (sIf (tB (eBin mEq (eVar 0) (eC (.tup [(.str "point")])))) (sRet (eLst (aCons (eC (.str "point")) aNil))) sNil)
    (sSeq (sAsg (gOne 1) (eLst (aCons (eC (.str "unit")) (aCons (eCallO nStr (aCons (eBin mIdx (eVar 0) (eC (.int 1))) aNil)) (aCons (eCallO nStr (aCons (eBin mIdx (eVar 0) (eC (.int 2))) aNil)) aNil)))))
    (sSeq (sExpr (eMeth "list" mAppend (eVar 1) (aCons (eIf (tB (eBin mIs (eBin mIdx (eVar 0) (eC (.int 3))) (eC .non))) (eC (.str "-")) (eCallO nStr (aCons (eBin mIdx (eVar 0) (eC (.int 3))) aNil))) aNil)))
    (sSeq (sExpr (eMeth "list" mExtend (eVar 1) (aCons (eCall r_words_of (aCons (eBin mIdx (eVar 0) (eC (.int 4))) aNil)) aNil)))
    (sSeq (sExpr (eMeth "list" mExtend (eVar 1) (aCons (eIf (tB (eBin mIs (eBin mIdx (eVar 0) (eC (.int 5))) (eC .non))) (eLst (aCons (eC (.str "-")) aNil)) (eCall r_words_of (aCons (eBin mIdx (eVar 0) (eC (.int 5))) aNil))) aNil)))
    (sRet (eVar 1)))))))
def m_words_of : Nat → Fn
  | 0 => noFn
  | n + 1 => fnD 1 2 (b_words_of (m_words_of n))
/- def show_rule(rule): 0=rule -/
def b_show_rule : MS := (sRet (eMeth "str" mJoin (eC (.str " ")) (aCons (eCall (m_words_of 14) (aCons (eVar 0) aNil)) aNil)))
def m_show_rule : Fn := fnD 1 1 b_show_rule
/- def count_of(word): 0=word 1=number 2=sign -/
def lp_count_of_0 : MS := (sSeq (sIf (tB (eBin mNotIn (eVar 2) (eC (.str "0123456789")))) (sRet (eC .non)) sNil)
    (sAsg (gOne 1) (eBin mAdd (eBin mMul (eC (.int 10)) (eVar 1)) (eMeth "str" mSIndex (eC (.str "0123456789")) (aCons (eVar 2) aNil)))))
def b_count_of : MS := (sSeq (sIf (tOr (tB (eBin mLt (eCallO nLen (aCons (eVar 0) aNil)) (eC (.int 1)))) (tOr (tB (eBin mGt (eCallO nLen (aCons (eVar 0) aNil)) (eC (.int 2)))) (tB (eBin mEq (eBin mIdx (eVar 0) (eC (.int 0))) (eC (.str "0")))))) (sRet (eC .non)) sNil)
    (sSeq (sAsg (gOne 1) (eC (.int 0)))
    (sSeq (sFor (iAny (eVar 0)) (gOne 2) lp_count_of_0)
    (sRet (eVar 1)))))
def m_count_of : Fn := fnD 1 3 b_count_of
/- def Reader_new(self, words): 0=self 1=words -/
def b_Reader_new : MS := (sSeq (sFldD "Reader" "words" (eVar 0) (eVar 1))
    (sSeq (sFldD "Reader" "at" (eVar 0) (eC (.int 0)))
    (sFldD "Reader" "many" (eVar 0) (eC (.int 0)))))
def m_Reader_new : Fn := fnD 2 2 b_Reader_new
/- def Reader_word(self): 0=self -/
def b_Reader_word : MS := (sSeq (sIf (tB (eBin mEq (eFld "Reader" "at" (eVar 0)) (eCallO nLen (aCons (eFld "Reader" "words" (eVar 0)) aNil)))) sStk sNil)
    (sRet (eBin mIdx (eFld "Reader" "words" (eVar 0)) (eFld "Reader" "at" (eVar 0)))))
def m_Reader_word : Fn := fnD 1 1 b_Reader_word
/- def Reader_count(self, least): 0=self 1=least 2=number -/
def b_Reader_count : MS := (sSeq (sAsg (gOne 2) (eCall m_count_of (aCons (eMeM "Reader" "word" [] m_Reader_word (eVar 0) aNil) aNil)))
    (sSeq (sIf (tOr (tB (eBin mIs (eVar 2) (eC .non))) (tOr (tB (eBin mLt (eVar 2) (eVar 1))) (tB (eBin mGt (eVar 2) (eC (.int 99)))))) sStk sNil)
    (sSeq (sFldD "Reader" "at" (eVar 0) (eBin mAdd (eFld "Reader" "at" (eVar 0)) (eC (.int 1))))
    (sRet (eVar 2)))))
def m_Reader_count : Fn := fnD 2 3 b_Reader_count
/- def Reader_is_dash(self): 0=self -/
def b_Reader_is_dash : MS := (sSeq (sIf (tB (eBin mNe (eMeM "Reader" "word" [] m_Reader_word (eVar 0) aNil) (eC (.str "-")))) (sRet (eC (.bl false))) sNil)
    (sSeq (sFldD "Reader" "at" (eVar 0) (eBin mAdd (eFld "Reader" "at" (eVar 0)) (eC (.int 1))))
    (sRet (eC (.bl true)))))
def m_Reader_is_dash : Fn := fnD 1 1 b_Reader_is_dash
/- def Reader_rule(self, around): 0=self 1=around 2=word 3=to 4=lead 5=cap 6=inner -/
def b_Reader_rule (r_Reader_rule : Fn) (r_Reader_last : Fn) : MS := (sSeq (sAsg (gOne 2) (eMeM "Reader" "word" [] m_Reader_word (eVar 0) aNil))
    (sSeq (sIf (tB (eBin mEq (eVar 2) (eC (.str "point")))) (sSeq (sFldD "Reader" "at" (eVar 0) (eBin mAdd (eFld "Reader" "at" (eVar 0)) (eC (.int 1))))
    (sRet (eC (.tup [(.str "point")])))) sNil)
    (sSeq (sIf (tOr (tB (eBin mNe (eVar 2) (eC (.str "unit")))) (tOr (tB (eBin mEq (eVar 1) (eC (.int 4)))) (tB (eBin mEq (eFld "Reader" "many" (eVar 0)) (eC (.int 10)))))) sStk sNil)
    (sSeq (sFldD "Reader" "at" (eVar 0) (eBin mAdd (eFld "Reader" "at" (eVar 0)) (eC (.int 1))))
    (sSeq (sFldD "Reader" "many" (eVar 0) (eBin mAdd (eFld "Reader" "many" (eVar 0)) (eC (.int 1))))
    (sSeq (sAsg (gOne 3) (eMeM "Reader" "count" [] m_Reader_count (eVar 0) (aCons (eC (.int 1)) aNil)))
    (sSeq (sAsg (gOne 4) (eMeM "Reader" "count" [] m_Reader_count (eVar 0) (aCons (eC (.int 1)) aNil)))
    (sSeq (sAsg (gOne 5) (eIf (tTru (eMeM "Reader" "is_dash" [] m_Reader_is_dash (eVar 0) aNil)) (eC .non) (eMeM "Reader" "count" [] m_Reader_count (eVar 0) (aCons (eVar 3) aNil))))
    (sSeq (sAsg (gOne 6) (eMeM "Reader" "rule" [] r_Reader_rule (eVar 0) (aCons (eBin mAdd (eVar 1) (eC (.int 1))) aNil)))
    (sRet (eTup (aCons (eC (.str "unit")) (aCons (eVar 3) (aCons (eVar 4) (aCons (eVar 5) (aCons (eVar 6) (aCons (eMeM "Reader" "last" [] r_Reader_last (eVar 0) (aCons (eVar 5) (aCons (eBin mAdd (eVar 1) (eC (.int 1))) aNil))) aNil)))))))))))))))))
/- def Reader_last(self, cap, around): 0=self 1=cap 2=around -/
def b_Reader_last (r_Reader_rule : Fn) (r_Reader_last : Fn) : MS := (sSeq (sIf (tTru (eMeM "Reader" "is_dash" [] m_Reader_is_dash (eVar 0) aNil)) (sRet (eC .non)) sNil)
    (sSeq (sIf (tB (eBin mIs (eVar 1) (eC .non))) sStk sNil)
    (sRet (eMeM "Reader" "rule" [] r_Reader_rule (eVar 0) (aCons (eVar 2) aNil)))))
def g_Reader_rule : Nat → Fn × Fn
  | 0 => (noFn, noFn)
  | n + 1 => (fnD 2 7 (b_Reader_rule ((g_Reader_rule n).1) ((g_Reader_rule n).2)), fnD 3 3 (b_Reader_last ((g_Reader_rule n).1) ((g_Reader_rule n).2)))
def m_Reader_rule (n : Nat) : Fn := (g_Reader_rule n).1
def m_Reader_last (n : Nat) : Fn := (g_Reader_rule n).2
/- def read_rule(text): 0=text 1=reader 2=rule -/
def b_read_rule : MS := (sSeq (sAsg (gOne 1) (eMake "Reader" [] m_Reader_new (aCons (eMeth "str" mSplit (eVar 0) (aCons (eC (.str " ")) aNil)) aNil)))
    (sSeq (sAsg (gOne 2) (eMeM "Reader" "rule" [] (m_Reader_rule 14) (eVar 1) (aCons (eC (.int 0)) aNil)))
    (sSeq (sIf (tB (eBin mLt (eFld "Reader" "at" (eVar 1)) (eCallO nLen (aCons (eFld "Reader" "words" (eVar 1)) aNil)))) sStk sNil)
    (sRet (eVar 2)))))
def m_read_rule : Fn := fnD 1 3 b_read_rule
end

open RL TLQ
/-- a number's text -/
def nW (i : Int) : Str := Str.ofString (toString i)
abbrev tlS (x : Str) : List Nat := x.cps.toList
theorem nW_one {n : Nat} (h : n < 10) : tlS (nW (n : Nat)) = [48 + n] := by
  have := tl_num n
  rw [numL_lt h] at this
  exact this
theorem nW_two {n : Nat} (h : 10 ≤ n) (h2 : n < 100) : tlS (nW (n : Nat)) = [48 + n / 10, 48 + n % 10] := by
  have := tl_num n
  rw [numL_step h, numL_lt (by omega)] at this
  exact this
theorem nStr_nW {i : Int} (h0 : 0 ≤ i) (h1 : i ≤ 1000000) (M : Mem) : nStr [.int i] M = some (.str (nW i), M) := by
  rw [nStr_int, if_pos]
  · rfl
  · by_cases z : i.natAbs = 0
    · rw [z]; decide
    · exact Nat.lt_trans ((Nat.log2_lt z).mpr (show i.natAbs < 2 ^ 20 by omega)) (by decide)
theorem fig_index {d : Nat} (h : d < 10) (M : Mem) : mSIndex (.str (Str.ofString "0123456789")) [.str ⟨#[48 + d]⟩] M = some (.int (d : Nat), M) := by
  have all : (List.range 10).all (fun d => decide (Builtin.Str.occurrences (Str.ofString "0123456789") ⟨#[48 + d]⟩ 0 (Str.ofString "0123456789").length 1 = [d])) = true := by decide +kernel
  have e := of_decide_eq_true (List.all_eq_true.mp all d (List.mem_range.mpr h))
  simp only [mSIndex, e]
theorem fig_in {d : Nat} (h : d < 10) (M : Mem) : mNotIn (.str ⟨#[48 + d]⟩) (.str (Str.ofString "0123456789")) M = some (.bl false, M) := by
  have e : inD M (.str ⟨#[48 + d]⟩) (.str (Str.ofString "0123456789")) = some true := by
    have all : (List.range 10).all (fun d => decide (48 + d ∈ (Str.ofString "0123456789").cps.toList)) = true := by decide +kernel
    have e := of_decide_eq_true (List.all_eq_true.mp all d (List.mem_range.mpr h))
    simp only [inD]
    rw [dif_pos (by rfl)]
    exact congrArg some (decide_eq_true e)
  unfold mNotIn
  rw [e]; rfl
theorem str_tl {x : Str} {l : List Nat} (h : tlS x = l) : x = ⟨l.toArray⟩ := by
  cases x with | mk c => cases c with | mk l' => simpa using h
theorem mIdx0 {x : Str} {c : Nat} {r : List Nat} (h : tlS x = c :: r) (hl : r.length ≤ 1000) (M : Mem) : mIdx (.str x) (.int 0) M = some (.str ⟨#[c]⟩, M) := by
  have l : x.length = r.length + 1 := by
    show x.cps.size = _
    rw [← Array.length_toList, show x.cps.toList = c :: r from h]; rfl
  show (if x.length ≤ sizeLine then (atI x.cps.toList 0).map fun c => (D.str ⟨#[c]⟩, M) else none) = _
  rw [if_pos (by rw [sizeLine_eq]; omega), show x.cps.toList = c :: r from h, atI_0]
  rfl
theorem one_ne {d : Nat} (h : d ≠ 0) (M : Mem) : mEq (.str ⟨#[48 + d]⟩) (.str (Str.ofString "0")) M = some (.bl false, M) := by
  have ne : (⟨#[48 + d]⟩ : Str) ≠ Str.ofString "0" := by
    intro e
    have := congrArg tlS e
    have z : tlS (Str.ofString "0") = [48] := by decide +kernel
    rw [z] at this
    simp [tlS] at this
    exact h this
  have e := mEq_text (M := M) (x := (⟨#[48 + d]⟩ : Str)) (y := Str.ofString "0")
  rw [e, decide_eq_false ne]
theorem count_of_ok {n : Nat} (h0 : 1 ≤ n) (h1 : n ≤ 99) (M : Mem) : m_count_of [.str (nW (n : Nat))] M = .ok (.int (n : Nat)) M := by
  show endS (b_count_of [some (.str (nW (n : Nat))), none, none] M) = _
  unfold b_count_of
  by_cases c : n < 10
  · have t := nW_one c
    generalize nW (n : Nat) = x at t
    have l : x.length = 1 := by show x.cps.size = _; rw [← Array.length_toList, show x.cps.toList = _ from t]; rfl
    have i0 := mIdx0 t (by simp) M
    have n0 := one_ne (d := n) (by omega) M
    have it : strItems x = [.str ⟨#[48 + n]⟩] := by unfold strItems; rw [show x.cps.toList = _ from t]; rfl
    have g1 := fig_in c M
    have g2 := fig_index c M
    simp [l, i0, n0, it, forL_cons, forL_nil, lp_count_of_0, g1, g2]
  · have t := nW_two (n := n) (by omega) (by omega)
    generalize nW (n : Nat) = x at t
    have l : x.length = 2 := by show x.cps.size = _; rw [← Array.length_toList, show x.cps.toList = _ from t]; rfl
    have i0 := mIdx0 t (by simp) M
    have n0 := one_ne (d := n / 10) (by omega) M
    have it : strItems x = [.str ⟨#[48 + n / 10]⟩, .str ⟨#[48 + n % 10]⟩] := by unfold strItems; rw [show x.cps.toList = _ from t]; rfl
    have g1 := fig_in (d := n / 10) (by omega) M
    have g2 := fig_index (d := n / 10) (by omega) M
    have g3 := fig_in (d := n % 10) (by omega) M
    have g4 := fig_index (d := n % 10) (by omega) M
    simp [l, i0, n0, it, forL_cons, forL_nil, lp_count_of_0, g1, g2, g3, g4]
    omega
/-! ### the words of a rule -/
def capW : Option Int → Str
  | none => Str.ofString "-"
  | some c => nW c
def rw : Rule → List Str
  | .point => [Str.ofString "point"]
  | .unit to lead cap inner => [Str.ofString "unit", nW to, nW lead, capW cap] ++ rw inner ++ [Str.ofString "-"]
  | .unitL to lead cap inner last => [Str.ofString "unit", nW to, nW lead, nW cap] ++ rw inner ++ rw last
def lw : Option Rule → List Str
  | none => [Str.ofString "-"]
  | some l => rw l
theorem rw_unit {r : Rule} (h : r ≠ .point) : rw r = [Str.ofString "unit", nW r.to, nW r.lead, capW r.cap] ++ rw r.inner ++ lw r.last := by
  cases r with
  | point => exact absurd rfl h
  | unit => rfl
  | unitL => rfl
theorem rw_len : ∀ r : Rule, 1 ≤ (rw r).length ∧ (rw r).length ≤ 6 * r.units + 1
  | .point => ⟨Nat.le_refl _, Nat.le_refl _⟩
  | .unit to lead cap inner => by
    have := rw_len inner
    simp only [rw, List.length_append, List.length_cons, List.length_nil, Rule.units]
    omega
  | .unitL to lead cap inner last => by
    have := rw_len inner
    have := rw_len last
    simp only [rw, List.length_append, List.length_cons, List.length_nil, Rule.units]
    omega
/-- a word of a rule -/
structure Wd (x : Str) : Prop where
  len : x.length ≤ 5
  free : 32 ∉ tlS x
theorem wd_dash : Wd (Str.ofString "-") := ⟨by decide +kernel, by decide +kernel⟩
theorem wd_point : Wd (Str.ofString "point") := ⟨by decide +kernel, by decide +kernel⟩
theorem wd_unit : Wd (Str.ofString "unit") := ⟨by decide +kernel, by decide +kernel⟩
theorem wd_num {i : Int} (h0 : 1 ≤ i) (h1 : i ≤ 99) : Wd (nW i) := by
  obtain ⟨n, rfl⟩ : ∃ n : Nat, i = (n : Int) := ⟨i.toNat, by omega⟩
  have ln : (nW (n : Nat)).length = (tlS (nW (n : Nat))).length := by show (nW (n : Nat)).cps.size = _; simp [tlS]
  by_cases c : n < 10
  · have t := nW_one c
    exact ⟨by rw [ln, t]; simp, by rw [t]; simp; omega⟩
  · have t := nW_two (n := n) (by omega) (by omega)
    exact ⟨by rw [ln, t]; simp, by rw [t]; simp; omega⟩
theorem rw_wd : ∀ r : Rule, r.good → ∀ x ∈ rw r, Wd x
  | .point, _, x, h => by cases List.mem_singleton.mp h; exact wd_point
  | .unit to lead cap inner, h, x, hx => by
    obtain ⟨h1, h2, h3, h4, h5, h6⟩ := h
    have c : Wd (capW cap) := by
      cases cap with
      | none => exact wd_dash
      | some c => have := h5 c rfl; exact wd_num (by omega) (by omega)
    simp only [rw, List.mem_append, List.mem_cons, List.not_mem_nil, or_false] at hx
    rcases hx with (hx | hx) | hx
    · rcases hx with rfl | rfl | rfl | rfl
      · exact wd_unit
      · exact wd_num h1 h2
      · exact wd_num h3 h4
      · exact c
    · exact rw_wd inner h6 x hx
    · subst hx; exact wd_dash
  | .unitL to lead cap inner last, h, x, hx => by
    obtain ⟨h1, h2, h3, h4, h5, h6, h7, h8⟩ := h
    simp only [rw, List.mem_append, List.mem_cons, List.not_mem_nil, or_false] at hx
    rcases hx with (hx | hx) | hx
    · rcases hx with rfl | rfl | rfl | rfl
      · exact wd_unit
      · exact wd_num h1 h2
      · exact wd_num h3 h4
      · exact wd_num (by omega) (by omega)
    · exact rw_wd inner h7 x hx
    · exact rw_wd last h8 x hx
/-! ### shown -/
def NewL (M : Mem) (ws : List Str) (d : D) (M' : Mem) : Prop := ∃ k, d = .ref k ∧ M.length ≤ k ∧ Keep M M' ∧ M'[k]? = some (.lst (ws.map D.str))
theorem good_nums {r : Rule} (h : r.good) (hp : r ≠ .point) : 1 ≤ r.to ∧ r.to ≤ 99 ∧ 1 ≤ r.lead ∧ r.lead ≤ 99 ∧ (∀ c, r.cap = some c → r.to ≤ c ∧ c ≤ 99) ∧ r.inner.good ∧ (∀ l, r.last = some l → l.good) := by
  cases r with
  | point => exact absurd rfl hp
  | unit to lead cap inner =>
    obtain ⟨h1, h2, h3, h4, h5, h6⟩ := h
    exact ⟨h1, h2, h3, h4, h5, h6, fun l e => by cases e⟩
  | unitL to lead cap inner last =>
    obtain ⟨h1, h2, h3, h4, h5, h6, h7, h8⟩ := h
    exact ⟨h1, h2, h3, h4, fun c e => by cases e; exact ⟨h5, h6⟩, h7, fun l e => by cases e; exact h8⟩
theorem parts_units {r : Rule} (hp : r ≠ .point) : r.inner.units < r.units ∧ (∀ l, r.last = some l → r.inner.units + l.units + 1 = r.units) ∧ (r.last = none → r.inner.units + 1 = r.units) := by
  cases r with
  | point => exact absurd rfl hp
  | unit to lead cap inner => exact ⟨by simp [Rule.units, Rule.inner], fun l e => (by cases e), fun _ => rfl⟩
  | unitL to lead cap inner last => exact ⟨by simp [Rule.units, Rule.inner]; omega, fun l e => (by cases e; rfl), fun e => (by cases e)⟩
theorem parts_depth {r : Rule} (hp : r ≠ .point) : r.inner.depth + 1 ≤ r.depth ∧ (∀ l, r.last = some l → l.depth + 1 ≤ r.depth) := by
  cases r with
  | point => exact absurd rfl hp
  | unit to lead cap inner => exact ⟨Nat.le_refl _, fun l e => by cases e⟩
  | unitL to lead cap inner last => exact ⟨by simp only [Rule.depth, Rule.inner]; omega, fun l e => by cases e; simp only [Rule.depth]; omega⟩
theorem words_of_ok : ∀ (n : Nat) (r : Rule) (M : Mem), r.depth < n → r.depth ≤ 60 → r.units ≤ 1000 → r.good → Ret (m_words_of n [r.toD] M) (NewL M (rw r))
  | 0, _, _, h, _, _, _ => by omega
  | n + 1, r, M, h, h6, hu, hg => by
    show Ret (endS (b_words_of (m_words_of n) [some r.toD, none] M)) _
    unfold b_words_of
    have ep : mEq r.toD (.tup [.str (Str.ofString "point")]) M = some (.bl (decide (r = .point)), M) := mEq_point h6
    by_cases hp : r = .point
    · subst hp
      simp only [decide_true] at ep
      simp [ep]
      exact TL.Ret.ok (P := NewL M _) ⟨M.length, rfl, Nat.le_refl _, Keep.more _ _, at_len _ _⟩
    · simp only [hp, decide_false] at ep
      obtain ⟨g1, g2, g3, g4, g5, g6, g7⟩ := good_nums hg hp
      obtain ⟨p1, p2⟩ := parts_depth hp
      obtain ⟨q1, q2, q3⟩ := parts_units hp
      have hi := rw_len r.inner
      have s1 := nStr_nW (i := r.to) (by omega) (by omega)
      have s2 := nStr_nW (i := r.lead) (by omega) (by omega)
      have ec : ∀ (i : Decidable (r.cap = none)) (M' : Mem), @ite (Out D) (r.cap = none) i (Out.ok (D.str (Str.ofString "-")) M') (liftO (nStr [capD r.cap] M')) = .ok (.str (capW r.cap)) M' := by
        intro i M'
        by_cases hc : r.cap = none
        · rw [if_pos hc, hc]; rfl
        · obtain ⟨c, hc'⟩ := Option.ne_none_iff_exists'.mp hc
          have := g5 c hc'
          have s3 := nStr_nW (i := c) (by omega) (by omega) M'
          rw [if_neg hc, hc']
          simp [-nStr_int, capD, capW, s3]
      rw [toD_unit hp] at ep ⊢
      have sq0 : seqAt (M ++ [MO.lst [.str (Str.ofString "unit"), .str (nW r.to), .str (nW r.lead)]]) M.length = some [.str (Str.ofString "unit"), .str (nW r.to), .str (nW r.lead)] := seqAt_lst (at_len _ _)
      obtain ⟨L4, hL4⟩ : ∃ L : List D, L = [.str (Str.ofString "unit"), .str (nW r.to), .str (nW r.lead), .str (capW r.cap)] := ⟨_, rfl⟩
      have hL4' : L4 = ([Str.ofString "unit", nW r.to, nW r.lead, capW r.cap]).map D.str := hL4
      have len4 : L4.length = 4 := by rw [hL4]; rfl
      have sq1 : seqAt (M ++ [MO.lst L4]) M.length = some L4 := seqAt_lst (at_len _ _)
      have ap : mAppend (.ref M.length) [.str (capW r.cap)] (M ++ [.lst [.str (Str.ofString "unit"), .str (nW r.to), .str (nW r.lead)]]) = some (.non, M ++ [.lst L4]) := by
        rw [mAppend_ok (at_len _ _) (by simp), hL4]
        simp
      simp [-nStr_int, ep, s1, s2, sq0, ec, ap, sq1]
      refine Ret.bindQ (words_of_ok n r.inner (M ++ [.lst L4]) (by omega) (by omega) (by omega) g6) ?_
      rintro _ M1 ⟨k, rfl, hk, k1, a1⟩
      have b1 := k1.at (n := M.length) (at_len M (.lst L4))
      rw [List.length_append, List.length_cons, List.length_nil] at hk
      have ex1 := mExtend_ok b1 a1 (by rw [List.length_map]; omega)
      have lt1 := lt_of_at b1
      have c1 : (M1.set M.length (.lst (L4 ++ (rw r.inner).map D.str)))[M.length]? = some (.lst (L4 ++ (rw r.inner).map D.str)) := List.getElem?_set_self lt1
      have k2 : Keep M (M1.set M.length (.lst (L4 ++ (rw r.inner).map D.str))) := ((Keep.more M _).trans k1).setNew (Nat.le_refl _)
      generalize M1.set M.length (.lst (L4 ++ (rw r.inner).map D.str)) = M2 at *
      have sq2 := seqAt_lst c1
      have fin : rw r = ([Str.ofString "unit", nW r.to, nW r.lead, capW r.cap] ++ rw r.inner) ++ lw r.last := rw_unit hp
      simp [ex1, sq2]
      cases hl : r.last with
      | none =>
        have ex2 := mExtend_ok (M := M2 ++ [.lst [.str (Str.ofString "-")]]) (n := M.length) (m := M2.length) ((Keep.more _ _).at c1) (at_len _ _) (by rw [List.length_append, len4, List.length_map]; simp; omega)
        have lt2 := lt_of_at ((Keep.more M2 [.lst [.str (Str.ofString "-")]]).at c1)
        simp [-List.append_assoc, lastD, ex2]
        refine TL.Ret.ok (P := NewL M _) ⟨M.length, rfl, Nat.le_refl _, (k2.trans (Keep.more _ _)).setNew (Nat.le_refl _), ?_⟩
        rw [List.getElem?_set_self lt2, fin, hl, hL4']
        simp [lw]
      | some l =>
        have hu2 := q2 l hl
        have hd2 := p2 l hl
        have nn : isNon l.toD = false := isNon_toD
        simp [lastD, nn]
        refine Ret.bindQ (words_of_ok n l M2 (by omega) (by omega) (by omega) (g7 l hl)) ?_
        rintro _ M3 ⟨k', rfl, hk', k3, a3⟩
        have hl2 := rw_len l
        have ex2 := mExtend_ok (k3.at c1) a3 (by rw [List.length_append, len4, List.length_map, List.length_map]; omega)
        have lt2 := lt_of_at (k3.at c1)
        simp [-List.append_assoc, ex2]
        refine TL.Ret.ok (P := NewL M _) ⟨M.length, rfl, Nat.le_refl _, (k2.trans k3).setNew (Nat.le_refl _), ?_⟩
        rw [List.getElem?_set_self lt2, fin, hl, hL4']
        simp [lw]
/-! ### the text of a rule -/
theorem sum_le' : ∀ {ws : List Str}, (∀ x ∈ ws, Wd x) → (ws.map (·.length)).sum ≤ 5 * ws.length
  | [], _ => Nat.le_refl _
  | x :: ws, h => by
    have := sum_le' (ws := ws) fun y hy => h y (List.mem_cons_of_mem _ hy)
    have := (h x List.mem_cons_self).len
    rw [List.map_cons, List.sum_cons, List.length_cons]
    omega
def textR (r : Rule) : Str := Txt.join (Str.ofString " ") (rw r)
theorem show_rule_ok {r : Rule} {M : Mem} (hd : r.depth ≤ 13) (hu : r.units ≤ 100) (hg : r.good) : Ret (m_show_rule [r.toD] M) (TL.Gives M (.str (textR r))) := by
  show Ret (endS (b_show_rule [some r.toD] M)) _
  unfold b_show_rule
  simp
  refine Ret.bindQ (words_of_ok 14 r M (by omega) (by omega) (by omega) hg) ?_
  rintro _ M1 ⟨k, rfl, hk, k1, a1⟩
  have e0 : (Str.ofString " ").length = 1 := by decide +kernel
  have hl := rw_len r
  have hs := sum_le' (rw_wd r hg)
  have j : mJoin (.str (Str.ofString " ")) [.ref k] M1 = some (.str (textR r), M1) := by
    rw [mJoin_ref, seqAt_lst a1]
    simp only
    rw [joinO_strs (by rw [e0]; omega)]
    rfl
  simp [j]
  exact TL.Ret.ok (P := TL.Gives M _) ⟨rfl, k1⟩
/-! ### the reader -/
def rdF (W : Nat) (a m : Nat) : List (Str × D) := [(Str.ofString "words", .ref W), (Str.ofString "at", .int (a : Nat)), (Str.ofString "many", .int (m : Nat))]
/-- a reader at R of the words at W -/
def RM (M : Mem) (R W a m : Nat) : Mem := M.set R (.ins (Str.ofString "Reader") (rdF W a m))
structure Rd (M : Mem) (R W : Nat) (ws : List Str) : Prop where
  r : R < M.length
  w : seqAt M W = some (ws.map D.str)
  ne : W ≠ R
section
variable {M : Mem} {R W a m : Nat} {ws : List Str}
theorem Rd.at_ (h : Rd M R W ws) : (RM M R W a m)[R]? = some (.ins (Str.ofString "Reader") (rdF W a m)) := List.getElem?_set_self h.r
theorem Rd.seq (h : Rd M R W ws) : seqAt (RM M R W a m) W = some (ws.map D.str) := by
  have := h.w
  unfold seqAt at this ⊢
  unfold RM
  rw [List.getElem?_set_ne (Ne.symm h.ne)]
  exact this
theorem Rd.set (h : Rd M R W ws) {b n : Nat} : (RM M R W a m).set R (.ins (Str.ofString "Reader") (rdF W b n)) = RM M R W b n := List.set_set ..
theorem Rd.fwords (h : Rd M R W ws) : mFld (Str.ofString "Reader") (Str.ofString "words") (.ref R) (RM M R W a m) = some (.ref W, RM M R W a m) := mFld_at h.at_ rfl
theorem Rd.fat (h : Rd M R W ws) : mFld (Str.ofString "Reader") (Str.ofString "at") (.ref R) (RM M R W a m) = some (.int (a : Nat), RM M R W a m) := mFld_at h.at_ (by simp [rdF, List.lookup])
theorem Rd.fmany (h : Rd M R W ws) : mFld (Str.ofString "Reader") (Str.ofString "many") (.ref R) (RM M R W a m) = some (.int (m : Nat), RM M R W a m) := mFld_at h.at_ (by simp [rdF, List.lookup])
theorem Rd.pat (h : Rd M R W ws) : putO (Str.ofString "Reader") (Str.ofString "at") (.ref R) (.int ((a : Int) + 1)) (RM M R W a m) = some (RM M R W (a + 1) m) := by
  rw [putO_at h.at_ (by simp [rdF])]
  rw [show putD (Str.ofString "at") (.int ((a : Int) + 1)) (rdF W a m) = rdF W (a + 1) m from by simp [putD, rdF], h.set]
theorem Rd.pmany (h : Rd M R W ws) : putO (Str.ofString "Reader") (Str.ofString "many") (.ref R) (.int ((m : Int) + 1)) (RM M R W a m) = some (RM M R W a (m + 1)) := by
  rw [putO_at h.at_ (by simp [rdF])]
  rw [show putD (Str.ofString "many") (.int ((m : Int) + 1)) (rdF W a m) = rdF W a (m + 1) from by simp [putD, rdF], h.set]
theorem Rd.me (h : Rd M R W ws) {mth : String} (hm : mth ∉ ["words", "at", "many"]) {dd : List D} {fn : Fn} {mas : MA} {env : TL.Env} :
    meR (Str.ofString "Reader") (Str.ofString mth) dd fn mas env (.ref R) (RM M R W a m) = (mas env (RM M R W a m)).bind fun ds M2 => fn (.ref R :: (ds ++ dd)) M2 := by
  refine meR_at h.at_ ?_
  simp only [List.mem_cons, List.not_mem_nil, or_false, not_or] at hm
  simp [rdF, List.lookup, hm.1, hm.2.1, hm.2.2]
theorem word_ok (h : Rd M R W ws) {x : Str} (hx : ws[a]? = some x) : m_Reader_word [.ref R] (RM M R W a m) = .ok (.str x) (RM M R W a m) := by
  show endS (b_Reader_word [some (.ref R)] (RM M R W a m)) = _
  unfold b_Reader_word
  have lt : a < ws.length := (List.getElem?_eq_some_iff.mp hx).1
  have ne : ¬ ((a : Int) = (ws.length : Nat)) := by omega
  have ix : atI (ws.map D.str) (a : Int) = some (.str x) := atI_nat (by rw [List.getElem?_map, hx]; rfl)
  simp [h.fat, h.fwords, h.seq, ne, ix]
theorem count_ok (h : Rd M R W ws) {n : Nat} {lo : Int} (hx : ws[a]? = some (nW (n : Nat))) (h0 : 1 ≤ n) (h1 : n ≤ 99) (hl : lo ≤ n) : m_Reader_count [.ref R, .int lo] (RM M R W a m) = .ok (.int (n : Nat)) (RM M R W (a + 1) m) := by
  show endS (b_Reader_count [some (.ref R), some (.int lo), none] (RM M R W a m)) = _
  unfold b_Reader_count
  have w := word_ok (m := m) h hx
  have c := count_of_ok h0 h1 (RM M R W a m)
  have l1 : ¬ ((n : Int) < lo) := by omega
  have l2 : ¬ (99 < (n : Int)) := by omega
  have me := fun {fn : Fn} {mas : MA} {env : TL.Env} {dd : List D} => h.me (a := a) (m := m) (mth := "word") (by decide) (fn := fn) (mas := mas) (env := env) (dd := dd)
  simp [me, w, c, l1, l2, h.fat, h.pat]
theorem is_dash_ok (h : Rd M R W ws) {x : Str} (hx : ws[a]? = some x) : m_Reader_is_dash [.ref R] (RM M R W a m) = .ok (.bl (decide (x = Str.ofString "-"))) (RM M R W (if x = Str.ofString "-" then a + 1 else a) m) := by
  show endS (b_Reader_is_dash [some (.ref R)] (RM M R W a m)) = _
  unfold b_Reader_is_dash
  have w := word_ok (m := m) h hx
  have me := fun {fn : Fn} {mas : MA} {env : TL.Env} {dd : List D} => h.me (a := a) (m := m) (mth := "word") (by decide) (fn := fn) (mas := mas) (env := env) (dd := dd)
  have ne : mNe (.str x) (.str (Str.ofString "-")) (RM M R W a m) = some (.bl (!decide (x = Str.ofString "-")), RM M R W a m) := mNe_text
  by_cases c : x = Str.ofString "-"
  · simp only [c, decide_true] at ne w ⊢
    simp [me, w, ne, h.fat, h.pat]
  · simp only [c, decide_false] at ne ⊢
    simp [me, w, ne]
end
/-! ### a rule is read -/
def At (ws : List Str) (a : Nat) (xs : List Str) : Prop := ∃ rest, ws.drop a = xs ++ rest
theorem At.head {ws xs : List Str} {a : Nat} {x : Str} (h : At ws a (x :: xs)) : ws[a]? = some x := by
  obtain ⟨rest, e⟩ := h
  have := congrArg (fun l => l[0]?) e
  simpa [List.getElem?_drop] using this
theorem At.tail {ws xs : List Str} {a : Nat} {x : Str} (h : At ws a (x :: xs)) : At ws (a + 1) xs := by
  obtain ⟨rest, e⟩ := h
  refine ⟨rest, ?_⟩
  rw [← List.drop_drop, e]
  rfl
theorem At.left {ws xs ys : List Str} {a : Nat} (h : At ws a (xs ++ ys)) : At ws a xs := by
  obtain ⟨rest, e⟩ := h
  exact ⟨ys ++ rest, by rw [e, List.append_assoc]⟩
theorem At.right {ws xs ys : List Str} {a : Nat} (h : At ws a (xs ++ ys)) : At ws (a + xs.length) ys := by
  obtain ⟨rest, e⟩ := h
  refine ⟨rest, ?_⟩
  rw [← List.drop_drop, e, List.append_assoc, List.drop_left]
theorem nW_ne {n : Nat} (h0 : 1 ≤ n) (h1 : n ≤ 99) : nW (n : Nat) ≠ Str.ofString "-" := by
  intro e
  have z : tlS (Str.ofString "-") = [45] := by decide +kernel
  have := congrArg tlS e
  rw [z] at this
  by_cases c : n < 10
  · rw [nW_one c] at this
    simp at this; omega
  · rw [nW_two (by omega) (by omega)] at this
    simp at this
theorem rw_head {r : Rule} : ∃ x xs, rw r = x :: xs ∧ x ≠ Str.ofString "-" := by
  cases r with
  | point => exact ⟨_, _, rfl, by decide +kernel⟩
  | unit => exact ⟨_, _, rfl, by decide +kernel⟩
  | unitL => exact ⟨_, _, rfl, by decide +kernel⟩
section
variable {M : Mem} {R W : Nat} {ws : List Str}
def RuleRd (M : Mem) (R W : Nat) (ws : List Str) (f : Fn) (r : Rule) : Prop := ∀ a m around : Nat, around + r.depth ≤ 4 → m + r.units ≤ 10 → At ws a (rw r) → f [.ref R, .int (around : Nat)] (RM M R W a m) = .ok r.toD (RM M R W (a + (rw r).length) (m + r.units))
def lu : Option Rule → Nat
  | some r => r.units
  | none => 0
theorem last_ok (h : Rd M R W ws) {rr rl : Fn} {c : Option Int} {l : Option Rule} {a m around : Nat} (hc : l ≠ none → c ≠ none) (hl : ∀ r, l = some r → RuleRd M R W ws rr r) (hd : ∀ r, l = some r → around + r.depth ≤ 4 ∧ m + r.units ≤ 10) (ha : At ws a (lw l)) :
    fnD 3 3 (b_Reader_last rr rl) [.ref R, capD c, .int (around : Nat)] (RM M R W a m) = .ok (lastD l) (RM M R W (a + (lw l).length) (m + lu l)) := by
  show endS (b_Reader_last rr rl [some (.ref R), some (capD c), some (.int (around : Nat))] (RM M R W a m)) = _
  unfold b_Reader_last
  have me1 := fun {fn : Fn} {mas : MA} {env : TL.Env} {dd : List D} => h.me (a := a) (m := m) (mth := "is_dash") (by decide) (fn := fn) (mas := mas) (env := env) (dd := dd)
  have me2 := fun {fn : Fn} {mas : MA} {env : TL.Env} {dd : List D} => h.me (a := a) (m := m) (mth := "rule") (by decide) (fn := fn) (mas := mas) (env := env) (dd := dd)
  cases l with
  | none =>
    have e := is_dash_ok (m := m) h (ha.head)
    simp only [decide_true, if_true] at e
    simp [me1, e, lastD, lw, lu]
  | some r =>
    obtain ⟨x, xs, hx, hne⟩ := rw_head (r := r)
    have ha' : At ws a (rw r) := ha
    have e := is_dash_ok (m := m) h (x := x) (by rw [hx] at ha'; exact ha'.head)
    simp only [hne, decide_false, if_false] at e
    obtain ⟨d1, d2⟩ := hd r rfl
    have e2 := hl r rfl a m around d1 d2 ha'
    obtain ⟨c', rfl⟩ := Option.ne_none_iff_exists'.mp (hc (by simp))
    simp [me1, me2, e, e2, capD, lastD, lw, lu]
theorem rule_ok (h : Rd M R W ws) : ∀ (n : Nat) (r : Rule), 2 * r.depth + 1 ≤ n → r.good → RuleRd M R W ws (m_Reader_rule n) r
  | 0, r, hn, hg => by omega
  | n + 1, r, hn, hg => by
    intro a m around hd hu ha
    show endS (b_Reader_rule (m_Reader_rule n) (m_Reader_last n) [some (.ref R), some (.int (around : Nat)), none, none, none, none, none] (RM M R W a m)) = _
    unfold b_Reader_rule
    have me := fun (mth : String) (hm : mth ∉ ["words", "at", "many"]) (a m : Nat) {fn : Fn} {mas : MA} {env : TL.Env} {dd : List D} => h.me (a := a) (m := m) (mth := mth) hm (fn := fn) (mas := mas) (env := env) (dd := dd)
    have mew := fun a m {fn : Fn} {mas : MA} {env : TL.Env} {dd : List D} => me "word" (by decide) a m (fn := fn) (mas := mas) (env := env) (dd := dd)
    have mec := fun a m {fn : Fn} {mas : MA} {env : TL.Env} {dd : List D} => me "count" (by decide) a m (fn := fn) (mas := mas) (env := env) (dd := dd)
    have med := fun a m {fn : Fn} {mas : MA} {env : TL.Env} {dd : List D} => me "is_dash" (by decide) a m (fn := fn) (mas := mas) (env := env) (dd := dd)
    have mer := fun a m {fn : Fn} {mas : MA} {env : TL.Env} {dd : List D} => me "rule" (by decide) a m (fn := fn) (mas := mas) (env := env) (dd := dd)
    have mel := fun a m {fn : Fn} {mas : MA} {env : TL.Env} {dd : List D} => me "last" (by decide) a m (fn := fn) (mas := mas) (env := env) (dd := dd)
    by_cases hp : r = .point
    · subst hp
      have w := word_ok (m := m) h ha.head
      simp [mew, w, mEq_text, h.fat, h.pat, Rule.toD, rw, Rule.units]
    · obtain ⟨g1, g2, g3, g4, g5, g6, g7⟩ := good_nums hg hp
      obtain ⟨p1, p2⟩ := parts_depth hp
      obtain ⟨q1, q2, q3⟩ := parts_units hp
      rw [rw_unit hp] at ha
      have a1 := ha.left.left
      have w0 := word_ok (m := m) h a1.head
      obtain ⟨to, hto⟩ : ∃ k : Nat, r.to = (k : Int) := ⟨r.to.toNat, by omega⟩
      obtain ⟨le, hle⟩ : ∃ k : Nat, r.lead = (k : Int) := ⟨r.lead.toNat, by omega⟩
      rw [hto, hle] at a1
      have c1 : m_Reader_count [.ref R, .int 1] (RM M R W (a + 1) (m + 1)) = .ok (.int (to : Nat)) (RM M R W (a + 2) (m + 1)) := count_ok (m := m + 1) (lo := 1) h a1.tail.head (by omega) (by omega) (by omega)
      have c2 : m_Reader_count [.ref R, .int 1] (RM M R W (a + 2) (m + 1)) = .ok (.int (le : Nat)) (RM M R W (a + 3) (m + 1)) := count_ok (m := m + 1) (lo := 1) h a1.tail.tail.head (by omega) (by omega) (by omega)
      have d1 : m_Reader_is_dash [.ref R] (RM M R W (a + 3) (m + 1)) = .ok (.bl (decide (capW r.cap = Str.ofString "-"))) (RM M R W (if capW r.cap = Str.ofString "-" then a + 4 else a + 3) (m + 1)) := is_dash_ok (m := m + 1) h a1.tail.tail.tail.head
      have n1 : ¬ ((around : Int) = 4) := by omega
      have n2 : ¬ ((m : Int) = 10) := by omega
      have ai := ha.left.right
      have al := ha.right
      have i1 := rule_ok h n r.inner (by omega) g6 (a + 4) (m + 1) (around + 1) (by omega) (by omega) ai
      have hn1 : 1 ≤ n := by omega
      obtain ⟨n', rfl⟩ : ∃ k, n = k + 1 := ⟨n - 1, by omega⟩
      have l1 := last_ok (rr := m_Reader_rule n') (rl := m_Reader_last n') (c := r.cap) (l := r.last) (a := a + 4 + (rw r.inner).length) (m := m + 1 + r.inner.units) (around := around + 1) h
        (fun hl => by
          obtain ⟨l, hl⟩ := Option.ne_none_iff_exists'.mp hl
          obtain ⟨c, hc⟩ := cap_last hl
          rw [hc]; simp)
        (fun l hl => rule_ok h n' l (by have := p2 l hl; omega) (g7 l hl)) (fun l hl => by have := p2 l hl; have := q2 l hl; omega)
        (by
          have e : a + ([Str.ofString "unit", nW r.to, nW r.lead, capW r.cap] ++ rw r.inner).length = a + 4 + (rw r.inner).length := by simp; omega
          rw [← e]; exact al)
      have l1' : m_Reader_last (n' + 1) [.ref R, capD r.cap, .int ((around + 1 : Nat) : Int)] (RM M R W (a + 4 + (rw r.inner).length) (m + 1 + r.inner.units)) = _ := l1
      have lenE : a + (rw r).length = a + 4 + (rw r.inner).length + (lw r.last).length := by rw [rw_unit hp]; simp; omega
      have uE : m + r.units = m + 1 + r.inner.units + lu r.last := by
        cases hl : r.last with
        | none => have := q3 hl; simp only [lu]; omega
        | some l => have := q2 l hl; simp only [lu]; omega
      rw [lenE, uE, toD_unit hp, hto, hle]
      have cu : (around : Int) + 1 = ((around + 1 : Nat) : Int) := by omega
      have i1' : m_Reader_rule (n' + 1) [.ref R, .int ((around : Int) + 1)] (RM M R W (a + 4) (m + 1)) = .ok r.inner.toD (RM M R W (a + 4 + (rw r.inner).length) (m + 1 + r.inner.units)) := by rw [cu]; exact i1
      have l2 : m_Reader_last (n' + 1) [.ref R, capD r.cap, .int ((around : Int) + 1)] (RM M R W (a + 4 + (rw r.inner).length) (m + 1 + r.inner.units)) = .ok (lastD r.last) (RM M R W (a + 4 + (rw r.inner).length + (lw r.last).length) (m + 1 + r.inner.units + lu r.last)) := by rw [cu]; exact l1'
      cases hc : r.cap with
      | none =>
        rw [hc] at d1 l2
        have e : capW none = Str.ofString "-" := rfl
        simp only [e, decide_true, if_true] at d1
        simp only [capD] at l2 ⊢
        simp [mew, mec, med, mer, mel, w0, c1, c2, d1, i1', l2, n1, n2, h.fat, h.pat, h.fmany, h.pmany]
      | some c =>
        obtain ⟨ca, hca⟩ : ∃ k : Nat, c = (k : Int) := ⟨c.toNat, by have := g5 c hc; omega⟩
        subst hca
        have gc := g5 _ hc
        rw [hc] at d1 l2
        have e : capW (some (ca : Int)) = nW (ca : Nat) := rfl
        have ne := nW_ne (n := ca) (by omega) (by omega)
        rw [e] at d1
        simp only [ne, decide_false, if_false] at d1
        have c3 : m_Reader_count [.ref R, .int (to : Nat)] (RM M R W (a + 3) (m + 1)) = .ok (.int (ca : Nat)) (RM M R W (a + 4) (m + 1)) := count_ok (m := m + 1) (lo := (to : Nat)) h (by
          have := a1.tail.tail.tail.head
          rw [hc] at this
          exact this) (by omega) (by omega) (by omega)
        simp only [capD] at l2 ⊢
        simp [mew, mec, med, mer, mel, w0, c1, c2, c3, d1, i1', l2, n1, n2, h.fat, h.pat, h.fmany, h.pmany]
end
/-! ### a text is read -/
theorem new_ok {M1 : Mem} {R W : Nat} (h : M1[R]? = some (.ins (Str.ofString "Reader") [])) : m_Reader_new [.ref R, .ref W] M1 = .ok .non (RM M1 R W 0 0) := by
  show endS (b_Reader_new [some (.ref R), some (.ref W)] M1) = _
  unfold b_Reader_new
  have lt := lt_of_at h
  have p1 := putO_at (f := Str.ofString "words") (v := .ref W) h (by simp)
  have h1 : (M1.set R (.ins (Str.ofString "Reader") [(Str.ofString "words", .ref W)]))[R]? = some (.ins (Str.ofString "Reader") [(Str.ofString "words", .ref W)]) := List.getElem?_set_self lt
  have p2 := putO_at (f := Str.ofString "at") (v := .int 0) h1 (by simp)
  have h2 : (M1.set R (.ins (Str.ofString "Reader") [(Str.ofString "words", .ref W), (Str.ofString "at", .int 0)]))[R]? = some (.ins (Str.ofString "Reader") [(Str.ofString "words", .ref W), (Str.ofString "at", .int 0)]) := List.getElem?_set_self lt
  have p3 := putO_at (f := Str.ofString "many") (v := .int 0) h2 (by simp)
  simp [putD] at p1 p2 p3
  simp [p1, p2, p3, RM, rdF]
theorem joinL_len {S : List Nat} : ∀ parts : List (List Nat), (joinL S parts).length ≤ (parts.map List.length).sum + parts.length * S.length
  | [] => by simp [joinL]
  | [p] => by simp [joinL]
  | p :: q :: r => by
    have := joinL_len (S := S) (q :: r)
    simp only [joinL, List.length_append, List.map_cons, List.sum_cons, List.length_cons] at this ⊢
    rw [Nat.add_mul]
    omega
theorem join_len {ws : List Str} {k : Nat} (hw : (ws.map (·.length)).sum ≤ k) : (Txt.join (Str.ofString " ") ws).length ≤ k + ws.length := by
  have e : (Txt.join (Str.ofString " ") ws).length = (tl (Txt.join (Str.ofString " ") ws)).length := by show (Txt.join (Str.ofString " ") ws).cps.size = _; simp
  rw [e, join_eq, tl_join]
  have := joinL_len (S := tl (Str.ofString " ")) (ws.map tl)
  have e1 : (tl (Str.ofString " ")).length = 1 := by decide +kernel
  have e2 : ((ws.map tl).map List.length).sum = (ws.map (·.length)).sum := by
    rw [List.map_map]
    congr 1
  rw [e1, e2, List.length_map] at this
  omega
theorem split_ok {ws : List Str} {M : Mem} (h0 : ws ≠ []) (hw : ∀ x ∈ ws, 32 ∉ tlS x) (hs : (ws.map (·.length)).sum ≤ 1000000) (hl : ws.length ≤ 1000000) : mSplit (.str (Txt.join (Str.ofString " ") ws)) [.str (Str.ofString " ")] M = some (.ref M.length, M ++ [.lst (ws.map D.str)]) := by
  have sp : Txt.split (Txt.join (Str.ofString " ") ws) (Str.ofString " ") = ws := split_join (y := Str.ofString " ") (s := 32) (S := []) (by decide +kernel) (by decide +kernel) h0 hw
  have := join_len hs
  rw [mSplit_str, if_pos ⟨by decide +kernel, by rw [sizeLine_eq]; omega⟩, sp]
theorem read_rule_ok {r : Rule} {M : Mem} (hd : r.depth ≤ 4) (hu : r.units ≤ 10) (hg : r.good) : Ret (m_read_rule [.str (textR r)] M) (TL.Gives M r.toD) := by
  show Ret (endS (b_read_rule [some (.str (textR r)), none, none] M)) _
  unfold b_read_rule
  have hl := rw_len r
  have hw := rw_wd r hg
  have sp := split_ok (M := M) (ws := rw r) (by intro e; rw [e] at hl; simp at hl) (fun x hx => (hw x hx).free) (Nat.le_trans (sum_le' hw) (by omega)) (by omega)
  have sp' : mSplit (.str (textR r)) [.str (Str.ofString " ")] M = some (.ref M.length, M ++ [.lst ((rw r).map D.str)]) := sp
  have nw := new_ok (M1 := M ++ [.lst ((rw r).map D.str), .ins (Str.ofString "Reader") []]) (R := M.length + 1) (W := M.length) (by rw [List.getElem?_append_right (by omega)]; simp)
  have rd : Rd (M ++ [.lst ((rw r).map D.str), .ins (Str.ofString "Reader") []]) (M.length + 1) M.length (rw r) := ⟨by simp, seqAt_lst (by rw [List.getElem?_append_right (Nat.le_refl _)]; simp), by omega⟩
  have me := fun (mth : String) (hm : mth ∉ ["words", "at", "many"]) (a m : Nat) {fn : Fn} {mas : MA} {env : TL.Env} {dd : List D} => rd.me (a := a) (m := m) (mth := mth) hm (fn := fn) (mas := mas) (env := env) (dd := dd)
  have mer := fun a m {fn : Fn} {mas : MA} {env : TL.Env} {dd : List D} => me "rule" (by decide) a m (fn := fn) (mas := mas) (env := env) (dd := dd)
  have rr : m_Reader_rule 14 [.ref (M.length + 1), .int 0] (RM (M ++ [.lst ((rw r).map D.str), .ins (Str.ofString "Reader") []]) (M.length + 1) M.length 0 0) = _ := rule_ok rd 14 r (by omega) hg 0 0 0 (by omega) (by omega) ⟨[], by simp⟩
  simp only [Nat.zero_add] at rr
  have k2 : Keep M (RM (M ++ [.lst ((rw r).map D.str), .ins (Str.ofString "Reader") []]) (M.length + 1) M.length (rw r).length r.units) := (Keep.more M _).setNew (by omega)
  have ft := rd.fat (a := (rw r).length) (m := r.units)
  have fw := rd.fwords (a := (rw r).length) (m := r.units)
  have fs := rd.seq (a := (rw r).length) (m := r.units)
  simp [-mSplit_str, sp', nw, mer, rr, ft, fw, fs]
  exact TL.Ret.ok (P := TL.Gives M _) ⟨rfl, k2⟩
end CW
end
section
set_option maxHeartbeats 4000000
namespace LW
open PySem PySem.Spec PyProof.Rows L2 TL
open CM
open CW
/-! the text -/
def top (i : Nat) : Stmt := PySem.Challenge.pw_tally_k03_rules_written.main.body.getD i (.Pass ⟨0, 0, 0, 0⟩)
abbrev st_words_of : Stmt := top 9
abbrev st_show_rule : Stmt := top 10
abbrev st_count_of : Stmt := top 11
abbrev st_Reader_new : Stmt := (clsB (top 12)).getD 0 (.Pass ⟨0, 0, 0, 0⟩)
abbrev st_Reader_word : Stmt := (clsB (top 12)).getD 1 (.Pass ⟨0, 0, 0, 0⟩)
abbrev st_Reader_count : Stmt := (clsB (top 12)).getD 2 (.Pass ⟨0, 0, 0, 0⟩)
abbrev st_Reader_is_dash : Stmt := (clsB (top 12)).getD 3 (.Pass ⟨0, 0, 0, 0⟩)
abbrev st_Reader_rule : Stmt := (clsB (top 12)).getD 4 (.Pass ⟨0, 0, 0, 0⟩)
abbrev st_Reader_last : Stmt := (clsB (top 12)).getD 5 (.Pass ⟨0, 0, 0, 0⟩)
abbrev st_read_rule : Stmt := top 13
abbrev st_l_tape : Stmt := top 15
abbrev st_l_draw : Stmt := top 16
abbrev st_l_unit : Stmt := top 17
abbrev st_l_rule : Stmt := top 18
abbrev st_l_any_rule : Stmt := top 19
abbrev st_l_written : Stmt := top 20
abbrev st_l_alike : Stmt := top 21
abbrev st_law : Stmt := top 22
def hcls : List Str := []
def icls : List Str := []
/-! the mirrors -/
noncomputable section
/- def l_written(_law_rule_here): 0=_law_rule_here 1=_law_cap 2=_law_last 3=_law_words -/
def b_l_written (r_l_written : Fn) : MS := (sSeq (sIf (tB (eBin mEq (eVar 0) (eTup (aCons (eC (.str "point")) aNil)))) (sRet (eC (.str "point"))) sNil)
    (sSeq (sAsg (gOne 1) (eC (.str "-")))
    (sSeq (sAsg (gOne 2) (eC (.str "-")))
    (sSeq (sIf (tB (eBin mIsNot (eBin mIdx (eVar 0) (eC (.int 3))) (eC .non))) (sAsg (gOne 1) (eCallO nStr (aCons (eBin mIdx (eVar 0) (eC (.int 3))) aNil))) sNil)
    (sSeq (sIf (tB (eBin mIsNot (eBin mIdx (eVar 0) (eC (.int 5))) (eC .non))) (sAsg (gOne 2) (eCall r_l_written (aCons (eBin mIdx (eVar 0) (eC (.int 5))) aNil))) sNil)
    (sSeq (sAsg (gOne 3) (eLst (aCons (eC (.str "unit")) (aCons (eCallO nStr (aCons (eBin mIdx (eVar 0) (eC (.int 1))) aNil)) (aCons (eCallO nStr (aCons (eBin mIdx (eVar 0) (eC (.int 2))) aNil)) (aCons (eVar 1) aNil))))))
    (sSeq (sExpr (eMeth "list" mAppend (eVar 3) (aCons (eCall r_l_written (aCons (eBin mIdx (eVar 0) (eC (.int 4))) aNil)) aNil)))
    (sRet (eMeth "str" mJoin (eC (.str " ")) (aCons (eBin mAdd (eVar 3) (eLst (aCons (eVar 2) aNil))) aNil))))))))))
def m_l_written : Nat → Fn
  | 0 => noFn
  | n + 1 => fnD 1 4 (b_l_written (m_l_written n))
/- def l_alike(_law_found, _law_due): 0=_law_found 1=_law_due 2=_law_k -/
def b_l_alike (r_l_alike : Fn) : MS := (sSeq (sIf (tTru (eIsi "tuple" (eVar 1))) (sSeq (sIf (tOr (tNot (tTru (eIsi "tuple" (eVar 0)))) (tB (eBin mNe (eCallO nLen (aCons (eVar 0) aNil)) (eCallO nLen (aCons (eVar 1) aNil))))) (sRet (eC (.bl false))) sNil)
    (sRet (eBin mNotIn (eC (.bl false)) (eComp 2 (iRange1 (eCallO nLen (aCons (eVar 1) aNil))) tYesD (eCall r_l_alike (aCons (eBin mIdx (eVar 0) (eVar 2)) (aCons (eBin mIdx (eVar 1) (eVar 2)) aNil))))))) sNil)
    (sSeq (sIf (tB (eBin mIs (eVar 1) (eC .non))) (sRet (eBin mIs (eVar 0) (eC .non))) sNil)
    (sSeq (sIf (tTru (eIsi "str" (eVar 1))) (sRet (eAnd (eIsi "str" (eVar 0)) (eBin mEq (eVar 0) (eVar 1)))) sNil)
    (sRet (eAnd (eIsi "int" (eVar 0)) (eAnd (eNot (eIsi "bool" (eVar 0))) (eBin mEq (eVar 0) (eVar 1))))))))
def m_l_alike : Nat → Fn
  | 0 => noFn
  | n + 1 => fnD 2 3 (b_l_alike (m_l_alike n))
/- def law(_law_script): 0=_law_script 1=_law_tape_here 2=_law_rules 3=_law_k 4=_law_rule_here 5=_law_text -/
def lp_law_0 : MS := (sSeq (sAsg (gOne 4) (eBin mIdx (eVar 2) (eBin mMod (eVar 3) (eC (.int 2)))))
    (sSeq (sAsg (gOne 5) (eCall m_show_rule (aCons (eVar 4) aNil)))
    (sIf (tOr (tNot (tTru (eCall (m_l_alike 14) (aCons (eVar 5) (aCons (eCall (m_l_written 14) (aCons (eVar 4) aNil)) aNil))))) (tNot (tTru (eCall (m_l_alike 14) (aCons (eCall m_read_rule (aCons (eVar 5) aNil)) (aCons (eVar 4) aNil)))))) (sRet (eC (.bl false))) sNil)))
def b_law : MS := (sSeq (sAsg (gOne 1) (eCall m_l_tape (aCons (eVar 0) aNil)))
    (sSeq (sAsg (gOne 2) (eLst (aCons (eCall m_l_any_rule (aCons (eVar 1) aNil)) (aCons (eCall m_l_any_rule (aCons (eVar 1) aNil)) aNil))))
    (sSeq (sFor (iRange1 (eC (.int 4))) (gOne 3) lp_law_0)
    (sRet (eC (.bl true))))))
def m_law : Fn := fnD 1 6 b_law
end
/-! the facts of the top -/
structure Facts (K : PySem.W.Frag) (mg : Str → Option Value) : Prop where
  fn_words_of : ∃ fd, FunD K "words_of" "words_of" (defArgs st_words_of) (defBody st_words_of) (defScope st_words_of) [] [] (He.ga K "words_of") fd
  mg_words_of : mg "words_of" = some (.ref (He.ga K "words_of"))
  fn_show_rule : ∃ fd, FunD K "show_rule" "show_rule" (defArgs st_show_rule) (defBody st_show_rule) (defScope st_show_rule) [] [] (He.ga K "show_rule") fd
  mg_show_rule : mg "show_rule" = some (.ref (He.ga K "show_rule"))
  fn_count_of : ∃ fd, FunD K "count_of" "count_of" (defArgs st_count_of) (defBody st_count_of) (defScope st_count_of) [] [] (He.ga K "count_of") fd
  mg_count_of : mg "count_of" = some (.ref (He.ga K "count_of"))
  fn_Reader_new : ∃ fd, FunD K "__init__" "Reader.__init__" (defArgs st_Reader_new) (defBody st_Reader_new) (defScope st_Reader_new) [] [] (He.ma K (He.ga K "Reader") "__init__") fd
  meth_Reader_new : Meth K (He.ga K "Reader") "__init__" (He.ma K (He.ga K "Reader") "__init__")
  fn_Reader_word : ∃ fd, FunD K "word" "Reader.word" (defArgs st_Reader_word) (defBody st_Reader_word) (defScope st_Reader_word) [] [] (He.ma K (He.ga K "Reader") "word") fd
  meth_Reader_word : Meth K (He.ga K "Reader") "word" (He.ma K (He.ga K "Reader") "word")
  fn_Reader_count : ∃ fd, FunD K "count" "Reader.count" (defArgs st_Reader_count) (defBody st_Reader_count) (defScope st_Reader_count) [] [] (He.ma K (He.ga K "Reader") "count") fd
  meth_Reader_count : Meth K (He.ga K "Reader") "count" (He.ma K (He.ga K "Reader") "count")
  fn_Reader_is_dash : ∃ fd, FunD K "is_dash" "Reader.is_dash" (defArgs st_Reader_is_dash) (defBody st_Reader_is_dash) (defScope st_Reader_is_dash) [] [] (He.ma K (He.ga K "Reader") "is_dash") fd
  meth_Reader_is_dash : Meth K (He.ga K "Reader") "is_dash" (He.ma K (He.ga K "Reader") "is_dash")
  fn_Reader_rule : ∃ fd, FunD K "rule" "Reader.rule" (defArgs st_Reader_rule) (defBody st_Reader_rule) (defScope st_Reader_rule) [] [] (He.ma K (He.ga K "Reader") "rule") fd
  meth_Reader_rule : Meth K (He.ga K "Reader") "rule" (He.ma K (He.ga K "Reader") "rule")
  fn_Reader_last : ∃ fd, FunD K "last" "Reader.last" (defArgs st_Reader_last) (defBody st_Reader_last) (defScope st_Reader_last) [] [] (He.ma K (He.ga K "Reader") "last") fd
  meth_Reader_last : Meth K (He.ga K "Reader") "last" (He.ma K (He.ga K "Reader") "last")
  fn_read_rule : ∃ fd, FunD K "read_rule" "read_rule" (defArgs st_read_rule) (defBody st_read_rule) (defScope st_read_rule) [] [] (He.ga K "read_rule") fd
  mg_read_rule : mg "read_rule" = some (.ref (He.ga K "read_rule"))
  fn_l_tape : ∃ fd, FunD K "_law_tape" "_law_tape" (defArgs st_l_tape) (defBody st_l_tape) (defScope st_l_tape) [] [] (He.ga K "_law_tape") fd
  mg_l_tape : mg "_law_tape" = some (.ref (He.ga K "_law_tape"))
  fn_l_draw : ∃ fd, FunD K "_law_draw" "_law_draw" (defArgs st_l_draw) (defBody st_l_draw) (defScope st_l_draw) [] [] (He.ga K "_law_draw") fd
  mg_l_draw : mg "_law_draw" = some (.ref (He.ga K "_law_draw"))
  fn_l_unit : ∃ fd, FunD K "_law_unit" "_law_unit" (defArgs st_l_unit) (defBody st_l_unit) (defScope st_l_unit) [] [] (He.ga K "_law_unit") fd
  mg_l_unit : mg "_law_unit" = some (.ref (He.ga K "_law_unit"))
  fn_l_rule : ∃ fd, FunD K "_law_rule" "_law_rule" (defArgs st_l_rule) (defBody st_l_rule) (defScope st_l_rule) [] [] (He.ga K "_law_rule") fd
  mg_l_rule : mg "_law_rule" = some (.ref (He.ga K "_law_rule"))
  fn_l_any_rule : ∃ fd, FunD K "_law_any_rule" "_law_any_rule" (defArgs st_l_any_rule) (defBody st_l_any_rule) (defScope st_l_any_rule) [] [] (He.ga K "_law_any_rule") fd
  mg_l_any_rule : mg "_law_any_rule" = some (.ref (He.ga K "_law_any_rule"))
  fn_l_written : ∃ fd, FunD K "_law_written" "_law_written" (defArgs st_l_written) (defBody st_l_written) (defScope st_l_written) [] [] (He.ga K "_law_written") fd
  mg_l_written : mg "_law_written" = some (.ref (He.ga K "_law_written"))
  fn_l_alike : ∃ fd, FunD K "_law_alike" "_law_alike" (defArgs st_l_alike) (defBody st_l_alike) (defScope st_l_alike) [] [] (He.ga K "_law_alike") fd
  mg_l_alike : mg "_law_alike" = some (.ref (He.ga K "_law_alike"))
  fn_law : ∃ fd, FunD K "law" "law" (defArgs st_law) (defBody st_law) (defScope st_law) [] [] (He.ga K "law") fd
  mg_law : mg "law" = some (.ref (He.ga K "law"))
  no_bool : mg "bool" = none
  no_int : mg "int" = none
  no_isinstance : mg "isinstance" = none
  no_len : mg "len" = none
  no_min : mg "min" = none
  no_range : mg "range" = none
  no_str : mg "str" = none
  no_tuple : mg "tuple" = none
  cls_Reader : Cls K (He.ga K "Reader")
  noat_Reader_at : NoAttr K (He.ga K "Reader") "at"
  noat_Reader_many : NoAttr K (He.ga K "Reader") "many"
  noat_Reader_words : NoAttr K (He.ga K "Reader") "words"
  mkr_Reader : Mk K (He.ga K "Reader") (He.ma K (He.ga K "Reader") "__init__")
  mk_Reader : mg "Reader" = some (.ref (He.ga K "Reader"))
  gl_POINT : Glob K mg "POINT" (.tup [(.str "point")])
  gl_GREATEST : Glob K mg "GREATEST" (.int 99)
  gl_MOST_UNITS : Glob K mg "MOST_UNITS" (.int 10)
  gl_MOST_DEEP : Glob K mg "MOST_DEEP" (.int 4)
  gl_FIGURES : Glob K mg "FIGURES" (.str "0123456789")
/-! each def keeps its promise -/
section
variable {P : Program} {w : World} {K : PySem.W.Frag} {mg : Str → Option Value} {base : Heap}
theorem sc_words_of : FnScope ["rule", "words"] ["rule"] (defScope st_words_of) := ⟨rfl, rfl, rfl, by decide +kernel, rfl, by decide +kernel, by decide +kernel⟩
theorem st1_words_of (Z : Facts K mg) (n : Nat) {r_words_of : Fn} (R_words_of : Callee P w K mg base "words_of" 1 (0 + n) r_words_of) : Callee P w K mg base "words_of" 1 (0 + n + 1) (fnD 1 2 (b_words_of r_words_of)) :=
  okD (ps := ["rule"]) (k := 0 + n) Z.fn_words_of sc_words_of Z.mg_words_of (fun _ _ _ _ _ _ us hl => match us, hl with | [_], _ => rfl) (fun cdv A outer s H E C => ((ds_cons (ds_if (dt_cmp (o_eq C.hu) (d_var (i := 0)) (d_glob Z.gl_POINT) (nomark _)) (ds_one (ds_ret (d_lst (da_cons d_str da_nil)))) ds_nil)
    (ds_cons (ds_set (i := 1) C.nd (d_lst (da_cons d_str (da_cons (d_callTy c_str rfl Z.no_str boot_str (da_cons (d_idx (d_var (i := 0)) d_int) da_nil)) (da_cons (d_callTy c_str rfl Z.no_str boot_str (da_cons (d_idx (d_var (i := 0)) d_int) da_nil)) da_nil)))))
    (ds_cons (ds_expr (d_meth PySem.F.plainAttrs_list PySem.F.slot_list_append PySem.F.type_list_append m_append (d_var (i := 1)) (da_cons (d_ifExp (dt_cmp o_is (d_idx (d_var (i := 0)) d_int) d_non (nomark _)) d_str (d_callTy c_str rfl Z.no_str boot_str (da_cons (d_idx (d_var (i := 0)) d_int) da_nil))) da_nil)))
    (ds_cons (ds_expr (d_meth PySem.F.plainAttrs_list PySem.F.slot_list_extend PySem.F.type_list_extend m_extend (d_var (i := 1)) (da_cons (d_call C R_words_of (by omega) (da_cons (d_idx (d_var (i := 0)) d_int) da_nil)) da_nil)))
    (ds_cons (ds_expr (d_meth PySem.F.plainAttrs_list PySem.F.slot_list_extend PySem.F.type_list_extend m_extend (d_var (i := 1)) (da_cons (d_ifExp (dt_cmp o_is (d_idx (d_var (i := 0)) d_int) d_non (nomark _)) (d_lst (da_cons d_str da_nil)) (d_call C R_words_of (by omega) (da_cons (d_idx (d_var (i := 0)) d_int) da_nil))) da_nil)))
    (ds_one (ds_ret (d_var (i := 1)))))))))))
theorem ok_words_of (Z : Facts K mg) : ∀ n : Nat, Callee P w K mg base "words_of" 1 (0 + n) (m_words_of n)
  | 0 => noD (ps := ["rule"]) Z.fn_words_of Z.mg_words_of (fun _ _ _ _ _ _ us hl => match us, hl with | [_], _ => rfl)
  | n + 1 => st1_words_of Z n (ok_words_of Z n)
theorem sc_show_rule : FnScope ["rule"] ["rule"] (defScope st_show_rule) := ⟨rfl, rfl, rfl, by decide +kernel, rfl, by decide +kernel, by decide +kernel⟩
theorem ok_show_rule (Z : Facts K mg) : Callee P w K mg base "show_rule" 1 (14 + 1) m_show_rule :=
  okD (ps := ["rule"]) (k := 14) Z.fn_show_rule sc_show_rule Z.mg_show_rule (fun _ _ _ _ _ _ us hl => match us, hl with | [_], _ => rfl) (fun cdv A outer s H E C => ((ds_one (ds_ret (d_meth PySem.F.plainAttrs_str PySem.F.slot_str_join PySem.F.type_str_join m_join d_str (da_cons (d_call C (ok_words_of Z 14) (by omega) (da_cons (d_var (i := 0)) da_nil)) da_nil))))))
theorem sc_count_of : FnScope ["word", "number", "sign"] ["word"] (defScope st_count_of) := ⟨rfl, rfl, rfl, by decide +kernel, rfl, by decide +kernel, by decide +kernel⟩
theorem ok_count_of (Z : Facts K mg) : Callee P w K mg base "count_of" 1 (0 + 1) m_count_of :=
  okD (ps := ["word"]) (k := 0) Z.fn_count_of sc_count_of Z.mg_count_of (fun _ _ _ _ _ _ us hl => match us, hl with | [_], _ => rfl) (fun cdv A outer s H E C => ((ds_cons (ds_if (PW.pt (dt_or (dt_cmp o_lt (d_callB c_len rfl Z.no_len boot_len (da_cons (d_var (i := 0)) da_nil)) d_int (nomark _)) (dt_or (dt_cmp o_gt (d_callB c_len rfl Z.no_len boot_len (da_cons (d_var (i := 0)) da_nil)) d_int (nomark _)) (dt_or1 (dt_cmp (o_eq C.hu) (d_idx (d_var (i := 0)) d_int) d_str (nomark _)))))) (ds_one (ds_ret d_non)) ds_nil)
    (ds_cons (ds_set (i := 1) C.nd d_int)
    (ds_cons (ds_for C (di_any (d_var (i := 0))) (dg_name (i := 2) C.nd) (ds_cons (ds_if (dt_cmp o_notIn (d_var (i := 2)) (d_glob Z.gl_FIGURES) (by with_unfolding_all rfl)) (ds_one (ds_ret d_non)) ds_nil)
    (ds_one (ds_set (i := 1) C.nd (d_bin o_add (d_bin o_mul d_int (d_var (i := 1))) (d_meth PySem.F.plainAttrs_str PySem.F.slot_str_index PySem.F.type_str_index m_sindex (d_glob Z.gl_FIGURES) (da_cons (d_var (i := 2)) da_nil)))))))
    (ds_one (ds_ret (d_var (i := 1)))))))))
theorem sc_Reader_new : FnScope ["self", "words"] ["self", "words"] (defScope st_Reader_new) := ⟨rfl, rfl, rfl, by decide +kernel, rfl, by decide +kernel, by decide +kernel⟩
theorem ok_Reader_new (Z : Facts K mg) : CalleeM P w K mg base "Reader" "__init__" 2 (0 + 1) [] m_Reader_new :=
  okM (ps := ["self", "words"]) (k := 0) Z.fn_Reader_new sc_Reader_new Z.cls_Reader Z.meth_Reader_new (fun _ _ _ _ _ _ us hl => match us, hl with | [_, _], _ => rfl) (fun cdv A outer s H E C => ((ds_cons (ds_fld ⟨Z.cls_Reader, Z.noat_Reader_words⟩ (d_var (i := 0)) (d_var (i := 1)))
    (ds_cons (ds_fld ⟨Z.cls_Reader, Z.noat_Reader_at⟩ (d_var (i := 0)) d_int)
    (ds_one (ds_fld ⟨Z.cls_Reader, Z.noat_Reader_many⟩ (d_var (i := 0)) d_int))))))
theorem sc_Reader_word : FnScope ["self"] ["self"] (defScope st_Reader_word) := ⟨rfl, rfl, rfl, by decide +kernel, rfl, by decide +kernel, by decide +kernel⟩
theorem ok_Reader_word (Z : Facts K mg) : CalleeM P w K mg base "Reader" "word" 1 (0 + 1) [] m_Reader_word :=
  okM (ps := ["self"]) (k := 0) Z.fn_Reader_word sc_Reader_word Z.cls_Reader Z.meth_Reader_word (fun _ _ _ _ _ _ us hl => match us, hl with | [_], _ => rfl) (fun cdv A outer s H E C => ((ds_cons (ds_if (dt_cmp (o_eq C.hu) (d_fld ⟨Z.cls_Reader, Z.noat_Reader_at⟩ (d_var (i := 0))) (d_callB c_len rfl Z.no_len boot_len (da_cons (d_fld ⟨Z.cls_Reader, Z.noat_Reader_words⟩ (d_var (i := 0))) da_nil)) (nomark _)) (ds_one ds_stk) ds_nil)
    (ds_one (ds_ret (d_idx (d_fld ⟨Z.cls_Reader, Z.noat_Reader_words⟩ (d_var (i := 0))) (d_fld ⟨Z.cls_Reader, Z.noat_Reader_at⟩ (d_var (i := 0)))))))))
theorem sc_Reader_count : FnScope ["self", "least", "number"] ["self", "least"] (defScope st_Reader_count) := ⟨rfl, rfl, rfl, by decide +kernel, rfl, by decide +kernel, by decide +kernel⟩
theorem ok_Reader_count (Z : Facts K mg) : CalleeM P w K mg base "Reader" "count" 2 (1 + 1) [] m_Reader_count :=
  okM (ps := ["self", "least"]) (k := 1) Z.fn_Reader_count sc_Reader_count Z.cls_Reader Z.meth_Reader_count (fun _ _ _ _ _ _ us hl => match us, hl with | [_, _], _ => rfl) (fun cdv A outer s H E C => ((ds_cons (ds_set (i := 2) C.nd (d_call C (ok_count_of Z) (by omega) (da_cons (d_meM0 C (ok_Reader_word Z) (by omega) (d_var (i := 0))) da_nil)))
    (ds_cons (ds_if (PW.pt (dt_or (dt_cmp o_is (d_var (i := 2)) d_non (nomark _)) (dt_or (dt_cmp o_lt (d_var (i := 2)) (d_var (i := 1)) (nomark _)) (dt_or1 (dt_cmp o_gt (d_var (i := 2)) (d_glob Z.gl_GREATEST) (nomark _)))))) (ds_one ds_stk) ds_nil)
    (ds_cons (ds_fld ⟨Z.cls_Reader, Z.noat_Reader_at⟩ (d_var (i := 0)) (d_bin o_add (d_fld ⟨Z.cls_Reader, Z.noat_Reader_at⟩ (d_var (i := 0))) d_int))
    (ds_one (ds_ret (d_var (i := 2)))))))))
theorem sc_Reader_is_dash : FnScope ["self"] ["self"] (defScope st_Reader_is_dash) := ⟨rfl, rfl, rfl, by decide +kernel, rfl, by decide +kernel, by decide +kernel⟩
theorem ok_Reader_is_dash (Z : Facts K mg) : CalleeM P w K mg base "Reader" "is_dash" 1 (1 + 1) [] m_Reader_is_dash :=
  okM (ps := ["self"]) (k := 1) Z.fn_Reader_is_dash sc_Reader_is_dash Z.cls_Reader Z.meth_Reader_is_dash (fun _ _ _ _ _ _ us hl => match us, hl with | [_], _ => rfl) (fun cdv A outer s H E C => ((ds_cons (ds_if (dt_cmp (o_ne C.hu) (d_meM0 C (ok_Reader_word Z) (by omega) (d_var (i := 0))) d_str (nomark _)) (ds_one (ds_ret d_bl)) ds_nil)
    (ds_cons (ds_fld ⟨Z.cls_Reader, Z.noat_Reader_at⟩ (d_var (i := 0)) (d_bin o_add (d_fld ⟨Z.cls_Reader, Z.noat_Reader_at⟩ (d_var (i := 0))) d_int))
    (ds_one (ds_ret d_bl))))))
theorem sc_Reader_rule : FnScope ["self", "around", "word", "to", "lead", "cap", "inner"] ["self", "around"] (defScope st_Reader_rule) := ⟨rfl, rfl, rfl, by decide +kernel, rfl, by decide +kernel, by decide +kernel⟩
theorem st1_Reader_rule (Z : Facts K mg) (n : Nat) {r_Reader_rule : Fn} (R_Reader_rule : CalleeM P w K mg base "Reader" "rule" 2 (2 + n) [] r_Reader_rule) {r_Reader_last : Fn} (R_Reader_last : CalleeM P w K mg base "Reader" "last" 3 (2 + n) [] r_Reader_last) : CalleeM P w K mg base "Reader" "rule" 2 (2 + n + 1) [] (fnD 2 7 (b_Reader_rule r_Reader_rule r_Reader_last)) :=
  okM (ps := ["self", "around"]) (k := 2 + n) Z.fn_Reader_rule sc_Reader_rule Z.cls_Reader Z.meth_Reader_rule (fun _ _ _ _ _ _ us hl => match us, hl with | [_, _], _ => rfl) (fun cdv A outer s H E C => ((ds_cons (ds_set (i := 2) C.nd (d_meM0 C (ok_Reader_word Z) (by omega) (d_var (i := 0))))
    (ds_cons (ds_if (dt_cmp (o_eq C.hu) (d_var (i := 2)) d_str (nomark _)) (ds_cons (ds_fld ⟨Z.cls_Reader, Z.noat_Reader_at⟩ (d_var (i := 0)) (d_bin o_add (d_fld ⟨Z.cls_Reader, Z.noat_Reader_at⟩ (d_var (i := 0))) d_int))
    (ds_one (ds_ret (d_glob Z.gl_POINT)))) ds_nil)
    (ds_cons (ds_if (PW.pt (dt_or (dt_cmp (o_ne C.hu) (d_var (i := 2)) d_str (nomark _)) (dt_or (dt_cmp (o_eq C.hu) (d_var (i := 1)) (d_glob Z.gl_MOST_DEEP) (nomark _)) (dt_or1 (dt_cmp (o_eq C.hu) (d_fld ⟨Z.cls_Reader, Z.noat_Reader_many⟩ (d_var (i := 0))) (d_glob Z.gl_MOST_UNITS) (nomark _)))))) (ds_one ds_stk) ds_nil)
    (ds_cons (ds_fld ⟨Z.cls_Reader, Z.noat_Reader_at⟩ (d_var (i := 0)) (d_bin o_add (d_fld ⟨Z.cls_Reader, Z.noat_Reader_at⟩ (d_var (i := 0))) d_int))
    (ds_cons (ds_fld ⟨Z.cls_Reader, Z.noat_Reader_many⟩ (d_var (i := 0)) (d_bin o_add (d_fld ⟨Z.cls_Reader, Z.noat_Reader_many⟩ (d_var (i := 0))) d_int))
    (ds_cons (ds_set (i := 3) C.nd (d_meM C (ok_Reader_count Z) (by omega) (d_var (i := 0)) (da_cons d_int da_nil)))
    (ds_cons (ds_set (i := 4) C.nd (d_meM C (ok_Reader_count Z) (by omega) (d_var (i := 0)) (da_cons d_int da_nil)))
    (ds_cons (ds_set (i := 5) C.nd (d_ifExp (dt_tru (d_meM0 C (ok_Reader_is_dash Z) (by omega) (d_var (i := 0)))) d_non (d_meM C (ok_Reader_count Z) (by omega) (d_var (i := 0)) (da_cons (d_var (i := 3)) da_nil))))
    (ds_cons (ds_set (i := 6) C.nd (d_meM C R_Reader_rule (by omega) (d_var (i := 0)) (da_cons (d_bin o_add (d_var (i := 1)) d_int) da_nil)))
    (ds_one (ds_ret (d_tup (da_cons d_str (da_cons (d_var (i := 3)) (da_cons (d_var (i := 4)) (da_cons (d_var (i := 5)) (da_cons (d_var (i := 6)) (da_cons (d_meM C R_Reader_last (by omega) (d_var (i := 0)) (da_cons (d_var (i := 5)) (da_cons (d_bin o_add (d_var (i := 1)) d_int) da_nil))) da_nil))))))))))))))))))))
theorem sc_Reader_last : FnScope ["self", "cap", "around"] ["self", "cap", "around"] (defScope st_Reader_last) := ⟨rfl, rfl, rfl, by decide +kernel, rfl, by decide +kernel, by decide +kernel⟩
theorem st1_Reader_last (Z : Facts K mg) (n : Nat) {r_Reader_rule : Fn} (R_Reader_rule : CalleeM P w K mg base "Reader" "rule" 2 (2 + n) [] r_Reader_rule) {r_Reader_last : Fn} (R_Reader_last : CalleeM P w K mg base "Reader" "last" 3 (2 + n) [] r_Reader_last) : CalleeM P w K mg base "Reader" "last" 3 (2 + n + 1) [] (fnD 3 3 (b_Reader_last r_Reader_rule r_Reader_last)) :=
  okM (ps := ["self", "cap", "around"]) (k := 2 + n) Z.fn_Reader_last sc_Reader_last Z.cls_Reader Z.meth_Reader_last (fun _ _ _ _ _ _ us hl => match us, hl with | [_, _, _], _ => rfl) (fun cdv A outer s H E C => ((ds_cons (ds_if (dt_tru (d_meM0 C (ok_Reader_is_dash Z) (by omega) (d_var (i := 0)))) (ds_one (ds_ret d_non)) ds_nil)
    (ds_cons (ds_if (dt_cmp o_is (d_var (i := 1)) d_non (nomark _)) (ds_one ds_stk) ds_nil)
    (ds_one (ds_ret (d_meM C R_Reader_rule (by omega) (d_var (i := 0)) (da_cons (d_var (i := 2)) da_nil))))))))
theorem okg_Reader_rule (Z : Facts K mg) : ∀ n : Nat, CalleeM P w K mg base "Reader" "rule" 2 (2 + n) [] (m_Reader_rule n) ∧ CalleeM P w K mg base "Reader" "last" 3 (2 + n) [] (m_Reader_last n)
  | 0 => ⟨noM (ps := ["self", "around"]) Z.fn_Reader_rule Z.cls_Reader Z.meth_Reader_rule (fun _ _ _ _ _ _ us hl => match us, hl with | [_, _], _ => rfl), noM (ps := ["self", "cap", "around"]) Z.fn_Reader_last Z.cls_Reader Z.meth_Reader_last (fun _ _ _ _ _ _ us hl => match us, hl with | [_, _, _], _ => rfl)⟩
  | n + 1 => ⟨st1_Reader_rule Z n ((okg_Reader_rule Z n).1) ((okg_Reader_rule Z n).2), st1_Reader_last Z n ((okg_Reader_rule Z n).1) ((okg_Reader_rule Z n).2)⟩
theorem ok_Reader_rule (Z : Facts K mg) (n : Nat) : CalleeM P w K mg base "Reader" "rule" 2 (2 + n) [] (m_Reader_rule n) := (okg_Reader_rule Z n).1
theorem ok_Reader_last (Z : Facts K mg) (n : Nat) : CalleeM P w K mg base "Reader" "last" 3 (2 + n) [] (m_Reader_last n) := (okg_Reader_rule Z n).2
theorem sc_read_rule : FnScope ["text", "reader", "rule"] ["text"] (defScope st_read_rule) := ⟨rfl, rfl, rfl, by decide +kernel, rfl, by decide +kernel, by decide +kernel⟩
theorem ok_read_rule (Z : Facts K mg) : Callee P w K mg base "read_rule" 1 (16 + 1) m_read_rule :=
  okD (ps := ["text"]) (k := 16) Z.fn_read_rule sc_read_rule Z.mg_read_rule (fun _ _ _ _ _ _ us hl => match us, hl with | [_], _ => rfl) (fun cdv A outer s H E C => ((ds_cons (ds_set (i := 1) C.nd (d_make C ⟨(ok_Reader_new Z), Z.mkr_Reader, Z.mk_Reader⟩ (by omega) (da_cons (d_meth PySem.F.plainAttrs_str PySem.F.slot_str_split PySem.F.type_str_split m_split (d_var (i := 0)) (da_cons d_str da_nil)) da_nil)))
    (ds_cons (ds_set (i := 2) C.nd (d_meM C (ok_Reader_rule Z 14) (by omega) (d_var (i := 1)) (da_cons d_int da_nil)))
    (ds_cons (ds_if (dt_cmp o_lt (d_fld ⟨Z.cls_Reader, Z.noat_Reader_at⟩ (d_var (i := 1))) (d_callB c_len rfl Z.no_len boot_len (da_cons (d_fld ⟨Z.cls_Reader, Z.noat_Reader_words⟩ (d_var (i := 1))) da_nil)) (nomark _)) (ds_one ds_stk) ds_nil)
    (ds_one (ds_ret (d_var (i := 2)))))))))
theorem sc_l_tape : FnScope ["_law_script", "_law_way"] ["_law_script"] (defScope st_l_tape) := ⟨rfl, rfl, rfl, by decide +kernel, rfl, by decide +kernel, by decide +kernel⟩
theorem ok_l_tape (Z : Facts K mg) : Callee P w K mg base "_law_tape" 1 (0 + 1) m_l_tape :=
  okD (ps := ["_law_script"]) (k := 0) Z.fn_l_tape sc_l_tape Z.mg_l_tape (fun _ _ _ _ _ _ us hl => match us, hl with | [_], _ => rfl) (fun cdv A outer s H E C => ((ds_cons (ds_set (i := 1) C.nd d_int)
    (ds_cons (ds_if (dt_cmp o_gt (d_callB c_len rfl Z.no_len boot_len (da_cons (d_var (i := 0)) da_nil)) d_int (nomark _)) (ds_one (ds_set (i := 1) C.nd (d_bin o_mod (d_idx (d_var (i := 0)) d_int) d_int))) ds_nil)
    (ds_one (ds_ret (d_lst (da_cons (d_var (i := 0)) (da_cons d_int (da_cons d_int (da_cons (d_var (i := 1)) da_nil)))))))))))
theorem sc_l_draw : FnScope ["_law_tape_here", "_law_many", "_law_script", "_law_spot", "_law_cell", "_law_mixed", "_law_left"] ["_law_tape_here", "_law_many"] (defScope st_l_draw) := ⟨rfl, rfl, rfl, by decide +kernel, rfl, by decide +kernel, by decide +kernel⟩
theorem ok_l_draw (Z : Facts K mg) : Callee P w K mg base "_law_draw" 2 (0 + 1) m_l_draw :=
  okD (ps := ["_law_tape_here", "_law_many"]) (k := 0) Z.fn_l_draw sc_l_draw Z.mg_l_draw (fun _ _ _ _ _ _ us hl => match us, hl with | [_, _], _ => rfl) (fun cdv A outer s H E C => ((ds_cons (ds_set (i := 2) C.nd (d_idx (d_var (i := 0)) d_int))
    (ds_cons (ds_set (i := 3) C.nd (d_idx (d_var (i := 0)) d_int))
    (ds_cons (ds_sub (d_var (i := 0)) d_int (d_bin o_add (d_var (i := 3)) d_int))
    (ds_cons (ds_set (i := 4) C.nd d_int)
    (ds_cons (ds_if (dt_cmp o_gt (d_callB c_len rfl Z.no_len boot_len (da_cons (d_var (i := 2)) da_nil)) d_int (nomark _)) (ds_one (ds_set (i := 4) C.nd (d_idx (d_var (i := 2)) (d_bin o_mod (d_ifExp (dt_cmp (o_eq C.hu) (d_idx (d_var (i := 0)) d_int) d_int (nomark _)) (d_bin o_fdiv (d_var (i := 3)) d_int) (d_var (i := 3))) (d_callB c_len rfl Z.no_len boot_len (da_cons (d_var (i := 2)) da_nil)))))) ds_nil)
    (ds_cons (ds_if (dt_cmp (o_eq C.hu) (d_idx (d_var (i := 0)) d_int) d_int (nomark _)) (ds_cons (ds_if (dt_cmp (o_eq C.hu) (d_bin o_mod (d_var (i := 3)) d_int) d_int (nomark _)) (ds_one (ds_sub (d_var (i := 0)) d_int (d_bin o_fdiv (d_var (i := 4)) d_int))) ds_nil)
    (ds_cons (ds_set (i := 6) C.nd (d_idx (d_var (i := 0)) d_int))
    (ds_cons (ds_sub (d_var (i := 0)) d_int (d_bin o_fdiv (d_var (i := 6)) (d_var (i := 1))))
    (ds_one (ds_ret (d_bin o_mod (d_var (i := 6)) (d_var (i := 1)))))))) ds_nil)
    (ds_cons (ds_set (i := 5) C.nd (d_bin o_mod (d_bin o_mul (d_bin o_add (d_bin o_mod (d_var (i := 4)) d_int) d_int) (d_bin o_add (d_bin o_add (d_bin o_mul (d_bin o_mod (d_var (i := 3)) d_int) d_int) d_int) (d_var (i := 3)))) d_int))
    (ds_cons (ds_set (i := 5) C.nd (d_bin o_mod (d_bin o_add (d_bin o_add (d_bin o_mul (d_var (i := 5)) (d_var (i := 5))) (d_bin o_mul d_int (d_var (i := 5)))) (d_var (i := 3))) d_int))
    (ds_one (ds_ret (d_bin o_mod (d_bin o_mod (d_bin o_mul (d_var (i := 5)) d_int) d_int) (d_var (i := 1)))))))))))))))
theorem sc_l_unit : FnScope ["_law_tape_here", "_law_deep", "_law_thin", "_law_to", "_law_lead", "_law_cap", "_law_last", "_law_inner"] ["_law_tape_here", "_law_deep", "_law_thin"] (defScope st_l_unit) := ⟨rfl, rfl, rfl, by decide +kernel, rfl, by decide +kernel, by decide +kernel⟩
theorem st1_l_unit (Z : Facts K mg) (n : Nat) {r_l_unit : Fn} (R_l_unit : Callee P w K mg base "_law_unit" 3 (1 + n) r_l_unit) {r_l_rule : Fn} (R_l_rule : Callee P w K mg base "_law_rule" 3 (1 + n) r_l_rule) : Callee P w K mg base "_law_unit" 3 (1 + n + 1) (fnD 3 8 (b_l_unit r_l_unit r_l_rule)) :=
  okD (ps := ["_law_tape_here", "_law_deep", "_law_thin"]) (k := 1 + n) Z.fn_l_unit sc_l_unit Z.mg_l_unit (fun _ _ _ _ _ _ us hl => match us, hl with | [_, _, _], _ => rfl) (fun cdv A outer s H E C => ((ds_cons (ds_set (i := 3) C.nd (d_bin o_add d_int (d_call C (ok_l_draw Z) (by omega) (da_cons (d_var (i := 0)) (da_cons (d_idx (d_lst (da_cons d_int (da_cons d_int (da_cons d_int da_nil)))) (d_bin o_fdiv (d_call C (ok_l_draw Z) (by omega) (da_cons (d_var (i := 0)) (da_cons d_int da_nil))) d_int)) da_nil)))))
    (ds_cons (ds_set (i := 4) C.nd (d_bin o_add d_int (d_call C (ok_l_draw Z) (by omega) (da_cons (d_var (i := 0)) (da_cons (d_idx (d_lst (da_cons d_int (da_cons d_int (da_cons d_int da_nil)))) (d_bin o_fdiv (d_call C (ok_l_draw Z) (by omega) (da_cons (d_var (i := 0)) (da_cons d_int da_nil))) d_int)) da_nil)))))
    (ds_cons (ds_set (i := 5) C.nd d_non)
    (ds_cons (ds_set (i := 6) C.nd d_non)
    (ds_cons (ds_if (dt_cmp (o_eq C.hu) (d_call C (ok_l_draw Z) (by omega) (da_cons (d_var (i := 0)) (da_cons d_int da_nil))) d_int (nomark _)) (ds_one (ds_set (i := 5) C.nd (d_callB (c_min2 C.calm) rfl Z.no_min boot_min (da_cons d_int (da_cons (d_bin o_add (d_var (i := 3)) (d_call C (ok_l_draw Z) (by omega) (da_cons (d_var (i := 0)) (da_cons d_int da_nil)))) da_nil))))) ds_nil)
    (ds_cons (ds_set (i := 7) C.nd (d_call C R_l_rule (by omega) (da_cons (d_var (i := 0)) (da_cons (d_bin o_sub (d_var (i := 1)) d_int) (da_cons (d_var (i := 2)) da_nil)))))
    (ds_cons (ds_if (PW.pt (dt_and (dt_cmp o_isNot (d_var (i := 5)) d_non (nomark _)) (dt_and1 (dt_cmp o_gt (d_call C (ok_l_draw Z) (by omega) (da_cons (d_var (i := 0)) (da_cons d_int da_nil))) d_int (nomark _))))) (ds_one (ds_set (i := 6) C.nd (d_call C R_l_rule (by omega) (da_cons (d_var (i := 0)) (da_cons (d_callB (c_min2 C.calm) rfl Z.no_min boot_min (da_cons (d_bin o_sub (d_var (i := 1)) d_int) (da_cons (d_var (i := 2)) da_nil))) (da_cons (d_var (i := 2)) da_nil)))))) ds_nil)
    (ds_one (ds_ret (d_tup (da_cons d_str (da_cons (d_var (i := 3)) (da_cons (d_var (i := 4)) (da_cons (d_var (i := 5)) (da_cons (d_var (i := 7)) (da_cons (d_var (i := 6)) da_nil))))))))))))))))))
theorem sc_l_rule : FnScope ["_law_tape_here", "_law_deep", "_law_thin"] ["_law_tape_here", "_law_deep", "_law_thin"] (defScope st_l_rule) := ⟨rfl, rfl, rfl, by decide +kernel, rfl, by decide +kernel, by decide +kernel⟩
theorem st1_l_rule (Z : Facts K mg) (n : Nat) {r_l_unit : Fn} (R_l_unit : Callee P w K mg base "_law_unit" 3 (1 + n) r_l_unit) {r_l_rule : Fn} (R_l_rule : Callee P w K mg base "_law_rule" 3 (1 + n) r_l_rule) : Callee P w K mg base "_law_rule" 3 (1 + n + 1) (fnD 3 3 (b_l_rule r_l_unit r_l_rule)) :=
  okD (ps := ["_law_tape_here", "_law_deep", "_law_thin"]) (k := 1 + n) Z.fn_l_rule sc_l_rule Z.mg_l_rule (fun _ _ _ _ _ _ us hl => match us, hl with | [_, _, _], _ => rfl) (fun cdv A outer s H E C => ((ds_cons (ds_if (PW.pt (dt_or (dt_cmp (o_eq C.hu) (d_var (i := 1)) d_int (nomark _)) (dt_or1 (dt_cmp (o_eq C.hu) (d_call C (ok_l_draw Z) (by omega) (da_cons (d_var (i := 0)) (da_cons d_int da_nil))) d_int (nomark _))))) (ds_one (ds_ret (d_tup (da_cons d_str da_nil)))) ds_nil)
    (ds_one (ds_ret (d_call C R_l_unit (by omega) (da_cons (d_var (i := 0)) (da_cons (d_var (i := 1)) (da_cons (d_var (i := 2)) da_nil)))))))))
theorem okg_l_unit (Z : Facts K mg) : ∀ n : Nat, Callee P w K mg base "_law_unit" 3 (1 + n) (m_l_unit n) ∧ Callee P w K mg base "_law_rule" 3 (1 + n) (m_l_rule n)
  | 0 => ⟨noD (ps := ["_law_tape_here", "_law_deep", "_law_thin"]) Z.fn_l_unit Z.mg_l_unit (fun _ _ _ _ _ _ us hl => match us, hl with | [_, _, _], _ => rfl), noD (ps := ["_law_tape_here", "_law_deep", "_law_thin"]) Z.fn_l_rule Z.mg_l_rule (fun _ _ _ _ _ _ us hl => match us, hl with | [_, _, _], _ => rfl)⟩
  | n + 1 => ⟨st1_l_unit Z n ((okg_l_unit Z n).1) ((okg_l_unit Z n).2), st1_l_rule Z n ((okg_l_unit Z n).1) ((okg_l_unit Z n).2)⟩
theorem ok_l_unit (Z : Facts K mg) (n : Nat) : Callee P w K mg base "_law_unit" 3 (1 + n) (m_l_unit n) := (okg_l_unit Z n).1
theorem ok_l_rule (Z : Facts K mg) (n : Nat) : Callee P w K mg base "_law_rule" 3 (1 + n) (m_l_rule n) := (okg_l_unit Z n).2
theorem sc_l_any_rule : FnScope ["_law_tape_here", "_law_way"] ["_law_tape_here"] (defScope st_l_any_rule) := ⟨rfl, rfl, rfl, by decide +kernel, rfl, by decide +kernel, by decide +kernel⟩
theorem ok_l_any_rule (Z : Facts K mg) : Callee P w K mg base "_law_any_rule" 1 (15 + 1) m_l_any_rule :=
  okD (ps := ["_law_tape_here"]) (k := 15) Z.fn_l_any_rule sc_l_any_rule Z.mg_l_any_rule (fun _ _ _ _ _ _ us hl => match us, hl with | [_], _ => rfl) (fun cdv A outer s H E C => ((ds_cons (ds_set (i := 1) C.nd (d_call C (ok_l_draw Z) (by omega) (da_cons (d_var (i := 0)) (da_cons d_int da_nil))))
    (ds_one (ds_ret (d_call C (ok_l_rule Z 14) (by omega) (da_cons (d_var (i := 0)) (da_cons (d_idx (d_lst (da_cons d_int (da_cons d_int (da_cons d_int (da_cons d_int (da_cons d_int (da_cons d_int da_nil))))))) (d_var (i := 1))) (da_cons (d_idx (d_lst (da_cons d_int (da_cons d_int (da_cons d_int (da_cons d_int (da_cons d_int (da_cons d_int da_nil))))))) (d_var (i := 1))) da_nil)))))))))
theorem sc_l_written : FnScope ["_law_rule_here", "_law_cap", "_law_last", "_law_words"] ["_law_rule_here"] (defScope st_l_written) := ⟨rfl, rfl, rfl, by decide +kernel, rfl, by decide +kernel, by decide +kernel⟩
theorem st1_l_written (Z : Facts K mg) (n : Nat) {r_l_written : Fn} (R_l_written : Callee P w K mg base "_law_written" 1 (0 + n) r_l_written) : Callee P w K mg base "_law_written" 1 (0 + n + 1) (fnD 1 4 (b_l_written r_l_written)) :=
  okD (ps := ["_law_rule_here"]) (k := 0 + n) Z.fn_l_written sc_l_written Z.mg_l_written (fun _ _ _ _ _ _ us hl => match us, hl with | [_], _ => rfl) (fun cdv A outer s H E C => ((ds_cons (ds_if (dt_cmp (o_eq C.hu) (d_var (i := 0)) (d_tup (da_cons d_str da_nil)) (nomark _)) (ds_one (ds_ret d_str)) ds_nil)
    (ds_cons (ds_set (i := 1) C.nd d_str)
    (ds_cons (ds_set (i := 2) C.nd d_str)
    (ds_cons (ds_if (dt_cmp o_isNot (d_idx (d_var (i := 0)) d_int) d_non (nomark _)) (ds_one (ds_set (i := 1) C.nd (d_callTy c_str rfl Z.no_str boot_str (da_cons (d_idx (d_var (i := 0)) d_int) da_nil)))) ds_nil)
    (ds_cons (ds_if (dt_cmp o_isNot (d_idx (d_var (i := 0)) d_int) d_non (nomark _)) (ds_one (ds_set (i := 2) C.nd (d_call C R_l_written (by omega) (da_cons (d_idx (d_var (i := 0)) d_int) da_nil)))) ds_nil)
    (ds_cons (ds_set (i := 3) C.nd (d_lst (da_cons d_str (da_cons (d_callTy c_str rfl Z.no_str boot_str (da_cons (d_idx (d_var (i := 0)) d_int) da_nil)) (da_cons (d_callTy c_str rfl Z.no_str boot_str (da_cons (d_idx (d_var (i := 0)) d_int) da_nil)) (da_cons (d_var (i := 1)) da_nil))))))
    (ds_cons (ds_expr (d_meth PySem.F.plainAttrs_list PySem.F.slot_list_append PySem.F.type_list_append m_append (d_var (i := 3)) (da_cons (d_call C R_l_written (by omega) (da_cons (d_idx (d_var (i := 0)) d_int) da_nil)) da_nil)))
    (ds_one (ds_ret (d_meth PySem.F.plainAttrs_str PySem.F.slot_str_join PySem.F.type_str_join m_join d_str (da_cons (d_bin o_add (d_var (i := 3)) (d_lst (da_cons (d_var (i := 2)) da_nil))) da_nil)))))))))))))
theorem ok_l_written (Z : Facts K mg) : ∀ n : Nat, Callee P w K mg base "_law_written" 1 (0 + n) (m_l_written n)
  | 0 => noD (ps := ["_law_rule_here"]) Z.fn_l_written Z.mg_l_written (fun _ _ _ _ _ _ us hl => match us, hl with | [_], _ => rfl)
  | n + 1 => st1_l_written Z n (ok_l_written Z n)
theorem sc_l_alike : FnScope ["_law_found", "_law_due", "_law_k"] ["_law_found", "_law_due"] (defScope st_l_alike) := ⟨rfl, rfl, rfl, by decide +kernel, rfl, by decide +kernel, by decide +kernel⟩
theorem st1_l_alike (Z : Facts K mg) (n : Nat) {r_l_alike : Fn} (R_l_alike : Callee P w K mg base "_law_alike" 2 (0 + n) r_l_alike) : Callee P w K mg base "_law_alike" 2 (0 + n + 1) (fnD 2 3 (b_l_alike r_l_alike)) :=
  okD (ps := ["_law_found", "_law_due"]) (k := 0 + n) Z.fn_l_alike sc_l_alike Z.mg_l_alike (fun _ _ _ _ _ _ us hl => match us, hl with | [_, _], _ => rfl) (fun cdv A outer s H E C => ((ds_cons (ds_if (dt_tru (d_isi (U := "tuple") rfl Z.no_isinstance rfl Z.no_tuple boot_tuple (d_var (i := 1)))) (ds_cons (ds_if (PW.pt (dt_or (dt_not (dt_tru (d_isi (U := "tuple") rfl Z.no_isinstance rfl Z.no_tuple boot_tuple (d_var (i := 0))))) (dt_or1 (dt_cmp (o_ne C.hu) (d_callB c_len rfl Z.no_len boot_len (da_cons (d_var (i := 0)) da_nil)) (d_callB c_len rfl Z.no_len boot_len (da_cons (d_var (i := 1)) da_nil)) (nomark _))))) (ds_one (ds_ret d_bl)) ds_nil)
    (ds_one (ds_ret (d_cmp o_notIn d_bl (d_comp (i := 2) C (di_range1 Z.no_range (d_callB c_len rfl Z.no_len boot_len (da_cons (d_var (i := 1)) da_nil))) (blkOk_by (by kernel_rfl)) (fun _ _ _ _ _ => pg_name (i := 2) C.nd rfl (Or.inl rfl)) (fun _ _ _ _ _ C1 => dts_nil) (fun _ _ _ _ _ C1 => (d_call C1 R_l_alike (by omega) (da_cons (d_idx (d_var (i := 0)) (d_var (i := 2))) (da_cons (d_idx (d_var (i := 1)) (d_var (i := 2))) da_nil))))) (by with_unfolding_all rfl))))) ds_nil)
    (ds_cons (ds_if (dt_cmp o_is (d_var (i := 1)) d_non (nomark _)) (ds_one (ds_ret (d_cmp o_is (d_var (i := 0)) d_non (nomark _)))) ds_nil)
    (ds_cons (ds_if (dt_tru (d_isi (U := "str") rfl Z.no_isinstance rfl Z.no_str boot_str (d_var (i := 1)))) (ds_one (ds_ret (d_and (d_isi (U := "str") rfl Z.no_isinstance rfl Z.no_str boot_str (d_var (i := 0))) (d_one (d_cmp (o_eq C.hu) (d_var (i := 0)) (d_var (i := 1)) (nomark _)))))) ds_nil)
    (ds_one (ds_ret (d_and (d_isi (U := "int") rfl Z.no_isinstance rfl Z.no_int boot_int (d_var (i := 0))) (d_and (d_not (d_isi (U := "bool") rfl Z.no_isinstance rfl Z.no_bool boot_bool (d_var (i := 0)))) (d_one (d_cmp (o_eq C.hu) (d_var (i := 0)) (d_var (i := 1)) (nomark _))))))))))))
theorem ok_l_alike (Z : Facts K mg) : ∀ n : Nat, Callee P w K mg base "_law_alike" 2 (0 + n) (m_l_alike n)
  | 0 => noD (ps := ["_law_found", "_law_due"]) Z.fn_l_alike Z.mg_l_alike (fun _ _ _ _ _ _ us hl => match us, hl with | [_, _], _ => rfl)
  | n + 1 => st1_l_alike Z n (ok_l_alike Z n)
theorem sc_law : FnScope ["_law_script", "_law_tape_here", "_law_rules", "_law_k", "_law_rule_here", "_law_text"] ["_law_script"] (defScope st_law) := ⟨rfl, rfl, rfl, by decide +kernel, rfl, by decide +kernel, by decide +kernel⟩
theorem ok_law (Z : Facts K mg) {fd : FuncData} (F : FunD K "law" "law" (defArgs st_law) (defBody st_law) (defScope st_law) [] [] (He.ga K "law") fd) : FnOk P w K mg base (L2N.CX P w) 18 (He.ga K "law") fd ["_law_script"] (spD K 1 m_law) :=
  okF (k := 17) F sc_law (fun cdv A outer s H E C => ((ds_cons (ds_set (i := 1) C.nd (d_call C (ok_l_tape Z) (by omega) (da_cons (d_var (i := 0)) da_nil)))
    (ds_cons (ds_set (i := 2) C.nd (d_lst (da_cons (d_call C (ok_l_any_rule Z) (by omega) (da_cons (d_var (i := 1)) da_nil)) (da_cons (d_call C (ok_l_any_rule Z) (by omega) (da_cons (d_var (i := 1)) da_nil)) da_nil))))
    (ds_cons (ds_for C (di_range1 Z.no_range d_int) (dg_name (i := 3) C.nd) (ds_cons (ds_set (i := 4) C.nd (d_idx (d_var (i := 2)) (d_bin o_mod (d_var (i := 3)) d_int)))
    (ds_cons (ds_set (i := 5) C.nd (d_call C (ok_show_rule Z) (by omega) (da_cons (d_var (i := 4)) da_nil)))
    (ds_one (ds_if (PW.pt (dt_or (dt_not (dt_tru (d_call C (ok_l_alike Z 14) (by omega) (da_cons (d_var (i := 5)) (da_cons (d_call C (ok_l_written Z 14) (by omega) (da_cons (d_var (i := 4)) da_nil)) da_nil))))) (dt_or1 (dt_not (dt_tru (d_call C (ok_l_alike Z 14) (by omega) (da_cons (d_call C (ok_read_rule Z) (by omega) (da_cons (d_var (i := 5)) da_nil)) (da_cons (d_var (i := 4)) da_nil)))))))) (ds_one (ds_ret d_bl)) ds_nil)))))
    (ds_one (ds_ret d_bl)))))))
end
end LW
end
section
set_option maxHeartbeats 4000000
namespace LW
open PySem PySem.Spec PyProof.Rows L2 TL
open CM
open CW
/-! the head -/
def fn : List He.DefD := [⟨("words_of", none), "words_of", "words_of", defArgs st_words_of, defBody st_words_of, defScope st_words_of, [], []⟩, ⟨("show_rule", none), "show_rule", "show_rule", defArgs st_show_rule, defBody st_show_rule, defScope st_show_rule, [], []⟩, ⟨("count_of", none), "count_of", "count_of", defArgs st_count_of, defBody st_count_of, defScope st_count_of, [], []⟩, ⟨("Reader", some "__init__"), "__init__", "Reader.__init__", defArgs st_Reader_new, defBody st_Reader_new, defScope st_Reader_new, [], []⟩, ⟨("Reader", some "word"), "word", "Reader.word", defArgs st_Reader_word, defBody st_Reader_word, defScope st_Reader_word, [], []⟩, ⟨("Reader", some "count"), "count", "Reader.count", defArgs st_Reader_count, defBody st_Reader_count, defScope st_Reader_count, [], []⟩, ⟨("Reader", some "is_dash"), "is_dash", "Reader.is_dash", defArgs st_Reader_is_dash, defBody st_Reader_is_dash, defScope st_Reader_is_dash, [], []⟩, ⟨("Reader", some "rule"), "rule", "Reader.rule", defArgs st_Reader_rule, defBody st_Reader_rule, defScope st_Reader_rule, [], []⟩, ⟨("Reader", some "last"), "last", "Reader.last", defArgs st_Reader_last, defBody st_Reader_last, defScope st_Reader_last, [], []⟩, ⟨("read_rule", none), "read_rule", "read_rule", defArgs st_read_rule, defBody st_read_rule, defScope st_read_rule, [], []⟩, ⟨("_law_tape", none), "_law_tape", "_law_tape", defArgs st_l_tape, defBody st_l_tape, defScope st_l_tape, [], []⟩, ⟨("_law_draw", none), "_law_draw", "_law_draw", defArgs st_l_draw, defBody st_l_draw, defScope st_l_draw, [], []⟩, ⟨("_law_unit", none), "_law_unit", "_law_unit", defArgs st_l_unit, defBody st_l_unit, defScope st_l_unit, [], []⟩, ⟨("_law_rule", none), "_law_rule", "_law_rule", defArgs st_l_rule, defBody st_l_rule, defScope st_l_rule, [], []⟩, ⟨("_law_any_rule", none), "_law_any_rule", "_law_any_rule", defArgs st_l_any_rule, defBody st_l_any_rule, defScope st_l_any_rule, [], []⟩, ⟨("_law_written", none), "_law_written", "_law_written", defArgs st_l_written, defBody st_l_written, defScope st_l_written, [], []⟩, ⟨("_law_alike", none), "_law_alike", "_law_alike", defArgs st_l_alike, defBody st_l_alike, defScope st_l_alike, [], []⟩, ⟨("law", none), "law", "law", defArgs st_law, defBody st_law, defScope st_law, [], []⟩]
def fa : List He.Fa := [.glo "words_of", .glo "show_rule", .glo "count_of", .meth "Reader" "__init__", .meth "Reader" "word", .meth "Reader" "count", .meth "Reader" "is_dash", .meth "Reader" "rule", .meth "Reader" "last", .glo "read_rule", .glo "_law_tape", .glo "_law_draw", .glo "_law_unit", .glo "_law_rule", .glo "_law_any_rule", .glo "_law_written", .glo "_law_alike", .glo "law", .free "bool", .free "int", .free "isinstance", .free "len", .free "min", .free "range", .free "str", .free "tuple", .cls "Reader", .noat "Reader" "at", .noat "Reader" "many", .noat "Reader" "words", .mkr "Reader", .glo "Reader", .glo "POINT", .int "GREATEST" 99, .int "MOST_UNITS" 10, .int "MOST_DEEP" 4, .str "FIGURES" "0123456789"]
def okB (K : PySem.W.Frag) : Bool := fa.all (fun f => f.ok K) && He.tupB K "POINT" [.str "point"]
abbrev R : PySem.W.OpenRow := PySem.W.OpenLaw.row PySem.Challenge.rw_tally_k03_rules_written
abbrev hk : PySem.W.Hook := hookB 4 okB fn
def ob (s : PySem.W.SharedT) : AlB := obsBG 4 okB fn (HandSHeadRun.getT s)
theorem ob_eq (s : PySem.W.SharedT) : ob s = hk.obs s.abs := obsBG_eq (HandSHeadRun.getT_eq s)
def loose0 : List Str := ["ScoreError", "BadWord", "POINT", "GREATEST", "MOST_UNITS", "MOST_DEEP", "FIGURES", "words_of", "show_rule", "count_of", "Reader", "read_rule", "_law_tape", "_law_draw", "_law_unit", "_law_rule", "_law_any_rule", "_law_written", "_law_alike"]
abbrev loose : List Str := loose0
theorem run (w : World) : HandSHeadRun.RunEq R (PySem.W.view R.prog [22]) hk ob 4000 loose w := by
  intro os
  kernel_rfl
theorem facts {h : Heap} {mg : Str → Option Value} {K : PySem.W.Frag} (X : K.In h) (G : h.Ns mainGlobals mg) (c : SaysB okB fn K) : Facts K mg := by
  have e : okB K = true := c.fact
  unfold okB at e
  obtain ⟨e, t0⟩ := He.ba e
  exact {
    fn_words_of := c.def_ 0
    mg_words_of := He.glo_ok X G (all_at e 0)
    fn_show_rule := c.def_ 1
    mg_show_rule := He.glo_ok X G (all_at e 1)
    fn_count_of := c.def_ 2
    mg_count_of := He.glo_ok X G (all_at e 2)
    fn_Reader_new := c.def_ 3
    meth_Reader_new := He.meth_ok (all_at e 3)
    fn_Reader_word := c.def_ 4
    meth_Reader_word := He.meth_ok (all_at e 4)
    fn_Reader_count := c.def_ 5
    meth_Reader_count := He.meth_ok (all_at e 5)
    fn_Reader_is_dash := c.def_ 6
    meth_Reader_is_dash := He.meth_ok (all_at e 6)
    fn_Reader_rule := c.def_ 7
    meth_Reader_rule := He.meth_ok (all_at e 7)
    fn_Reader_last := c.def_ 8
    meth_Reader_last := He.meth_ok (all_at e 8)
    fn_read_rule := c.def_ 9
    mg_read_rule := He.glo_ok X G (all_at e 9)
    fn_l_tape := c.def_ 10
    mg_l_tape := He.glo_ok X G (all_at e 10)
    fn_l_draw := c.def_ 11
    mg_l_draw := He.glo_ok X G (all_at e 11)
    fn_l_unit := c.def_ 12
    mg_l_unit := He.glo_ok X G (all_at e 12)
    fn_l_rule := c.def_ 13
    mg_l_rule := He.glo_ok X G (all_at e 13)
    fn_l_any_rule := c.def_ 14
    mg_l_any_rule := He.glo_ok X G (all_at e 14)
    fn_l_written := c.def_ 15
    mg_l_written := He.glo_ok X G (all_at e 15)
    fn_l_alike := c.def_ 16
    mg_l_alike := He.glo_ok X G (all_at e 16)
    fn_law := c.def_ 17
    mg_law := He.glo_ok X G (all_at e 17)
    no_bool := He.free_ok X G (all_at e 18)
    no_int := He.free_ok X G (all_at e 19)
    no_isinstance := He.free_ok X G (all_at e 20)
    no_len := He.free_ok X G (all_at e 21)
    no_min := He.free_ok X G (all_at e 22)
    no_range := He.free_ok X G (all_at e 23)
    no_str := He.free_ok X G (all_at e 24)
    no_tuple := He.free_ok X G (all_at e 25)
    cls_Reader := He.cls_ok (all_at e 26)
    noat_Reader_at := He.noat_ok (all_at e 27)
    noat_Reader_many := He.noat_ok (all_at e 28)
    noat_Reader_words := He.noat_ok (all_at e 29)
    mkr_Reader := He.mkr_ok (all_at e 30)
    mk_Reader := He.glo_ok X G (all_at e 31)
    gl_POINT := glob_tup X G (all_at e 32) t0 (fun _ _ => (.cons (.str _) .nil))
    gl_GREATEST := glob_int X G (all_at e 33)
    gl_MOST_UNITS := glob_int X G (all_at e 34)
    gl_MOST_DEEP := glob_int X G (all_at e 35)
    gl_FIGURES := glob_str X G (all_at e 36)
  }
end LW
end
section
set_option maxHeartbeats 4000000
/-! two things alike, in kind too: a thing is like itself -/
namespace CF
open PySem PySem.Spec PyProof.Rows L2 TL TLQ
noncomputable section
/- def l_alike(_law_due, _law_found): 0=_law_due 1=_law_found 2=_law_k -/
def b_l_alike (r_l_alike : Fn) : MS := (sSeq (sIf (tOr (tTru (eIsi "tuple" (eVar 0))) (tTru (eIsi "list" (eVar 0)))) (sSeq (sIf (tOr (tB (eBin mNe (eIsi "tuple" (eVar 0)) (eIsi "tuple" (eVar 1)))) (tB (eBin mNe (eIsi "list" (eVar 0)) (eIsi "list" (eVar 1))))) (sRet (eC (.bl false))) sNil)
    (sRet (eAnd (eBin mEq (eCallO nLen (aCons (eVar 0) aNil)) (eCallO nLen (aCons (eVar 1) aNil))) (eCallO nAll (aCons (eComp 2 (iRange1 (eCallO nLen (aCons (eVar 0) aNil))) tYesD (eCall r_l_alike (aCons (eBin mIdx (eVar 0) (eVar 2)) (aCons (eBin mIdx (eVar 1) (eVar 2)) aNil)))) aNil))))) sNil)
    (sSeq (sIf (tB (eBin mIs (eVar 0) (eC .non))) (sRet (eBin mIs (eVar 1) (eC .non))) sNil)
    (sSeq (sIf (tTru (eIsi "str" (eVar 0))) (sRet (eAnd (eIsi "str" (eVar 1)) (eBin mEq (eVar 1) (eVar 0)))) sNil)
    (sSeq (sIf (tTru (eIsi "bool" (eVar 0))) (sRet (eAnd (eIsi "bool" (eVar 1)) (eBin mEq (eVar 1) (eVar 0)))) sNil)
    (sRet (eAnd (eIsi "int" (eVar 1)) (eAnd (eNot (eIsi "bool" (eVar 1))) (eBin mEq (eVar 1) (eVar 0)))))))))
def m_l_alike : Nat → Fn
  | 0 => noFn
  | n + 1 => fnD 2 3 (b_l_alike (m_l_alike n))
end

/-- flat, its text a text -/
def FlatOk : D → Prop
  | .non => True
  | .bl _ => True
  | .int _ => True
  | .str x => PyData.strOk x = true
  | _ => False
/-- the same, lists by what they hold, at most n deep -/
def SameN (M : Mem) : Nat → D → D → Prop
  | 0, d, e => FlatOk d ∧ d = e
  | n + 1, d, e => (FlatOk d ∧ d = e) ∨ ∃ xs ys : List D, ((d = .tup xs ∧ e = .tup ys) ∨ ∃ a b, d = .ref a ∧ e = .ref b ∧ seqAt M a = some xs ∧ seqAt M b = some ys) ∧ xs.length = ys.length ∧ xs.length ≤ 100000 ∧
      ∀ (i : Nat) (x y : D), xs[i]? = some x → ys[i]? = some y → SameN M n x y
theorem SameN.keep {M M' : Mem} (k : Keep M M') : ∀ {n : Nat} {d e : D}, SameN M n d e → SameN M' n d e
  | 0, _, _, h => h
  | n + 1, _, _, .inl h => .inl h
  | n + 1, _, _, .inr ⟨xs, ys, h1, h2, h3, h4⟩ => .inr ⟨xs, ys, h1.imp id fun ⟨a, b, e1, e2, e3, e4⟩ => ⟨a, b, e1, e2, k.seq e3, k.seq e4⟩, h2, h3, fun i x y a b => (h4 i x y a b).keep k⟩
theorem alike_flat {d : D} (h : FlatOk d) (n : Nat) (M : Mem) : m_l_alike (n + 1) [d, d] M = .ok (.bl true) M := by
  show endS (b_l_alike (m_l_alike n) [some d, some d, none] M) = _
  unfold b_l_alike
  cases d with
  | str x =>
    have h' : PyData.strOk x = true := h
    have e : mEq (.str x) (.str x) M = some (.bl true, M) := by
      rw [mEq_eq, eqD_pure (n := 0) (m := 0) (by simpa [pureD] using h') (by simpa [pureD] using h') (by decide) (by decide)]; simp [pyD, PyData.eqv]
    simp [e]
  | tup xs => exact h.elim
  | ref n => exact h.elim
  | err x => exact h.elim
  | _ => simp
theorem alike_same : ∀ (f n : Nat) (d e : D) (M : Mem), n < f → SameN M n d e → Ret (m_l_alike f [d, e] M) (TL.Gives M (.bl true))
  | 0, _, _, _, _, h, _ => by omega
  | f + 1, 0, d, e, M, _, ⟨h, he⟩ => by subst he; rw [alike_flat h]; exact .ok ⟨rfl, Keep.refl _⟩
  | f + 1, n + 1, d, e, M, _, .inl ⟨h, he⟩ => by subst he; rw [alike_flat h]; exact .ok ⟨rfl, Keep.refl _⟩
  | f + 1, n + 1, d, e, M, hf, .inr ⟨xs, ys, hde, hl, hm, hs⟩ => by
    show Ret (endS (b_l_alike (m_l_alike f) [some d, some e, none] M)) _
    have hr : RngOk (ys.length : Int) := rngOk_nat (by omega)
    have fin : ∀ env : TL.Env, env[0]? = some (some d) → env[1]? = some (some e) → env.length = 3 → Ret (compL (fun _ => True) 2 tYesD (eCall (m_l_alike f) (aCons (eBin mIdx (eVar 0) (eVar 2)) (aCons (eBin mIdx (eVar 1) (eVar 2)) aNil))) M.length env (rngItems 0 ys.length) (M ++ [.lst []]))
        (fun _ M2 => Keep M M2 ∧ nAll [.ref M.length] M2 = some (.bl true, M2)) := by
      intro env h0 h1 h3
      refine Ret.comp (fun _ => .bl true) (fun _ _ => trivial) (by rw [rng_length]; omega) (fun x hx M' k' => ?_) fun M2 k2 a2 => ⟨k2, ?_⟩
      · obtain ⟨i, hi, rfl⟩ := mem_rng hx
        have e2 : (env.set 2 (some (D.int (0 + (i : Int)))))[2]? = some (some (D.int (0 + (i : Int)))) := List.getElem?_set_self (by omega)
        have e0 : (env.set 2 (some (D.int (0 + (i : Int)))))[0]? = some (some d) := by rw [List.getElem?_set_ne (by decide)]; exact h0
        have e1 : (env.set 2 (some (D.int (0 + (i : Int)))))[1]? = some (some e) := by rw [List.getElem?_set_ne (by decide)]; exact h1
        have gx : xs[i]? = some xs[i] := List.getElem?_eq_getElem (by omega)
        have gy : ys[i]? = some ys[i] := List.getElem?_eq_getElem hi
        have ix : mIdx d (.int (i : Int)) M' = some (xs[i], M') := by
          rcases hde with ⟨rfl, rfl⟩ | ⟨a, b, rfl, rfl, sa, sb⟩
          · simp [atI_nat gx]
          · simp [k'.seq sa, atI_nat gx]
        have iy : mIdx e (.int (i : Int)) M' = some (ys[i], M') := by
          rcases hde with ⟨rfl, rfl⟩ | ⟨a, b, rfl, rfl, sa, sb⟩
          · simp [atI_nat gy]
          · simp [k'.seq sb, atI_nat gy]
        simp only [Int.zero_add] at e0 e1 e2 ⊢
        simp [e0, e1, e2, ix, iy]
        exact alike_same f n _ _ M' (by omega) ((hs i _ _ gx gy).keep k')
      · have := nAll_bls (M := M2) (n := M.length) (bs := (rngItems 0 ys.length).map fun _ => true) (seqAt_lst (by rw [a2]; simp))
        rw [this]
        simp
    unfold b_l_alike
    rcases hde with ⟨rfl, rfl⟩ | ⟨a, b, rfl, rfl, sa, sb⟩
    · simp [hl, hr]
      refine Ret.bindQ (fin _ rfl rfl rfl) ?_
      rintro _ M2 ⟨k2, e2⟩
      simp [e2]
      exact .ok ⟨rfl, k2⟩
    · simp [hl, hr, mIsi_ref sa, mIsi_ref sb, sa, sb]
      refine Ret.bindQ (fin _ rfl rfl rfl) ?_
      rintro _ M2 ⟨k2, e2⟩
      simp [e2]
      exact .ok ⟨rfl, k2⟩
/-! data without memory are the same as themselves -/
mutual
def smallD : D → Bool
  | .tup xs => decide (xs.length ≤ 1000) && smallL xs
  | _ => true
def smallL : List D → Bool
  | [] => true
  | x :: xs => smallD x && smallL xs
end
theorem small_at : ∀ {xs : List D} {i : Nat} {x : D}, smallL xs = true → xs[i]? = some x → smallD x = true
  | [], _, _, _, h => by simp at h
  | y :: xs, 0, x, h, e => by simp at e; subst e; exact (Bool.and_eq_true_iff.mp (by simpa [smallL] using h)).1
  | y :: xs, i + 1, x, h, e => small_at (Bool.and_eq_true_iff.mp (show (smallD y && smallL xs) = true by simpa [smallL] using h)).2 (by simpa using e)
theorem pure_at : ∀ {xs : List D} {n i : Nat} {x : D}, pureL xs n = true → xs[i]? = some x → pureD x n = true
  | [], _, _, _, _, h => by simp at h
  | y :: xs, n, 0, x, h, e => by simp at e; subst e; exact (Bool.and_eq_true_iff.mp (by simpa [pureL] using h)).1
  | y :: xs, n, i + 1, x, h, e => pure_at (Bool.and_eq_true_iff.mp (show (pureD y n && pureL xs n) = true by simpa [pureL] using h)).2 (by simpa using e)
theorem same_pure {M : Mem} : ∀ (n : Nat) (d : D), pureD d n = true → smallD d = true → SameN M n d d
  | 0, d, h, s => by
    cases d with
    | tup xs => simp [pureD] at h
    | ref n => simp [pureD] at h
    | err n => simp [pureD] at h
    | str x => exact ⟨show PyData.strOk x = true by simpa [pureD] using h, rfl⟩
    | _ => exact ⟨trivial, rfl⟩
  | n + 1, d, h, s => by
    cases d with
    | tup xs =>
      have h' : pureL xs n = true := by simpa [pureD] using h
      have s' : xs.length ≤ 1000 ∧ smallL xs = true := by simpa [smallD] using s
      refine .inr ⟨xs, xs, .inl ⟨rfl, rfl⟩, rfl, (Nat.le_trans s'.1 (by decide)), fun i x y hx hy => ?_⟩
      rw [hx] at hy
      cases hy
      exact same_pure n x (pure_at h' hx) (small_at s'.2 hx)
    | ref n => simp [pureD] at h
    | err n => simp [pureD] at h
    | str x => exact .inl ⟨show PyData.strOk x = true by simpa [pureD] using h, rfl⟩
    | _ => exact .inl ⟨trivial, rfl⟩
/-- a thing without memory is alike to itself -/
theorem alike_pure {d : D} {n f : Nat} (h : pureD d n = true) (s : smallD d = true) (hf : n < f) (M : Mem) : ∃ M', m_l_alike f [d, d] M = .ok (.bl true) M' ∧ Keep M M' :=
  gives_of (alike_same f n d d M hf (same_pure n d h s))
end CF
end
section
set_option maxHeartbeats 4000000
namespace LW
open PySem PySem.Spec PyProof.Rows L2 TL RL CM CW TLQ
theorem joinL_append {S : List Nat} : ∀ {q r : List (List Nat)}, q ≠ [] → r ≠ [] → joinL S (q ++ r) = joinL S q ++ (S ++ joinL S r)
  | [], _, h, _ => absurd rfl h
  | [p], [], _, h => absurd rfl h
  | [p], r :: rs, _, _ => rfl
  | p :: q :: qs, r, _, h => by
    have ih := joinL_append (S := S) (q := q :: qs) (r := r) (by simp) h
    show p ++ (S ++ joinL S ((q :: qs) ++ r)) = (p ++ (S ++ joinL S (q :: qs))) ++ (S ++ joinL S r)
    rw [ih]
    simp
theorem joinL_in {S : List Nat} {p q r : List (List Nat)} (h : q ≠ []) : joinL S (p ++ (joinL S q :: r)) = joinL S (p ++ (q ++ r)) := by
  have mid : joinL S (joinL S q :: r) = joinL S (q ++ r) := by
    cases r with
    | nil => rw [List.append_nil]; rfl
    | cons r0 rs => rw [joinL_append h (by simp)]; rfl
  cases p with
  | nil => exact mid
  | cons p0 ps => rw [joinL_append (by simp) (by simp), joinL_append (by simp) (by simp [h]), mid]
theorem join_in {sp : Str} {p q r : List Str} (h : q ≠ []) : Txt.join sp (p ++ (Txt.join sp q :: r)) = Txt.join sp (p ++ (q ++ r)) := by
  have e : ∀ x y : Str, tl x = tl y → x = y := fun x y h => by
    cases x with | mk a => cases y with | mk b => cases a; cases b; cases h; rfl
  refine e _ _ ?_
  rw [join_eq, join_eq, join_eq, tl_join, tl_join, List.map_append, List.map_cons, tl_join, joinL_in (by simpa using h), List.map_append, List.map_append]
theorem rw_ne (r : Rule) : rw r ≠ [] := fun e => by have := (rw_len r).1; rw [e] at this; simp at this
theorem text_unit {r : Rule} (hp : r ≠ .point) (x : Str) (hx : x = Txt.join (Str.ofString " ") (lw r.last)) : Txt.join (Str.ofString " ") [Str.ofString "unit", nW r.to, nW r.lead, capW r.cap, textR r.inner, x] = textR r := by
  have hl : lw r.last ≠ [] := by
    cases r.last with
    | none => simp [lw]
    | some l => exact rw_ne l
  have e1 := join_in (sp := Str.ofString " ") (p := [Str.ofString "unit", nW r.to, nW r.lead, capW r.cap]) (r := [x]) (rw_ne r.inner)
  have e2 := join_in (sp := Str.ofString " ") (p := [Str.ofString "unit", nW r.to, nW r.lead, capW r.cap] ++ rw r.inner) (r := []) hl
  show Txt.join (Str.ofString " ") ([Str.ofString "unit", nW r.to, nW r.lead, capW r.cap] ++ (textR r.inner :: [x])) = _
  unfold textR
  rw [e1, hx, ← List.append_assoc, e2, List.append_nil, rw_unit hp]
theorem text_len {r : Rule} (hg : r.good) (hu : r.units ≤ 100) : (textR r).length ≤ 10000 := by
  have h1 := rw_len r
  have h2 := sum_le' (rw_wd r hg)
  have := join_len (ws := rw r) (k := 5 * (rw r).length) h2
  show (Txt.join (Str.ofString " ") (rw r)).length ≤ _
  omega
theorem written_ok : ∀ (n : Nat) (r : Rule) (M : Mem), r.depth < n → r.depth ≤ 60 → r.units ≤ 100 → r.good → Ret (m_l_written n [r.toD] M) (TL.Gives M (.str (textR r)))
  | 0, _, _, h, _, _, _ => by omega
  | n + 1, r, M, h, h6, hu, hg => by
    show Ret (endS (b_l_written (m_l_written n) [some r.toD, none, none, none] M)) _
    unfold b_l_written
    have ep : mEq r.toD (.tup [.str (Str.ofString "point")]) M = some (.bl (decide (r = .point)), M) := mEq_point h6
    by_cases hp : r = .point
    · subst hp
      simp only [decide_true] at ep
      simp [ep]
      exact TL.Ret.ok (P := TL.Gives M _) ⟨rfl, Keep.refl _⟩
    · simp only [hp, decide_false] at ep
      obtain ⟨g1, g2, g3, g4, g5, g6, g7⟩ := good_nums hg hp
      obtain ⟨p1, p2⟩ := parts_depth hp
      obtain ⟨q1, q2, q3⟩ := parts_units hp
      have s1 := nStr_nW (i := r.to) (by omega) (by omega)
      have s2 := nStr_nW (i := r.lead) (by omega) (by omega)
      have cw : ∀ M' : Mem, (match r.cap with | none => True | some c => nStr [.int c] M' = some (.str (capW r.cap), M')) := by
        intro M'
        cases hc : r.cap with
        | none => trivial
        | some c => have := g5 c hc; exact nStr_nW (i := c) (by omega) (by omega) M'
      have t1 := text_len g6 (by omega)
      -- the tail, whatever the last one's text
      have fin : ∀ (M1 : Mem) (x : Str), Keep M M1 → x = Txt.join (Str.ofString " ") (lw r.last) → x.length ≤ 10000 →
          SRet ((sSeq (sAsg (gOne 3) (eLst (aCons (eC (.str (Str.ofString "unit"))) (aCons (eCallO nStr (aCons (eBin mIdx (eVar 0) (eC (.int 1))) aNil)) (aCons (eCallO nStr (aCons (eBin mIdx (eVar 0) (eC (.int 2))) aNil)) (aCons (eVar 1) aNil))))))
    (sSeq (sExpr (eMeth "list" mAppend (eVar 3) (aCons (eCall (m_l_written n) (aCons (eBin mIdx (eVar 0) (eC (.int 4))) aNil)) aNil)))
    (sRet (eMeth "str" mJoin (eC (.str (Str.ofString " "))) (aCons (eBin mAdd (eVar 3) (eLst (aCons (eVar 2) aNil))) aNil))))) [some r.toD, some (.str (capW r.cap)), some (.str x), none] M1) (fun _ _ => False) (TL.Gives M (.str (textR r))) := by
        intro M1 x k1 hx hxl
        rw [toD_unit hp]
        have sq0 : seqAt (M1 ++ [MO.lst [.str (Str.ofString "unit"), .str (nW r.to), .str (nW r.lead), .str (capW r.cap)]]) M1.length = some [.str (Str.ofString "unit"), .str (nW r.to), .str (nW r.lead), .str (capW r.cap)] := seqAt_lst (at_len _ _)
        simp [-nStr_int, s1, s2, sq0]
        refine SRet.thenQ (written_ok n r.inner _ (by omega) (by omega) (by omega) g6) ?_
        rintro _ M2 ⟨rfl, k2⟩
        have a2 := k2.at (at_len M1 _)
        have ap := mAppend_ok (y := .str (textR r.inner)) a2 (by simp)
        have lt2 := lt_of_at a2
        have c1 : (M2.set M1.length (.lst ([.str (Str.ofString "unit"), .str (nW r.to), .str (nW r.lead), .str (capW r.cap)] ++ [.str (textR r.inner)])))[M1.length]? = some (.lst [.str (Str.ofString "unit"), .str (nW r.to), .str (nW r.lead), .str (capW r.cap), .str (textR r.inner)]) := List.getElem?_set_self lt2
        have k3 : Keep M (M2.set M1.length (.lst ([.str (Str.ofString "unit"), .str (nW r.to), .str (nW r.lead), .str (capW r.cap)] ++ [.str (textR r.inner)]))) := k1.trans (((Keep.more M1 _).trans k2).setNew (Nat.le_refl _))
        simp only [List.cons_append, List.nil_append] at ap c1 k3
        have l3 : (M2.set M1.length (.lst [.str (Str.ofString "unit"), .str (nW r.to), .str (nW r.lead), .str (capW r.cap), .str (textR r.inner)])).length = M2.length := List.length_set ..
        simp [-mAdd_ref, ap]
        generalize M2.set M1.length (.lst [.str (Str.ofString "unit"), .str (nW r.to), .str (nW r.lead), .str (capW r.cap), .str (textR r.inner)]) = M3 at *
        have ad := mAdd_lists (M := M3 ++ [.lst [.str x]]) (n := M1.length) (m := M3.length) ((Keep.more _ _).at c1) (at_len _ _) (by simp)
        simp only [List.cons_append, List.nil_append] at ad
        have e0 : (Str.ofString " ").length = 1 := by decide +kernel
        have hw := rw_wd r hg
        have ws := wd_unit.len
        have wt := (wd_num g1 g2).len
        have wl := (wd_num g3 g4).len
        have wc : (capW r.cap).length ≤ 5 := by
          cases hc : r.cap with
          | none => exact wd_dash.len
          | some c => have := g5 c hc; exact (wd_num (by omega) (by omega)).len
        have j : mJoin (.str (Str.ofString " ")) [.ref (M3.length + 1)] (M3 ++ [.lst [.str x], .lst [.str (Str.ofString "unit"), .str (nW r.to), .str (nW r.lead), .str (capW r.cap), .str (textR r.inner), .str x]]) = some (.str (textR r), M3 ++ [.lst [.str x], .lst [.str (Str.ofString "unit"), .str (nW r.to), .str (nW r.lead), .str (capW r.cap), .str (textR r.inner), .str x]]) := by
          rw [mJoin_ref, seqAt_lst (xs := ([Str.ofString "unit", nW r.to, nW r.lead, capW r.cap, textR r.inner, x]).map D.str) (by rw [at_newK]; rfl)]
          simp only
          rw [joinO_strs (by rw [e0]; simp; omega), text_unit hp x hx]
          rfl
        rw [← l3]
        simp [-mAdd_ref, ad, j]
        exact ⟨rfl, k3.trans (Keep.more _ _)⟩
      have ht : ∀ Tl : MS, (∀ (M1 : Mem) (x : Str), Keep M M1 → x = Txt.join (Str.ofString " ") (lw r.last) → x.length ≤ 10000 → SRet (Tl [some r.toD, some (.str (capW r.cap)), some (.str x), none] M1) (fun _ _ => False) (TL.Gives M (.str (textR r)))) →
          Ret (endS ((sSeq (sIf (TL.tB (eBin mEq (eVar 0) (eTup (aCons (eC (.str (Str.ofString "point"))) aNil)))) (sRet (eC (.str (Str.ofString "point")))) sNil)
    (sSeq (sAsg (gOne 1) (eC (.str (Str.ofString "-"))))
    (sSeq (sAsg (gOne 2) (eC (.str (Str.ofString "-"))))
    (sSeq (sIf (TL.tB (eBin mIsNot (eBin mIdx (eVar 0) (eC (.int 3))) (eC .non))) (sAsg (gOne 1) (eCallO nStr (aCons (eBin mIdx (eVar 0) (eC (.int 3))) aNil))) sNil)
    (sSeq (sIf (TL.tB (eBin mIsNot (eBin mIdx (eVar 0) (eC (.int 5))) (eC .non))) (sAsg (gOne 2) (eCall (m_l_written n) (aCons (eBin mIdx (eVar 0) (eC (.int 5))) aNil))) sNil) Tl))))) [some r.toD, none, none, none] M)) (TL.Gives M (.str (textR r))) := by
        intro Tl hT
        rw [toD_unit hp] at ep hT ⊢
        have done : ∀ o : SOut, SRet o (fun _ _ => False) (TL.Gives M (.str (textR r))) → Ret (endS o) (TL.Gives M (.str (textR r))) := fun o h => Ret.endS (SRet.imp h (fun _ _ z => z.elim) fun _ _ z => z)
        cases hl : r.last with
        | none =>
          rw [hl] at hT
          have h0 := fun M1 k => hT M1 (Str.ofString "-") k (by rfl) (by decide +kernel)
          cases hc : r.cap with
          | none =>
            rw [hc] at ep h0
            rw [hl] at ep
            simp only [capD, lastD, capW] at ep h0 ⊢
            simp [ep]
            exact done _ (h0 M (Keep.refl _))
          | some c =>
            have := g5 c hc
            have s3 := nStr_nW (i := c) (by omega) (by omega) M
            rw [hc] at ep h0
            rw [hl] at ep
            simp only [capD, lastD, capW] at ep h0 ⊢
            simp [-nStr_int, ep, s3]
            exact done _ (h0 M (Keep.refl _))
        | some l =>
          obtain ⟨c, hc⟩ := cap_last hl
          have := g5 c hc
          have s3 := nStr_nW (i := c) (by omega) (by omega) M
          have hu2 := q2 l hl
          have hd2 := p2 l hl
          obtain ⟨M1, e1, k1⟩ := gives_of (written_ok n l M (by omega) (by omega) (by omega) (g7 l hl))
          have h0 := hT M1 (textR l) k1 (by rw [hl]; rfl) (text_len (g7 l hl) (by omega))
          have nn : isNon l.toD = false := isNon_toD
          rw [hc] at ep h0 ⊢
          rw [hl] at ep h0
          simp only [capD, lastD, capW] at ep h0 ⊢
          simp [-nStr_int, ep, s3, nn, e1]
          exact done _ h0
      exact ht _ fin
theorem notIn_trues {M : Mem} {k : Nat} {α : Type} {xs : List α} (h : seqAt M k = some (xs.map fun _ => D.bl true)) : mNotIn (.bl false) (.ref k) M = some (.bl true, M) := by
  have e : inD M (.bl false) (.ref k) = some false := by
    show (match seqAt M k with | some xs => if flatD (.bl false) = true ∧ xs.all flatD = true then some (inF (.bl false) xs) else none | none => none) = _
    rw [h]
    have a1 : (xs.map fun _ => D.bl true).all flatD = true := by rw [List.all_map]; exact List.all_eq_true.mpr fun _ _ => rfl
    have a2 : inF (.bl false) (xs.map fun _ => D.bl true) = false := by
      unfold inF
      rw [List.any_map]
      exact List.any_eq_false.mpr fun _ _ => by simp [eqF]
    simp only [a1, a2, flatD, and_self, if_true]
  unfold mNotIn
  rw [e]; rfl
mutual
def nb : D → Bool
  | .bl _ => false
  | .tup xs => nbL xs
  | _ => true
def nbL : List D → Bool
  | [] => true
  | x :: xs => nb x && nbL xs
end
theorem nb_at : ∀ {xs : List D} {i : Nat} {x : D}, nbL xs = true → xs[i]? = some x → nb x = true
  | [], _, _, _, h => by simp at h
  | y :: xs, 0, x, h, e => by simp at e; subst e; exact (Bool.and_eq_true_iff.mp (by simpa [nbL] using h)).1
  | y :: xs, i + 1, x, h, e => nb_at (Bool.and_eq_true_iff.mp (show (nb y && nbL xs) = true by simpa [nbL] using h)).2 (by simpa using e)
theorem rule_nb : ∀ r : Rule, nb r.toD = true
  | .point => by simp [Rule.toD, nb, nbL]
  | .unit to lead cap inner => by
    have := rule_nb inner
    cases cap <;> simp [Rule.toD, nb, nbL, capD, this]
  | .unitL to lead cap inner last => by
    have := rule_nb inner
    have := rule_nb last
    simp [Rule.toD, nb, nbL, *]
theorem rule_small : ∀ r : Rule, CF.smallD r.toD = true
  | .point => by simp [Rule.toD, CF.smallD, CF.smallL]
  | .unit to lead cap inner => by
    have := rule_small inner
    cases cap <;> simp [Rule.toD, CF.smallD, CF.smallL, capD, this]
  | .unitL to lead cap inner last => by
    have := rule_small inner
    have := rule_small last
    simp [Rule.toD, CF.smallD, CF.smallL, *]
theorem alike_self : ∀ (f n : Nat) (d : D) (M : Mem), n < f → pureD d n = true → CF.smallD d = true → nb d = true → Ret (m_l_alike f [d, d] M) (TL.Gives M (.bl true))
  | 0, _, _, _, h, _, _, _ => by omega
  | f + 1, n, d, M, hn, hp, hs, hb => by
    show Ret (endS (b_l_alike (m_l_alike f) [some d, some d, none] M)) _
    unfold b_l_alike
    cases d with
    | tup xs =>
      obtain ⟨n, rfl⟩ : ∃ k, n = k + 1 := by cases n with | zero => simp [pureD] at hp | succ k => exact ⟨k, rfl⟩
      have hp' : pureL xs n = true := by simpa [pureD] using hp
      have hs' : xs.length ≤ 1000 ∧ CF.smallL xs = true := by simpa [CF.smallD] using hs
      have hr : RngOk (xs.length : Int) := rngOk_nat (by omega)
      simp [hr]
      refine Ret.bindQ (P := fun _ M2 => Keep M M2 ∧ seqAt M2 M.length = some ((rngItems 0 xs.length).map fun _ => D.bl true)) ?_ ?_
      · refine Ret.comp (fun _ => .bl true) (fun _ _ => trivial) (by rw [rng_length]; omega) (fun x hx M' k' => ?_) fun M2 k2 a2 => ⟨k2, seqAt_lst a2⟩
        obtain ⟨i, hi, rfl⟩ := mem_rng hx
        have gx : xs[i]? = some xs[i] := List.getElem?_eq_getElem hi
        have ix := atI_nat gx
        simp [ix]
        exact alike_self f n _ M' (by omega) (CF.pure_at hp' gx) (CF.small_at hs'.2 gx) (nb_at (by simpa [nb] using hb) gx)
      rintro _ M2 ⟨k2, a2⟩
      have ni := notIn_trues a2
      simp [ni]
      exact TL.Ret.ok (P := TL.Gives M _) ⟨rfl, k2⟩
    | str x =>
      have h' : PyData.strOk x = true := by cases n <;> simpa [pureD] using hp
      have e : mEq (.str x) (.str x) M = some (.bl true, M) := by
        rw [mEq_text]; simp
      simp [e]
      exact TL.Ret.ok (P := TL.Gives M _) ⟨rfl, Keep.refl _⟩
    | ref m => cases n <;> simp [pureD] at hp
    | err m => cases n <;> simp [pureD] at hp
    | non => simp; exact TL.Ret.ok (P := TL.Gives M _) ⟨rfl, Keep.refl _⟩
    | bl b => simp [nb] at hb
    | int i => simp; exact TL.Ret.ok (P := TL.Gives M _) ⟨rfl, Keep.refl _⟩
def Tru (d : D) (_ : Mem) : Prop := d = .bl true
structure Ru (r : Rule) : Prop where
  g : r.good
  d : r.depth ≤ 4
  u : r.units ≤ 7
def LInv (r1 r2 : Rule) (t : Nat) (k : Nat) : List D → TL.Env → Mem → Prop := fun ds env M => ∃ e3 e4 e5 : Option D, env = [some (.ref 0), some (.ref t), some (.ref k), e3, e4, e5] ∧ seqAt M k = some [r1.toD, r2.toD] ∧ ∀ d ∈ ds, ∃ i : Nat, i < 4 ∧ d = .int (i : Nat)
theorem turn {r1 r2 : Rule} (h1 : Ru r1) (h2 : Ru r2) {t k : Nat} {d : D} {ds : List D} {env : TL.Env} {M : Mem} (h : LInv r1 r2 t k (d :: ds) env M) : ∃ env1, gOne 3 d env = some env1 ∧ SRet (lp_law_0 env1 M) (LInv r1 r2 t k ds) Tru := by
  obtain ⟨e3, e4, e5, rfl, hk, hd⟩ := h
  obtain ⟨i, hi, rfl⟩ := hd d List.mem_cons_self
  refine ⟨_, rfl, ?_⟩
  obtain ⟨r, hr, he⟩ : ∃ r, Ru r ∧ atI [r1.toD, r2.toD] ((i : Int) % 2) = some r.toD := by
    rcases (show i = 0 ∨ i = 1 ∨ i = 2 ∨ i = 3 by omega) with rfl | rfl | rfl | rfl
    · exact ⟨r1, h1, by simp⟩
    · exact ⟨r2, h2, by simp⟩
    · exact ⟨r1, h1, by simp⟩
    · exact ⟨r2, h2, by simp⟩
  unfold lp_law_0
  have h2' : (0 : Int) < 2 := by decide
  obtain ⟨M1, e1, k1⟩ := gives_of (show_rule_ok (M := M) (by have := hr.d; omega) (by have := hr.u; omega) hr.g)
  obtain ⟨M2, e2, k2⟩ := gives_of (written_ok 14 r M1 (by have := hr.d; omega) (by have := hr.d; omega) (by have := hr.u; omega) hr.g)
  have e3 : m_l_alike 14 [.str (textR r), .str (textR r)] M2 = .ok (.bl true) M2 := by
    show endS (b_l_alike (m_l_alike 13) [some (.str (textR r)), some (.str (textR r)), none] M2) = _
    unfold b_l_alike
    have e : mEq (.str (textR r)) (.str (textR r)) M2 = some (.bl true, M2) := by rw [mEq_text]; simp
    simp [e]
  obtain ⟨M4, e4, k4⟩ := gives_of (read_rule_ok (M := M2) hr.d (by have := hr.u; omega) hr.g)
  obtain ⟨M5, e5, k5⟩ := gives_of (alike_self 14 _ r.toD M4 (by have := hr.d; omega) (Rule.pure_toD r) (rule_small r) (rule_nb r))
  simp [hk, he, e1, e2, e3, e4, e5]
  exact ⟨_, _, _, rfl, (((k1.trans k2).trans k4).trans k5).seq hk, fun d hd' => hd d (List.mem_cons_of_mem _ hd')⟩
theorem law_true (ns : List Int) (hl : ns.length ≤ 63) : ∃ M', m_law [.ref 0] [.rol (ns.map D.int)] = .ok (.bl true) M' := by
  suffices h : Ret (m_law [.ref 0] [.rol (ns.map D.int)]) Tru by
    obtain ⟨d, M, e, rfl⟩ := h
    exact ⟨M, e⟩
  show Ret (endS (b_law [some (.ref 0), none, none, none, none, none] [.rol (ns.map D.int)])) _
  unfold b_law
  have hs : ([.rol (ns.map D.int)] : Mem)[0]? = some (.rol (ns.map D.int)) := rfl
  obtain ⟨way, et⟩ := tape_ok hs hl
  have T0 := tape_at hs hl (way := way)
  generalize ([.rol (ns.map D.int)] : Mem) = M0 at et T0
  generalize M0.length = t at et T0
  simp [et]
  refine Ret.bindQ (any_rule T0) ?_
  rintro _ M1 ⟨r1, rfl, g1, d1, u1, A1⟩
  simp
  refine Ret.bindQ (any_rule A1.tape) ?_
  rintro _ M2 ⟨r2, rfl, g2, d2, u2, A2⟩
  simp [rngOk_of]
  refine Ret.endS ?_
  refine SRet.forQ (LInv r1 r2 t M2.length) ⟨_, _, _, rfl, seqAt_lst (at_len _ _), fun d hd => ?_⟩ (fun _ _ _ _ => trivial) (fun d ds env M h => turn ⟨g1, d1, u1⟩ ⟨g2, d2, u2⟩ h) ?_
  · obtain ⟨i, hi, rfl⟩ := mem_rng hd
    exact ⟨i, by omega, by simp⟩
  intro env M h
  obtain ⟨e3, e4, e5, rfl, _⟩ := h
  simp
  exact SRet.ret rfl
end LW
end
set_option maxHeartbeats 0
open PySem PySem.W PySem.Calls PyProof.Rows
theorem PySem.Challenge.cw_tally_k03_rules_written_holds : PySem.Challenge.rw_tally_k03_rules_written.Holds := by
  w_on; o_law
  refine HandSHeadRun.head_any (r := OpenLaw.row PySem.Challenge.rw_tally_k03_rules_written) (q := view (OpenLaw.row PySem.Challenge.rw_tally_k03_rules_written).prog [22]) (H := LW.hk) (ob := LW.ob) (M := 4000) (loose := LW.loose) (d := HandSHeadRun.topDef (OpenLaw.row PySem.Challenge.rw_tally_k03_rules_written).prog 22) (kwd := []) LW.ob_eq
    (by kernel_rfl) (fun s => by kernel_rfl) LW.run (by kernel_rfl) (by kernel_rfl) (by kernel_rfl) (by rfl) (by first | assumption | decide +kernel) (by decide +kernel) ⟨rfl, rfl, rfl, rfl, rfl, by decide +kernel⟩ ?hw ?hc
  case hw => w_witness2
  case hc =>
    refine TL.walk_ofW (l := PySem.Challenge.rw_tally_k03_rules_written) (n := 63) (k := 18) (x := "_law_script") (CX := fun w => L2N.CX (PySem.Challenge.rw_tally_k03_rules_written).prog w) rfl (by decide) (by kernel_rfl) ⟨rfl, by decide, by decide⟩ ?F (fun _ _ _ _ _ z => TL.cx_false z)
    intro w mg fa h Y G hmg0
    obtain ⟨K, KX, c⟩ := Y
    have hmg : mg ("law" : PySem.Str) = some (.ref fa) := by
      have e : (HandSHeadRun.topDef (OpenLaw.row PySem.Challenge.rw_tally_k03_rules_written).prog 22).name = ("law" : PySem.Str) := by kernel_rfl
      rw [← e]
      exact hmg0
    have Z : LW.Facts K mg := LW.facts KX G c
    have hfa : fa = He.ga K "law" := by
      have e := hmg.symm.trans Z.mg_law
      cases e
      rfl
    subst hfa
    obtain ⟨fd, F⟩ := Z.fn_law
    have b := L2.FunD.bindsA (ps := ["_law_script"]) F fun _ _ _ _ _ _ us hl => match us, hl with | [_], _ => rfl
    exact ⟨K, fd, TL.spD K 1 LW.m_law, KX, fun s v => b s [v] rfl, fun H a ns hl hO hS => TL.law_sp hO hS (LW.law_true ns hl), fun base _ _ => LW.ok_law Z F⟩

