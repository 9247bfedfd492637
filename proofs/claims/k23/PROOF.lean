import PyProof.Rows.All
import PySem.Challenge.RW_lightbook_k23_leading_lines
import Wide.All
import OpenK.AllK
import Wide.FinOn
import HandS.ForMost
import HandS.Exc
import HandS.TryMany
import HandS.ExcInit
import HandS.ExcField
import HandS.Wide
import HandS.IsInst
import HandS.Deep
import HandS.EndBits
import HandS.CallSlots
import HandS.TupAny
import HandS.TupLe
import HandS.Strs
import HandS.More
import HandS.Flow
import HandS.SortInts
import KE.KExcSuper
import HandS.WordsExc
set_option Elab.async false
set_option linter.all false
set_option maxRecDepth 100000
set_option maxHeartbeats 8000000
set_option autoImplicit false
/-! A value layer: pure values, and how the heap bears them. -/
namespace VL
open PySem PySem.Spec PyProof.Rows L2

/-- a pure value -/
inductive PV where
  | non | bl (b : Bool) | int (i : Int) | str (x : Str)
  | tup (xs : List PV) | lst (xs : List PV)
  /-- a list that is only read (the script) -/
  | src (xs : List PV)
  | dct (kvs : List (Key × PV))
  | obj (c : Nat) (fs : List (Str × PV))
  /-- a built-in class -/
  | ty (n : String)
  deriving Inhabited

/-- what comes of a computation: a value, an own exception (class, fields), or no word -/
inductive R (α : Type) where
  | ok (a : α) | exc (c : Nat) (fs : List (Str × PV)) | stuck
@[inline] def R.bind {α β : Type} (x : R α) (f : α → R β) : R β := match x with
  | .ok a => f a
  | .exc c fs => .exc c fs
  | .stuck => .stuck
theorem bind_ok {α β : Type} (a : α) (f : α → R β) : (R.ok a).bind f = f a := rfl
theorem bind_exc {α β : Type} (c fs) (f : α → R β) : (R.exc c fs).bind f = .exc c fs := rfl
theorem bind_stuck {α β : Type} (f : α → R β) : (R.stuck : R α).bind f = .stuck := rfl

/-- a part of a heap -/
def Sub (Hs H : Hp) : Prop := ∀ a o, Hs a = some o → H a = some o
theorem Sub.refl (H : Hp) : Sub H H := fun _ _ h => h
theorem Sub.trans {H H1 H2 : Hp} (a : Sub H H1) (b : Sub H1 H2) : Sub H H2 := fun c o h => b c o (a c o h)
theorem Sub.none {Hs H : Hp} (s : Sub Hs H) {a : Addr} (h : H a = .none) : Hs a = .none := by
  cases q : Hs a with
  | none => rfl
  | some o => rw [s a o q] at h; cases h
theorem Sub.upd {Hs H : Hp} {a : Addr} {o : HO} (s : Sub Hs H) (n : Hs a = .none) : Sub Hs (upd H a o) := fun b u h => by
  rw [upd_ne (ne_of_none h n)]; exact s b u h
theorem Sub.upd2 {Hs H : Hp} {a : Addr} {o : HO} (s : Sub Hs H) : Sub (L2.upd Hs a o) (L2.upd H a o) := fun b u h => by
  by_cases e : b = a
  · subst e; rw [upd_same] at h ⊢; exact h
  · rw [upd_ne e] at h ⊢; exact s b u h
theorem Sub.new {H : Hp} {a : Addr} {o : HO} (n : H a = .none) : Sub H (L2.upd H a o) := (Sub.refl H).upd n
theorem Sub.seqL {K : PySem.W.Frag} {H H' : Hp} {a : Addr} {xs : List V} (e : Sub H H') (h : SqL K H a xs) : SqL K H' a xs := by
  rcases h with (h | ⟨o, h⟩) | h
  · exact .inl (.inl (e _ _ h))
  · exact .inl (.inr ⟨o, e _ _ h⟩)
  · exact .inr h
theorem Sub.seqT {K : PySem.W.Frag} {H H' : Hp} {a : Addr} {xs : List V} (e : Sub H H') (h : SqT K H a xs) : SqT K H' a xs := by
  rcases h with (h | ⟨o, h⟩) | h
  · exact .inl (.inl (e _ _ h))
  · exact .inl (.inr ⟨o, e _ _ h⟩)
  · exact .inr h

section
variable (K : PySem.W.Frag) (cl : Nat → Addr) (H : Hp)
mutual
/-- the heap bears the value at x -/
inductive Rp : V → PV → Prop
  | non : Rp .non .non
  | bl (b : Bool) : Rp (.bl b) (.bl b)
  | int (i : Int) : Rp (.int i) (.int i)
  | str (x : Str) : Rp (.str x) (.str x)
  | tup {a : Addr} {vs : List V} {xs : List PV} : SqT K H a vs → RpA vs xs → Rp (.ref a) (.tup xs)
  | lst {a : Addr} {vs : List V} {xs : List PV} : H a = some (.lst vs) → RpA vs xs → Rp (.ref a) (.lst xs)
  | src {a : Addr} {vs : List V} {xs : List PV} : SqL K H a vs → RpA vs xs → Rp (.ref a) (.src xs)
  | dct {a : Addr} {vs : List (Key × V)} {xs : List (Key × PV)} : H a = some (.dK vs) → RpK vs xs → Rp (.ref a) (.dct xs)
  | ty (n : String) : Rp (.ty n) (.ty n)
  | obj {a dx : Addr} {c : Nat} {vs : List (Str × V)} {xs : List (Str × PV)} : H a = some (.ins (cl c) dx vs) → RpF vs xs → Rp (.ref a) (.obj c xs)
inductive RpA : List V → List PV → Prop
  | nil : RpA [] []
  | cons {v : V} {vs : List V} {x : PV} {xs : List PV} : Rp v x → RpA vs xs → RpA (v :: vs) (x :: xs)
inductive RpK : List (Key × V) → List (Key × PV) → Prop
  | nil : RpK [] []
  | cons {k : Key} {v : V} {vs : List (Key × V)} {x : PV} {xs : List (Key × PV)} : Rp v x → RpK vs xs → RpK ((k, v) :: vs) ((k, x) :: xs)
inductive RpF : List (Str × V) → List (Str × PV) → Prop
  | nil : RpF [] []
  | cons {k : Str} {v : V} {vs : List (Str × V)} {x : PV} {xs : List (Str × PV)} : Rp v x → RpF vs xs → RpF ((k, v) :: vs) ((k, x) :: xs)
end
end

section
variable {K : PySem.W.Frag} {cl : Nat → Addr} {H H' : Hp}
mutual
theorem Rp.mono (s : Sub H H') : ∀ {v : V} {x : PV}, Rp K cl H v x → Rp K cl H' v x
  | _, _, .non => .non
  | _, _, .bl b => .bl b
  | _, _, .int b => .int b
  | _, _, .str b => .str b
  | _, _, .tup h r => .tup (s.seqT h) (r.mono s)
  | _, _, .lst h r => .lst (s _ _ h) (r.mono s)
  | _, _, .src h r => .src (s.seqL h) (r.mono s)
  | _, _, .dct h r => .dct (s _ _ h) (r.mono s)
  | _, _, .obj h r => .obj (s _ _ h) (r.mono s)
  | _, _, .ty n => .ty n
theorem RpA.mono (s : Sub H H') : ∀ {v : List V} {x : List PV}, RpA K cl H v x → RpA K cl H' v x
  | _, _, .nil => .nil
  | _, _, .cons h r => .cons (h.mono s) (r.mono s)
theorem RpK.mono (s : Sub H H') : ∀ {v : List (Key × V)} {x : List (Key × PV)}, RpK K cl H v x → RpK K cl H' v x
  | _, _, .nil => .nil
  | _, _, .cons h r => .cons (h.mono s) (r.mono s)
theorem RpF.mono (s : Sub H H') : ∀ {v : List (Str × V)} {x : List (Str × PV)}, RpF K cl H v x → RpF K cl H' v x
  | _, _, .nil => .nil
  | _, _, .cons h r => .cons (h.mono s) (r.mono s)
end
theorem RpA.length : ∀ {v : List V} {x : List PV}, RpA K cl H v x → v.length = x.length
  | _, _, .nil => rfl
  | _, _, .cons _ r => congrArg (· + 1) r.length
theorem RpA.get : ∀ {vs : List V} {xs : List PV} {i : Nat} {x : PV}, RpA K cl H vs xs → xs[i]? = some x → ∃ v, vs[i]? = some v ∧ Rp K cl H v x
  | _, _, _, _, .nil, e => by simp at e
  | _, _, 0, _, .cons r _, e => by simp at e; subst e; exact ⟨_, rfl, r⟩
  | _, _, i + 1, x, .cons _ t, e => by
    obtain ⟨u, h1, h2⟩ := RpA.get (i := i) (x := x) t (by simpa using e)
    exact ⟨u, by simpa using h1, h2⟩
theorem RpA.get' : ∀ {vs : List V} {xs : List PV} {i : Nat} {v : V}, RpA K cl H vs xs → vs[i]? = some v → ∃ x, xs[i]? = some x ∧ Rp K cl H v x
  | _, _, _, _, .nil, e => by simp at e
  | _, _, 0, _, .cons r _, e => by simp at e; subst e; exact ⟨_, rfl, r⟩
  | _, _, i + 1, x, .cons _ t, e => by
    obtain ⟨u, h1, h2⟩ := RpA.get' (i := i) (v := x) t (by simpa using e)
    exact ⟨u, by simpa using h1, h2⟩
theorem RpA.append : ∀ {vs ws : List V} {xs ys : List PV}, RpA K cl H vs xs → RpA K cl H ws ys → RpA K cl H (vs ++ ws) (xs ++ ys)
  | _, _, _, _, .nil, s => s
  | _, _, _, _, .cons r t, s => .cons r (t.append s)
theorem RpA.take : ∀ {vs : List V} {xs : List PV} (n : Nat), RpA K cl H vs xs → RpA K cl H (vs.take n) (xs.take n)
  | _, _, 0, _ => .nil
  | _, _, _ + 1, .nil => .nil
  | _, _, n + 1, .cons r t => .cons r (t.take n)
theorem RpA.drop : ∀ {vs : List V} {xs : List PV} (n : Nat), RpA K cl H vs xs → RpA K cl H (vs.drop n) (xs.drop n)
  | _, _, 0, r => r
  | _, _, _ + 1, .nil => .nil
  | _, _, n + 1, .cons _ t => t.drop n
theorem RpA.set {v : V} {x : PV} (r : Rp K cl H v x) : ∀ {vs : List V} {xs : List PV} (i : Nat), RpA K cl H vs xs → RpA K cl H (vs.set i v) (xs.set i x)
  | _, _, _, .nil => .nil
  | _, _, 0, .cons _ t => .cons r t
  | _, _, i + 1, .cons q t => .cons q (RpA.set r i t)
theorem RpA.rep {vs : List V} {xs : List PV} (r : RpA K cl H vs xs) : ∀ n : Nat, RpA K cl H (List.replicate n vs).flatten (List.replicate n xs).flatten
  | 0 => .nil
  | n + 1 => by
    rw [List.replicate_succ, List.replicate_succ, List.flatten_cons, List.flatten_cons]
    exact r.append (r.rep n)
theorem RpF.lookup {f : Str} {x : PV} : ∀ {vs : List (Str × V)} {xs : List (Str × PV)}, RpF K cl H vs xs → xs.lookup f = some x → ∃ v, vs.lookup f = some v ∧ Rp K cl H v x
  | _, _, .nil, h => by cases h
  | _, _, .cons (k := k) (v := v) (x := y) r t, h => by
    by_cases e : f = k
    · subst e
      simp only [List.lookup, beq_self_eq_true] at h ⊢
      cases h
      exact ⟨v, rfl, r⟩
    · have q : (f == k) = false := by simpa using e
      simp only [List.lookup, q] at h ⊢
      exact t.lookup h
theorem RpF.lookup_none {f : Str} : ∀ {vs : List (Str × V)} {xs : List (Str × PV)}, RpF K cl H vs xs → xs.lookup f = none → vs.lookup f = none
  | _, _, .nil, h => rfl
  | _, _, .cons (k := k) (v := v) (x := y) r t, h => by
    by_cases e : f = k
    · subst e
      simp only [List.lookup, beq_self_eq_true] at h
      cases h
    · have q : (f == k) = false := by simpa using e
      simp only [List.lookup, q] at h ⊢
      exact t.lookup_none h
end

/-! ### data for == -/
mutual
def PV.data : PV → Option PyData
  | .non => some .none
  | .bl b => some (.bool b)
  | .int i => some (.int i)
  | .str x => some (.str x)
  | .tup xs => (PV.datas xs).map .tuple
  | .lst xs => (PV.datas xs).map .list
  | .src xs => (PV.datas xs).map .list
  | .dct _ => none
  | .obj _ _ => none
  | .ty _ => none
def PV.datas : List PV → Option (List PyData)
  | [] => some []
  | x :: xs => (PV.data x).bind fun d => (PV.datas xs).map (d :: ·)
end
section
variable {K : PySem.W.Frag} {cl : Nat → Addr} {H : Hp}
mutual
theorem Rp.dp : ∀ {v : V} {x : PV} {d : PyData}, Rp K cl H v x → x.data = some d → Dp K H v d
  | _, _, _, .non, e => by simp only [PV.data, Option.some.injEq] at e; subst e; exact .non
  | _, _, _, .bl b, e => by simp only [PV.data, Option.some.injEq] at e; subst e; exact .bl b
  | _, _, _, .int b, e => by simp only [PV.data, Option.some.injEq] at e; subst e; exact .int b
  | _, _, _, .str b, e => by simp only [PV.data, Option.some.injEq] at e; subst e; exact .str b
  | _, _, _, .tup h r, e => by
    simp only [PV.data, Option.map_eq_some_iff] at e
    obtain ⟨ds, e1, rfl⟩ := e
    exact .tup h (r.dp e1)
  | _, _, _, .lst h r, e => by
    simp only [PV.data, Option.map_eq_some_iff] at e
    obtain ⟨ds, e1, rfl⟩ := e
    exact .lst (.of h) (r.dp e1)
  | _, _, _, .src h r, e => by
    simp only [PV.data, Option.map_eq_some_iff] at e
    obtain ⟨ds, e1, rfl⟩ := e
    exact .lst h (r.dp e1)
  | _, _, _, .dct h r, e => by simp only [PV.data] at e; cases e
  | _, _, _, .obj h r, e => by simp only [PV.data] at e; cases e
  | _, _, _, .ty n, e => by simp only [PV.data] at e; cases e
theorem RpA.dp : ∀ {v : List V} {x : List PV} {d : List PyData}, RpA K cl H v x → PV.datas x = some d → DpAll K H v d
  | _, _, _, .nil, e => by simp only [PV.datas, Option.some.injEq] at e; subst e; exact .nil
  | _, _, _, .cons h r, e => by
    simp only [PV.datas, Option.bind_eq_some_iff, Option.map_eq_some_iff] at e
    obtain ⟨d, e1, ds, e2, rfl⟩ := e
    exact .cons (h.dp e1) (r.dp e2)
end
end
end VL
namespace VL
open PySem PySem.Spec PyProof.Rows L2
abbrev St := L2.St

/-- what an expression sees: the values by slot -/
abbrev Ev := List (Option PV)
abbrev Ex := Ev → R PV

/-- from (Hs, H) to (Hs', H'): all stands as it stood, and nothing that stood is frozen anew -/
structure Ext (Hs H Hs' H' : Hp) : Prop where
  fs : Sub Hs Hs'
  sub : Sub Hs' H'
  same : Sub H H'
  nw : ∀ a, H a ≠ none → Hs a = none → Hs' a = none
theorem Ext.refl {Hs H : Hp} (s : Sub Hs H) : Ext Hs H Hs H := ⟨Sub.refl _, s, Sub.refl _, fun _ _ h => h⟩
theorem Ext.trans {Hs H Hs1 H1 Hs2 H2 : Hp} (a : Ext Hs H Hs1 H1) (b : Ext Hs1 H1 Hs2 H2) : Ext Hs H Hs2 H2 :=
  ⟨a.fs.trans b.fs, b.sub, a.same.trans b.same, fun c h n => b.nw c (fun z => by
    cases q : H c with
    | none => exact h q
    | some o => rw [a.same c o q] at z; cases z) (a.nw c h n)⟩
theorem Ext.new {Hs H : Hp} {p : Addr} {o : HO} (s : Sub Hs H) (n : H p = none) : Ext Hs H (upd Hs p o) (upd H p o) :=
  ⟨Sub.new (s.none n), s.upd2, Sub.new n, fun a h z => by rw [upd_ne (fun e => h (by rw [e]; exact n))]; exact z⟩
/-- a new object that is not frozen -/
theorem Ext.newO {Hs H : Hp} {p : Addr} {o : HO} (s : Sub Hs H) (n : H p = none) : Ext Hs H Hs (upd H p o) := ⟨Sub.refl _, s.upd (s.none n), Sub.new n, fun _ _ z => z⟩

section
variable (K : PySem.W.Frag) (cl : Nat → Addr)
structure PEnv (Hs H : Hp) (σ : St) (ρ : Ev) : Prop where
  sub : Sub Hs H
  len : ρ.length = σ.length
  at_ : ∀ (i : Nat) (v : PV), ρ[i]? = some (some v) → ∃ x, σ[i]? = some (some x) ∧ Rp K cl Hs x v
variable {α β : Type} (rel : Hp → β → α → Prop) (W : WX)
/-- what is wanted of an outcome -/
def GP (Hs H : Hp) (σ : St) (r : R α) (Q : β → Hp → Prop) : Prop := match r with
  | .ok v => ∀ x Hs' H', Ext Hs H Hs' H' → rel Hs' x v → Q x H'
  | .exc c fs => ∀ d fvs Hs' H', Ext Hs H Hs' H' → Hs' d = some (.xd fvs) → RpF K cl Hs' fvs fs → W (.ref (cl c)) (some d) σ H'
  | .stuck => False
def gv (f : Ev → R α) : St → Hp → (β → Hp → Prop) → Prop := fun σ H Q => ∃ Hs ρ, PEnv K cl Hs H σ ρ ∧ GP K cl rel W Hs H σ (f ρ) Q
abbrev tv (f : Ex) : TE := gv K cl (Rp K cl) W f
abbrev ta (f : Ev → R (List PV)) : TA := gv K cl (RpA K cl) W f
abbrev tt (f : Ev → R Bool) : TT := gv K cl (fun _ b c => b = c) W f
end

section
variable {K : PySem.W.Frag} {cl : Nat → Addr} {W : WX} {Hs Hs1 H H1 : Hp} {σ : St} {ρ : Ev}
theorem PEnv.up (E : PEnv K cl Hs H σ ρ) (s : Ext Hs H Hs1 H1) : PEnv K cl Hs1 H1 σ ρ :=
  ⟨s.sub, E.len, fun i v h => let ⟨x, e, r⟩ := E.at_ i v h; ⟨x, e, r.mono s.fs⟩⟩
section
variable {α β : Type} {rel : Hp → β → α → Prop} {r : R α} {Q Q' : β → Hp → Prop}
theorem GP.up (h : GP K cl rel W Hs H σ r Q) (s : Ext Hs H Hs1 H1) : GP K cl rel W Hs1 H1 σ r Q := by
  cases r with
  | ok v => exact fun x Hs' H' t => h x Hs' H' (s.trans t)
  | exc c fs => exact fun d fvs Hs' H' t => h d fvs Hs' H' (s.trans t)
  | stuck => exact h
theorem gv_bind {α' β' : Type} {rel' : Hp → β' → α' → Prop} {f : Ev → R α} {k : α → R α'} {Q' : β' → Hp → Prop} (E : PEnv K cl Hs H σ ρ) (h : GP K cl rel' W Hs H σ ((f ρ).bind k) Q')
    (hk : ∀ v x Hs1 H1, f ρ = .ok v → Ext Hs H Hs1 H1 → rel Hs1 x v → GP K cl rel' W Hs1 H1 σ (k v) Q' → Q x H1) : gv K cl rel W f σ H Q := by
  refine ⟨Hs, ρ, E, ?_⟩
  cases e : f ρ with
  | ok v =>
    rw [e] at h
    exact fun x Hs1 H1 s1 rx => hk v x Hs1 H1 e s1 rx (GP.up h s1)
  | exc c fs => rw [e] at h; exact h
  | stuck => rw [e] at h; exact h
theorem GP.here {v : α} {x : β} (h : GP K cl rel W Hs H σ (.ok v) Q) (s : Sub Hs H) (r : rel Hs x v) : Q x H := h x Hs H (Ext.refl s) r
end
/-- an operation's outcome -/
def opt {α : Type} : Option α → R α
  | some a => .ok a
  | none => .stuck
theorem opt_some {α : Type} (a : α) : opt (some a) = .ok a := rfl
theorem GP.opt {α β : Type} {rel : Hp → β → α → Prop} {o : Option α} {Q : β → Hp → Prop} (h : GP K cl rel W Hs H σ (opt o) Q) : ∃ w, o = some w ∧ GP K cl rel W Hs H σ (.ok w) Q := by
  cases o with
  | some w => exact ⟨w, rfl, h⟩
  | none => exact h.elim

/-! new objects -/
theorem new_lst {p : Addr} {vs : List V} {xs : List PV} {Q : VK} (h : GP K cl (Rp K cl) W Hs H σ (.ok (.lst xs)) Q) (s : Sub Hs H) (n : H p = none) (r : RpA K cl Hs vs xs) : Q (.ref p) (upd H p (.lst vs)) :=
  have n' : Hs p = none := s.none n
  h _ (upd Hs p (.lst vs)) _ (Ext.new s n) (.lst upd_same (r.mono (Sub.new n')))
theorem new_tup {p : Addr} {vs : List V} {xs : List PV} {Q : VK} (h : GP K cl (Rp K cl) W Hs H σ (.ok (.tup xs)) Q) (s : Sub Hs H) (n : H p = none) (r : RpA K cl Hs vs xs) : Q (.ref p) (upd H p (.tup vs)) :=
  have n' : Hs p = none := s.none n
  h _ (upd Hs p (.tup vs)) _ (Ext.new s n) (.tup (.of upd_same) (r.mono (Sub.new n')))
end

theorem peWeak {X : Cx} {e : Expr} {t t' : TE} (h : PE X e t) (w : ∀ σ H Q, t' σ H Q → t σ H Q) : PE X e t' := ⟨fun pins s σ H Q I q => h.run pins s σ H Q I (w σ H Q q)⟩
theorem ptWeak {X : Cx} {e : Expr} {t t' : TT} (h : PT X e t) (w : ∀ σ H Q, t' σ H Q → t σ H Q) : PT X e t' := ⟨fun pins s σ H Q I q => h.run pins s σ H Q I (w σ H Q q)⟩
theorem paWeak {X : Cx} {e : List Expr} {t t' : TA} (h : PA X e t) (w : ∀ σ H Q, t' σ H Q → t σ H Q) : PA X e t' := ⟨fun ps pins s σ H Q I q => h.run ps pins s σ H Q I (w σ H Q q)⟩
theorem psWeak {X : Cx} {e : Stmt} {t t' : TS} (h : PS X e t) (w : ∀ D σ H, t' D σ H → t D σ H) : PS X e t' := ⟨fun pins s σ H Q I q => h.run pins s σ H Q I (w Q σ H q)⟩
theorem pssWeak {X : Cx} {e : List Stmt} {t t' : TS} (h : PSs X e t) (w : ∀ D σ H, t' D σ H → t D σ H) : PSs X e t' := ⟨fun pins s σ H Q I q => h.run pins s σ H Q I (w Q σ H q)⟩

/-! ### the expressions -/
def eVar : Nat → Ex
  | 0, some v :: _ => .ok v
  | n + 1, _ :: r => eVar n r
  | _, _ => .stuck
theorem eVar_ok : ∀ {i : Nat} {ρ : Ev} {v : PV}, eVar i ρ = .ok v → ρ[i]? = some (some v)
  | 0, some v :: _, _, h => by cases h; rfl
  | 0, none :: _, _, h => by cases h
  | 0, [], _, h => by cases h
  | n + 1, [], _, h => by cases h
  | n + 1, x :: r, v, h => by rw [List.getElem?_cons_succ]; exact eVar_ok (i := n) h
theorem eVar_noexc : ∀ {i : Nat} {ρ : Ev} {c fs}, eVar i ρ ≠ .exc c fs
  | 0, some v :: _, _, _, h => by cases h
  | 0, none :: _, _, _, h => by cases h
  | 0, [], _, _, h => by cases h
  | n + 1, [], _, _, h => by cases h
  | n + 1, x :: r, _, _, h => eVar_noexc (i := n) (ρ := r) h
def eC (v : PV) : Ex := fun _ => .ok v
def e1 (g : PV → Option PV) (a : Ex) : Ex := fun ρ => (a ρ).bind fun x => opt (g x)
def e2 (g : PV → PV → Option PV) (a b : Ex) : Ex := fun ρ => (a ρ).bind fun x => (b ρ).bind fun y => opt (g x y)
def eIf (c : Ev → R Bool) (a b : Ex) : Ex := fun ρ => (c ρ).bind fun t => if t = true then a ρ else b ρ
def evs : List Ex → Ev → R (List PV)
  | [], _ => .ok []
  | a :: r, ρ => (a ρ).bind fun x => (evs r ρ).bind fun xs => .ok (x :: xs)
def eArgs (g : List PV → R PV) (as : List Ex) : Ex := fun ρ => (evs as ρ).bind g

section
variable {X : Cx} {cl : Nat → Addr} {W : WX} {pos : Pos} {a b : Expr} {f f' : Ex}
theorem ve_var (i : Nat) {x : Str} (hN : X.N[i]? = some x := by rfl) (hv : Vis X.env.scope x := by first | exact Or.inl rfl | exact Or.inr (Or.inl rfl) | exact Or.inr (Or.inr rfl)) (hd : (x == ("__debug__" : Str)) = false := by decide)
    (hcd : (x == ("__classdict__" : Str)) = false := by decide) : PE X (.Name x pos) (tv X.K cl W (eVar i)) :=
  peWeak (pe_var hN hv hd hcd) fun σ H Q ⟨Hs, ρ, E, h⟩ => by
    cases e : eVar i ρ with
    | ok v =>
      rw [e] at h
      obtain ⟨x, e1, r⟩ := E.at_ i v (eVar_ok e)
      exact ⟨x, e1, h.here E.sub r⟩
    | exc c fs => exact absurd e eVar_noexc
    | stuck => rw [e] at h; exact h.elim
theorem ve_c {v : V} {u : PV} {e : Expr} (h : PE X e (tC v)) (r : ∀ H, Rp X.K cl H v u) : PE X e (tv X.K cl W (eC u)) :=
  peWeak h fun σ H Q ⟨Hs, ρ, E, h⟩ => GP.here h E.sub (r _)
theorem ve_int {i j} : PE X (.Constant (.int i) j pos) (tv X.K cl W (eC (.int i))) := ve_c pe_int fun _ => .int i
theorem ve_bl {i j} : PE X (.Constant (.bool i) j pos) (tv X.K cl W (eC (.bl i))) := ve_c pe_bl fun _ => .bl i
theorem ve_non {j} : PE X (.Constant .none j pos) (tv X.K cl W (eC .non)) := ve_c pe_non fun _ => .non
theorem ve_str {x j} : PE X (.Constant (.str x) j pos) (tv X.K cl W (eC (.str x))) := ve_c pe_str fun _ => .str x
/-- a constant of the module -/
def GlobV (K : PySem.W.Frag) (cl : Nat → Addr) (mg : Str → Option Value) (x : Str) (u : PV) : Prop := ∃ (v : V) (w : Value), mg x = some w ∧ RelV v w ∧ ∀ H, Rp K cl H v u
theorem ve_glob {x : Str} {u : PV} (G : GlobV X.K cl X.mg x u) (hg : Gl X x := by rfl) (hd : (x == ("__debug__" : Str)) = false := by decide) : PE X (.Name x pos) (tv X.K cl W (eC u)) := by
  obtain ⟨v, w, h1, h2, h3⟩ := G
  exact ve_c (pe_glob hg h1 h2 hd) h3

/-- an operation of two values, by its library rule -/
def OpV (K : PySem.W.Frag) (cl : Nat → Addr) (r : R2) (g : PV → PV → Option PV) : Prop := ∀ (W : WX) (σ : St) (Hs H : Hp) (x y : V) (u v w : PV) (Q : VK), Sub Hs H → Rp K cl Hs x u → Rp K cl Hs y v → g u v = some w →
  GP K cl (Rp K cl) W Hs H σ (.ok w) Q → r x y H Q
theorem op_use {r : R2} {g : PV → PV → Option PV} (hg : OpV X.K cl r g) {σ : St} {H : Hp} {Q : VK} (h : tv X.K cl W (e2 g f f') σ H Q) : tOp r (tv X.K cl W f) (tv X.K cl W f') σ H Q := by
  obtain ⟨Hs, ρ, E, h⟩ := h
  refine gv_bind E h fun v x Hs1 H1 _ s1 rx h1 => ?_
  refine gv_bind (E.up s1) h1 fun u y Hs2 H2 _ t1 ry h2 => ?_
  obtain ⟨w, e, q⟩ := h2.opt
  exact hg W σ Hs2 H2 x y v u w Q t1.sub (rx.mono t1.fs) ry e q
theorem ve_bin {op : Operator} {r : R2} {g : PV → PV → Option PV} (ho : OpR X (binaryOp op) r) (hg : OpV X.K cl r g) (ha : PE X a (tv X.K cl W f)) (hb : PE X b (tv X.K cl W f')) : PE X (.BinOp a op b pos) (tv X.K cl W (e2 g f f')) :=
  peWeak (pe_op ho ha hb) fun _ _ _ h => op_use hg h
theorem ve_cmp {op : CmpOp} {r : R2} {g : PV → PV → Option PV} (ho : OpR X (compareOp op) r) (hg : OpV X.K cl r g) (ha : PE X a (tv X.K cl W f)) (hb : PE X b (tv X.K cl W f')) (hm : behindInMarks op b = false := by first | exact nomark _ | rfl) : PE X (.Compare a [op] [b] pos) (tv X.K cl W (e2 g f f')) :=
  peWeak (pe_cmpR ho ha hb hm) fun _ _ _ h => op_use hg h
/-- two rules for one operation -/
theorem OpV.or {r r' : R2} {g g' : PV → PV → Option PV} (h : OpV X.K cl r g) (h' : OpV X.K cl r' g') : OpV X.K cl (fun x y H Q => r x y H Q ∨ r' x y H Q) (fun u v => (g u v).or (g' u v)) := by
  intro W σ Hs H x y u v w Q s rx ry e q
  replace e : (g u v).or (g' u v) = some w := e
  cases e1 : g u v with
  | some z => rw [e1] at e; cases e; exact .inl (h W σ Hs H x y u v _ Q s rx ry e1 q)
  | none => rw [e1] at e; exact .inr (h' W σ Hs H x y u v _ Q s rx ry e q)

/-! tests -/
def eTst (a : Ex) : Ev → R Bool := fun ρ => (a ρ).bind fun x => match x with | .bl b => .ok b | _ => .stuck
theorem tst_use {σ : St} {H : Hp} {Q : Bool → Hp → Prop} (h : tt X.K cl W (eTst f) σ H Q) : tB (tv X.K cl W f) σ H Q := by
  obtain ⟨Hs, ρ, E, h⟩ := h
  refine gv_bind E h fun v x Hs1 H1 _ s1 rx h1 => ?_
  cases rx with
  | bl b => exact ⟨b, rfl, GP.here (x := b) h1 s1.sub rfl⟩
  | _ => exact h1.elim
theorem vt_cmp {op : CmpOp} {r : R2} {g : PV → PV → Option PV} (ho : OpR X (compareOp op) r) (hg : OpV X.K cl r g) (ha : PE X a (tv X.K cl W f)) (hb : PE X b (tv X.K cl W f')) (hm : behindInMarks op b = false := by first | exact nomark _ | rfl) : PT X (.Compare a [op] [b] pos) (tt X.K cl W (eTst (e2 g f f'))) :=
  ptWeak (pt_cmpR ho ha hb hm) fun σ H Q h => by
    have q := tst_use h
    obtain ⟨Hs, ρ, E, h⟩ := h
    show tOp r (tv X.K cl W f) (tv X.K cl W f') σ H _
    refine op_use (g := g) hg ⟨Hs, ρ, E, ?_⟩
    unfold eTst at h
    cases e : e2 g f f' ρ with
    | ok w =>
      rw [e] at h
      intro x Hs' H' s1 rx
      cases rx with
      | bl b => exact ⟨b, rfl, h b Hs' H' s1 rfl⟩
      | _ => exact h.elim
    | exc c fs => rw [e] at h; exact h
    | stuck => rw [e] at h; exact h
theorem vt_val {e : Expr} (h : PE X e (tv X.K cl W f)) (he : ∀ whole, isTrue e X.env whole = (do let v ← whole; standAt e.pos; holding [v] (truthy v)) := by intro _; rfl) : PT X e (tt X.K cl W (eTst f)) :=
  ptWeak (pt_val h he) fun _ _ _ h => tst_use h
/-- truth of a value -/
def truV : PV → Option Bool
  | .non => some false
  | .bl b => some b
  | .int i => some (i != 0)
  | .str x => if x.length ≤ sizeLine then some ((x.length : Int) != 0) else none
  | .tup xs => some (!xs.isEmpty)
  | .lst xs => some (!xs.isEmpty)
  | .src xs => some (!xs.isEmpty)
  | .dct kvs => some (!kvs.isEmpty)
  | .obj _ _ => none
  | .ty _ => none
theorem RpA.empty {K : PySem.W.Frag} {cl : Nat → Addr} {H : Hp} {vs : List V} {xs : List PV} (r : RpA K cl H vs xs) : xs.isEmpty = vs.isEmpty := by cases r <;> rfl
theorem RpK.empty {K : PySem.W.Frag} {cl : Nat → Addr} {H : Hp} {vs : List (Key × V)} {xs : List (Key × PV)} (r : RpK K cl H vs xs) : xs.isEmpty = vs.isEmpty := by cases r <;> rfl
def eTru (a : Ex) : Ev → R Bool := fun ρ => (a ρ).bind fun x => opt (truV x)
theorem truV_ok {K : PySem.W.Frag} {Hs H : Hp} {x : V} {u : PV} {b : Bool} (s : Sub Hs H) (r : Rp K cl Hs x u) (e : truV u = some b) : TruV K x H b := by
  cases r with
  | non => cases e; rfl
  | bl b => cases e; rfl
  | int i => cases e; rfl
  | str z =>
    replace e : (if z.length ≤ sizeLine then some ((z.length : Int) != 0) else none) = some b := e
    split at e
    · cases e; exact ⟨by assumption, rfl⟩
    · cases e
  | tup h ra => cases e; exact .inr (.inl ⟨_, s.seqT h, by rw [ra.empty]⟩)
  | lst h ra => cases e; exact .inl ⟨_, .of (s _ _ h), by rw [ra.empty]⟩
  | src h ra => cases e; exact .inl ⟨_, s.seqL h, by rw [ra.empty]⟩
  | dct h ra => cases e; exact .inr (.inr ⟨_, s _ _ h, by rw [ra.empty]⟩)
  | obj h ra => cases e
  | ty n => cases e
theorem vt_tru {e : Expr} (h : PE X e (tv X.K cl W f)) (he : ∀ whole, isTrue e X.env whole = (do let v ← whole; standAt e.pos; holding [v] (truthy v)) := by intro _; rfl) : PT X e (tt X.K cl W (eTru f)) :=
  ptWeak (pt_truth h he) fun σ H Q ⟨Hs, ρ, E, h⟩ => by
    refine gv_bind E h fun v x Hs1 H1 _ s1 rx h1 => ?_
    obtain ⟨b, e, q⟩ := h1.opt
    exact ⟨b, truV_ok s1.sub rx e, GP.here (x := b) q s1.sub rfl⟩
variable {c c' : Ev → R Bool} {rest : List Expr}
def cAnd (a b : Ev → R Bool) : Ev → R Bool := fun ρ => (a ρ).bind fun t => if t = true then b ρ else .ok false
def cOr (a b : Ev → R Bool) : Ev → R Bool := fun ρ => (a ρ).bind fun t => if t = true then .ok true else b ρ
def cNot (a : Ev → R Bool) : Ev → R Bool := fun ρ => (a ρ).bind fun t => .ok (!t)
theorem pwWeak {e : Expr} {t t' : TT} (h : PW X e t) (w : ∀ σ H Q, t' σ H Q → t σ H Q) : PW X e t' := ⟨fun wh pins s σ H Q I q => h.run wh pins s σ H Q I (w σ H Q q)⟩
theorem vw_and1 (ha : PT X a (tt X.K cl W c)) : PW X (.BoolOp .And [a] pos) (tt X.K cl W c) := pw_and1 ha
theorem vw_or1 (ha : PT X a (tt X.K cl W c)) : PW X (.BoolOp .Or [a] pos) (tt X.K cl W c) := pw_or1 ha
theorem vw_and (ha : PT X a (tt X.K cl W c)) (hb : PW X (.BoolOp .And (b :: rest) pos) (tt X.K cl W c')) : PW X (.BoolOp .And (a :: b :: rest) pos) (tt X.K cl W (cAnd c c')) :=
  pwWeak (pw_and ha hb) fun σ H Q ⟨Hs, ρ, E, h⟩ => by
    refine gv_bind E h fun v x Hs1 H1 _ s1 rx h1 => ?_
    subst rx
    cases x with
    | true => exact ⟨Hs1, ρ, E.up s1, h1⟩
    | false => exact GP.here (x := false) h1 s1.sub rfl
theorem vw_or (ha : PT X a (tt X.K cl W c)) (hb : PW X (.BoolOp .Or (b :: rest) pos) (tt X.K cl W c')) : PW X (.BoolOp .Or (a :: b :: rest) pos) (tt X.K cl W (cOr c c')) :=
  pwWeak (pw_or ha hb) fun σ H Q ⟨Hs, ρ, E, h⟩ => by
    refine gv_bind E h fun v x Hs1 H1 _ s1 rx h1 => ?_
    subst rx
    cases x with
    | true => exact GP.here (x := true) h1 s1.sub rfl
    | false => exact ⟨Hs1, ρ, E.up s1, h1⟩
theorem vt_not (ha : PT X a (tt X.K cl W c)) : PT X (.UnaryOp .Not a pos) (tt X.K cl W (cNot c)) :=
  ptWeak (pt_not ha) fun σ H Q ⟨Hs, ρ, E, h⟩ => by
    refine gv_bind E h fun v x Hs1 H1 _ s1 rx h1 => ?_
    subst rx
    exact GP.here (x := !x) h1 s1.sub rfl
/-! .. as values -/
def eAnd (a b : Ex) : Ex := fun ρ => (a ρ).bind fun x => match x with | .bl t => if t = true then b ρ else .ok (.bl false) | _ => .stuck
def eOr (a b : Ex) : Ex := fun ρ => (a ρ).bind fun x => match x with | .bl t => if t = true then .ok (.bl true) else b ρ | _ => .stuck
def eNot (a : Ex) : Ex := fun ρ => (a ρ).bind fun x => match x with | .bl t => .ok (.bl (!t)) | _ => .stuck
theorem ve_one {op} (h : PE X a (tv X.K cl W f)) : PE X (.BoolOp op [a] pos) (tv X.K cl W f) := pe_one h
theorem ve_and (ha : PE X a (tv X.K cl W f)) (hb : PE X (.BoolOp .And (b :: rest) pos) (tv X.K cl W f')) : PE X (.BoolOp .And (a :: b :: rest) pos) (tv X.K cl W (eAnd f f')) :=
  peWeak (pe_and ha hb) fun σ H Q ⟨Hs, ρ, E, h⟩ => by
    refine gv_bind E h fun v x Hs1 H1 _ s1 rx h1 => ?_
    cases rx with
    | bl t =>
      refine ⟨t, rfl, ?_⟩
      cases t with
      | true => exact ⟨Hs1, ρ, E.up s1, h1⟩
      | false => exact GP.here h1 s1.sub (.bl false)
    | _ => exact h1.elim
theorem ve_or (ha : PE X a (tv X.K cl W f)) (hb : PE X (.BoolOp .Or (b :: rest) pos) (tv X.K cl W f')) : PE X (.BoolOp .Or (a :: b :: rest) pos) (tv X.K cl W (eOr f f')) :=
  peWeak (pe_or ha hb) fun σ H Q ⟨Hs, ρ, E, h⟩ => by
    refine gv_bind E h fun v x Hs1 H1 _ s1 rx h1 => ?_
    cases rx with
    | bl t =>
      refine ⟨t, rfl, ?_⟩
      cases t with
      | true => exact GP.here h1 s1.sub (.bl true)
      | false => exact ⟨Hs1, ρ, E.up s1, h1⟩
    | _ => exact h1.elim
theorem ve_not (ha : PE X a (tv X.K cl W f)) : PE X (.UnaryOp .Not a pos) (tv X.K cl W (eNot f)) :=
  peWeak (pe_not ha) fun σ H Q ⟨Hs, ρ, E, h⟩ => by
    refine gv_bind E h fun v x Hs1 H1 _ s1 rx h1 => ?_
    cases rx with
    | bl t => exact ⟨t, rfl, GP.here h1 s1.sub (.bl (!t))⟩
    | _ => exact h1.elim
theorem ve_if {t : Expr} (hc : PT X t (tt X.K cl W c)) (ha : PE X a (tv X.K cl W f)) (hb : PE X b (tv X.K cl W f')) : PE X (.IfExp t a b pos) (tv X.K cl W (eIf c f f')) :=
  peWeak (pe_ifExp hc ha hb) fun σ H Q ⟨Hs, ρ, E, h⟩ => by
    refine gv_bind E h fun v x Hs1 H1 _ s1 rx h1 => ?_
    subst rx
    cases x with
    | true => exact ⟨Hs1, ρ, E.up s1, h1⟩
    | false => exact ⟨Hs1, ρ, E.up s1, h1⟩
/-! chains -/
def chainK (g' : PV → PV → Option PV) (c : Ex) (ρ : Ev) (y : PV) : PV → R PV
  | .bl k => if k = true then (c ρ).bind fun w => opt (g' y w) else .ok (.bl false)
  | _ => .stuck
def eChain (g g' : PV → PV → Option PV) (a b c : Ex) : Ex := fun ρ => (a ρ).bind fun x => (b ρ).bind fun y => (opt (g x y)).bind (chainK g' c ρ y)
theorem chain_use {f'' : Ex} {r r' : R2} {g g' : PV → PV → Option PV} (hg : OpV X.K cl r g) (hg' : OpV X.K cl r' g') {σ : St} {H : Hp} {Q : VK} (h : tv X.K cl W (eChain g g' f f' f'') σ H Q) : tChain r r' (tv X.K cl W f) (tv X.K cl W f') (tv X.K cl W f'') σ H Q := by
  obtain ⟨Hs, ρ, E, h⟩ := h
  refine gv_bind E h fun v x Hs1 H1 _ s1 rx h1 => ?_
  refine gv_bind (E.up s1) h1 fun u y Hs2 H2 _ t1 ry h2 => ?_
  have E2 := (E.up s1).up t1
  cases e : g v u with
  | none => rw [e] at h2; exact h2.elim
  | some z =>
    rw [e] at h2
    have h3 : GP X.K cl (Rp X.K cl) W Hs2 H2 σ (chainK g' f'' ρ u z) Q := h2
    refine hg W σ Hs2 H2 x y v u z _ t1.sub (rx.mono t1.fs) ry e fun zz Hs3 H3 w1 rz => ?_
    have h4 := GP.up h3 w1
    cases rz with
    | bl k =>
      refine ⟨k, rfl, ?_⟩
      cases k with
      | true =>
        rw [if_pos rfl]
        refine gv_bind (E2.up w1) h4 fun u4 y4 Hs4 H4 _ q1 r4 h5 => ?_
        obtain ⟨w, e5, q⟩ := h5.opt
        exact hg' W σ Hs4 H4 y y4 u u4 w Q q1.sub ((ry.mono w1.fs).mono q1.fs) r4 e5 q
      | false => exact GP.here h4 w1.sub (.bl false)
    | _ => exact h4.elim
theorem ve_chain {f'' : Ex} {d : Expr} {op op' : CmpOp} {r r' : R2} {g g' : PV → PV → Option PV} (ho : OpR X (compareOp op) r) (ho' : OpR X (compareOp op') r') (hg : OpV X.K cl r g) (hg' : OpV X.K cl r' g') (ha : PE X a (tv X.K cl W f)) (hb : PE X b (tv X.K cl W f')) (hd : PE X d (tv X.K cl W f'')) (hm : lastMarks [op, op'] [b, d] = false := by rfl) : PE X (.Compare a [op, op'] [b, d] pos) (tv X.K cl W (eChain g g' f f' f'')) :=
  peWeak (pe_chain ho ho' ha hb hd hm) fun _ _ _ h => chain_use hg hg' h
theorem vt_chain {f'' : Ex} {d : Expr} {op op' : CmpOp} {r r' : R2} {g g' : PV → PV → Option PV} (ho : OpR X (compareOp op) r) (ho' : OpR X (compareOp op') r') (hg : OpV X.K cl r g) (hg' : OpV X.K cl r' g') (ha : PE X a (tv X.K cl W f)) (hb : PE X b (tv X.K cl W f')) (hd : PE X d (tv X.K cl W f'')) (hm : lastMarks [op, op'] [b, d] = false := by rfl) : PT X (.Compare a [op, op'] [b, d] pos) (tt X.K cl W (eTst (eChain g g' f f' f''))) :=
  ptWeak (pt_chain ho ho' ha hb hd hm) fun σ H Q ⟨Hs, ρ, E, h⟩ => by
    show tChain r r' (tv X.K cl W f) (tv X.K cl W f') (tv X.K cl W f'') σ H _
    refine chain_use hg hg' ⟨Hs, ρ, E, ?_⟩
    unfold eTst at h
    cases e : eChain g g' f f' f'' ρ with
    | ok w =>
      rw [e] at h
      intro x Hs' H' s1 rx
      cases rx with
      | bl b => exact ⟨b, rfl, h b Hs' H' s1 rfl⟩
      | _ => exact h.elim
    | exc c fs => rw [e] at h; exact h
    | stuck => rw [e] at h; exact h
/-! argument lists, displays -/
theorem va_nil : PA X [] (ta X.K cl W (evs [])) := paWeak pa_nil fun σ H Q ⟨Hs, ρ, E, h⟩ => GP.here h E.sub .nil
theorem va_cons {e : Expr} {es : List Expr} {fs : List Ex} (ha : PE X e (tv X.K cl W f)) (hr : PA X es (ta X.K cl W (evs fs))) (hs : starEach (e :: es) X.env = (false, eval e X.env) :: starEach es X.env := by rfl) : PA X (e :: es) (ta X.K cl W (evs (f :: fs))) :=
  paWeak (pa_cons ha hr hs) fun σ H Q ⟨Hs, ρ, E, h⟩ => by
    refine gv_bind E h fun v x Hs1 H1 _ s1 rx h1 => ?_
    refine gv_bind (E.up s1) h1 fun u y Hs2 H2 _ t1 ry h2 => ?_
    exact GP.here h2 t1.sub (.cons (rx.mono t1.fs) ry)
def gTupV : List PV → R PV := fun xs => if xs.length ≤ sizeLine then .ok (.tup xs) else .stuck
def gLstV : List PV → R PV := fun xs => if xs.length ≤ sizeLine then .ok (.lst xs) else .stuck
theorem ve_tup {es : List Expr} {x1} {fs : List Ex} (h : PA X es (ta X.K cl W (evs fs))) : PE X (.Tuple es x1 pos) (tv X.K cl W (eArgs gTupV fs)) :=
  peWeak (pe_tup h) fun σ H Q ⟨Hs, ρ, E, h⟩ => by
    refine gv_bind E h fun v x Hs1 H1 _ s1 rx h1 => ?_
    unfold gTupV at h1
    split at h1
    · exact ⟨by rw [rx.length]; assumption, fun p n => new_tup h1 s1.sub n rx⟩
    · exact h1.elim
theorem ve_lst {es : List Expr} {fs : List Ex} (h : PA X es (ta X.K cl W (evs fs))) : PE X (.List es pos) (tv X.K cl W (eArgs gLstV fs)) :=
  peWeak (pe_lst h) fun σ H Q ⟨Hs, ρ, E, h⟩ => by
    refine gv_bind E h fun v x Hs1 H1 _ s1 rx h1 => ?_
    unfold gLstV at h1
    split at h1
    · exact ⟨by rw [rx.length]; assumption, fun p n => new_lst h1 s1.sub n rx⟩
    · exact h1.elim
/-! built-in functions by values -/
def CallV (K : PySem.W.Frag) (cl : Nat → Addr) (r : List V → Hp → VK → Prop) (g : List PV → Option PV) : Prop := ∀ (W : WX) (σ : St) (Hs H : Hp) (xs : List V) (us : List PV) (w : PV) (Q : VK), Sub Hs H → RpA K cl Hs xs us → g us = some w →
  GP K cl (Rp K cl) W Hs H σ (.ok w) Q → r xs H Q
theorem CallV.or {r r' : List V → Hp → VK → Prop} {g g' : List PV → Option PV} (h : CallV X.K cl r g) (h' : CallV X.K cl r' g') : CallV X.K cl (fun x H Q => r x H Q ∨ r' x H Q) (fun u => (g u).or (g' u)) := by
  intro W σ Hs H x u w Q s rx e q
  replace e : (g u).or (g' u) = some w := e
  cases e1 : g u with
  | some z => rw [e1] at e; cases e; exact .inl (h W σ Hs H x u _ Q s rx e1 q)
  | none => rw [e1] at e; exact .inr (h' W σ Hs H x u _ Q s rx e q)
def eCB (g : List PV → Option PV) (as : List Ex) : Ex := eArgs (fun xs => opt (g xs)) as
theorem cb_use {r : List V → Hp → VK → Prop} {g : List PV → Option PV} {fs : List Ex} (hg : CallV X.K cl r g) {σ : St} {H : Hp} {Q : VK} (h : tv X.K cl W (eCB g fs) σ H Q) : tCB r (ta X.K cl W (evs fs)) σ H Q := by
  obtain ⟨Hs, ρ, E, h⟩ := h
  refine gv_bind E h fun v x Hs1 H1 _ s1 rx h1 => ?_
  obtain ⟨w, e, q⟩ := h1.opt
  exact hg W σ Hs1 H1 x v w Q s1.sub rx e q
theorem ve_callB {x : Str} {p : Pos} {id : String} {e : Expr} {es : List Expr} {fs : List Ex} {r : List V → Hp → VK → Prop} {g : List PV → Option PV} (hc : CallR X (.builtin id) r) (hg : CallV X.K cl r g) (hm : X.mg x = none) (hv : bootBuiltins x = some (.builtin id)) (ha : PA X (e :: es) (ta X.K cl W (evs fs)))
    (hgl : Gl X x := by rfl) (hn : x ≠ "__name__" := by decide) (hd : (x == ("__debug__" : Str)) = false := by decide) (he : starEach (e :: es) X.env = (false, eval e X.env) :: starEach es X.env := by rfl) (hpl : (backTo pos (starEach es X.env)).any (·.1) = false := by rfl) : PE X (.Call (.Name x p) (e :: es) [] pos) (tv X.K cl W (eCB g fs)) :=
  peWeak (pe_callB hc hgl hm hv ha (hn := hn) (hdb := hd) (he := he) (hpl := hpl)) fun _ _ _ h => cb_use hg h
theorem ve_callTy {x : Str} {p : Pos} {id : String} {e : Expr} {es : List Expr} {fs : List Ex} {r : List V → Hp → VK → Prop} {g : List PV → Option PV} (hc : CallR X (.type id) r) (hg : CallV X.K cl r g) (hm : X.mg x = none) (hv : bootBuiltins x = some (.type id)) (ha : PA X (e :: es) (ta X.K cl W (evs fs)))
    (hgl : Gl X x := by rfl) (hn : x ≠ "__name__" := by decide) (hd : (x == ("__debug__" : Str)) = false := by decide) (he : starEach (e :: es) X.env = (false, eval e X.env) :: starEach es X.env := by rfl) (hpl : (backTo pos (starEach es X.env)).any (·.1) = false := by rfl) : PE X (.Call (.Name x p) (e :: es) [] pos) (tv X.K cl W (eCB g fs)) :=
  peWeak (pe_callTy hc hgl hm hv ha (hn := hn) (hdb := hd) (he := he) (hpl := hpl)) fun _ _ _ h => cb_use hg h
/-! subscripts, slices -/
def ixP : PV → PV → Option PV
  | .lst xs, .int i => atI xs i
  | .src xs, .int i => atI xs i
  | .tup xs, .int i => atI xs i
  | .str z, .int i => if z.length ≤ sizeLine then (atI z.cps.toList i).map fun c => .str ⟨#[c]⟩ else none
  | _, _ => none
theorem RpA.atI {K : PySem.W.Frag} {H : Hp} {vs : List V} {xs : List PV} {i : Int} {x : PV} (r : RpA K cl H vs xs) (h : L2.atI xs i = some x) : ∃ v, L2.atI vs i = some v ∧ Rp K cl H v x := by
  unfold L2.atI at h ⊢
  rw [r.length]
  cases e : ixN xs.length i with
  | none => rw [e] at h; cases h
  | some j => rw [e] at h; exact r.get h
theorem ve_ix {e i : Expr} (ha : PE X e (tv X.K cl W f)) (hb : PE X i (tv X.K cl W f')) (hs : PlainIx i := by exact fun _ _ => rfl) : PE X (.Subscript e i pos) (tv X.K cl W (e2 ixP f f')) :=
  peWeak (pe_ix ix_seq ha hb hs) fun σ H Q h => by
    refine op_use (r := rIx X.K) (g := ixP) ?_ h
    intro W σ Hs H x y u v w Q s rx ry e q
    cases ry with
    | int i =>
      cases rx with
      | lst h ra => obtain ⟨v, e1, r1⟩ := ra.atI e; exact .inl ⟨_, _, _, v, rfl, rfl, .of (s _ _ h), e1, q.here s r1⟩
      | src h ra => obtain ⟨v, e1, r1⟩ := ra.atI e; exact .inl ⟨_, _, _, v, rfl, rfl, s.seqL h, e1, q.here s r1⟩
      | tup h ra => obtain ⟨v, e1, r1⟩ := ra.atI e; exact .inr (.inl ⟨_, _, _, v, rfl, rfl, s.seqT h, e1, q.here s r1⟩)
      | str z =>
        replace e : (if z.length ≤ sizeLine then (L2.atI z.cps.toList i).map fun c => PV.str ⟨#[c]⟩ else none) = some w := e
        split at e
        · cases e1 : atI z.cps.toList i with
          | none => rw [e1] at e; cases e
          | some c => rw [e1] at e; cases e; exact .inr (.inr ⟨_, _, c, rfl, rfl, by assumption, e1, q.here s (.str _)⟩)
        · cases e
      | _ => cases e
    | _ => cases rx <;> cases e
/-- a slice's bound -/
abbrev Pt := Ev → R (Option Int)
def pNo : Pt := fun _ => .ok none
def pAt (a : Ex) : Pt := fun ρ => (a ρ).bind fun x => match x with | .int i => .ok (some i) | _ => .stuck
abbrev tpt (K : PySem.W.Frag) (cl : Nat → Addr) (W : WX) (f : Pt) : TO := gv K cl (fun _ o o' => o = o') W f
theorem poWeak {X : Cx} {e : Option Expr} {t t' : TO} (h : PO X e t) (w : ∀ σ H Q, t' σ H Q → t σ H Q) : PO X e t' := ⟨fun pins s σ H Q I q => h.run pins s σ H Q I (w σ H Q q)⟩
theorem vo_none : PO X none (tpt X.K cl W pNo) := poWeak po_none fun σ H Q ⟨Hs, ρ, E, h⟩ => GP.here (x := none) h E.sub rfl
theorem vo_some {e : Expr} (ha : PE X e (tv X.K cl W f)) : PO X (some e) (tpt X.K cl W (pAt f)) := poWeak (po_some ha) fun σ H Q ⟨Hs, ρ, E, h⟩ => by
  refine gv_bind E h fun v x Hs1 H1 _ s1 rx h1 => ?_
  cases rx with
  | int i => exact ⟨i, rfl, GP.here (x := some i) h1 s1.sub rfl⟩
  | _ => exact h1.elim
def cutP {α : Type} (xs : List α) (lo hi : Option Int) : List α := (xs.drop (HT.sIx xs.length 0 lo)).take (HT.sIx xs.length xs.length hi - HT.sIx xs.length 0 lo)
theorem RpA.cut {K : PySem.W.Frag} {H : Hp} {vs : List V} {xs : List PV} (r : RpA K cl H vs xs) (lo hi : Option Int) : RpA K cl H (cutV vs lo hi) (cutP xs lo hi) := by
  unfold cutV cutP
  rw [r.length]
  exact (r.drop _).take _
def slP (x : PV) (lo hi : Option Int) : Option PV := match x with
  | .lst xs => some (.lst (cutP xs lo hi))
  | .src xs => some (.lst (cutP xs lo hi))
  | .tup xs => some (.tup (cutP xs lo hi))
  | .str z => if z.length ≤ sizeLine then some (.str (cutS z lo hi)) else none
  | _ => none
def eSl (a : Ex) (lo hi : Pt) : Ex := fun ρ => (a ρ).bind fun x => (lo ρ).bind fun l => (hi ρ).bind fun h => opt (slP x l h)
theorem cut_whole {α : Type} {xs : List α} {lo hi : Option Int} (h : HT.sIx xs.length 0 lo = 0 ∧ HT.sIx xs.length xs.length hi = xs.length) : cutP xs lo hi = xs := by
  unfold cutP
  rw [h.1, h.2]
  simp
theorem ve_slice {e : Expr} {lo hi : Option Expr} {p2 : Pos} {l h : Pt} (ha : PE X e (tv X.K cl W f)) (hl : PO X lo (tpt X.K cl W l)) (hh : PO X hi (tpt X.K cl W h)) : PE X (.Subscript e (.Slice lo hi none p2) pos) (tv X.K cl W (eSl f l h)) :=
  peWeak (pe_slice (SlR.or (SlR.or sl_list sl_tupA) sl_str) ha hl hh) fun σ H Q ⟨Hs, ρ, E, h⟩ => by
    refine gv_bind E h fun v x Hs1 H1 _ s1 rx h1 => ?_
    refine gv_bind (E.up s1) h1 fun l1 l2 Hs2 H2 _ t1 el h2 => ?_
    refine gv_bind ((E.up s1).up t1) h2 fun u1 u2 Hs3 H3 _ w1 eu h3 => ?_
    subst el eu
    obtain ⟨w, e, q⟩ := h3.opt
    have rx3 := (rx.mono t1.fs).mono w1.fs
    cases rx3 with
    | lst h ra => cases e; exact .inl (.inl ⟨_, _, rfl, .of (w1.sub _ _ h), fun p n => new_lst q w1.sub n (ra.cut _ _)⟩)
    | src h ra => cases e; exact .inl (.inl ⟨_, _, rfl, w1.sub.seqL h, fun p n => new_lst q w1.sub n (ra.cut _ _)⟩)
    | tup h ra =>
      cases e
      refine .inl (.inr ⟨_, _, rfl, w1.sub.seqT h, fun whole => ?_, fun _ p n => new_tup q w1.sub n (ra.cut _ _)⟩)
      rw [ra.length] at whole
      rw [cut_whole whole] at q
      exact q.here w1.sub (.tup h ra)
    | str z =>
      replace e : (if z.length ≤ sizeLine then some (PV.str (cutS z l2 u2)) else none) = some w := e
      split at e
      · cases e; exact .inr ⟨_, rfl, by assumption, q.here w1.sub (.str _)⟩
      · cases e
    | _ => cases e
end
end VL
namespace VL
open PySem PySem.Spec PyProof.Rows L2
/-! ### the operations of values -/
/-- what a divisor stays below -/
def bigI : Int := 2 ^ 4000
theorem lt_bigI {j : Int} (h : j < 2 ^ 64) : j < bigI := Int.lt_trans h (by unfold bigI; decide +kernel)
def addP : PV → PV → Option PV
  | .int i, .int j => some (.int (i + j))
  | .str a, .str b => if a.length + b.length ≤ sizeLine then some (.str (a ++ b)) else none
  | .lst xs, .lst ys => if xs.length + ys.length ≤ sizeLine then some (.lst (xs ++ ys)) else none
  | .tup xs, .tup ys => if xs.length + ys.length ≤ sizeLine then some (.tup (xs ++ ys)) else none
  | _, _ => none
def subP : PV → PV → Option PV
  | .int i, .int j => some (.int (i - j))
  | _, _ => none
def mulOk (i j : Int) : Bool := (decide (-(2 ^ 64) < i) && decide (i < 2 ^ 64)) || (decide (-(2 ^ 64) < j) && decide (j < 2 ^ 64))
def mulP : PV → PV → Option PV
  | .int i, .int j => if mulOk i j = true then some (.int (i * j)) else none
  | .lst xs, .int k => if -(2 ^ 63) ≤ k ∧ k < 2 ^ 63 ∧ xs.length * k.toNat ≤ sizeLine then some (.lst (List.replicate k.toNat xs).flatten) else none
  | _, _ => none
def modP : PV → PV → Option PV
  | .int i, .int j => if 0 < j then some (.int (i % j)) else none
  | _, _ => none
def divP : PV → PV → Option PV
  | .int i, .int j => if 0 < j ∧ j < bigI then some (.int (i / j)) else if j < 0 ∧ -bigI < j then some (.int ((-i) / (-j))) else none
  | _, _ => none
def powP : PV → PV → Option PV
  | .int i, .int j => if 0 ≤ j ∧ j ≤ 1000 ∧ -(2 ^ 60) < i ∧ i < 2 ^ 60 then some (.int (i ^ j.toNat)) else none
  | _, _ => none
/-- == -/
def eqB : PV → PV → Option Bool
  | .int i, .int j => some (decide (i = j))
  | .str i, .str j => some (decide (i = j))
  | .bl i, .bl j => some (decide (i = j))
  | .non, .non => some true
  | x, y => match x.data, y.data with
    | some d, some e => if SeqAt.shaped d = true ∧ SeqAt.shaped e = true then some (PyData.eqv d e) else none
    | _, _ => none
def eqP (x y : PV) : Option PV := (eqB x y).map .bl
def neP (x y : PV) : Option PV := (eqB x y).map fun b => .bl (!b)
def isP : PV → PV → Option PV
  | .non, .non => some (.bl true)
  | _, .non => some (.bl false)
  | .bl a, .bl b => some (.bl (decide (a = b)))
  | _, _ => none
def isntP : PV → PV → Option PV
  | .non, .non => some (.bl false)
  | _, .non => some (.bl true)
  | .bl a, .bl b => some (.bl (!decide (a = b)))
  | _, _ => none
def intsP : List PV → Option (List Int)
  | [] => some []
  | .int i :: r => (intsP r).map (i :: ·)
  | _ :: _ => none
def ltP : PV → PV → Option PV
  | .int i, .int j => some (.bl (decide (i < j)))
  | .str i, .str j => some (.bl (decide (i.cps.toList < j.cps.toList)))
  | .tup xs, .tup ys => (intsP xs).bind fun ns => (intsP ys).map fun ms => .bl (HT.lexLt ns ms)
  | _, _ => none
def leP : PV → PV → Option PV
  | .int i, .int j => some (.bl (decide (i ≤ j)))
  | .str i, .str j => some (.bl (!decide (j.cps.toList < i.cps.toList)))
  | _, _ => none
def gtP : PV → PV → Option PV
  | .int i, .int j => some (.bl (decide (j < i)))
  | _, _ => none
def geP : PV → PV → Option PV
  | .int i, .int j => some (.bl (decide (j ≤ i)))
  | _, _ => none
def flatP : PV → Bool
  | .non => true | .bl _ => true | .int _ => true | .str _ => true
  | _ => false
def eqF : PV → PV → Bool
  | .non, .non => true
  | .bl a, .bl b => a == b
  | .bl a, .int b => (if a then 1 else 0) == b
  | .int a, .bl b => a == (if b then 1 else 0)
  | .int a, .int b => a == b
  | .str a, .str b => a == b
  | _, _ => false
def dataIn (x : PV) (xs : List PV) : Option Bool := match x.data, PV.datas xs with
  | some d, some ds => if SeqAt.shaped d = true ∧ SeqAt.shaped (.list ds) = true then some (ds.any fun z => PyData.eqv z d) else none
  | _, _ => none
def inB (x : PV) : PV → Option Bool
  | .lst xs => if flatP x = true ∧ xs.all flatP = true then some (xs.any fun y => eqF y x) else dataIn x xs
  | .src xs => if flatP x = true ∧ xs.all flatP = true then some (xs.any fun y => eqF y x) else dataIn x xs
  | .tup xs => if flatP x = true ∧ xs.all flatP = true then some (xs.any fun y => eqF y x) else none
  | .str z => match x with
    | .str c => if c.cps.size = 1 then some (decide (c.cps.getD 0 0 ∈ z.cps.toList)) else some (!(Builtin.Str.occurrences z c 0 z.length 1).isEmpty)
    | _ => none
  | _ => none
def inP (x y : PV) : Option PV := (inB x y).map .bl
def ninP (x y : PV) : Option PV := (inB x y).map fun b => .bl (!b)
def negP : PV → Option PV
  | .int i => some (.int (-i))
  | _ => none

section
variable {K : PySem.W.Frag} {cl : Nat → Addr} {H Hs : Hp}
theorem RpA.ints : ∀ {vs : List V} {xs : List PV} {ns : List Int}, RpA K cl H vs xs → intsP xs = some ns → vs = ns.map V.int
  | _, _, _, .nil, e => by cases e; rfl
  | _, _, _, .cons r t, e => by
    cases r with
    | int i =>
      replace e : (intsP _).map (i :: ·) = some _ := e
      rw [Option.map_eq_some_iff] at e
      obtain ⟨r, e1, rfl⟩ := e
      rw [t.ints e1]
      rfl
    | _ => cases e
theorem RpA.flat : ∀ {vs : List V} {xs : List PV}, RpA K cl H vs xs → xs.all flatP = true → vs.all flatV = true
  | _, _, .nil, e => rfl
  | _, _, .cons r t, e => by
    rw [List.all_cons, Bool.and_eq_true] at e ⊢
    refine ⟨?_, t.flat e.2⟩
    cases r <;> first | rfl | cases e.1
theorem Rp.flat {v : V} {x : PV} (r : Rp K cl H v x) (e : flatP x = true) : flatV v = true := by cases r <;> first | rfl | cases e
theorem eqF_ok {v w : V} {x y : PV} (r : Rp K cl H v x) (q : Rp K cl H w y) : L2.eqV v w = eqF x y := by
  cases r <;> cases q <;> rfl
theorem RpA.any {w : V} {y : PV} (q : Rp K cl H w y) : ∀ {vs : List V} {xs : List PV}, RpA K cl H vs xs → (vs.any fun v => L2.eqV v w) = xs.any fun x => eqF x y
  | _, _, .nil => rfl
  | _, _, .cons r t => by rw [List.any_cons, List.any_cons, eqF_ok r q, RpA.any q t]
theorem Rp.nonIff {v : V} {x : PV} (r : Rp K cl H v x) : decide (v = .non) = (match x with | .non => true | _ => false) := by
  cases r <;> rfl
end

section
variable {X : Cx} {cl : Nat → Addr}
theorem ov_add : OpV X.K cl (fun x y H Q => ((rI0 fun i j => .int (i + j)) x y H Q ∨ (∃ i j, x = V.str i ∧ y = V.str j ∧ i.length + j.length ≤ sizeLine ∧ Q (.str (i ++ j)) H)) ∨ rCat x y H Q ∨ rCatA X.K x y H Q) addP := by
  intro W σ Hs H x y u v w Q s rx ry e q
  cases rx with
  | int i =>
    cases ry with
    | int j => cases e; exact .inl (.inl ⟨_, _, rfl, rfl, q.here s (.int _)⟩)
    | _ => cases e
  | str i =>
    cases ry with
    | str j =>
      replace e : (if i.length + j.length ≤ sizeLine then some (PV.str (i ++ j)) else none) = some w := e
      split at e
      · cases e; exact .inl (.inr ⟨_, _, rfl, rfl, by assumption, q.here s (.str _)⟩)
      · cases e
    | _ => cases e
  | @lst a vs xs h ra =>
    cases ry with
    | @lst b ws ys h' rb =>
      replace e : (if xs.length + ys.length ≤ sizeLine then some (PV.lst (xs ++ ys)) else none) = some w := e
      split at e
      · cases e; exact .inr (.inl ⟨_, _, _, _, rfl, rfl, s _ _ h, s _ _ h', by rw [ra.length, rb.length]; assumption, fun p n => new_lst q s n (ra.append rb)⟩)
      · cases e
    | _ => cases e
  | @tup a vs xs h ra =>
    cases ry with
    | @tup b ws ys h' rb =>
      replace e : (if xs.length + ys.length ≤ sizeLine then some (PV.tup (xs ++ ys)) else none) = some w := e
      split at e
      · cases e
        refine .inr (.inr ⟨_, _, _, _, rfl, rfl, s.seqT h, s.seqT h', by rw [ra.length, rb.length]; assumption, fun z => ?_, fun _ z => ?_, fun _ _ p n => new_tup q s n (ra.append rb)⟩)
        · subst z; cases ra; exact q.here s (.tup h' rb)
        · subst z; cases rb; rw [List.append_nil] at q; exact q.here s (.tup h ra)
      · cases e
    | _ => cases e
  | _ => cases e
theorem or_add : OpR X (binaryOp .Add) (fun x y H Q => ((rI0 fun i j => .int (i + j)) x y H Q ∨ (∃ i j, x = V.str i ∧ y = V.str j ∧ i.length + j.length ≤ sizeLine ∧ Q (.str (i ++ j)) H)) ∨ rCat x y H Q ∨ rCatA X.K x y H Q) := (op_add.or op_add_str).or (op_cat.or op_catA)
theorem ov_sub : OpV X.K cl (rI0 fun i j => .int (i - j)) subP := by
  intro W σ Hs H x y u v w Q s rx ry e q
  cases rx with
  | int i =>
    cases ry with
    | int j => cases e; exact ⟨_, _, rfl, rfl, q.here s (.int _)⟩
    | _ => cases e
  | _ => cases e
theorem ov_mul : OpV X.K cl (fun x y H Q => (rI CMul fun i j => .int (i * j)) x y H Q ∨ rRep x y H Q) mulP := by
  intro W σ Hs H x y u v w Q s rx ry e q
  cases rx with
  | int i =>
    cases ry with
    | int j =>
      replace e : (if mulOk i j = true then some (PV.int (i * j)) else none) = some w := e
      split at e
      · rename_i hk
        cases e
        refine .inl ⟨_, _, rfl, rfl, ?_, q.here s (.int _)⟩
        unfold mulOk at hk
        simpa [CMul] using hk
      · cases e
    | _ => cases e
  | @lst a vs xs h ra =>
    cases ry with
    | int k =>
      replace e : (if -(2 ^ 63) ≤ k ∧ k < 2 ^ 63 ∧ xs.length * k.toNat ≤ sizeLine then some (PV.lst (List.replicate k.toNat xs).flatten) else none) = some w := e
      split at e
      · rename_i hk
        cases e
        exact .inr ⟨_, _, _, rfl, rfl, s _ _ h, hk.1, hk.2.1, by rw [ra.length]; exact hk.2.2, fun p n => new_lst q s n (ra.rep _)⟩
      · cases e
    | _ => cases e
  | _ => cases e
theorem or_mul : OpR X (binaryOp .Mult) (fun x y H Q => (rI CMul fun i j => .int (i * j)) x y H Q ∨ rRep x y H Q) := op_mul.or op_rep
theorem ov_mod : OpV X.K cl (rI (fun _ j => 0 < j) fun i j => .int (i % j)) modP := by
  intro W σ Hs H x y u v w Q s rx ry e q
  cases rx with
  | int i =>
    cases ry with
    | int j =>
      replace e : (if 0 < j then some (PV.int (i % j)) else none) = some w := e
      split at e
      · cases e; exact ⟨_, _, rfl, rfl, by assumption, q.here s (.int _)⟩
      · cases e
    | _ => cases e
  | _ => cases e
def CDivS (_ j : Int) : Prop := j ≠ 0 ∧ j.natAbs.log2 < 9000
theorem op_fdivS : OpR X (binaryOp .FloorDiv) (rI CDivS fun i j => .int (i.fdiv j)) := opI fun i j _ _ _ _ _ hc q => floordiv_int hc.1 q (.inl (PyProof.noPylong_of_log2 hc.2))
theorem big_log {j : Int} (h0 : j ≠ 0) (h1 : j < bigI) (h2 : -bigI < j) : CDivS 0 j := by
  have h5 : 4000 ≤ 9000 := by decide
  refine ⟨h0, Nat.lt_of_lt_of_le (PySem.Flt.log2_lt_of (Nat.zero_lt_succ 3999) ?_) h5⟩
  have h3 : (j.natAbs : Int) < ((2 ^ 4000 : Nat) : Int) := by
    rw [Int.natCast_pow]
    have : (j.natAbs : Int) < bigI := by omega
    exact this
  exact Int.ofNat_lt.mp h3
theorem ov_div : OpV X.K cl (rI CDivS fun i j => .int (i.fdiv j)) divP := by
  intro W σ Hs H x y u v w Q s rx ry e q
  cases rx with
  | int i =>
    cases ry with
    | int j =>
      replace e : (if 0 < j ∧ j < bigI then some (PV.int (i / j)) else if j < 0 ∧ -bigI < j then some (.int ((-i) / (-j))) else none) = some w := e
      split at e
      · rename_i hk
        cases e
        have hB : (0 : Int) < bigI := Int.lt_trans hk.1 hk.2
        refine ⟨_, _, rfl, rfl, (big_log (by omega) hk.2 (by omega) : CDivS i j), ?_⟩
        have e3 : i.fdiv j = i / j := Int.fdiv_eq_ediv_of_nonneg i (by omega)
        show Q (.int (i.fdiv j)) H
        rw [e3]
        exact q.here s (.int _)
      · split at e
        · rename_i hk
          cases e
          have hB : (0 : Int) < bigI := by omega
          refine ⟨_, _, rfl, rfl, (big_log (by omega) (by omega) hk.2 : CDivS i j), ?_⟩
          have e3 : i.fdiv j = (-i) / (-j) := by rw [← Int.neg_fdiv_neg, Int.fdiv_eq_ediv_of_nonneg _ (by omega)]
          show Q (.int (i.fdiv j)) H
          rw [e3]
          exact q.here s (.int _)
        · cases e
    | _ => cases e
  | _ => cases e
theorem ov_pow : OpV X.K cl (rI CPow fun i j => .int (i ^ j.toNat)) powP := by
  intro W σ Hs H x y u v w Q s rx ry e q
  cases rx with
  | int i =>
    cases ry with
    | int j =>
      replace e : (if 0 ≤ j ∧ j ≤ 1000 ∧ -(2 ^ 60) < i ∧ i < 2 ^ 60 then some (PV.int (i ^ j.toNat)) else none) = some w := e
      split at e
      · rename_i hk
        cases e
        exact ⟨_, _, rfl, rfl, ⟨hk.1, by omega, by omega⟩, q.here s (.int _)⟩
      · cases e
    | _ => cases e
  | _ => cases e
theorem eq_split {Hs H : Hp} {x y : V} {u v : PV} {b : Bool} (s : Sub Hs H) (rx : Rp X.K cl Hs x u) (ry : Rp X.K cl Hs y v) (e : eqB u v = some b) :
    (scal x y = true ∧ decide (x = y) = b) ∨ ∃ d e, Dp X.K H x d ∧ Dp X.K H y e ∧ SeqAt.shaped d = true ∧ SeqAt.shaped e = true ∧ PyData.eqv d e = b := by
  have gen : (match u.data, v.data with
    | some d, some e => if SeqAt.shaped d = true ∧ SeqAt.shaped e = true then some (PyData.eqv d e) else none
    | _, _ => none) = some b → ∃ d e, Dp X.K H x d ∧ Dp X.K H y e ∧ SeqAt.shaped d = true ∧ SeqAt.shaped e = true ∧ PyData.eqv d e = b := by
    intro h
    split at h
    · rename_i d e1 h1 h2
      split at h
      · rename_i hs
        cases h
        exact ⟨d, e1, (rx.mono s).dp h1, (ry.mono s).dp h2, hs.1, hs.2, rfl⟩
      · cases h
    · cases h
  have tail : ∀ {u' v' : PV}, (∀ {o : Option Bool}, o = o) → True := fun _ => trivial
  cases rx with
  | int i =>
    cases ry with
    | int j => cases e; exact .inl ⟨rfl, by simp⟩
    | _ => exact .inr (gen e)
  | str i =>
    cases ry with
    | str j => cases e; exact .inl ⟨rfl, by simp⟩
    | _ => exact .inr (gen e)
  | bl i =>
    cases ry with
    | bl j => cases e; exact .inl ⟨rfl, by simp⟩
    | _ => exact .inr (gen e)
  | non =>
    cases ry with
    | non => cases e; exact .inl ⟨rfl, rfl⟩
    | _ => exact .inr (gen e)
  | tup h ra => cases ry <;> exact .inr (gen e)
  | lst h ra => cases ry <;> exact .inr (gen e)
  | src h ra => cases ry <;> exact .inr (gen e)
  | dct h ra => cases ry <;> exact .inr (gen e)
  | obj h ra => cases ry <;> exact .inr (gen e)
  | ty n => cases ry <;> exact .inr (gen e)
theorem ov_eq : OpV X.K cl (fun x y H Q => rEq x y H Q ∨ rEqD X.K x y H Q) eqP := by
  intro W σ Hs H x y u v w Q s rx ry e q
  unfold eqP at e
  rw [Option.map_eq_some_iff] at e
  obtain ⟨b, e1, rfl⟩ := e
  rcases eq_split s rx ry e1 with ⟨h1, h2⟩ | ⟨d, e2, h1, h2, h3, h4, h5⟩
  · exact .inl ⟨h1, by rw [h2]; exact q.here s (.bl b)⟩
  · exact .inr ⟨d, e2, h1, h2, h3, h4, by rw [h5]; exact q.here s (.bl b)⟩
theorem ov_ne : OpV X.K cl (fun x y H Q => rNe x y H Q ∨ rNeD X.K x y H Q) neP := by
  intro W σ Hs H x y u v w Q s rx ry e q
  unfold neP at e
  rw [Option.map_eq_some_iff] at e
  obtain ⟨b, e1, rfl⟩ := e
  rcases eq_split s rx ry e1 with ⟨h1, h2⟩ | ⟨d, e2, h1, h2, h3, h4, h5⟩
  · exact .inl ⟨h1, by rw [h2]; exact q.here s (.bl (!b))⟩
  · exact .inr ⟨d, e2, h1, h2, h3, h4, by rw [h5]; exact q.here s (.bl (!b))⟩
theorem or_eq (hu : X.A.units + 64 < cLine) : OpR X (compareOp .Eq) (fun x y H Q => rEq x y H Q ∨ rEqD X.K x y H Q) := op_eq.or (op_eqD hu)
theorem or_ne (hu : X.A.units + 64 < cLine) : OpR X (compareOp .NotEq) (fun x y H Q => rNe x y H Q ∨ rNeD X.K x y H Q) := op_ne.or (op_neD hu)
theorem ov_is : OpV X.K cl (fun x y H Q => (y = .non ∧ Q (.bl (decide (x = .non))) H) ∨ ∃ a b, x = V.bl a ∧ y = V.bl b ∧ Q (.bl (decide (a = b))) H) isP := by
  intro W σ Hs H x y u v w Q s rx ry e q
  cases ry with
  | non => exact .inl ⟨rfl, by cases rx <;> (cases e; exact q.here s (.bl _))⟩
  | bl b =>
    cases rx with
    | bl a => cases e; exact .inr ⟨_, _, rfl, rfl, q.here s (.bl _)⟩
    | _ => cases e
  | _ => cases rx <;> cases e
theorem ov_isnt : OpV X.K cl (fun x y H Q => (y = .non ∧ Q (.bl (!decide (x = .non))) H) ∨ ∃ a b, x = V.bl a ∧ y = V.bl b ∧ Q (.bl (!decide (a = b))) H) isntP := by
  intro W σ Hs H x y u v w Q s rx ry e q
  cases ry with
  | non => exact .inl ⟨rfl, by cases rx <;> (cases e; exact q.here s (.bl _))⟩
  | bl b =>
    cases rx with
    | bl a => cases e; exact .inr ⟨_, _, rfl, rfl, q.here s (.bl _)⟩
    | _ => cases e
  | _ => cases rx <;> cases e
theorem or_is : OpR X (compareOp .Is) (fun x y H Q => (y = .non ∧ Q (.bl (decide (x = .non))) H) ∨ ∃ a b, x = V.bl a ∧ y = V.bl b ∧ Q (.bl (decide (a = b))) H) := op_isN.or op_is_bl
theorem or_isnt : OpR X (compareOp .IsNot) (fun x y H Q => (y = .non ∧ Q (.bl (!decide (x = .non))) H) ∨ ∃ a b, x = V.bl a ∧ y = V.bl b ∧ Q (.bl (!decide (a = b))) H) := op_notN.or op_isnot_bl
theorem ov_lt : OpV X.K cl (fun x y H Q => ((rI0 fun i j => .bl (decide (i < j))) x y H Q ∨ (∃ i j, x = V.str i ∧ y = V.str j ∧ Q (.bl (decide (i.cps.toList < j.cps.toList))) H)) ∨ rLtT X.K x y H Q) ltP := by
  intro W σ Hs H x y u v w Q s rx ry e q
  cases rx with
  | int i =>
    cases ry with
    | int j => cases e; exact .inl (.inl ⟨_, _, rfl, rfl, q.here s (.bl _)⟩)
    | _ => cases e
  | str i =>
    cases ry with
    | str j => cases e; exact .inl (.inr ⟨_, _, rfl, rfl, q.here s (.bl _)⟩)
    | _ => cases e
  | @tup a vs xs h ra =>
    cases ry with
    | @tup b ws ys h' rb =>
      replace e : ((intsP xs).bind fun ns => (intsP ys).map fun ms => PV.bl (HT.lexLt ns ms)) = some w := e
      rw [Option.bind_eq_some_iff] at e
      obtain ⟨ns, e1, e⟩ := e
      rw [Option.map_eq_some_iff] at e
      obtain ⟨ms, e2, rfl⟩ := e
      have z1 := ra.ints e1
      have z2 := rb.ints e2
      subst z1 z2
      exact .inr ⟨_, _, _, _, rfl, rfl, s.seqT h, s.seqT h', q.here s (.bl _)⟩
    | _ => cases e
  | _ => cases e
theorem or_lt (hu : X.A.units < cLine) : OpR X (compareOp .Lt) (fun x y H Q => ((rI0 fun i j => .bl (decide (i < j))) x y H Q ∨ (∃ i j, x = V.str i ∧ y = V.str j ∧ Q (.bl (decide (i.cps.toList < j.cps.toList))) H)) ∨ rLtT X.K x y H Q) := (op_lt.or op_lt_str).or (op_ltT hu)
theorem ov_le : OpV X.K cl (fun x y H Q => (rI0 fun i j => .bl (decide (i ≤ j))) x y H Q ∨ (∃ i j, x = V.str i ∧ y = V.str j ∧ Q (.bl (!decide (j.cps.toList < i.cps.toList))) H)) leP := by
  intro W σ Hs H x y u v w Q s rx ry e q
  cases rx with
  | int i =>
    cases ry with
    | int j => cases e; exact .inl ⟨_, _, rfl, rfl, q.here s (.bl _)⟩
    | _ => cases e
  | str i =>
    cases ry with
    | str j => cases e; exact .inr ⟨_, _, rfl, rfl, q.here s (.bl _)⟩
    | _ => cases e
  | _ => cases e
theorem or_le : OpR X (compareOp .LtE) (fun x y H Q => (rI0 fun i j => .bl (decide (i ≤ j))) x y H Q ∨ (∃ i j, x = V.str i ∧ y = V.str j ∧ Q (.bl (!decide (j.cps.toList < i.cps.toList))) H)) := op_le.or op_le_str
theorem ov_gt : OpV X.K cl (rI0 fun i j => .bl (decide (j < i))) gtP := by
  intro W σ Hs H x y u v w Q s rx ry e q
  cases rx with
  | int i =>
    cases ry with
    | int j => cases e; exact ⟨_, _, rfl, rfl, q.here s (.bl _)⟩
    | _ => cases e
  | _ => cases e
theorem ov_ge : OpV X.K cl (rI0 fun i j => .bl (decide (j ≤ i))) geP := by
  intro W σ Hs H x y u v w Q s rx ry e q
  cases rx with
  | int i =>
    cases ry with
    | int j => cases e; exact ⟨_, _, rfl, rfl, q.here s (.bl _)⟩
    | _ => cases e
  | _ => cases e
def rInAll (K : PySem.W.Frag) : R2 := fun x y H Q => (rIn K false x y H Q ∨ rInD K x y H Q) ∨ (∃ (c : Nat) (z : Str), x = .str ⟨#[c]⟩ ∧ y = .str z ∧ Q (.bl (decide (c ∈ z.cps.toList))) H) ∨ ∃ i j, x = V.str i ∧ y = V.str j ∧ Q (.bl (!(Builtin.Str.occurrences j i 0 j.length 1).isEmpty)) H
def rNinAll (K : PySem.W.Frag) : R2 := fun x y H Q => (rIn K true x y H Q ∨ rNotInD K x y H Q) ∨ (∃ (c : Nat) (z : Str), x = .str ⟨#[c]⟩ ∧ y = .str z ∧ Q (.bl (!decide (c ∈ z.cps.toList))) H) ∨ ∃ i j, x = V.str i ∧ y = V.str j ∧ Q (.bl (!(!(Builtin.Str.occurrences j i 0 j.length 1).isEmpty))) H
theorem or_in (hu : X.A.units + 65 < cLine) : OpR X (compareOp .In) (rInAll X.K) := (op_in_seq.or (op_inD hu)).or (op_in_sign.or op_in_str)
theorem or_nin (hu : X.A.units + 65 < cLine) : OpR X (compareOp .NotIn) (rNinAll X.K) := (op_notIn_seq.or (op_notInD hu)).or (op_notIn_sign.or op_notin_str)
theorem one_sign {c : Str} (h : c.cps.size = 1) : c = ⟨#[c.cps.getD 0 0]⟩ := by
  obtain ⟨⟨l⟩⟩ := c
  match l, h with
  | [x], _ => rfl
theorem in_split {Hs H : Hp} {x y : V} {u v : PV} {b : Bool} (s : Sub Hs H) (rx : Rp X.K cl Hs x u) (ry : Rp X.K cl Hs y v) (e : inB u v = some b) :
    (∃ p xs, y = .ref p ∧ (SqL X.K H p xs ∨ SqT X.K H p xs) ∧ flatV x = true ∧ xs.all flatV = true ∧ inV x xs = b) ∨ (∃ d ds, Dp X.K H x d ∧ Dp X.K H y (.list ds) ∧ SeqAt.shaped d = true ∧ SeqAt.shaped (.list ds) = true ∧ (ds.any fun z => PyData.eqv z d) = b) ∨
      (∃ (c : Nat) (z : Str), x = .str ⟨#[c]⟩ ∧ y = .str z ∧ decide (c ∈ z.cps.toList) = b) ∨ ∃ i j, x = V.str i ∧ y = V.str j ∧ (!(Builtin.Str.occurrences j i 0 j.length 1).isEmpty) = b := by
  have deep : ∀ {a : Addr} {vs : List V} {xs : List PV}, SqL X.K H a vs → RpA X.K cl Hs vs xs → dataIn u xs = some b → ∃ d ds, Dp X.K H x d ∧ Dp X.K H (.ref a) (.list ds) ∧ SeqAt.shaped d = true ∧ SeqAt.shaped (.list ds) = true ∧ (ds.any fun z => PyData.eqv z d) = b := by
    intro a vs xs h ra h2
    unfold dataIn at h2
    split at h2
    · rename_i d ds e1 e2
      split at h2
      · rename_i hs
        cases h2
        exact ⟨d, ds, (rx.mono s).dp e1, .lst h ((ra.mono s).dp e2), hs.1, hs.2, rfl⟩
      · cases h2
    · cases h2
  cases ry with
  | @lst a vs xs h ra =>
    replace e : (if flatP u = true ∧ xs.all flatP = true then some (xs.any fun y => eqF y u) else dataIn u xs) = some b := e
    split at e
    · rename_i hf
      cases e
      exact .inl ⟨_, _, rfl, .inl (.of (s _ _ h)), rx.flat hf.1, ra.flat hf.2, RpA.any rx ra⟩
    · exact .inr (.inl (deep (.of (s _ _ h)) ra e))
  | @src a vs xs h ra =>
    replace e : (if flatP u = true ∧ xs.all flatP = true then some (xs.any fun y => eqF y u) else dataIn u xs) = some b := e
    split at e
    · rename_i hf
      cases e
      exact .inl ⟨_, _, rfl, .inl (s.seqL h), rx.flat hf.1, ra.flat hf.2, RpA.any rx ra⟩
    · exact .inr (.inl (deep (s.seqL h) ra e))
  | @tup a vs xs h ra =>
    replace e : (if flatP u = true ∧ xs.all flatP = true then some (xs.any fun y => eqF y u) else none) = some b := e
    split at e
    · rename_i hf
      cases e
      exact .inl ⟨_, _, rfl, .inr (s.seqT h), rx.flat hf.1, ra.flat hf.2, RpA.any rx ra⟩
    · cases e
  | str z =>
    cases rx with
    | str c =>
      replace e : (if c.cps.size = 1 then some (decide (c.cps.getD 0 0 ∈ z.cps.toList)) else some (!(Builtin.Str.occurrences z c 0 z.length 1).isEmpty)) = some b := e
      split at e
      · rename_i hc
        cases e
        exact .inr (.inr (.inl ⟨_, _, congrArg V.str (one_sign hc), rfl, rfl⟩))
      · cases e
        exact .inr (.inr (.inr ⟨_, _, rfl, rfl, rfl⟩))
    | _ => cases e
  | _ => cases e
theorem ov_in : OpV X.K cl (rInAll X.K) inP := by
  intro W σ Hs H x y u v w Q s rx ry e q
  unfold inP at e
  rw [Option.map_eq_some_iff] at e
  obtain ⟨b, e1, rfl⟩ := e
  have q := q.here s (.bl b)
  rcases in_split s rx ry e1 with ⟨p, xs, h1, h2, h3, h4, h5⟩ | ⟨d, ds, h1, h2, h3, h4, h5⟩ | ⟨c, z, h1, h2, h5⟩ | ⟨i, j, h1, h2, h5⟩
  · exact .inl (.inl ⟨p, xs, h1, h2, h3, h4, by rw [if_neg Bool.false_ne_true, h5]; exact q⟩)
  · exact .inl (.inr ⟨d, ds, h1, h2, h3, h4, by rw [h5]; exact q⟩)
  · exact .inr (.inl ⟨c, z, h1, h2, by rw [h5]; exact q⟩)
  · exact .inr (.inr ⟨i, j, h1, h2, by rw [h5]; exact q⟩)
theorem ov_nin : OpV X.K cl (rNinAll X.K) ninP := by
  intro W σ Hs H x y u v w Q s rx ry e q
  unfold ninP at e
  rw [Option.map_eq_some_iff] at e
  obtain ⟨b, e1, rfl⟩ := e
  have q := q.here s (.bl (!b))
  rcases in_split s rx ry e1 with ⟨p, xs, h1, h2, h3, h4, h5⟩ | ⟨d, ds, h1, h2, h3, h4, h5⟩ | ⟨c, z, h1, h2, h5⟩ | ⟨i, j, h1, h2, h5⟩
  · exact .inl (.inl ⟨p, xs, h1, h2, h3, h4, by rw [if_pos rfl, h5]; exact q⟩)
  · exact .inl (.inr ⟨d, ds, h1, h2, h3, h4, by rw [h5]; exact q⟩)
  · exact .inr (.inl ⟨c, z, h1, h2, by rw [h5]; exact q⟩)
  · exact .inr (.inr ⟨i, j, h1, h2, by rw [h5]; exact q⟩)
theorem ve_neg {W : WX} {a : Expr} {f : Ex} {pos : Pos} (ha : PE X a (tv X.K cl W f)) : PE X (.UnaryOp .USub a pos) (tv X.K cl W (e1 negP f)) :=
  peWeak (pe_un un_neg ha) fun σ H Q ⟨Hs, ρ, E, h⟩ => by
    refine gv_bind E h fun v x Hs1 H1 _ s1 rx h1 => ?_
    obtain ⟨w, e, q⟩ := h1.opt
    cases rx with
    | int i => cases e; exact ⟨i, rfl, q.here s1.sub (.int _)⟩
    | _ => cases e
end

/-! ### built-in functions -/
def lenP : List PV → Option PV
  | [.str y] => if y.length ≤ sizeLine then some (.int y.length) else none
  | [.lst xs] => some (.int xs.length)
  | [.src xs] => some (.int xs.length)
  | [.tup xs] => some (.int xs.length)
  | _ => none
def absP : List PV → Option PV
  | [.int i] => some (.int (if i < 0 then -i else i))
  | _ => none
def intP : List PV → Option PV
  | [.int i] => some (.int i)
  | [.bl b] => some (.int (if b then 1 else 0))
  | _ => none
def minL : List Int → Int
  | [] => 0
  | [x] => x
  | x :: r => min x (minL r)
def maxL : List Int → Int
  | [] => 0
  | [x] => x
  | x :: r => max x (maxL r)
theorem minL_ok : ∀ {ns : List Int}, ns ≠ [] → minL ns ∈ ns ∧ ∀ y ∈ ns, minL ns ≤ y
  | [], h => absurd rfl h
  | [x], _ => by simp [minL]
  | x :: y :: r, _ => by
    obtain ⟨h1, h2⟩ := minL_ok (ns := y :: r) (by simp)
    have e : minL (x :: y :: r) = min x (minL (y :: r)) := rfl
    rw [e]
    refine ⟨?_, fun z hz => ?_⟩
    · by_cases c : x ≤ minL (y :: r)
      · rw [Int.min_eq_left c]; exact List.mem_cons_self
      · rw [Int.min_eq_right (by omega)]; exact List.mem_cons_of_mem _ h1
    · rcases List.mem_cons.mp hz with rfl | hz
      · exact Int.min_le_left _ _
      · exact Int.le_trans (Int.min_le_right _ _) (h2 z hz)
theorem maxL_ok : ∀ {ns : List Int}, ns ≠ [] → maxL ns ∈ ns ∧ ∀ y ∈ ns, y ≤ maxL ns
  | [], h => absurd rfl h
  | [x], _ => by simp [maxL]
  | x :: y :: r, _ => by
    obtain ⟨h1, h2⟩ := maxL_ok (ns := y :: r) (by simp)
    have e : maxL (x :: y :: r) = max x (maxL (y :: r)) := rfl
    rw [e]
    refine ⟨?_, fun z hz => ?_⟩
    · by_cases c : maxL (y :: r) ≤ x
      · rw [Int.max_eq_left c]; exact List.mem_cons_self
      · rw [Int.max_eq_right (by omega)]; exact List.mem_cons_of_mem _ h1
    · rcases List.mem_cons.mp hz with rfl | hz
      · exact Int.le_max_left _ _
      · exact Int.le_trans (h2 z hz) (Int.le_max_right _ _)
def minP : List PV → Option PV
  | [.int i, .int j] => some (.int (if j < i then j else i))
  | [.lst xs] => (intsP xs).bind fun ns => if ns = [] then none else some (.int (minL ns))
  | _ => none
def maxP : List PV → Option PV
  | [.int i, .int j] => some (.int (if j > i then j else i))
  | [.lst xs] => (intsP xs).bind fun ns => if ns = [] then none else some (.int (maxL ns))
  | _ => none
def sumP : List PV → Option PV
  | [.lst xs] => (intsP xs).map fun ns => .int ns.sum
  | _ => none
def sortI (ns : List Int) : List Int := ns.mergeSort (fun a b => decide (a ≤ b))
theorem sortI_ok (ns : List Int) : (sortI ns).Perm ns ∧ (sortI ns).Pairwise (· ≤ ·) := by
  refine ⟨List.mergeSort_perm _ _, ?_⟩
  have h := List.pairwise_mergeSort (le := fun a b : Int => decide (a ≤ b)) (fun a b c h1 h2 => by simp at *; omega) (fun a b => by simp; omega) ns
  exact h.imp fun h => by simpa using h
def sortP : List PV → Option PV
  | [.lst xs] => (intsP xs).map fun ns => .lst ((sortI ns).map .int)
  | _ => none
def listP : List PV → Option PV
  | [.lst xs] => some (.lst xs)
  | [.src xs] => some (.lst xs)
  | [.tup xs] => some (.lst xs)
  | _ => none
def tupleP : List PV → Option PV
  | [.lst xs] => some (.tup xs)
  | [.tup xs] => some (.tup xs)
  | _ => none
def strP : List PV → Option PV
  | [.int i] => if -(2 ^ 1000) < i ∧ i < 2 ^ 1000 then some (.str (toString i)) else none
  | _ => none
def tyName : PV → Option String
  | .non => some "NoneType" | .bl _ => some "bool" | .int _ => some "int" | .str _ => some "str"
  | .tup _ => some "tuple" | .lst _ => some "list" | .src _ => some "list" | .dct _ => some "dict"
  | _ => none
/-- isinstance of built-in classes -/
def isaT (a b : String) : Option Bool :=
  if b = "int" ∨ b = "str" ∨ b = "tuple" ∨ b = "list" ∨ b = "bool" ∨ b = "dict" then
    some (decide (a = b) || (decide (a = "bool") && decide (b = "int")))
  else none
def isaP : List PV → Option PV
  | [x, .ty n] => (tyName x).bind fun t => (isaT t n).map .bl
  | _ => none
theorem isaT_ok {K : PySem.W.Frag} {x : PV} {t n : String} {b : Bool} (ht : tyName x = some t) (h : isaT t n = some b) : PySem.W.kitOne K (.type t) (.type n) = some b := by
  have ha : t = "NoneType" ∨ t = "bool" ∨ t = "int" ∨ t = "str" ∨ t = "tuple" ∨ t = "list" ∨ t = "dict" := by
    cases x <;> simp only [tyName, Option.some.injEq] at ht <;> first | (subst ht; simp) | cases ht
  refine kit_ty ?_
  unfold isaT at h
  split at h
  · rename_i hb
    cases h
    rcases ha with rfl | rfl | rfl | rfl | rfl | rfl | rfl <;> rcases hb with rfl | rfl | rfl | rfl | rfl | rfl <;> decide +kernel
  · cases h
section
variable {X : Cx} {cl : Nat → Addr}
theorem cv_len : CallV X.K cl (fun xs H Q => ∃ x n, xs = [x] ∧ LenV X.K x H n ∧ Q (.int n) H) lenP := by
  intro W σ Hs H xs us w Q s r e q
  cases r with
  | nil => cases e
  | cons r t =>
    cases t with
    | cons _ _ => cases r <;> cases e
    | nil =>
      cases r with
      | str z =>
        replace e : (if z.length ≤ sizeLine then some (PV.int z.length) else none) = some w := e
        split at e
        · cases e; exact ⟨_, _, rfl, ⟨by assumption, rfl⟩, q.here s (.int _)⟩
        · cases e
      | lst h ra => cases e; exact ⟨_, _, rfl, .inl ⟨_, .of (s _ _ h), rfl⟩, by rw [ra.length]; exact q.here s (.int _)⟩
      | src h ra => cases e; exact ⟨_, _, rfl, .inl ⟨_, s.seqL h, rfl⟩, by rw [ra.length]; exact q.here s (.int _)⟩
      | tup h ra => cases e; exact ⟨_, _, rfl, .inr ⟨_, s.seqT h, rfl⟩, by rw [ra.length]; exact q.here s (.int _)⟩
      | _ => cases e
theorem cv_abs : CallV X.K cl (fun xs H Q => ∃ i, xs = [V.int i] ∧ Q (.int (if i < 0 then -i else i)) H) absP := by
  intro W σ Hs H xs us w Q s r e q
  cases r with
  | nil => cases e
  | cons r t =>
    cases t with
    | cons _ _ => cases r <;> cases e
    | nil =>
      cases r with
      | int i => cases e; exact ⟨i, rfl, q.here s (.int _)⟩
      | _ => cases e
theorem cv_int : CallV X.K cl (fun xs H Q => (∃ i, xs = [V.int i] ∧ Q (.int i) H) ∨ ∃ k, xs = [V.bl k] ∧ Q (.int (if k then 1 else 0)) H) intP := by
  intro W σ Hs H xs us w Q s r e q
  cases r with
  | nil => cases e
  | cons r t =>
    cases t with
    | cons _ _ => cases r <;> cases e
    | nil =>
      cases r with
      | int i => cases e; exact .inl ⟨i, rfl, q.here s (.int _)⟩
      | bl i => cases e; exact .inr ⟨i, rfl, q.here s (.int _)⟩
      | _ => cases e
def rMin2 (K : PySem.W.Frag) : List V → Hp → VK → Prop := fun xs H Q => (∃ i j, xs = [V.int i, V.int j] ∧ Q (.int (if j < i then j else i)) H) ∨ rMin K xs H Q
def rMax2 (K : PySem.W.Frag) : List V → Hp → VK → Prop := fun xs H Q => (∃ i j, xs = [V.int i, V.int j] ∧ Q (.int (if j > i then j else i)) H) ∨ rMax K xs H Q
theorem cr_min2 (hc : X.calm = true) : CallR X (.builtin "min") (rMin2 X.K) := (call_min2 hc).or (cr_min hc)
theorem cr_max2 (hc : X.calm = true) : CallR X (.builtin "max") (rMax2 X.K) := (call_max2 hc).or (cr_max hc)
theorem cv_min : CallV X.K cl (rMin2 X.K) minP := by
  intro W σ Hs H xs us w Q s r e q
  cases r with
  | nil => cases e
  | cons r t =>
    cases t with
    | cons r2 t2 =>
      cases t2 with
      | cons _ _ => cases r <;> cases r2 <;> cases e
      | nil =>
        cases r with
        | int i =>
          cases r2 with
          | int j => cases e; exact .inl ⟨i, j, rfl, q.here s (.int _)⟩
          | _ => cases e
        | _ => cases r2 <;> cases e
    | nil =>
      cases r with
      | @lst a vs xs h ra =>
        replace e : ((intsP xs).bind fun ns => if ns = [] then none else some (PV.int (minL ns))) = some w := e
        rw [Option.bind_eq_some_iff] at e
        obtain ⟨ns, e1, e⟩ := e
        split at e
        · cases e
        · rename_i hn
          cases e
          have z := ra.ints e1
          subst z
          obtain ⟨m1, m2⟩ := minL_ok hn
          refine .inr ⟨_, ns, rfl, .of (s _ _ h), List.length_pos_iff.mpr hn, fun m h1 h2 => ?_⟩
          have em : m = minL ns := Int.le_antisymm (h2 _ m1) (m2 _ h1)
          rw [em]
          exact q.here s (.int _)
      | _ => cases e
theorem cv_max : CallV X.K cl (rMax2 X.K) maxP := by
  intro W σ Hs H xs us w Q s r e q
  cases r with
  | nil => cases e
  | cons r t =>
    cases t with
    | cons r2 t2 =>
      cases t2 with
      | cons _ _ => cases r <;> cases r2 <;> cases e
      | nil =>
        cases r with
        | int i =>
          cases r2 with
          | int j => cases e; exact .inl ⟨i, j, rfl, q.here s (.int _)⟩
          | _ => cases e
        | _ => cases r2 <;> cases e
    | nil =>
      cases r with
      | @lst a vs xs h ra =>
        replace e : ((intsP xs).bind fun ns => if ns = [] then none else some (PV.int (maxL ns))) = some w := e
        rw [Option.bind_eq_some_iff] at e
        obtain ⟨ns, e1, e⟩ := e
        split at e
        · cases e
        · rename_i hn
          cases e
          have z := ra.ints e1
          subst z
          obtain ⟨m1, m2⟩ := maxL_ok hn
          refine .inr ⟨_, ns, rfl, .of (s _ _ h), List.length_pos_iff.mpr hn, fun m h1 h2 => ?_⟩
          have em : m = maxL ns := Int.le_antisymm (m2 _ h1) (h2 _ m1)
          rw [em]
          exact q.here s (.int _)
      | _ => cases e
theorem cv_sum : CallV X.K cl (rSum X.K) sumP := by
  intro W σ Hs H xs us w Q s r e q
  cases r with
  | nil => cases e
  | cons r t =>
    cases t with
    | cons _ _ => cases r <;> cases e
    | nil =>
      cases r with
      | @lst a vs xs h ra =>
        replace e : ((intsP xs).map fun ns => PV.int ns.sum) = some w := e
        rw [Option.map_eq_some_iff] at e
        obtain ⟨ns, e1, rfl⟩ := e
        have z := ra.ints e1
        subst z
        exact ⟨_, ns, rfl, .of (s _ _ h), q.here s (.int _)⟩
      | _ => cases e
theorem rpa_ints {K : PySem.W.Frag} {H : Hp} : ∀ ns : List Int, RpA K cl H (ns.map V.int) (ns.map PV.int)
  | [] => .nil
  | n :: r => .cons (.int n) (rpa_ints r)
theorem cv_sort : CallV X.K cl (rSortedI X.K) sortP := by
  intro W σ Hs H xs us w Q s r e q
  cases r with
  | nil => cases e
  | cons r t =>
    cases t with
    | cons _ _ => cases r <;> cases e
    | nil =>
      cases r with
      | @lst a vs xs h ra =>
        replace e : ((intsP xs).map fun ns => PV.lst ((sortI ns).map .int)) = some w := e
        rw [Option.map_eq_some_iff] at e
        obtain ⟨ns, e1, rfl⟩ := e
        have z := ra.ints e1
        subst z
        refine ⟨_, ns, rfl, .of (s _ _ h), fun ns' p h1 h2 n => ?_⟩
        obtain ⟨g1, g2⟩ := sortI_ok ns
        have ee : ns' = sortI ns := PySem.W.ksm_same (h1.trans g1.symm) h2 g2
        rw [ee]
        exact new_lst q s n (rpa_ints _)
      | _ => cases e
theorem cv_list : CallV X.K cl (fun xs H Q => ∃ p ys, xs = [V.ref p] ∧ (SqL X.K H p ys ∨ SqT X.K H p ys) ∧ ∀ l, H l = none → Q (.ref l) (upd H l (.lst ys))) listP := by
  intro W σ Hs H xs us w Q s r e q
  cases r with
  | nil => cases e
  | cons r t =>
    cases t with
    | cons _ _ => cases r <;> cases e
    | nil =>
      cases r with
      | lst h ra => cases e; exact ⟨_, _, rfl, .inl (.of (s _ _ h)), fun l n => new_lst q s n ra⟩
      | src h ra => cases e; exact ⟨_, _, rfl, .inl (s.seqL h), fun l n => new_lst q s n ra⟩
      | tup h ra => cases e; exact ⟨_, _, rfl, .inr (s.seqT h), fun l n => new_lst q s n ra⟩
      | _ => cases e
theorem cv_tuple : CallV X.K cl (fun xs H Q => ∃ p ys, xs = [V.ref p] ∧ ((SqL X.K H p ys ∧ ∀ l, H l = none → Q (.ref l) (upd H l (.tup ys))) ∨ (SqT X.K H p ys ∧ Q (.ref p) H))) tupleP := by
  intro W σ Hs H xs us w Q s r e q
  cases r with
  | nil => cases e
  | cons r t =>
    cases t with
    | cons _ _ => cases r <;> cases e
    | nil =>
      cases r with
      | lst h ra => cases e; exact ⟨_, _, rfl, .inl ⟨.of (s _ _ h), fun l n => new_tup q s n ra⟩⟩
      | tup h ra => cases e; exact ⟨_, _, rfl, .inr ⟨s.seqT h, q.here s (.tup h ra)⟩⟩
      | _ => cases e
theorem cv_str : CallV X.K cl (fun xs H Q => ∃ i, xs = [V.int i] ∧ i.natAbs.log2 < 1920 ∧ Q (.str (toString i)) H) strP := by
  intro W σ Hs H xs us w Q s r e q
  cases r with
  | nil => cases e
  | cons r t =>
    cases t with
    | cons _ _ => cases r <;> cases e
    | nil =>
      cases r with
      | int i =>
        replace e : (if -(2 ^ 1000) < i ∧ i < 2 ^ 1000 then some (PV.str (toString i)) else none) = some w := e
        split at e
        · rename_i hk
          cases e
          refine ⟨i, rfl, Nat.lt_of_lt_of_le (PySem.Flt.log2_lt_of (k := 1000) (by decide) ?_) (by decide), q.here s (.str _)⟩
          have h1 : (i.natAbs : Int) < ((2 ^ 1000 : Nat) : Int) := by
            rw [Int.natCast_pow]
            have h2 : ((2 : Nat) : Int) ^ 1000 = 2 ^ 1000 := rfl
            rw [h2]
            generalize (2 : Int) ^ 1000 = z at hk
            omega
          exact Int.ofNat_lt.mp h1
        · cases e
      | _ => cases e
theorem tyX_of {Hs H : Hp} {x : V} {u : PV} {t : String} (s : Sub Hs H) (r : Rp X.K cl Hs x u) (e : tyName u = some t) : TyX X.K H x (.type t) := by
  cases r with
  | non => cases e; exact .base .non
  | bl b => cases e; exact .base (.bl b)
  | int b => cases e; exact .base (.int b)
  | str b => cases e; exact .base (.str b)
  | tup h ra =>
    cases e
    rcases s.seqT h with (h | ⟨o, h⟩) | ⟨o, its, n, h1, h2, _⟩
    · exact .base (.tup h)
    · exact .fTuple h
    · exact .kTuple h1 h2
  | lst h ra => cases e; exact .base (.lst (s _ _ h))
  | src h ra =>
    cases e
    rcases s.seqL h with (h | ⟨o, h⟩) | ⟨o, its, n, h1, h2, _⟩
    · exact .base (.lst h)
    · exact .base (.frz h)
    · exact .kList h1 h2
  | dct h ra => cases e; exact .base (.dK (s _ _ h))
  | obj h ra => cases e
  | ty n => cases e
theorem cv_isa : CallV X.K cl (rIsi X.K) isaP := by
  intro W σ Hs H xs us w Q s r e q
  cases r with
  | nil => cases e
  | @cons _ _ u _ r t =>
    cases t with
    | nil => cases e
    | cons r2 t2 =>
      cases t2 with
      | cons _ _ => cases r2 <;> cases e
      | nil =>
        cases r2 with
        | ty n =>
          replace e : ((tyName u).bind fun t => (isaT t n).map PV.bl) = some w := e
          rw [Option.bind_eq_some_iff] at e
          obtain ⟨t, e1, e⟩ := e
          rw [Option.map_eq_some_iff] at e
          obtain ⟨b, e2, rfl⟩ := e
          exact ⟨_, _, _, _, b, rfl, .ty n, tyX_of s r e1, isaT_ok e1 e2, q.here s (.bl b)⟩
        | _ => cases e
theorem ve_ty {W : WX} {x : Str} {n : String} {pos : Pos} (hm : X.mg x = none) (hv : bootBuiltins x = some (.type n)) (hg : Gl X x := by rfl) (hn : x ≠ "__name__" := by decide) (hd : (x == ("__debug__" : Str)) = false := by decide) : PE X (.Name x pos) (tv X.K cl W (eC (.ty n))) :=
  ve_c (pe_bltn (v := .ty n) hg hm hv rfl hn hd) fun _ => .ty n
end
end VL
namespace VL
open PySem PySem.Spec PyProof.Rows L2
/-! ### a def's slots: nothing, a value that stays as it is, a list of the def's own -/
inductive Sl where
  | no | fz (v : PV) | own (xs : List PV)
abbrev Env := List Sl
inductive Out where
  | next (ρ : Env) | brk (ρ : Env) | cont (ρ : Env) | ret (v : PV) | exc (c : Nat) (fs : List (Str × PV)) (ρ : Env) | stuck
/-- what an expression sees that names the slots of bs -/
def vw : List Bool → Env → Ev
  | _, [] => []
  | bs, .no :: ρ => none :: vw bs.tail ρ
  | bs, .fz v :: ρ => some v :: vw bs.tail ρ
  | bs, .own xs :: ρ => (if bs.headD false = true then some (.lst xs) else none) :: vw bs.tail ρ
/-- the own lists among bs stay as they are from now on -/
def fr : List Bool → Env → Env
  | _, [] => []
  | bs, .no :: ρ => .no :: fr bs.tail ρ
  | bs, .fz v :: ρ => .fz v :: fr bs.tail ρ
  | bs, .own xs :: ρ => (if bs.headD false = true then .fz (.lst xs) else .own xs) :: fr bs.tail ρ
mutual
/-- no list within -/
def PV.nol : PV → Bool
  | .non => true | .bl _ => true | .int _ => true | .str _ => true | .ty _ => true
  | .tup xs => PV.nols xs
  | .lst _ => false | .src _ => false | .dct _ => false | .obj _ _ => false
def PV.nols : List PV → Bool
  | [] => true
  | x :: xs => PV.nol x && PV.nols xs
end
def settle (bs : List Bool) (b : Bool) (ρ : Env) : Env := if b = true then ρ else fr bs ρ

section
variable (K : PySem.W.Frag) (cl : Nat → Addr) (He H0 : Hp)
structure SEnv (Hs H : Hp) (σ : St) (ρ : Env) : Prop where
  ext : Ext He H0 Hs H
  len : σ.length = ρ.length
  fz : ∀ (i : Nat) (v : PV), ρ[i]? = some (.fz v) → ∃ x, σ[i]? = some (some x) ∧ Rp K cl Hs x v
  own : ∀ (i : Nat) (xs : List PV), ρ[i]? = some (.own xs) → ∃ a vs, σ[i]? = some (some (.ref a)) ∧ H a = some (.lst vs) ∧ RpA K cl Hs vs xs ∧ Hs a = none ∧ H0 a = none
  inj : ∀ (i j : Nat) (xs ys : List PV) (a : Addr), ρ[i]? = some (.own xs) → ρ[j]? = some (.own ys) → σ[i]? = some (some (.ref a)) → σ[j]? = some (some (.ref a)) → i = j
variable (W : WX)
def Post (Hs : Hp) (D : Ends) : Out → Prop
  | .next ρ => ∀ σ Hs' H', Sub Hs Hs' → SEnv K cl He H0 Hs' H' σ ρ → D.nx σ H'
  | .brk ρ => ∀ σ Hs' H', Sub Hs Hs' → SEnv K cl He H0 Hs' H' σ ρ → D.bk σ H'
  | .cont ρ => ∀ σ Hs' H', Sub Hs Hs' → SEnv K cl He H0 Hs' H' σ ρ → D.ct σ H'
  | .ret v => ∀ x Hs' H', Ext He H0 Hs' H' → Rp K cl Hs' x v → D.rt x H'
  | .exc c fs ρ => ∀ σ Hs' H' d fvs, Sub Hs Hs' → SEnv K cl He H0 Hs' H' σ ρ → Hs' d = some (.xd fvs) → RpF K cl Hs' fvs fs → W (.ref (cl c)) (some d) σ H'
  | .stuck => False
def ts (s : Env → Out) : TS := fun D σ H => ∃ Hs ρ, SEnv K cl He H0 Hs H σ ρ ∧ Post K cl He H0 W Hs D (s ρ)
end

section
variable {K : PySem.W.Frag} {cl : Nat → Addr} {He H0 : Hp} {W : WX} {Hs Hs1 H H1 : Hp} {σ : St} {ρ : Env} {D : Ends} {o : Out}
theorem Post.up (h : Post K cl He H0 W Hs D o) (s : Sub Hs Hs1) : Post K cl He H0 W Hs1 D o := by
  cases o with
  | next ρ => exact fun σ Hs' H' t => h σ Hs' H' (s.trans t)
  | brk ρ => exact fun σ Hs' H' t => h σ Hs' H' (s.trans t)
  | cont ρ => exact fun σ Hs' H' t => h σ Hs' H' (s.trans t)
  | ret v => exact h
  | exc c fs ρ => exact fun σ Hs' H' d fvs t => h σ Hs' H' d fvs (s.trans t)
  | stuck => exact h
theorem SEnv.sub (S : SEnv K cl He H0 Hs H σ ρ) : Sub Hs H := S.ext.sub

/-! the slots that are seen -/
theorem vw_fz : ∀ {bs : List Bool} {ρ : Env} {i : Nat} {v : PV}, (vw bs ρ)[i]? = some (some v) → ρ[i]? = some (.fz v) ∨ ∃ xs, ρ[i]? = some (.own xs) ∧ bs[i]? = some true ∧ v = .lst xs
  | bs, [], i, v, h => by simp [vw] at h
  | bs, .no :: ρ, 0, v, h => by simp [vw] at h
  | bs, .fz u :: ρ, 0, v, h => by simp [vw] at h; subst h; exact .inl rfl
  | [], .own xs :: ρ, 0, v, h => by simp [vw] at h
  | b :: bs, .own xs :: ρ, 0, v, h => by
    cases b with
    | true => simp [vw] at h; subst h; exact .inr ⟨xs, rfl, rfl, rfl⟩
    | false => simp [vw] at h
  | bs, s :: ρ, i + 1, v, h => by
    have h' : (vw bs.tail ρ)[i]? = some (some v) := by cases s <;> simpa [vw] using h
    rcases vw_fz h' with e | ⟨xs, e1, e2, e3⟩
    · exact .inl (by simpa using e)
    · refine .inr ⟨xs, by simpa using e1, ?_, e3⟩
      cases bs with
      | nil => simp at e2
      | cons b bs => simpa using e2
theorem vw_len : ∀ (bs : List Bool) (ρ : Env), (vw bs ρ).length = ρ.length
  | _, [] => rfl
  | bs, .no :: ρ => by simp [vw, vw_len]
  | bs, .fz v :: ρ => by simp [vw, vw_len]
  | bs, .own v :: ρ => by simp [vw, vw_len]
theorem fr_len : ∀ (bs : List Bool) (ρ : Env), (fr bs ρ).length = ρ.length
  | _, [] => rfl
  | bs, .no :: ρ => by simp [fr, fr_len]
  | bs, .fz v :: ρ => by simp [fr, fr_len]
  | bs, .own v :: ρ => by simp [fr, fr_len]
theorem fr_own : ∀ {bs : List Bool} {ρ : Env} {i : Nat} {xs : List PV}, (fr bs ρ)[i]? = some (.own xs) → ρ[i]? = some (.own xs) ∧ bs[i]? ≠ some true
  | bs, [], i, v, h => by simp [fr] at h
  | bs, .no :: ρ, 0, v, h => by simp [fr] at h
  | bs, .fz u :: ρ, 0, v, h => by simp [fr] at h
  | [], .own xs :: ρ, 0, v, h => by simp [fr] at h; subst h; exact ⟨rfl, by simp⟩
  | b :: bs, .own xs :: ρ, 0, v, h => by
    cases b with
    | true => simp [fr] at h
    | false => simp [fr] at h; subst h; exact ⟨rfl, by simp⟩
  | bs, s :: ρ, i + 1, v, h => by
    have h' : (fr bs.tail ρ)[i]? = some (.own v) := by cases s <;> simpa [fr] using h
    obtain ⟨e1, e2⟩ := fr_own h'
    refine ⟨by simpa using e1, fun z => e2 ?_⟩
    cases bs with
    | nil => simp at z
    | cons b bs => simpa using z
theorem fr_fz : ∀ {bs : List Bool} {ρ : Env} {i : Nat} {v : PV}, (fr bs ρ)[i]? = some (.fz v) → ρ[i]? = some (.fz v) ∨ ∃ xs, ρ[i]? = some (.own xs) ∧ bs[i]? = some true ∧ v = .lst xs
  | bs, [], i, v, h => by simp [fr] at h
  | bs, .no :: ρ, 0, v, h => by simp [fr] at h
  | bs, .fz u :: ρ, 0, v, h => by simp [fr] at h; subst h; exact .inl rfl
  | [], .own xs :: ρ, 0, v, h => by simp [fr] at h
  | b :: bs, .own xs :: ρ, 0, v, h => by
    cases b with
    | true => simp [fr] at h; subst h; exact .inr ⟨xs, rfl, rfl, rfl⟩
    | false => simp [fr] at h
  | bs, s :: ρ, i + 1, v, h => by
    have h' : (fr bs.tail ρ)[i]? = some (.fz v) := by cases s <;> simpa [fr] using h
    rcases fr_fz h' with e | ⟨xs, e1, e2, e3⟩
    · exact .inl (by simpa using e)
    · refine .inr ⟨xs, by simpa using e1, ?_, e3⟩
      cases bs with
      | nil => simp at e2
      | cons b bs => simpa using e2

/-! the own lists that are seen stand as if they stayed -/
def isOwn (bs : List Bool) (ρ : Env) (σ : St) (a : Addr) : Prop := ∃ (i : Nat) (xs : List PV), bs[i]? = some true ∧ ρ[i]? = some (Sl.own xs) ∧ σ[i]? = some (some (V.ref a))
open Classical in
noncomputable def plus (P : Addr → Prop) (Hs H : Hp) : Hp := fun a => if P a then H a else Hs a
open Classical in
noncomputable def cut (P : Addr → Prop) (Hs : Hp) : Hp := fun a => if P a then none else Hs a
theorem plus_yes {P : Addr → Prop} {a : Addr} (h : P a) : plus P Hs H a = H a := if_pos h
theorem plus_no {P : Addr → Prop} {a : Addr} (h : ¬ P a) : plus P Hs H a = Hs a := if_neg h
theorem cut_yes {P : Addr → Prop} {a : Addr} (h : P a) : cut P Hs a = none := if_pos h
theorem cut_no {P : Addr → Prop} {a : Addr} (h : ¬ P a) : cut P Hs a = Hs a := if_neg h
theorem SEnv.ownAt (S : SEnv K cl He H0 Hs H σ ρ) {bs : List Bool} {a : Addr} (h : isOwn bs ρ σ a) : (∃ vs, H a = some (.lst vs)) ∧ Hs a = none ∧ H0 a = none := by
  obtain ⟨i, xs, _, h1, h2⟩ := h
  obtain ⟨b, vs, e1, e2, _, e3, e4⟩ := S.own i xs h1
  rw [h2] at e1
  cases e1
  exact ⟨⟨vs, e2⟩, e3, e4⟩
theorem SEnv.plusExt (S : SEnv K cl He H0 Hs H σ ρ) (bs : List Bool) : Sub Hs (plus (isOwn bs ρ σ) Hs H) ∧ Sub (plus (isOwn bs ρ σ) Hs H) H ∧ ∀ a, H0 a ≠ none → He a = none → plus (isOwn bs ρ σ) Hs H a = none := by
  refine ⟨fun a o h => ?_, fun a o h => ?_, fun a h n => ?_⟩
  · by_cases p : isOwn bs ρ σ a
    · rw [(S.ownAt p).2.1] at h; cases h
    · rw [plus_no p]; exact h
  · by_cases p : isOwn bs ρ σ a
    · rw [plus_yes p] at h; exact h
    · rw [plus_no p] at h; exact S.sub a o h
  · by_cases p : isOwn bs ρ σ a
    · exact absurd (S.ownAt p).2.2 h
    · rw [plus_no p]; exact S.ext.nw a h n
theorem SEnv.pe (S : SEnv K cl He H0 Hs H σ ρ) (bs : List Bool) : PEnv K cl (plus (isOwn bs ρ σ) Hs H) H σ (vw bs ρ) := by
  obtain ⟨s1, s2, _⟩ := S.plusExt bs
  refine ⟨s2, by rw [vw_len, S.len], fun i v h => ?_⟩
  rcases vw_fz h with e | ⟨xs, e1, e2, rfl⟩
  · obtain ⟨x, e3, r⟩ := S.fz i v e
    exact ⟨x, e3, r.mono s1⟩
  · obtain ⟨a, vs, e3, e4, r, _, _⟩ := S.own i xs e1
    refine ⟨.ref a, e3, .lst ?_ (r.mono s1)⟩
    rw [plus_yes ⟨i, xs, e2, e1, e3⟩]
    exact e4
/-- behind an expression: what was seen stays -/
theorem SEnv.froze (S : SEnv K cl He H0 Hs H σ ρ) {bs : List Bool} (x : Ext (plus (isOwn bs ρ σ) Hs H) H Hs1 H1) : SEnv K cl He H0 Hs1 H1 σ (fr bs ρ) := by
  obtain ⟨s1, s2, s3⟩ := S.plusExt bs
  refine ⟨Ext.trans ⟨S.ext.fs.trans s1, s2, S.ext.same, s3⟩ x, by rw [fr_len]; exact S.len, fun i v h => ?_, fun i xs h => ?_, fun i j xs ys a h1 h2 => S.inj i j xs ys a (fr_own h1).1 (fr_own h2).1⟩
  · rcases fr_fz h with e | ⟨xs, e1, e2, rfl⟩
    · obtain ⟨y, e3, r⟩ := S.fz i v e
      exact ⟨y, e3, (r.mono s1).mono x.fs⟩
    · obtain ⟨a, vs, e3, e4, r, _, _⟩ := S.own i xs e1
      refine ⟨.ref a, e3, .lst (x.fs _ _ ?_) ((r.mono s1).mono x.fs)⟩
      rw [plus_yes ⟨i, xs, e2, e1, e3⟩]
      exact e4
  · obtain ⟨h1, h2⟩ := fr_own h
    obtain ⟨a, vs, e3, e4, r, e5, e6⟩ := S.own i xs h1
    refine ⟨a, vs, e3, x.same _ _ e4, (r.mono s1).mono x.fs, x.nw a (by rw [e4]; simp) ?_, e6⟩
    rw [plus_no]
    · exact e5
    · rintro ⟨j, ys, g1, g2, g3⟩
      have := S.inj j i ys xs a g2 h1 g3 e3
      subst this
      exact h2 g1
/-- .. or is the def's own again -/
theorem SEnv.back (S : SEnv K cl He H0 Hs H σ ρ) {bs : List Bool} (x : Ext (plus (isOwn bs ρ σ) Hs H) H Hs1 H1) : SEnv K cl He H0 (cut (isOwn bs ρ σ) Hs1) H1 σ ρ ∧ Sub Hs (cut (isOwn bs ρ σ) Hs1) := by
  obtain ⟨s1, s2, s3⟩ := S.plusExt bs
  have up : Sub Hs (cut (isOwn bs ρ σ) Hs1) := fun a o h => by
    rw [cut_no]
    · exact x.fs _ _ (s1 a o h)
    · intro p
      rw [(S.ownAt p).2.1] at h; cases h
  refine ⟨⟨⟨S.ext.fs.trans up, fun a o h => ?_, S.ext.same.trans x.same, fun a h n => ?_⟩, S.len, fun i v h => ?_, fun i xs h => ?_, S.inj⟩, up⟩
  · by_cases p : isOwn bs ρ σ a
    · rw [cut_yes p] at h; cases h
    · rw [cut_no p] at h; exact x.sub a o h
  · by_cases p : isOwn bs ρ σ a
    · exact cut_yes p
    · rw [cut_no p]
      refine x.nw a (fun z => ?_) (s3 a h n)
      cases q : H0 a with
      | none => exact h q
      | some o => rw [S.ext.same a o q] at z; cases z
  · obtain ⟨y, e3, r⟩ := S.fz i v h
    exact ⟨y, e3, r.mono up⟩
  · obtain ⟨a, vs, e3, e4, r, e5, e6⟩ := S.own i xs h
    refine ⟨a, vs, e3, x.same _ _ e4, r.mono up, ?_, e6⟩
    by_cases p : isOwn bs ρ σ a
    · exact cut_yes p
    · rw [cut_no p]
      exact x.nw a (by rw [e4]; simp) (by rw [plus_no p]; exact e5)
/-- a value without a list leans on no list -/
structure NoL (P : Addr → Prop) (Hs : Hp) : Prop where
  l : ∀ a, P a → ∃ vs, Hs a = some (HO.lst vs)
theorem NoL.tup {P : Addr → Prop} (n : NoL P Hs) {a : Addr} {vs : List V} (h : SqT K Hs a vs) : SqT K (cut P Hs) a vs := by
  rcases h with (h | ⟨o, h⟩) | h
  · refine .inl (.inl ?_)
    rw [cut_no]
    · exact h
    · intro p
      obtain ⟨ws, e⟩ := n.l a p
      rw [h] at e; cases e
  · refine .inl (.inr ⟨o, ?_⟩)
    rw [cut_no]
    · exact h
    · intro p
      obtain ⟨ws, e⟩ := n.l a p
      rw [h] at e; cases e
  · exact .inr h
mutual
theorem Rp.nolist {P : Addr → Prop} (n : NoL P Hs) : ∀ {v : V} {x : PV}, Rp K cl Hs v x → x.nol = true → Rp K cl (cut P Hs) v x
  | _, _, .non, _ => .non
  | _, _, .bl b, _ => .bl b
  | _, _, .int b, _ => .int b
  | _, _, .str b, _ => .str b
  | _, _, .ty b, _ => .ty b
  | _, _, .tup h r, e => .tup (n.tup h) (r.nolist n (by simpa [PV.nol] using e))
  | _, _, .lst h r, e => by simp [PV.nol] at e
  | _, _, .src h r, e => by simp [PV.nol] at e
  | _, _, .dct h r, e => by simp [PV.nol] at e
  | _, _, .obj h r, e => by simp [PV.nol] at e
theorem RpA.nolist {P : Addr → Prop} (n : NoL P Hs) : ∀ {v : List V} {x : List PV}, RpA K cl Hs v x → PV.nols x = true → RpA K cl (cut P Hs) v x
  | _, _, .nil, _ => .nil
  | _, _, .cons h r, e => by
    simp only [PV.nols, Bool.and_eq_true] at e
    exact .cons (h.nolist n e.1) (r.nolist n e.2)
end
/-- a way of bearing that goes with a test «no list» -/
structure Bears (K : PySem.W.Frag) (cl : Nat → Addr) {α β : Type} (rel : Hp → β → α → Prop) (nl : α → Bool) : Prop where
  cut : ∀ {P : Addr → Prop} {Hs : Hp} {x : β} {v : α}, NoL P Hs → rel Hs x v → nl v = true → rel (cut P Hs) x v
theorem bears_v : Bears K cl (Rp K cl) PV.nol := ⟨fun n r e => r.nolist n e⟩
theorem bears_a : Bears K cl (RpA K cl) PV.nols := ⟨fun n r e => r.nolist n e⟩
theorem bears_b : Bears K cl (fun _ b c => b = (c : Bool)) (fun _ => true) := ⟨fun _ r _ => r⟩
/-- an expression within a statement -/
def onE {α : Type} (nl : α → Bool) (f : Ev → R α) (bs : List Bool) (ρ : Env) (k : α → Env → Out) : Out := match f (vw bs ρ) with
  | .ok v => k v (settle bs (nl v) ρ)
  | .exc c fs => .exc c fs (fr bs ρ)
  | .stuck => .stuck
theorem onE_use {α β : Type} {rel : Hp → β → α → Prop} {nl : α → Bool} (B : Bears K cl rel nl) {f : Ev → R α} {bs : List Bool} {k : α → Env → Out} {Q : β → Hp → Prop} (S : SEnv K cl He H0 Hs H σ ρ) (h : Post K cl He H0 W Hs D (onE nl f bs ρ k))
    (hk : ∀ v x Hs1 H1 ρ1, Sub Hs Hs1 → SEnv K cl He H0 Hs1 H1 σ ρ1 → rel Hs1 x v → f (vw bs ρ) = .ok v → ρ1 = settle bs (nl v) ρ → Sub H H1 → Post K cl He H0 W Hs1 D (k v ρ1) → Q x H1) : gv K cl rel W f σ H Q := by
  refine ⟨_, _, S.pe bs, ?_⟩
  unfold onE at h
  have s1 := (S.plusExt bs).1
  cases e : f (vw bs ρ) with
  | ok v =>
    rw [e] at h
    replace h : Post K cl He H0 W Hs D (k v (settle bs (nl v) ρ)) := h
    intro x Hs1 H1 X r
    cases en : nl v with
    | false =>
      have es : settle bs (nl v) ρ = fr bs ρ := by unfold settle; rw [en]; rfl
      have up := s1.trans X.fs
      exact hk v x Hs1 H1 _ up (by rw [es]; exact S.froze X) r e rfl X.same (Post.up h up)
    | true =>
      have es : settle bs (nl v) ρ = ρ := by unfold settle; rw [en]; rfl
      obtain ⟨S1, up⟩ := S.back X
      refine hk v x _ H1 _ up (by rw [es]; exact S1) (B.cut ⟨fun a p => ?_⟩ r en) e rfl X.same (Post.up h up)
      obtain ⟨vs, e1⟩ := (S.ownAt p).1
      exact ⟨vs, X.fs _ _ (by rw [plus_yes p]; exact e1)⟩
  | exc c fs =>
    rw [e] at h
    intro d fvs Hs1 H1 X e1 r
    exact h σ Hs1 H1 d fvs (s1.trans X.fs) (S.froze X) e1 r
  | stuck => rw [e] at h; exact h

/-! changes of the slots -/
theorem SEnv.set (S : SEnv K cl He H0 Hs H σ ρ) {x : V} {v : PV} (r : Rp K cl Hs x v) (i : Nat) : SEnv K cl He H0 Hs H (σ.set i (some x)) (ρ.set i (.fz v)) := by
  have get : ∀ {j : Nat} {s : Sl}, (ρ.set i (.fz v))[j]? = some s → (j = i ∧ s = .fz v ∧ i < σ.length) ∨ (j ≠ i ∧ ρ[j]? = some s) := fun {j s} h => by
    by_cases e : i = j
    · subst e
      by_cases hl : i < ρ.length
      · rw [List.getElem?_set_self hl] at h
        cases h
        exact .inl ⟨rfl, rfl, by rw [S.len]; exact hl⟩
      · rw [List.getElem?_eq_none (by simpa using hl)] at h; cases h
    · rw [List.getElem?_set_ne e] at h
      exact .inr ⟨Ne.symm e, h⟩
  refine ⟨S.ext, by simpa using S.len, fun j u h => ?_, fun j xs h => ?_, fun j k xs ys a h1 h2 g1 g2 => ?_⟩
  · rcases get h with ⟨e1, e2, hl⟩ | ⟨e1, h⟩
    · cases e2; subst e1
      exact ⟨x, List.getElem?_set_self hl, r⟩
    · rw [List.getElem?_set_ne (Ne.symm e1)]
      exact S.fz j u h
  · rcases get h with ⟨_, e2, _⟩ | ⟨e1, h⟩
    · cases e2
    · rw [List.getElem?_set_ne (Ne.symm e1)]
      exact S.own j xs h
  · rcases get h1 with ⟨_, e2, _⟩ | ⟨e1, h1⟩
    · cases e2
    · rcases get h2 with ⟨_, e2, _⟩ | ⟨e2, h2⟩
      · cases e2
      · rw [List.getElem?_set_ne (Ne.symm e1)] at g1
        rw [List.getElem?_set_ne (Ne.symm e2)] at g2
        exact S.inj j k xs ys a h1 h2 g1 g2
theorem SEnv.setOwn (S : SEnv K cl He H0 Hs H σ ρ) {a : Addr} {vs : List V} {xs : List PV} (e : H a = some (.lst vs)) (r : RpA K cl Hs vs xs) (n1 : Hs a = none) (n2 : H0 a = none)
    (new : ∀ (j : Nat) (ys : List PV), ρ[j]? = some (Sl.own ys) → σ[j]? ≠ some (some (V.ref a))) (i : Nat) : SEnv K cl He H0 Hs H (σ.set i (some (.ref a))) (ρ.set i (.own xs)) := by
  have get : ∀ {j : Nat} {s : Sl}, (ρ.set i (.own xs))[j]? = some s → (j = i ∧ s = .own xs ∧ i < σ.length) ∨ (j ≠ i ∧ ρ[j]? = some s) := fun {j s} h => by
    by_cases e : i = j
    · subst e
      by_cases hl : i < ρ.length
      · rw [List.getElem?_set_self hl] at h
        cases h
        exact .inl ⟨rfl, rfl, by rw [S.len]; exact hl⟩
      · rw [List.getElem?_eq_none (by simpa using hl)] at h; cases h
    · rw [List.getElem?_set_ne e] at h
      exact .inr ⟨Ne.symm e, h⟩
  refine ⟨S.ext, by simpa using S.len, fun j u h => ?_, fun j ys h => ?_, fun j k ys zs b h1 h2 g1 g2 => ?_⟩
  · rcases get h with ⟨_, e2, _⟩ | ⟨e1, h⟩
    · cases e2
    · rw [List.getElem?_set_ne (Ne.symm e1)]
      exact S.fz j u h
  · rcases get h with ⟨e1, e2, hl⟩ | ⟨e1, h⟩
    · cases e2; subst e1
      exact ⟨a, vs, List.getElem?_set_self hl, e, r, n1, n2⟩
    · rw [List.getElem?_set_ne (Ne.symm e1)]
      exact S.own j ys h
  · rcases get h1 with ⟨e1, _, hl⟩ | ⟨e1, k1⟩
    · rcases get h2 with ⟨e2, _, _⟩ | ⟨e2, k2⟩
      · rw [e1, e2]
      · rw [e1, List.getElem?_set_self hl] at g1
        rw [List.getElem?_set_ne (Ne.symm e2)] at g2
        cases g1
        exact absurd g2 (new k zs k2)
    · rcases get h2 with ⟨e2, _, hl⟩ | ⟨e2, k2⟩
      · rw [e2, List.getElem?_set_self hl] at g2
        rw [List.getElem?_set_ne (Ne.symm e1)] at g1
        cases g2
        exact absurd g1 (new j ys k1)
      · rw [List.getElem?_set_ne (Ne.symm e1)] at g1
        rw [List.getElem?_set_ne (Ne.symm e2)] at g2
        exact S.inj j k ys zs b k1 k2 g1 g2
/-- an own list is changed -/
theorem SEnv.put (S : SEnv K cl He H0 Hs H σ ρ) {i : Nat} {xs ys : List PV} {a : Addr} {ws : List V} (h : ρ[i]? = some (.own xs)) (hσ : σ[i]? = some (some (.ref a))) (r : RpA K cl Hs ws ys) :
    SEnv K cl He H0 Hs (upd H a (.lst ws)) σ (ρ.set i (.own ys)) := by
  obtain ⟨b, vs, e1, e2, _, e3, e4⟩ := S.own i xs h
  rw [hσ] at e1
  cases e1
  have hl : i < ρ.length := (List.getElem?_eq_some_iff.mp h).1
  have get : ∀ {j : Nat} {s : Sl}, (ρ.set i (.own ys))[j]? = some s → (j = i ∧ s = .own ys) ∨ (j ≠ i ∧ ρ[j]? = some s) := fun {j s} h => by
    by_cases e : i = j
    · subst e
      rw [List.getElem?_set_self hl] at h
      cases h
      exact .inl ⟨rfl, rfl⟩
    · rw [List.getElem?_set_ne e] at h
      exact .inr ⟨Ne.symm e, h⟩
  refine ⟨⟨S.ext.fs, S.sub.upd e3, S.ext.same.upd e4, S.ext.nw⟩, by simpa using S.len, fun j u h' => ?_, fun j zs h' => ?_, fun j k us zs c h1 h2 g1 g2 => ?_⟩
  · rcases get h' with ⟨_, e2⟩ | ⟨_, h'⟩
    · cases e2
    · exact S.fz j u h'
  · rcases get h' with ⟨e5, e6⟩ | ⟨e5, h'⟩
    · cases e6; subst e5
      exact ⟨a, ws, hσ, upd_same, r, e3, e4⟩
    · obtain ⟨c, us, g1, g2, g3, g4, g5⟩ := S.own j zs h'
      refine ⟨c, us, g1, ?_, g3, g4, g5⟩
      rw [upd_ne]
      · exact g2
      · rintro rfl
        exact e5 (S.inj j i zs xs c h' h g1 hσ)
  · rcases get h1 with ⟨e5, _⟩ | ⟨e5, k1⟩ <;> rcases get h2 with ⟨e6, _⟩ | ⟨e6, k2⟩
    · rw [e5, e6]
    · rw [e5] at g1 ⊢; exact S.inj i k xs zs c h k2 g1 g2
    · rw [e6] at g2 ⊢; exact S.inj j i us xs c k1 h g1 g2
    · exact S.inj j k us zs c k1 k2 g1 g2
end
end VL
namespace VL
open PySem PySem.Spec PyProof.Rows L2
/-! ### a list that was just made -/
section
variable (K : PySem.W.Frag) (cl : Nat → Addr) (W : WX)
def GO (Hs H : Hp) (σ : St) (r : R (List PV)) (Q : VK) : Prop := match r with
  | .ok xs => ∀ a vs Hs' H', Ext Hs H Hs' H' → H' a = some (.lst vs) → Hs' a = none → H a = none → RpA K cl Hs' vs xs → Q (.ref a) H'
  | .exc c fs => ∀ d fvs Hs' H', Ext Hs H Hs' H' → Hs' d = some (.xd fvs) → RpF K cl Hs' fvs fs → W (.ref (cl c)) (some d) σ H'
  | .stuck => False
def to (f : Ev → R (List PV)) : TE := fun σ H Q => ∃ Hs ρ, PEnv K cl Hs H σ ρ ∧ GO K cl W Hs H σ (f ρ) Q
end
section
variable {K : PySem.W.Frag} {cl : Nat → Addr} {W : WX} {Hs Hs1 H H1 : Hp} {σ : St} {ρ : Ev}
theorem GO.up {r : R (List PV)} {Q : VK} (h : GO K cl W Hs H σ r Q) (s : Ext Hs H Hs1 H1) : GO K cl W Hs1 H1 σ r Q := by
  cases r with
  | ok v => exact fun a vs Hs' H' t e n1 n2 => h a vs Hs' H' (s.trans t) e n1 (by
      cases q : H a with
      | none => rfl
      | some o => rw [s.same a o q] at n2; cases n2)
  | exc c fs => exact fun d fvs Hs' H' t => h d fvs Hs' H' (s.trans t)
  | stuck => exact h
theorem go_bind {α β : Type} {rel : Hp → β → α → Prop} {Q : β → Hp → Prop} {f : Ev → R α} {k : α → R (List PV)} {Q' : VK} (E : PEnv K cl Hs H σ ρ) (h : GO K cl W Hs H σ ((f ρ).bind k) Q')
    (hk : ∀ v x Hs1 H1, f ρ = .ok v → Ext Hs H Hs1 H1 → rel Hs1 x v → GO K cl W Hs1 H1 σ (k v) Q' → Q x H1) : gv K cl rel W f σ H Q := by
  refine ⟨Hs, ρ, E, ?_⟩
  cases e : f ρ with
  | ok v =>
    rw [e] at h
    exact fun x Hs1 H1 s1 rx => hk v x Hs1 H1 e s1 rx (GO.up h s1)
  | exc c fs => rw [e] at h; exact h
  | stuck => rw [e] at h; exact h
theorem own_lst {p : Addr} {vs : List V} {xs : List PV} {Q : VK} (h : GO K cl W Hs H σ (.ok xs) Q) (s : Sub Hs H) (n : H p = none) (r : RpA K cl Hs vs xs) : Q (.ref p) (upd H p (.lst vs)) :=
  h p vs Hs _ (Ext.newO s n) upd_same (s.none n) n r
end
def eLst1 (fs : List Ex) : Ev → R (List PV) := fun ρ => (evs fs ρ).bind fun xs => if xs.length ≤ sizeLine then .ok xs else .stuck
def asLst (f : Ev → R (List PV)) : Ex := fun ρ => (f ρ).bind fun xs => .ok (.lst xs)
def lstOf : Option PV → R (List PV)
  | some (.lst xs) => .ok xs
  | _ => .stuck
section
variable {X : Cx} {cl : Nat → Addr} {W : WX} {pos : Pos} {a b : Expr} {f f' : Ex}
theorem vo_lst {es : List Expr} {fs : List Ex} (h : PA X es (ta X.K cl W (evs fs))) : PE X (.List es pos) (to X.K cl W (eLst1 fs)) :=
  peWeak (pe_lst h) fun σ H Q ⟨Hs, ρ, E, h⟩ => by
    refine go_bind E h fun v x Hs1 H1 _ s1 rx h1 => ?_
    split at h1
    · exact ⟨by rw [rx.length]; assumption, fun p n => own_lst h1 s1.sub n rx⟩
    · exact h1.elim
/-- a list made by an operation -/
def eO2 (g : PV → PV → Option PV) (a b : Ex) : Ev → R (List PV) := fun ρ => (a ρ).bind fun x => (b ρ).bind fun y => lstOf (g x y)
theorem vo_add (ha : PE X a (tv X.K cl W f)) (hb : PE X b (tv X.K cl W f')) : PE X (.BinOp a .Add b pos) (to X.K cl W (eO2 addP f f')) :=
  peWeak (pe_op op_cat ha hb) fun σ H Q ⟨Hs, ρ, E, h⟩ => by
    refine go_bind E h fun v x Hs1 H1 _ s1 rx h1 => ?_
    refine go_bind (E.up s1) h1 fun u y Hs2 H2 _ t1 ry h2 => ?_
    have rx2 := rx.mono t1.fs
    cases rx2 with
    | @lst a vs xs h ra =>
      cases ry with
      | @lst b ws ys h' rb =>
        replace h2 : GO X.K cl W Hs2 H2 σ (lstOf (if xs.length + ys.length ≤ sizeLine then some (PV.lst (xs ++ ys)) else none)) Q := h2
        split at h2
        · exact ⟨_, _, _, _, rfl, rfl, t1.sub _ _ h, t1.sub _ _ h', by rw [ra.length, rb.length]; assumption, fun p n => own_lst h2 t1.sub n (ra.append rb)⟩
        · exact h2.elim
      | _ => exact h2.elim
    | int i =>
      cases ry with
      | _ => exact h2.elim
    | str i =>
      cases ry with
      | str j =>
        replace h2 : GO X.K cl W Hs2 H2 σ (lstOf (if i.length + j.length ≤ sizeLine then some (PV.str (i ++ j)) else none)) Q := h2
        split at h2 <;> exact h2.elim
      | _ => exact h2.elim
    | @tup a vs xs h ra =>
      cases ry with
      | @tup b ws ys h' rb =>
        replace h2 : GO X.K cl W Hs2 H2 σ (lstOf (if xs.length + ys.length ≤ sizeLine then some (PV.tup (xs ++ ys)) else none)) Q := h2
        split at h2 <;> exact h2.elim
      | _ => exact h2.elim
    | _ => cases ry <;> exact h2.elim
theorem vo_mul (ha : PE X a (tv X.K cl W f)) (hb : PE X b (tv X.K cl W f')) : PE X (.BinOp a .Mult b pos) (to X.K cl W (eO2 mulP f f')) :=
  peWeak (pe_op op_rep ha hb) fun σ H Q ⟨Hs, ρ, E, h⟩ => by
    refine go_bind E h fun v x Hs1 H1 _ s1 rx h1 => ?_
    refine go_bind (E.up s1) h1 fun u y Hs2 H2 _ t1 ry h2 => ?_
    have rx2 := rx.mono t1.fs
    cases rx2 with
    | @lst a vs xs h ra =>
      cases ry with
      | int k =>
        replace h2 : GO X.K cl W Hs2 H2 σ (lstOf (if -(2 ^ 63) ≤ k ∧ k < 2 ^ 63 ∧ xs.length * k.toNat ≤ sizeLine then some (PV.lst (List.replicate k.toNat xs).flatten) else none)) Q := h2
        split at h2
        · rename_i hk
          exact ⟨_, _, _, rfl, rfl, t1.sub _ _ h, hk.1, hk.2.1, by rw [ra.length]; exact hk.2.2, fun p n => own_lst h2 t1.sub n (ra.rep _)⟩
        · exact h2.elim
      | _ => exact h2.elim
    | int i =>
      cases ry with
      | int j =>
        replace h2 : GO X.K cl W Hs2 H2 σ (lstOf (if mulOk i j = true then some (PV.int (i * j)) else none)) Q := h2
        split at h2 <;> exact h2.elim
      | _ => exact h2.elim
    | _ => cases ry <;> exact h2.elim
def eOsl (a : Ex) (lo hi : Pt) : Ev → R (List PV) := fun ρ => (a ρ).bind fun x => (lo ρ).bind fun l => (hi ρ).bind fun h => match x with
  | .lst xs => .ok (cutP xs l h)
  | .src xs => .ok (cutP xs l h)
  | _ => .stuck
theorem vo_slice {e : Expr} {lo hi : Option Expr} {p2 : Pos} {l h : Pt} (ha : PE X e (tv X.K cl W f)) (hl : PO X lo (tpt X.K cl W l)) (hh : PO X hi (tpt X.K cl W h)) : PE X (.Subscript e (.Slice lo hi none p2) pos) (to X.K cl W (eOsl f l h)) :=
  peWeak (pe_slice sl_list ha hl hh) fun σ H Q ⟨Hs, ρ, E, h⟩ => by
    refine go_bind E h fun v x Hs1 H1 _ s1 rx h1 => ?_
    refine go_bind (E.up s1) h1 fun l1 l2 Hs2 H2 _ t1 el h2 => ?_
    refine go_bind ((E.up s1).up t1) h2 fun u1 u2 Hs3 H3 _ w1 eu h3 => ?_
    subst el eu
    have rx3 := (rx.mono t1.fs).mono w1.fs
    cases rx3 with
    | lst h ra => exact ⟨_, _, rfl, .of (w1.sub _ _ h), fun p n => own_lst h3 w1.sub n (ra.cut _ _)⟩
    | src h ra => exact ⟨_, _, rfl, w1.sub.seqL h, fun p n => own_lst h3 w1.sub n (ra.cut _ _)⟩
    | _ => exact h3.elim
def eOlist (a : Ex) : Ev → R (List PV) := fun ρ => (a ρ).bind fun x => lstOf (listP [x])
theorem vo_list {p : Pos} (ha : PE X a (tv X.K cl W f)) (hm : X.mg "list" = none) (hgl : Gl X "list" := by rfl) (he : starEach (a :: []) X.env = (false, eval a X.env) :: starEach [] X.env := by rfl) (hpl : (backTo pos (starEach [] X.env)).any (·.1) = false := by rfl) : PE X (.Call (.Name "list" p) [a] [] pos) (to X.K cl W (eOlist f)) :=
  peWeak (pe_callTy call_list_of hgl hm boot_list (pa_cons ha pa_nil he) (he := he) (hpl := hpl)) fun σ H Q ⟨Hs, ρ, E, h⟩ => by
    refine go_bind E h fun v x Hs1 H1 _ s1 rx h1 => ?_
    cases rx with
    | lst h ra => exact ⟨_, _, rfl, .inl (.of (s1.sub _ _ h)), fun p n => own_lst h1 s1.sub n ra⟩
    | src h ra => exact ⟨_, _, rfl, .inl (s1.sub.seqL h), fun p n => own_lst h1 s1.sub n ra⟩
    | tup h ra => exact ⟨_, _, rfl, .inr (s1.sub.seqT h), fun p n => own_lst h1 s1.sub n ra⟩
    | _ => exact h1.elim
/-- .. as a value that stays -/
theorem ve_ofO {e : Expr} {g : Ev → R (List PV)} (h : PE X e (to X.K cl W g)) : PE X e (tv X.K cl W (asLst g)) :=
  peWeak h fun σ H Q ⟨Hs, ρ, E, h⟩ => by
    refine ⟨Hs, ρ, E, ?_⟩
    unfold asLst at h
    cases e : g ρ with
    | ok xs =>
      rw [e] at h
      intro a vs Hs' H' s e1 n1 n2 r
      have n' : Hs a = none := by
        cases q : Hs a with
        | none => rfl
        | some o => rw [s.fs a o q] at n1; cases n1
      refine h _ (upd Hs' a (.lst vs)) H' ⟨s.fs.trans (Sub.new n1), fun b o q => ?_, s.same, fun b hb n => ?_⟩ (.lst upd_same (r.mono (Sub.new n1)))
      · by_cases hb : b = a
        · subst hb; rw [upd_same] at q; rw [e1]; exact q
        · rw [upd_ne hb] at q; exact s.sub b o q
      · rw [upd_ne (fun z => hb (by rw [z]; exact n2))]
        exact s.nw b hb n
    | exc c fs => rw [e] at h; exact h
    | stuck => rw [e] at h; exact h
end

/-! ### what is walked -/
structure Wk (K : PySem.W.Frag) (cl : Nat → Addr) (Hs : Hp) (J : It) (xs : List PV) : Prop where
  go : ∀ (i : Nat) H Hs', Sub Hs Hs' → Sub Hs' H → i < xs.length → J.go i H
  stop : ∀ (i : Nat) H Hs', Sub Hs Hs' → Sub Hs' H → xs.length ≤ i → J.stop i H
  yld : ∀ (i : Nat) x H H' Hs' v, Sub Hs Hs' → Sub Hs' H → xs[i]? = some v → J.yld i H x H' → ∃ Hs'', Ext Hs' H Hs'' H' ∧ Rp K cl Hs'' x v
/-- .. whatever the heap -/
def WkA (K : PySem.W.Frag) (cl : Nat → Addr) (_ : Hp) (J : It) (xs : List PV) : Prop := ∀ Hs, Wk K cl Hs J xs
theorem bears_wk {K : PySem.W.Frag} {cl : Nat → Addr} : Bears K cl (Wk K cl) (fun _ => false) := ⟨fun _ _ e => Bool.noConfusion e⟩
theorem bears_wkA {K : PySem.W.Frag} {cl : Nat → Addr} : Bears K cl (WkA K cl) (fun _ => true) := ⟨fun _ r _ => r⟩
section
variable {K : PySem.W.Frag} {cl : Nat → Addr} {Hs : Hp}
theorem wk_list {a : Addr} {vs : List V} {xs : List PV} (h : SqL K Hs a vs) (r : RpA K cl Hs vs xs) : Wk K cl Hs (Itl K a) xs := by
  refine ⟨fun i H Hs' s1 s2 hi => ?_, fun i H Hs' s1 s2 hi => ⟨vs, (s1.trans s2).seqL h, by rw [r.length]; exact hi⟩, fun i x H H' Hs' v s1 s2 e y => ?_⟩
  · rw [← r.length] at hi
    exact ⟨vs, vs[i], (s1.trans s2).seqL h, by simp [hi]⟩
  · obtain ⟨e1, y⟩ := y
    subst e1
    obtain ⟨u, e2, ru⟩ := r.get e
    have e3 := y vs ((s1.trans s2).seqL h)
    rw [e2] at e3
    cases e3
    exact ⟨Hs', Ext.refl s2, ru.mono s1⟩
theorem wk_tup {a : Addr} {vs : List V} {xs : List PV} (h : SqT K Hs a vs) (r : RpA K cl Hs vs xs) : Wk K cl Hs (Itt K a) xs := by
  refine ⟨fun i H Hs' s1 s2 hi => ?_, fun i H Hs' s1 s2 hi => ⟨vs, (s1.trans s2).seqT h, by rw [r.length]; exact hi⟩, fun i x H H' Hs' v s1 s2 e y => ?_⟩
  · rw [← r.length] at hi
    exact ⟨vs, vs[i], (s1.trans s2).seqT h, by simp [hi]⟩
  · obtain ⟨e1, y⟩ := y
    subst e1
    obtain ⟨u, e2, ru⟩ := r.get e
    have e3 := y vs ((s1.trans s2).seqT h)
    rw [e2] at e3
    cases e3
    exact ⟨Hs', Ext.refl s2, ru.mono s1⟩
def signsP (z : Str) : List PV := z.cps.toList.map fun c => .str ⟨#[c]⟩
theorem wk_str {z : Str} : Wk K cl Hs (Its z) (signsP z) := by
  have hl : (signsP z).length = z.cps.size := by simp [signsP]
  refine ⟨fun i H Hs' s1 s2 hi => by rw [hl] at hi; exact hi, fun i H Hs' s1 s2 hi => by rw [hl] at hi; exact hi, fun i x H H' Hs' v s1 s2 e y => ?_⟩
  obtain ⟨e1, c, e2, e3⟩ := y
  subst e1 e3
  refine ⟨Hs', Ext.refl s2, ?_⟩
  unfold signsP at e
  rw [List.getElem?_map] at e
  have e4 : z.cps.toList[i]? = some c := by simpa using e2
  rw [e4] at e
  cases e
  exact .str _
def rangeP (lo : Int) (n : Nat) : List PV := (List.range n).map fun (i : Nat) => .int (lo + (i : Int))
theorem wk_range {lo : Int} {n : Nat} : Wk K cl Hs (Itr lo n) (rangeP lo n) := by
  have hl : (rangeP lo n).length = n := by simp [rangeP]
  refine ⟨fun i H Hs' s1 s2 hi => by rw [hl] at hi; exact hi, fun i H Hs' s1 s2 hi => by rw [hl] at hi; exact hi, fun i x H H' Hs' v s1 s2 e y => ?_⟩
  obtain ⟨e1, e2⟩ := y
  subst e1 e2
  refine ⟨Hs', Ext.refl s2, ?_⟩
  have hi : i < n := by
    have := (List.getElem?_eq_some_iff.mp e).1
    rw [hl] at this
    exact this
  unfold rangeP at e
  rw [List.getElem?_map, List.getElem?_range hi] at e
  cases e
  exact .int _
def zipP (xs ys : List PV) : List PV := List.zipWith (fun x y => .tup [x, y]) xs ys
theorem wk_zip {a b : Addr} {vs ws : List V} {xs ys : List PV} (h : SqL K Hs a vs) (h' : SqL K Hs b ws) (r : RpA K cl Hs vs xs) (r' : RpA K cl Hs ws ys) : Wk K cl Hs (Itz K a b) (zipP xs ys) := by
  have hl : (zipP xs ys).length = min xs.length ys.length := by simp [zipP]
  refine ⟨fun i H Hs' s1 s2 hi => ?_, fun i H Hs' s1 s2 hi => ?_, fun i x H H' Hs' v s1 s2 e y => ?_⟩
  · rw [hl] at hi
    have h1 : i < vs.length := by rw [r.length]; omega
    have h2 : i < ws.length := by rw [r'.length]; omega
    exact ⟨vs, ws, vs[i], ws[i], (s1.trans s2).seqL h, (s1.trans s2).seqL h', by simp [h1], by simp [h2]⟩
  · rw [hl] at hi
    exact ⟨vs, ws, (s1.trans s2).seqL h, (s1.trans s2).seqL h', by rw [r.length, r'.length]; omega⟩
  · obtain ⟨T, x1, y1, rfl, n, rfl, f1, f2⟩ := y
    unfold zipP at e
    rw [List.getElem?_zipWith] at e
    cases ex : xs[i]? with
    | none => rw [ex] at e; simp at e
    | some xv =>
      cases ey : ys[i]? with
      | none => rw [ex, ey] at e; simp at e
      | some yv =>
        rw [ex, ey] at e
        simp at e
        subst e
        obtain ⟨u, e2, ru⟩ := r.get ex
        obtain ⟨u', e2', ru'⟩ := r'.get ey
        have e3 := f1 vs ((s1.trans s2).seqL h)
        have e3' := f2 ws ((s1.trans s2).seqL h')
        rw [e2] at e3; cases e3
        rw [e2'] at e3'; cases e3'
        have n' : Hs' T = none := s2.none n
        refine ⟨upd Hs' T (.tup [x1, y1]), Ext.new s2 n, .tup (.of upd_same) ?_⟩
        exact .cons ((ru.mono s1).mono (Sub.new n')) (.cons ((ru'.mono s1).mono (Sub.new n')) .nil)
def enumP (i : Nat) : List PV → List PV
  | [] => []
  | x :: r => .tup [.int (i : Int), x] :: enumP (i + 1) r
theorem enumP_len : ∀ (xs : List PV) (i : Nat), (enumP i xs).length = xs.length
  | [], _ => rfl
  | x :: r, i => by simp [enumP, enumP_len r]
theorem enumP_get : ∀ (xs : List PV) (i k : Nat) (v : PV), (enumP i xs)[k]? = some v → ∃ x, xs[k]? = some x ∧ v = .tup [.int ((i + k : Nat) : Int), x]
  | [], _, _, _, h => by simp [enumP] at h
  | x :: r, i, 0, v, h => by simp [enumP] at h; exact ⟨x, rfl, by simp [← h]⟩
  | x :: r, i, k + 1, v, h => by
    obtain ⟨y, e1, e2⟩ := enumP_get r (i + 1) k v (by simpa [enumP] using h)
    exact ⟨y, by simpa using e1, by rw [e2, show i + 1 + k = i + (k + 1) by omega]⟩
theorem wk_enum {a : Addr} {vs : List V} {xs : List PV} (h : SqL K Hs a vs) (r : RpA K cl Hs vs xs) : Wk K cl Hs (Ite K a) (enumP 0 xs) := by
  refine ⟨fun i H Hs' s1 s2 hi => ?_, fun i H Hs' s1 s2 hi => ⟨vs, (s1.trans s2).seqL h, by rw [r.length, ← enumP_len xs 0]; exact hi⟩, fun i x H H' Hs' v s1 s2 e y => ?_⟩
  · rw [enumP_len, ← r.length] at hi
    exact ⟨vs, vs[i], (s1.trans s2).seqL h, by simp [hi]⟩
  · obtain ⟨T, x1, rfl, n, rfl, f1⟩ := y
    obtain ⟨xv, ex, rfl⟩ := enumP_get _ _ _ _ e
    obtain ⟨u, e2, ru⟩ := r.get ex
    have e3 := f1 vs ((s1.trans s2).seqL h)
    rw [e2] at e3; cases e3
    have n' : Hs' T = none := s2.none n
    refine ⟨upd Hs' T (.tup [.int (i : Nat), x1]), Ext.new s2 n, .tup (.of upd_same) (.cons ?_ (.cons ((ru.mono s1).mono (Sub.new n')) .nil))⟩
    rw [Nat.zero_add]
    exact .int _
end
theorem piWeak {X : Cx} {tg e : Expr} {t t' : TI} (h : PI X tg e t) (w : ∀ σ H Q, t' σ H Q → t σ H Q) : PI X tg e t' := ⟨fun pins s σ H R I q => h.run pins s σ H R I (w σ H R q)⟩
theorem piOr {X : Cx} {tg e : Expr} {t t' : TI} (h : PI X tg e t) (h' : PI X tg e t') : PI X tg e (fun σ H R => t σ H R ∨ t' σ H R) := ⟨fun pins s σ H R I q => q.elim (h.run pins s σ H R I) (h'.run pins s σ H R I)⟩
/-- the items of a list, a tuple, a text -/
def itemsP : PV → R (List PV)
  | .lst xs => .ok xs
  | .src xs => .ok xs
  | .tup xs => .ok xs
  | .str z => .ok (signsP z)
  | _ => .stuck
def iSeq (a : Ex) : Ev → R (List PV) := fun ρ => (a ρ).bind itemsP
def iR1 (a : Ex) : Ev → R (List PV) := fun ρ => (a ρ).bind fun x => match x with
  | .int j => if -(2 ^ 62) ≤ j ∧ j < 2 ^ 62 then .ok (rangeP 0 j.toNat) else .stuck
  | _ => .stuck
def iR2 (a b : Ex) : Ev → R (List PV) := fun ρ => (a ρ).bind fun x => (b ρ).bind fun y => match x, y with
  | .int i, .int j => if -(2 ^ 62) ≤ i ∧ i < 2 ^ 62 ∧ -(2 ^ 62) ≤ j ∧ j < 2 ^ 62 then .ok (rangeP i (j - i).toNat) else .stuck
  | _, _ => .stuck
def iZipP (a b : Ex) : Ev → R (List PV) := fun ρ => (a ρ).bind fun x => (b ρ).bind fun y => match x, y with
  | .lst xs, .lst ys => .ok (zipP xs ys)
  | _, _ => .stuck
def iEnumP (a : Ex) : Ev → R (List PV) := fun ρ => (a ρ).bind fun x => match x with
  | .lst xs => .ok (enumP 0 xs)
  | _ => .stuck
section
variable {X : Cx} {cl : Nat → Addr} {W : WX} {pos p : Pos} {tg a b : Expr} {f f' : Ex}
theorem vi_seq (h : PE X a (tv X.K cl W f)) : PI X tg a (gv X.K cl (Wk X.K cl) W (iSeq f)) :=
  piWeak (piOr (piOr (pi_list h) (pi_tup h)) (pi_str h)) fun σ H Q ⟨Hs, ρ, E, h⟩ => by
    have go : ∀ {P : V → Hp → Prop}, (∀ v x Hs1 H1, f ρ = .ok v → Ext Hs H Hs1 H1 → Rp X.K cl Hs1 x v → GP X.K cl (Wk X.K cl) W Hs1 H1 σ (itemsP v) Q → P x H1) → tv X.K cl W f σ H P := fun {P} hk => gv_bind E h hk
    unfold iSeq at h
    cases e : f ρ with
    | ok v =>
      cases v with
      | lst xs =>
        refine .inl (.inl (go fun v x Hs1 H1 e1 s1 rx h1 => ?_))
        rw [e] at e1; cases e1
        cases rx with
        | lst h ra => exact ⟨_, rfl, ⟨_, .of (s1.sub _ _ h)⟩, h1.here s1.sub (wk_list (.of h) ra)⟩
      | src xs =>
        refine .inl (.inl (go fun v x Hs1 H1 e1 s1 rx h1 => ?_))
        rw [e] at e1; cases e1
        cases rx with
        | src h ra => exact ⟨_, rfl, ⟨_, s1.sub.seqL h⟩, h1.here s1.sub (wk_list h ra)⟩
      | tup xs =>
        refine .inl (.inr (go fun v x Hs1 H1 e1 s1 rx h1 => ?_))
        rw [e] at e1; cases e1
        cases rx with
        | tup h ra => exact ⟨_, rfl, ⟨_, s1.sub.seqT h⟩, h1.here s1.sub (wk_tup h ra)⟩
      | str z =>
        refine .inr (go fun v x Hs1 H1 e1 s1 rx h1 => ?_)
        rw [e] at e1; cases e1
        cases rx with
        | str z => exact ⟨_, rfl, h1.here s1.sub wk_str⟩
      | _ => rw [e] at h; exact h.elim
    | exc c fs => exact .inr (go fun v x Hs1 H1 e1 s1 rx h1 => by rw [e] at e1; cases e1)
    | stuck => rw [e] at h; exact h.elim
theorem vi_r1 (h : PE X a (tv X.K cl W f)) (hm : X.mg "range" = none) (hg : Gl X "range" := by rfl) (hs : starEach [a] X.env = [(false, eval a X.env)] := by rfl) : PI X tg (.Call (.Name "range" p) [a] [] pos) (gv X.K cl (WkA X.K cl) W (iR1 f)) :=
  piWeak (pi_range1 hg hm (pa_cons h pa_nil hs) hs) fun σ H Q ⟨Hs, ρ, E, h⟩ => by
    refine gv_bind E h fun v x Hs1 H1 e1 s1 rx h1 => ?_
    cases rx with
    | int j =>
      replace h1 : GP X.K cl (WkA X.K cl) W Hs1 H1 σ (if -(2 ^ 62) ≤ j ∧ j < 2 ^ 62 then .ok (rangeP 0 j.toNat) else .stuck) Q := h1
      split at h1
      · rename_i hk
        exact ⟨j, rfl, hk.1, hk.2, h1.here s1.sub fun _ => wk_range⟩
      · exact h1.elim
    | _ => exact h1.elim
theorem vi_r2 (h : PE X a (tv X.K cl W f)) (h' : PE X b (tv X.K cl W f')) (hm : X.mg "range" = none) (hg : Gl X "range" := by rfl) (hs : starEach [a, b] X.env = [(false, eval a X.env), (false, eval b X.env)] := by rfl) (hs2 : starEach [b] X.env = [(false, eval b X.env)] := by rfl) :
    PI X tg (.Call (.Name "range" p) [a, b] [] pos) (gv X.K cl (WkA X.K cl) W (iR2 f f')) :=
  piWeak (pi_range2 hg hm (pa_cons h (pa_cons h' pa_nil hs2) (by rw [hs, hs2])) hs hs2) fun σ H Q ⟨Hs, ρ, E, h⟩ => by
    refine gv_bind E h fun v x Hs1 H1 e1 s1 rx h1 => ?_
    refine gv_bind (E.up s1) h1 fun u y Hs2 H2 e2 t1 ry h2 => ?_
    cases rx with
    | int i =>
      cases ry with
      | int j =>
        replace h2 : GP X.K cl (WkA X.K cl) W Hs2 H2 σ (if -(2 ^ 62) ≤ i ∧ i < 2 ^ 62 ∧ -(2 ^ 62) ≤ j ∧ j < 2 ^ 62 then .ok (rangeP i (j - i).toNat) else .stuck) Q := h2
        split at h2
        · rename_i hk
          exact ⟨i, j, rfl, hk, h2.here t1.sub fun _ => wk_range⟩
        · exact h2.elim
      | _ => exact h2.elim
    | _ => cases ry <;> exact h2.elim
theorem vi_zip {elts : List Expr} {kk : Nat} {tpos : Pos} (h : PE X a (tv X.K cl W f)) (h' : PE X b (tv X.K cl W f')) (hm : X.mg "zip" = none) (hg : Gl X "zip" := by rfl) (hs : starEach [a, b] X.env = (false, eval a X.env) :: starEach [b] X.env := by rfl) (hs2 : starEach [b] X.env = [(false, eval b X.env)] := by rfl)
    (hpl : (backTo pos (starEach [b] X.env)).any (·.1) = false := by rfl) : PI X (.Tuple elts kk tpos) (.Call (.Name "zip" p) [a, b] [] pos) (gv X.K cl (Wk X.K cl) W (iZipP f f')) :=
  piWeak (pi_zip hg hm (pa_cons h (pa_cons h' pa_nil hs2) hs) hs hpl) fun σ H Q ⟨Hs, ρ, E, h⟩ => by
    refine gv_bind E h fun v x Hs1 H1 e1 s1 rx h1 => ?_
    refine gv_bind (E.up s1) h1 fun u y Hs2 H2 e2 t1 ry h2 => ?_
    have rx2 := rx.mono t1.fs
    cases rx2 with
    | lst h ra =>
      cases ry with
      | lst h' rb => exact ⟨_, _, _, _, rfl, .of (t1.sub _ _ h), .of (t1.sub _ _ h'), h2.here t1.sub (wk_zip (.of h) (.of h') ra rb)⟩
      | _ => exact h2.elim
    | _ => cases ry <;> exact h2.elim
theorem vi_enum {elts : List Expr} {kk : Nat} {tpos : Pos} (h : PE X a (tv X.K cl W f)) (hm : X.mg "enumerate" = none) (hg : Gl X "enumerate" := by rfl) (hs : starEach [a] X.env = [(false, eval a X.env)] := by rfl) :
    PI X (.Tuple elts kk tpos) (.Call (.Name "enumerate" p) [a] [] pos) (gv X.K cl (Wk X.K cl) W (iEnumP f)) :=
  piWeak (pi_enum hg hm (pa_cons h pa_nil hs) hs) fun σ H Q ⟨Hs, ρ, E, h⟩ => by
    refine gv_bind E h fun v x Hs1 H1 e1 s1 rx h1 => ?_
    cases rx with
    | lst h ra => exact ⟨_, _, rfl, .of (s1.sub _ _ h), h1.here s1.sub (wk_enum (.of h) ra)⟩
    | _ => exact h1.elim
end

/-! ### targets -/
abbrev As := List (Nat × PV)
abbrev Tg := PV → Option As
def tN (i : Nat) : Tg := fun v => some [(i, v)]
def tTs : List Tg → List PV → Option As
  | [], [] => some []
  | t :: ts, v :: vs => (t v).bind fun a => (tTs ts vs).map (a ++ ·)
  | _, _ => none
def tT (ts : List Tg) : Tg
  | .tup vs => tTs ts vs
  | _ => none
def setV : List (Nat × V) → St → St
  | [], σ => σ
  | (i, x) :: r, σ => setV r (σ.set i (some x))
def setS : As → Env → Env
  | [], ρ => ρ
  | (i, v) :: r, ρ => setS r (ρ.set i (.fz v))
def setE : As → Ev → Ev
  | [], ρ => ρ
  | (i, v) :: r, ρ => setE r (ρ.set i (some v))
inductive RelAs (K : PySem.W.Frag) (cl : Nat → Addr) (Hs : Hp) : List (Nat × V) → As → Prop
  | nil : RelAs K cl Hs [] []
  | cons {i : Nat} {x : V} {v : PV} {xs : List (Nat × V)} {vs : As} : Rp K cl Hs x v → RelAs K cl Hs xs vs → RelAs K cl Hs ((i, x) :: xs) ((i, v) :: vs)
section
variable {K : PySem.W.Frag} {cl : Nat → Addr} {Hs H : Hp}
theorem RelAs.append {a b : List (Nat × V)} {c d : As} (h : RelAs K cl Hs a c) (h' : RelAs K cl Hs b d) : RelAs K cl Hs (a ++ b) (c ++ d) := by
  induction h with
  | nil => exact h'
  | cons r _ ih => exact .cons r ih
theorem setV_append : ∀ (a b : List (Nat × V)) (σ : St), setV (a ++ b) σ = setV b (setV a σ)
  | [], _, _ => rfl
  | (i, x) :: r, b, σ => setV_append r b _
theorem SEnv.sets {He H0 : Hp} : ∀ {xs : List (Nat × V)} {as : As} {σ : St} {ρ : Env}, SEnv K cl He H0 Hs H σ ρ → RelAs K cl Hs xs as → SEnv K cl He H0 Hs H (setV xs σ) (setS as ρ)
  | _, _, _, _, S, .nil => S
  | _, _, σ, ρ, S, .cons (i := i) (x := x) (v := v) r t => SEnv.sets (σ := σ.set i (some x)) (ρ := ρ.set i (.fz v)) (S.set r i) t
theorem PEnv.set {σ : St} {ρ : Ev} (E : PEnv K cl Hs H σ ρ) {x : V} {v : PV} (r : Rp K cl Hs x v) (i : Nat) : PEnv K cl Hs H (σ.set i (some x)) (ρ.set i (some v)) := by
  have hl := E.len
  refine ⟨E.sub, by simpa using hl, fun j u h => ?_⟩
  by_cases e : i = j
  · subst e
    by_cases hi : i < ρ.length
    · rw [List.getElem?_set_self hi] at h
      cases h
      exact ⟨x, List.getElem?_set_self (by rw [← hl]; exact hi), r⟩
    · rw [List.getElem?_eq_none (by simpa using hi)] at h; cases h
  · rw [List.getElem?_set_ne e] at h ⊢
    exact E.at_ j u h
theorem PEnv.sets : ∀ {xs : List (Nat × V)} {as : As} {σ : St} {ρ : Ev}, PEnv K cl Hs H σ ρ → RelAs K cl Hs xs as → PEnv K cl Hs H (setV xs σ) (setE as ρ)
  | _, _, _, _, E, .nil => E
  | _, _, σ, ρ, E, .cons (i := i) (x := x) (v := v) r t => PEnv.sets (σ := σ.set i (some x)) (ρ := ρ.set i (some v)) (E.set r i) t
end
/-- a target's rule and what it stores -/
def TgOk (K : PySem.W.Frag) (cl : Nat → Addr) (g : TG) (t : Tg) : Prop := ∀ (Hs H : Hp) (σ : St) (x : V) (v : PV) (as : As) (Q : St → Hp → Prop), Sub Hs H → Rp K cl Hs x v → t v = some as → (∀ xs, RelAs K cl Hs xs as → Q (setV xs σ) H) → g x σ H Q
def TgsOk (K : PySem.W.Frag) (cl : Nat → Addr) (g : TGs) (t : List PV → Option As) : Prop := ∀ (Hs H : Hp) (σ : St) (xs : List V) (vs : List PV) (as : As) (Q : St → Hp → Prop), Sub Hs H → RpA K cl Hs xs vs → t vs = some as → (∀ xs, RelAs K cl Hs xs as → Q (setV xs σ) H) → g xs σ H Q
section
variable {K : PySem.W.Frag} {cl : Nat → Addr}
theorem tg_name (i : Nat) : TgOk K cl (gName i) (tN i) := fun Hs H σ x v as Q _ r e q => by
  cases e
  exact q [(i, x)] (.cons r .nil)
theorem tgs_nil : TgsOk K cl gNil (tTs []) := fun Hs H σ xs vs as Q _ r e q => by
  cases r with
  | nil => cases e; exact ⟨rfl, q [] .nil⟩
  | cons _ _ => cases e
theorem tgs_cons {g : TG} {gs : TGs} {t : Tg} {ts : List Tg} (h : TgOk K cl g t) (hs : TgsOk K cl gs (tTs ts)) : TgsOk K cl (gCons g gs) (tTs (t :: ts)) := fun Hs H σ xs vs as Q s r e q => by
  cases r with
  | nil => cases e
  | cons r t =>
    simp only [tTs, Option.bind_eq_some_iff, Option.map_eq_some_iff] at e
    obtain ⟨a, e1, b, e2, rfl⟩ := e
    exact ⟨_, _, rfl, h Hs H σ _ _ a _ s r e1 fun xs rx => hs Hs H _ _ _ b Q s t e2 fun ys ry => by rw [← setV_append]; exact q _ (rx.append ry)⟩
theorem tTs_len : ∀ {ts : List Tg} {vs : List PV} {as : As}, tTs ts vs = some as → vs.length = ts.length
  | [], [], _, _ => rfl
  | [], _ :: _, _, h => by cases h
  | _ :: _, [], _, h => by cases h
  | t :: ts, v :: vs, _, h => by
    simp only [tTs, Option.bind_eq_some_iff, Option.map_eq_some_iff] at h
    obtain ⟨a, e1, b, e2, rfl⟩ := h
    simp [tTs_len e2]
theorem tg_tup {gs : TGs} {ts : List Tg} {n : Nat} (hs : TgsOk K cl gs (tTs ts)) (hn : ts.length = n := by rfl) : TgOk K cl (gTup K n gs) (tT ts) := fun Hs H σ x v as Q s r e q => by
  cases r with
  | tup h ra => exact ⟨_, _, rfl, s.seqT h, by rw [ra.length, tTs_len e, hn], hs Hs H σ _ _ as Q s ra e q⟩
  | _ => cases e
end
/-- the slots that a target may store -/
def TgIn (t : Tg) (own : List Nat) : Prop := ∀ v as, t v = some as → ∀ p ∈ as, p.1 ∈ own
theorem tin_n {i : Nat} {own : List Nat} (h : i ∈ own) : TgIn (tN i) own := fun v as e p hp => by
  cases e
  simp at hp
  subst hp
  exact h
theorem tin_ts {own : List Nat} : ∀ {ts : List Tg}, (∀ t ∈ ts, TgIn t own) → ∀ vs as, tTs ts vs = some as → ∀ p ∈ as, p.1 ∈ own
  | [], _, [], _, e, p, hp => by cases e; simp at hp
  | [], _, _ :: _, _, e, _, _ => by cases e
  | _ :: _, _, [], _, e, _, _ => by cases e
  | t :: ts, h, v :: vs, _, e, p, hp => by
    simp only [tTs, Option.bind_eq_some_iff, Option.map_eq_some_iff] at e
    obtain ⟨a, e1, b, e2, rfl⟩ := e
    rcases List.mem_append.mp hp with hp | hp
    · exact h t List.mem_cons_self v a e1 p hp
    · exact tin_ts (fun t ht => h t (List.mem_cons_of_mem _ ht)) vs b e2 p hp
theorem tin_t {ts : List Tg} {own : List Nat} (h : ∀ t ∈ ts, TgIn t own) : TgIn (tT ts) own := fun v as e => by
  cases v with
  | tup vs => exact tin_ts h vs as e
  | _ => cases e

/-! ### comprehensions -/
def wipeE (ρ : Ev) : List Nat → Ev
  | [] => ρ
  | v :: vs => (wipeE ρ vs).set v none
theorem wipeE_len (ρ : Ev) : ∀ vs, (wipeE ρ vs).length = ρ.length
  | [] => rfl
  | v :: vs => by simp [wipeE, wipeE_len ρ vs]
def lcL (t : Tg) (c : Ev → R Bool) (e : Ex) (ρ : Ev) : List PV → R (List PV)
  | [] => .ok []
  | v :: vs => match t v with
    | none => .stuck
    | some as => match c (setE as ρ) with
      | .ok true => match e (setE as ρ) with
        | .ok y => match lcL t c e ρ vs with
          | .ok ys => .ok (y :: ys)
          | _ => .stuck
        | _ => .stuck
      | .ok false => lcL t c e ρ vs
      | _ => .stuck
def szO : R (List PV) → R (List PV)
  | .ok ys => if ys.length ≤ sizeLine then .ok ys else .stuck
  | _ => .stuck
def eLc (own : List Nat) (t : Tg) (it : Ev → R (List PV)) (c : Ev → R Bool) (e : Ex) : Ev → R (List PV) := fun ρ => (it ρ).bind fun xs => szO (lcL t c e (wipeE ρ own) xs)
def cYes : Ev → R Bool := fun _ => .ok true
theorem wipe_set {σ : St} {i : Nat} {x : Option V} : ∀ {vs : List Nat}, i ∈ vs → wipe (σ.set i x) vs = wipe σ vs
  | v :: vs, h => by
    unfold wipe
    by_cases e : i ∈ vs
    · rw [wipe_set e]
    · have e2 : i = v := by rcases List.mem_cons.mp h with h | h; exact h; exact absurd h e
      subst e2
      have gen : ∀ (ws : List Nat), i ∉ ws → wipe (σ.set i x) ws = (wipe σ ws).set i x := by
        intro ws
        induction ws with
        | nil => intro _; rfl
        | cons w ws ih =>
          intro hw
          simp only [List.mem_cons, not_or] at hw
          unfold wipe
          rw [ih hw.2, List.set_comm _ _ hw.1]
      rw [gen vs e, List.set_set]
theorem wipe_setV : ∀ (xs : List (Nat × V)) (σ : St) (vs : List Nat), (∀ p ∈ xs, p.1 ∈ vs) → wipe (setV xs σ) vs = wipe σ vs
  | [], _, _, _ => rfl
  | (i, x) :: r, σ, vs, h => by
    show wipe (setV r (σ.set i (some x))) vs = _
    rw [wipe_setV r _ vs fun p hp => h p (List.mem_cons_of_mem _ hp), wipe_set (h (i, x) List.mem_cons_self)]
theorem wipe_wipe (σ : St) (vs : List Nat) : wipe (wipe σ vs) vs = wipe σ vs := by
  have gen : ∀ (ws : List Nat), (∀ w ∈ ws, w ∈ vs) → wipe (wipe σ ws) vs = wipe σ vs := by
    intro ws
    induction ws with
    | nil => intro _; rfl
    | cons w ws ih =>
      intro h
      show wipe ((wipe σ ws).set w none) vs = _
      rw [wipe_set (h w List.mem_cons_self)]
      exact ih fun w hw => h w (List.mem_cons_of_mem _ hw)
  exact gen vs fun _ h => h
theorem RelAs.fst {K : PySem.W.Frag} {cl : Nat → Addr} {Hs : Hp} {xs : List (Nat × V)} {as : As} (h : RelAs K cl Hs xs as) : ∀ p ∈ xs, ∃ q ∈ as, q.1 = p.1 := by
  induction h with
  | nil => intro p hp; simp at hp
  | cons r _ ih =>
    intro p hp
    rcases List.mem_cons.mp hp with rfl | hp
    · exact ⟨_, List.mem_cons_self, rfl⟩
    · obtain ⟨q, h1, h2⟩ := ih p hp
      exact ⟨q, List.mem_cons_of_mem _ h1, h2⟩
section
variable {K : PySem.W.Frag} {cl : Nat → Addr} {Hs H : Hp}
theorem PEnv.wipe {σ : St} {ρ : Ev} (E : PEnv K cl Hs H σ ρ) : ∀ vs : List Nat, PEnv K cl Hs H (L2.wipe σ vs) (wipeE ρ vs)
  | [] => E
  | v :: vs => by
    have ih := E.wipe vs
    refine ⟨E.sub, by rw [wipeE_len, wipe_length]; exact E.len, fun i u h => ?_⟩
    have h : ((wipeE ρ vs).set v none)[i]? = some (some u) := h
    show ∃ x, ((L2.wipe σ vs).set v none)[i]? = some (some x) ∧ _
    by_cases e : v = i
    · subst e
      by_cases hi : v < (wipeE ρ vs).length
      · rw [List.getElem?_set_self hi] at h; cases h
      · rw [List.getElem?_eq_none (by simpa using hi)] at h; cases h
    · rw [List.getElem?_set_ne e] at h ⊢
      exact ih.at_ i u h
end
/-- nothing raised is wished for -/
abbrev W0 : WX := fun _ _ _ _ => False
section
variable {X : Cx} {cl : Nat → Addr} {W : WX} {pos : Pos}
theorem vts_nil {c : Cx} : PTs c [] (tt c.K cl W0 cYes) := ⟨fun pins s σ H Q I hw => pts_nil.run pins s σ H Q I (by
  obtain ⟨Hs, ρ, E, h⟩ := hw
  exact GP.here (x := true) h E.sub rfl)⟩
theorem vts_one {c : Cx} {e : Expr} {t : Ev → R Bool} (h : PT c e (tt c.K cl W0 t)) : PTs c [e] (tt c.K cl W0 t) := pts_one h
theorem lc_use {rel : Hp → It → List PV → Prop} {it : Ev → R (List PV)} {g : TG} {t : Tg} {c : Ev → R Bool} {e : Ex} {own : List Nat} (hR : ∀ Hs J xs, rel Hs J xs → Wk X.K cl Hs J xs) (hG : TgOk X.K cl g t) (hI : TgIn t own) {σ : St} {H : Hp} {Q : VK}
    (h : to X.K cl W (eLc own t it c e) σ H Q) : tLc (gv X.K cl rel W it) g (tt X.K cl W0 c) (tv X.K cl W0 e) own σ H Q := by
  obtain ⟨Hs, ρ, E, h⟩ := h
  refine go_bind E h fun xs J Hs1 H1 e1 s1 rx h1 => ?_
  have Wj := hR _ _ _ rx
  intro D hD
  have E1 := (E.up s1).wipe own
  -- the result is told
  cases e2 : lcL t c e (wipeE ρ own) xs with
  | exc c' fs => rw [e2] at h1; exact h1.elim
  | stuck => rw [e2] at h1; exact h1.elim
  | ok ys =>
    rw [e2] at h1
    replace h1 : GO X.K cl W Hs1 H1 σ (if ys.length ≤ sizeLine then .ok ys else .stuck) Q := h1
    split at h1
    · rename_i hsz
      refine ⟨fun i m H2 => ∃ Hs2 acc accP zs, i + m = xs.length ∧ Ext Hs1 H1 Hs2 H2 ∧ Hs2 D = none ∧ H2 D = some (.lst acc) ∧ RpA X.K cl Hs2 acc accP ∧ lcL t c e (wipeE ρ own) (xs.drop i) = .ok zs ∧ accP ++ zs = ys,
        ⟨xs.length, Hs1, [], [], ys, by omega, Ext.newO s1.sub hD, s1.sub.none hD, upd_same, .nil, by simpa using e2, rfl⟩, ?_⟩
      rintro i m H2 ⟨Hs2, acc, accP, zs, em, x2, nD, eD, rA, el, ea⟩
      by_cases hi : i < xs.length
      · refine .inr ⟨Wj.go i H2 Hs2 x2.fs x2.sub hi, fun H3 => ∃ Hs2 acc accP zs, Ext Hs1 H1 Hs2 H3 ∧ Hs2 D = none ∧ H3 D = some (.lst acc) ∧ RpA X.K cl Hs2 acc accP ∧ lcL t c e (wipeE ρ own) (xs.drop (i + 1)) = .ok zs ∧ accP ++ zs = ys,
          fun H3 ⟨Hs3, acc3, accP3, zs3, q⟩ => ⟨m - 1, by omega, Hs3, acc3, accP3, zs3, by omega, q⟩, fun x H3 hy => ?_⟩
        have ev : xs[i]? = some xs[i] := List.getElem?_eq_getElem hi
        obtain ⟨Hs3, x3, rx3⟩ := Wj.yld i x H2 H3 Hs2 xs[i] x2.fs x2.sub ev hy
        rw [List.drop_eq_getElem_cons hi] at el
        unfold lcL at el
        cases et : t xs[i] with
        | none => rw [et] at el; cases el
        | some as =>
          rw [et] at el
          have x13 := x2.trans x3
          refine hG Hs3 H3 (wipe σ own) x xs[i] as _ x3.sub rx3 et fun vs rv => ⟨?_, ?_⟩
          · rw [wipe_setV _ _ _ fun p hp => ?_, wipe_wipe]
            obtain ⟨q, h1, h2⟩ := rv.fst p hp
            rw [← h2]
            exact hI _ _ et q h1
          · have E3 : PEnv X.K cl Hs3 H3 (setV vs (wipe σ own)) (setE as (wipeE ρ own)) := (E1.up x13).sets rv
            refine ⟨Hs3, _, E3, ?_⟩
            have nD3 : Hs3 D = none := x3.nw D (by rw [eD]; simp) nD
            have eD3 : H3 D = some (.lst acc) := x3.same _ _ eD
            cases ec : c (setE as (wipeE ρ own)) with
            | ok b =>
              simp only [ec] at el
              intro b' Hs4 H4 x4 eb
              subst eb
              have nD4 : Hs4 D = none := x4.nw D (by rw [eD3]; simp) nD3
              have eD4 : H4 D = some (.lst acc) := x4.same _ _ eD3
              cases b' with
              | true =>
                simp only at el
                rw [if_pos rfl]
                refine ⟨Hs4, _, E3.up x4, ?_⟩
                cases ee : e (setE as (wipeE ρ own)) with
                | ok y =>
                  simp only [ee] at el
                  intro yv Hs5 H5 x5 ry
                  have nD5 : Hs5 D = none := x5.nw D (by rw [eD4]; simp) nD4
                  have eD5 : H5 D = some (.lst acc) := x5.same _ _ eD4
                  cases er : lcL t c e (wipeE ρ own) (xs.drop (i + 1)) with
                  | ok ws =>
                    simp only [er] at el
                    cases el
                    have up : Sub Hs2 Hs5 := (x3.fs.trans x4.fs).trans x5.fs
                    refine ⟨acc, eD5, ?_, Hs5, acc ++ [yv], accP ++ [y], ws, ?_, nD5, upd_same, (rA.mono up).append (.cons ry .nil), rfl, by rw [← ea]; simp⟩
                    · rw [rA.length]
                      have : ys.length = accP.length + (ws.length + 1) := by rw [← ea]; simp
                      omega
                    · have x15 := ((x13.trans x4).trans x5)
                      exact ⟨x15.fs, x15.sub.upd nD5, x15.same.upd hD, x15.nw⟩
                  | exc c' fs => simp only [er] at el; cases el
                  | stuck => simp only [er] at el; cases el
                | exc c' fs => simp only [ee] at el; cases el
                | stuck => simp only [ee] at el; cases el
              | false =>
                simp only at el
                rw [if_neg Bool.false_ne_true]
                exact ⟨Hs4, acc, accP, zs, x13.trans x4, nD4, eD4, (rA.mono x3.fs).mono x4.fs, el, ea⟩
            | exc c' fs => simp only [ec] at el; cases el
            | stuck => simp only [ec] at el; cases el
      · have hz : xs.drop i = [] := List.drop_of_length_le (by omega)
        rw [hz] at el
        cases el
        rw [List.append_nil] at ea
        subst ea
        exact .inl ⟨Wj.stop i H2 Hs2 x2.fs x2.sub (by omega), h1 D acc Hs2 H2 x2 eD nD hD rA⟩
    · exact h1.elim
end
end VL
namespace VL
open PySem PySem.Spec PyProof.Rows L2
section
variable {X : Cx} {cl : Nat → Addr} {W : WX} {pos : Pos}
theorem vo_lc {rel : Hp → It → List PV → Prop} {elt tg iter : Expr} {ifs : List Expr} {scope : Scope} {own : List (Str × Nat)} {it : Ev → R (List PV)} {g : TG} {t : Tg} {c : Ev → R Bool} {e : Ex} (hc : X.calm = true) (hN : X.N.Nodup) (hi : PI X tg iter (gv X.K cl rel W it)) (hR : ∀ Hs J xs, rel Hs J xs → Wk X.K cl Hs J xs)
    (ok : BlkOk X.N X.env.scope scope own) (hG : TgOk X.K cl g t) (hI : TgIn t (own.map (·.2)))
    (hg : ∀ (s : Shared) (H : Hp) (C : Addr) (cl : List (Str × Addr)) (fp : List Addr), PG (X.blk s H scope (compEnvC scope cl C X.env) fp) tg g) (ht : ∀ (s : Shared) (H : Hp) (C : Addr) (cl' : List (Str × Addr)) (fp : List Addr), PTs (X.blk s H scope (compEnvC scope cl' C X.env) fp) ifs (tt X.K cl W0 c))
    (he : ∀ (s : Shared) (H : Hp) (C : Addr) (cl' : List (Str × Addr)) (fp : List Addr), PE (X.blk s H scope (compEnvC scope cl' C X.env) fp) elt (tv X.K cl W0 e)) (hs : ∀ x, foldedSetIterable iter X.env x = pure x := by intro _; rfl) :
    PE X (.ListComp elt [⟨tg, iter, ifs, 0⟩] scope pos) (to X.K cl W (eLc (own.map (·.2)) t it c e)) :=
  peWeak (pe_lc hc hN hi ok hg ht he hs) fun σ H Q h => lc_use hR hG hI h
end

/-! ### the statements -/
def sPass : Env → Out := fun ρ => .next ρ
def sBreak : Env → Out := fun ρ => .brk ρ
def sCont : Env → Out := fun ρ => .cont ρ
def sRetN : Env → Out := fun _ => .ret .non
def sSeq (s t : Env → Out) : Env → Out := fun ρ => match s ρ with
  | .next ρ' => t ρ'
  | .brk ρ' => .brk ρ' | .cont ρ' => .cont ρ' | .ret v => .ret v | .exc c fs ρ' => .exc c fs ρ' | .stuck => .stuck
def sExpr (bs : List Bool) (f : Ex) : Env → Out := fun ρ => onE PV.nol f bs ρ fun _ ρ' => .next ρ'
def sRet (bs : List Bool) (f : Ex) : Env → Out := fun ρ => onE PV.nol f bs ρ fun v _ => .ret v
def sSet (i : Nat) (bs : List Bool) (f : Ex) : Env → Out := fun ρ => onE PV.nol f bs ρ fun v ρ' => .next (ρ'.set i (.fz v))
def sTg (t : Tg) (bs : List Bool) (f : Ex) : Env → Out := fun ρ => onE PV.nol f bs ρ fun v ρ' => match t v with
  | some as => .next (setS as ρ')
  | none => .stuck
def sPar (is : List Nat) (bs : List Bool) (fs : List Ex) : Env → Out := fun ρ => onE PV.nols (evs fs) bs ρ fun vs ρ' => .next (setS (is.zip vs) ρ')
def onO (f : Ev → R (List PV)) (bs : List Bool) (ρ : Env) (k : List PV → Env → Out) : Out := match f (vw bs ρ) with
  | .ok xs => k xs (settle bs (PV.nols xs) ρ)
  | .exc c fs => .exc c fs (fr bs ρ)
  | .stuck => .stuck
def sOwn (i : Nat) (bs : List Bool) (f : Ev → R (List PV)) : Env → Out := fun ρ => onO f bs ρ fun xs ρ' => .next (ρ'.set i (.own xs))
def getO : Env → Nat → Option (List PV)
  | .own xs :: _, 0 => some xs
  | _ :: r, n + 1 => getO r n
  | _, _ => none
theorem getO_eq : ∀ {ρ : Env} {i : Nat} {xs : List PV}, getO ρ i = some xs → ρ[i]? = some (.own xs)
  | [], i, xs, h => by cases i <;> cases h
  | .own ys :: r, 0, xs, h => by cases h; rfl
  | .no :: r, 0, xs, h => by cases h
  | .fz v :: r, 0, xs, h => by cases h
  | s :: r, n + 1, xs, h => by
    rw [List.getElem?_cons_succ]
    exact getO_eq (by cases s <;> exact h)
/-- a method that changes an own list -/
def sMet (i : Nat) (g : List PV → List PV → Option (List PV)) (bs : List Bool) (fs : List Ex) : Env → Out := fun ρ => match getO ρ i with
  | none => .stuck
  | some _ => onE PV.nols (evs fs) bs ρ fun vs ρ' => match getO ρ' i with
    | none => .stuck
    | some xs => match g xs vs with
      | none => .stuck
      | some ys => .next (ρ'.set i (.own ys))
def mApp (xs vs : List PV) : Option (List PV) := match vs with
  | [v] => if xs.length < sizeLine then some (xs ++ [v]) else none
  | _ => none
def mExt (xs vs : List PV) : Option (List PV) := match vs with
  | [.lst ys] => if xs.length + ys.length ≤ sizeLine then some (xs ++ ys) else none
  | _ => none
def mIns (xs vs : List PV) : Option (List PV) := match vs with
  | [.int i, v] => if xs.length < sizeLine ∧ 0 ≤ i ∧ i < 2 ^ 63 then some (xs.take i.toNat ++ [v] ++ xs.drop i.toNat) else none
  | _ => none
/-- x[i] = e -/
def sPut (i : Nat) (bs : List Bool) (fv fi : Ex) : Env → Out := fun ρ => onE PV.nol fv bs ρ fun v ρ1 => match getO ρ1 i with
  | none => .stuck
  | some _ => onE PV.nol fi bs ρ1 fun k ρ2 => match getO ρ2 i, k with
    | some xs, .int z => match ixN xs.length z with
      | some j => .next (ρ2.set i (.own (xs.set j v)))
      | none => .stuck
    | _, _ => .stuck
/-- y = x.pop() -/
def sPop (i : Nat) (t : Tg) : Env → Out := fun ρ => match getO ρ i with
  | none => .stuck
  | some xs => match xs[xs.length - 1]? with
    | none => .stuck
    | some v => match t v with
      | none => .stuck
      | some as => .next (setS as (ρ.set i (.own xs.dropLast)))
def sAug (i : Nat) (g : PV → PV → Option PV) (bs : List Bool) (f : Ex) : Env → Out := fun ρ => match ρ[i]? with
  | some (.fz x) => onE PV.nol f bs ρ fun y ρ' => match g x y with
    | some z => .next (ρ'.set i (.fz z))
    | none => .stuck
  | _ => .stuck
def sIf (bs : List Bool) (c : Ev → R Bool) (s t : Env → Out) : Env → Out := fun ρ => onE (fun _ => true) c bs ρ fun b ρ' => if b = true then s ρ' else t ρ'
def forL (t : Tg) (s : Env → Out) : List PV → Env → Out
  | [], ρ => .next ρ
  | v :: vs, ρ => match t v with
    | none => .stuck
    | some as => match s (setS as ρ) with
      | .next ρ' => forL t s vs ρ'
      | .cont ρ' => forL t s vs ρ'
      | .brk ρ' => .next ρ'
      | .ret v => .ret v
      | .exc c fs ρ' => .exc c fs ρ'
      | .stuck => .stuck
def sFor (nl : Bool) (t : Tg) (bs : List Bool) (it : Ev → R (List PV)) (s : Env → Out) : Env → Out := fun ρ => onE (fun _ => nl) it bs ρ fun xs ρ' => forL t s xs ρ'
def wN (bs : List Bool) (c : Ev → R Bool) (s : Env → Out) : Nat → Env → Option Out
  | 0, _ => none
  | n + 1, ρ => match c (vw bs ρ) with
    | .ok false => some (.next ρ)
    | .ok true => match s ρ with
      | .next ρ' => wN bs c s n ρ'
      | .cont ρ' => wN bs c s n ρ'
      | .brk ρ' => some (.next ρ')
      | .ret v => some (.ret v)
      | .exc c fs ρ' => some (.exc c fs ρ')
      | .stuck => some .stuck
    | .exc c fs => some (.exc c fs (fr bs ρ))
    | .stuck => some .stuck
open Classical in
noncomputable def sWhile (bs : List Bool) (c : Ev → R Bool) (s : Env → Out) : Env → Out := fun ρ =>
  if h : ∃ o n, wN bs c s n ρ = some o then h.choose else .stuck
theorem wN_mono {bs : List Bool} {c : Ev → R Bool} {s : Env → Out} : ∀ {n : Nat} {ρ : Env} {o : Out} (k : Nat), wN bs c s n ρ = some o → wN bs c s (n + k) ρ = some o
  | 0, _, _, _, h => by cases h
  | n + 1, ρ, o, k, h => by
    rw [show n + 1 + k = (n + k) + 1 by omega]
    unfold wN at h ⊢
    cases e : c (vw bs ρ) with
    | ok b =>
      rw [e] at h
      cases b with
      | false => exact h
      | true =>
        cases e2 : s ρ with
        | next ρ' => simp only [e2] at h ⊢; exact wN_mono k h
        | cont ρ' => simp only [e2] at h ⊢; exact wN_mono k h
        | brk ρ' => simp only [e2] at h ⊢; exact h
        | ret v => simp only [e2] at h ⊢; exact h
        | exc c' fs ρ' => simp only [e2] at h ⊢; exact h
        | stuck => simp only [e2] at h ⊢; exact h
    | exc c' fs => rw [e] at h; exact h
    | stuck => rw [e] at h; exact h
theorem sWhile_of {bs : List Bool} {c : Ev → R Bool} {s : Env → Out} {ρ : Env} {n : Nat} {o : Out} (h : wN bs c s n ρ = some o) : sWhile bs c s ρ = o := by
  have hx : ∃ o n, wN bs c s n ρ = some o := ⟨o, n, h⟩
  unfold sWhile
  rw [dif_pos hx]
  obtain ⟨m, hm⟩ := hx.choose_spec
  have h1 := wN_mono m h
  have h2 := wN_mono n hm
  rw [Nat.add_comm] at h2
  rw [h1] at h2
  exact (Option.some.inj h2).symm
/-- a while by a measure: what one turn does -/
theorem sWhile_by {bs : List Bool} {c : Ev → R Bool} {s : Env → Out} {Q : Out → Prop} (I : Nat → Env → Prop)
    (turn : ∀ m ρ, I m ρ → (c (vw bs ρ) = .ok false ∧ Q (.next ρ)) ∨ (c (vw bs ρ) = .ok true ∧ ((∃ m' ρ', m' < m ∧ (s ρ = .next ρ' ∨ s ρ = .cont ρ') ∧ I m' ρ') ∨ (∃ ρ', s ρ = .brk ρ' ∧ Q (.next ρ')) ∨ (∃ v, s ρ = .ret v ∧ Q (.ret v)) ∨ ∃ c fs ρ', s ρ = .exc c fs ρ' ∧ Q (.exc c fs ρ'))))
    {m : Nat} {ρ : Env} (h : I m ρ) : Q (sWhile bs c s ρ) := by
  have go : ∀ m ρ, I m ρ → ∃ n o, wN bs c s n ρ = some o ∧ Q o := by
    intro m
    induction m using Nat.strongRecOn with
    | ind m ih =>
      intro ρ h
      rcases turn m ρ h with ⟨e, q⟩ | ⟨e, ⟨m', ρ', hm, es, h'⟩ | ⟨ρ', es, q⟩ | ⟨v, es, q⟩ | ⟨c, fs, ρ', es, q⟩⟩
      · exact ⟨1, _, by unfold wN; rw [e], q⟩
      · obtain ⟨n, o, h1, h2⟩ := ih m' hm ρ' h'
        refine ⟨n + 1, o, ?_, h2⟩
        unfold wN
        rw [e]
        rcases es with es | es <;> (simp only [es]; exact h1)
      · exact ⟨1, _, by unfold wN; simp only [e, es], q⟩
      · exact ⟨1, _, by unfold wN; simp only [e, es], q⟩
      · exact ⟨1, _, by unfold wN; simp only [e, es], q⟩
  obtain ⟨n, o, h1, h2⟩ := go m ρ h
  rw [sWhile_of h1]
  exact h2

section
variable {X : Cx} {cl : Nat → Addr} {W : WX} {He H0 : Hp} {pos : Pos}
abbrev PV1 (X : Cx) (cl : Nat → Addr) (W : WX) (He H0 : Hp) (st : Stmt) (s : Env → Out) : Prop := PS X st (ts X.K cl He H0 W s)
abbrev PVs (X : Cx) (cl : Nat → Addr) (W : WX) (He H0 : Hp) (st : List Stmt) (s : Env → Out) : Prop := PSs X st (ts X.K cl He H0 W s)
variable {st : Stmt} {rest : List Stmt} {s t : Env → Out} {e : Expr} {f : Ex} {bs : List Bool}
theorem vs_nil : PVs X cl W He H0 [] sPass := pssWeak pss_nil fun D σ H ⟨Hs, ρ, S, h⟩ => h σ Hs H (Sub.refl _) S
theorem vs_one (h : PV1 X cl W He H0 st s) : PVs X cl W He H0 [st] s := pss_one h
theorem vs_cons (h : PV1 X cl W He H0 st s) (h' : PVs X cl W He H0 rest t) : PVs X cl W He H0 (st :: rest) (sSeq s t) :=
  pssWeak (pss_cons h h') fun D σ H ⟨Hs, ρ, S, h⟩ => by
    refine ⟨Hs, ρ, S, ?_⟩
    unfold sSeq at h
    cases e : s ρ with
    | next ρ' => rw [e] at h; exact fun σ' Hs' H' up S' => ⟨Hs', ρ', S', Post.up h up⟩
    | brk ρ' => rw [e] at h; exact h
    | cont ρ' => rw [e] at h; exact h
    | ret v => rw [e] at h; exact h
    | exc c fs ρ' => rw [e] at h; exact h
    | stuck => rw [e] at h; exact h
theorem vs_pass : PV1 X cl W He H0 (.Pass pos) sPass := psWeak ps_pass fun D σ H ⟨Hs, ρ, S, h⟩ => h σ Hs H (Sub.refl _) S
theorem vs_doc {x j pos'} : PV1 X cl W He H0 (.Expr (.Constant (.str x) j pos) pos') sPass := psWeak ps_doc fun D σ H ⟨Hs, ρ, S, h⟩ => h σ Hs H (Sub.refl _) S
theorem vs_break : PV1 X cl W He H0 (.Break pos) sBreak := psWeak ps_break fun D σ H ⟨Hs, ρ, S, h⟩ => h σ Hs H (Sub.refl _) S
theorem vs_cont : PV1 X cl W He H0 (.Continue pos) sCont := psWeak ps_continue fun D σ H ⟨Hs, ρ, S, h⟩ => h σ Hs H (Sub.refl _) S
theorem vs_retN : PV1 X cl W He H0 (.Return none pos) sRetN := psWeak ps_retN fun D σ H ⟨Hs, ρ, S, h⟩ => h .non Hs H S.ext .non
theorem vs_expr (he : PE X e (tv X.K cl W f)) (hs : swapsWith e none pos.line X.env = pure false := by rfl) : PV1 X cl W He H0 (.Expr e pos) (sExpr bs f) :=
  psWeak (ps_expr he hs) fun D σ H ⟨Hs, ρ, S, h⟩ => onE_use bears_v S h fun v x Hs1 H1 ρ1 up S1 r _ _ _ hp => hp _ _ _ (Sub.refl _) S1
theorem vs_ret (he : PE X e (tv X.K cl W f)) : PV1 X cl W He H0 (.Return (some e) pos) (sRet bs f) :=
  psWeak (ps_ret he) fun D σ H ⟨Hs, ρ, S, h⟩ => onE_use bears_v S h fun v x Hs1 H1 ρ1 up S1 r _ _ _ hp => hp _ _ _ S1.ext r
theorem vs_set {i : Nat} {x : Str} {p' : Pos} (hN : X.N.Nodup) (he : PE X e (tv X.K cl W f)) (hi : X.N[i]? = some x := by rfl) (hx : Loc X.env.scope x := by first | exact Or.inl rfl | exact Or.inr rfl) (hs : swapsWith e (some (.Name x p')) pos.line X.env = pure false := by rfl) (hf : X.fn x = true ∨ X.env.scope.names.lookup x = some .local := by first | exact .inl rfl | exact .inr rfl | assumption) :
    PV1 X cl W He H0 (.Assign [.Name x p'] e pos) (sSet i bs f) :=
  psWeak (ps_set hN hi hx he hs hf) fun D σ H ⟨Hs, ρ, S, h⟩ => onE_use bears_v S h fun v x Hs1 H1 ρ1 up S1 r _ _ _ hp => hp _ _ _ (Sub.refl _) (S1.set r i)
theorem vs_tg {tg : Expr} {g : TG} {t : Tg} (he : PE X e (tv X.K cl W f)) (hg : PG X tg g) (hG : TgOk X.K cl g t) (hs : swapsWithSole [tg] e pos.line X.env = pure false := by rfl) (hw : swappedStores [tg] e X.env = pure none := by rfl) (h1 : (assignEach [tg] X.env).map (·.2) = [assign tg X.env] := by rfl) :
    PV1 X cl W He H0 (.Assign [tg] e pos) (sTg t bs f) :=
  psWeak (ps_asg he hg hs hw h1) fun D σ H ⟨Hs, ρ, S, h⟩ => onE_use bears_v S h fun v x Hs1 H1 ρ1 up S1 r _ _ _ hp => by
    cases e : t v with
    | none => rw [e] at hp; exact hp.elim
    | some as => rw [e] at hp; exact hG Hs1 H1 σ x v as _ S1.sub r e fun xs rx => hp _ _ _ (Sub.refl _) (S1.sets rx)
theorem vs_par {i j : Nat} {x y : Str} {a b : Expr} {fs : List Ex} {px py pt : Pos} {kt k2 pt2} (hc : X.calm = true) (hN : X.N.Nodup) (ha : PA X [a, b] (ta X.K cl W (evs fs))) (hi : X.N[i]? = some x := by rfl) (hj : X.N[j]? = some y := by rfl) (hij : i ≠ j := by decide)
    (hx : X.env.scope.names.lookup x = some .local := by rfl) (hy : X.env.scope.names.lookup y = some .local := by rfl)
    (hw : swappedStores [.Tuple [.Name x px, .Name y py] kt pt] (.Tuple [a, b] k2 pt2) X.env = pure (some [x, y]) := by rfl)
    (hs : swapsWithSole [.Tuple [.Name x px, .Name y py] kt pt] (.Tuple [a, b] k2 pt2) pos.line X.env = pure false := by rfl) (hl : fs.length = 2 := by rfl) :
    PV1 X cl W He H0 (.Assign [.Tuple [.Name x px, .Name y py] kt pt] (.Tuple [a, b] k2 pt2) pos) (sPar [i, j] bs fs) :=
  psWeak (ps_par hc hN hi hj hij hx hy ha hw hs) fun D σ H ⟨Hs, ρ, S, h⟩ => onE_use bears_a S h fun v xs Hs1 H1 ρ1 up S1 r ev _ _ hp => by
    have l2 : v.length = 2 := by
      have gen : ∀ (gs : List Ex) (ρ : Ev) (vs : List PV), evs gs ρ = .ok vs → vs.length = gs.length := by
        intro gs
        induction gs with
        | nil => intro ρ vs e; cases e; rfl
        | cons g gs ih =>
          intro ρ vs e
          unfold evs at e
          cases e1 : g ρ with
          | ok x =>
            rw [e1] at e
            replace e : (evs gs ρ).bind (fun xs => R.ok (x :: xs)) = .ok vs := e
            cases e2 : evs gs ρ with
            | ok xs => rw [e2] at e; cases e; simp [ih ρ xs e2]
            | exc c f => rw [e2] at e; cases e
            | stuck => rw [e2] at e; cases e
          | exc c f => rw [e1] at e; cases e
          | stuck => rw [e1] at e; cases e
      rw [gen _ _ _ ev, hl]
    match v, l2, r with
    | [v1, v2], _, .cons (v := x1) r1 (.cons (v := x2) r2 .nil) =>
      exact ⟨x1, x2, rfl, hp _ _ _ (Sub.refl _) ((S1.set r1 i).set r2 j)⟩
/-- a made list becomes the def's own -/
theorem onO_use {g : Ev → R (List PV)} {k : List PV → Env → Out} {D : Ends} {Q : VK} {σ : St} {Hs H : Hp} {ρ : Env} {K : PySem.W.Frag} (S : SEnv K cl He H0 Hs H σ ρ) (h : Post K cl He H0 W Hs D (onO g bs ρ k))
    (hk : ∀ xs a vs Hs1 H1 ρ1, Sub Hs Hs1 → SEnv K cl He H0 Hs1 H1 σ ρ1 → H1 a = some (.lst vs) → RpA K cl Hs1 vs xs → Hs1 a = none → H0 a = none → (∀ (j : Nat) (ys : List PV), ρ1[j]? = some (Sl.own ys) → σ[j]? ≠ some (some (V.ref a))) → Post K cl He H0 W Hs1 D (k xs ρ1) → Q (.ref a) H1) : to K cl W g σ H Q := by
  refine ⟨_, _, S.pe bs, ?_⟩
  unfold onO at h
  have s1 := (S.plusExt bs).1
  have hH0 : ∀ {a : Addr}, H a = none → H0 a = none := fun {a} n => by
    cases q : H0 a with
    | none => rfl
    | some o => rw [S.ext.same a o q] at n; cases n
  have hnew : ∀ {a : Addr}, H a = none → ∀ (j : Nat) (ys : List PV), ρ[j]? = some (Sl.own ys) → σ[j]? ≠ some (some (V.ref a)) := fun {a} n j ys e z => by
    obtain ⟨b, vs, e1, e2, _⟩ := S.own j ys e
    rw [z] at e1
    cases e1
    rw [n] at e2; cases e2
  cases e : g (vw bs ρ) with
  | ok xs =>
    rw [e] at h
    replace h : Post K cl He H0 W Hs D (k xs (settle bs (PV.nols xs) ρ)) := h
    intro a vs Hs1 H1 X e1 n1 n2 r
    cases en : PV.nols xs with
    | false =>
      have es : settle bs (PV.nols xs) ρ = fr bs ρ := by unfold settle; rw [en]; rfl
      have up := s1.trans X.fs
      rw [es] at h
      exact hk xs a vs Hs1 H1 _ up (S.froze X) e1 r n1 (hH0 n2) (fun j ys e => hnew n2 j ys (fr_own e).1) (Post.up h up)
    | true =>
      have es : settle bs (PV.nols xs) ρ = ρ := by unfold settle; rw [en]; rfl
      obtain ⟨S1, up⟩ := S.back X
      rw [es] at h
      have nP : ¬ isOwn bs ρ σ a := fun p => by
        obtain ⟨vs, q⟩ := (S.ownAt p).1
        rw [n2] at q; cases q
      refine hk xs a vs _ H1 _ up S1 e1 (r.nolist ⟨fun b p => ?_⟩ en) (by rw [cut_no nP]; exact n1) (hH0 n2) (hnew n2) (Post.up h up)
      obtain ⟨us, e2⟩ := (S.ownAt p).1
      exact ⟨us, X.fs _ _ (by rw [plus_yes p]; exact e2)⟩
  | exc c fs =>
    rw [e] at h
    intro d fvs Hs1 H1 X e1 r
    exact h σ Hs1 H1 d fvs (s1.trans X.fs) (S.froze X) e1 r
  | stuck => rw [e] at h; exact h
theorem vs_own {i : Nat} {x : Str} {p' : Pos} {g : Ev → R (List PV)} (hN : X.N.Nodup) (he : PE X e (to X.K cl W g)) (hi : X.N[i]? = some x := by rfl) (hx : Loc X.env.scope x := by first | exact Or.inl rfl | exact Or.inr rfl) (hs : swapsWith e (some (.Name x p')) pos.line X.env = pure false := by rfl) (hf : X.fn x = true ∨ X.env.scope.names.lookup x = some .local := by first | exact .inl rfl | exact .inr rfl | assumption) :
    PV1 X cl W He H0 (.Assign [.Name x p'] e pos) (sOwn i bs g) :=
  psWeak (ps_set hN hi hx he hs hf) fun D σ H ⟨Hs, ρ, S, h⟩ => onO_use S h fun xs a vs Hs1 H1 ρ1 up S1 e1 r n1 n0 new hp => hp _ _ _ (Sub.refl _) (S1.setOwn e1 r n1 n0 new i)
/-! a comprehension given to a name -/
section
variable {rel : Hp → It → List PV → Prop} {elt tg iter : Expr} {ifs : List Expr} {scope : Scope} {own : List (Str × Nat)} {it : Ev → R (List PV)} {g : TG} {t : Tg} {c : Ev → R Bool} {e : Ex} {i : Nat} {y : Str} {py p2 : Pos}
theorem vs_ownLc (hc : X.calm = true) (hN : X.N.Nodup) (hi : PI X tg iter (gv X.K cl rel W it)) (hR : ∀ Hs J xs, rel Hs J xs → Wk X.K cl Hs J xs)
    (ok : BlkOk X.N X.env.scope scope own) (hG : TgOk X.K cl g t) (hI : TgIn t (own.map (·.2)))
    (hg : ∀ (s : Shared) (H : Hp) (C : Addr) (cl : List (Str × Addr)) (fp : List Addr), PG (X.blk s H scope (compEnvC scope cl C X.env) fp) tg g) (ht : ∀ (s : Shared) (H : Hp) (C : Addr) (cl' : List (Str × Addr)) (fp : List Addr), PTs (X.blk s H scope (compEnvC scope cl' C X.env) fp) ifs (tt X.K cl W0 c))
    (he : ∀ (s : Shared) (H : Hp) (C : Addr) (cl' : List (Str × Addr)) (fp : List Addr), PE (X.blk s H scope (compEnvC scope cl' C X.env) fp) elt (tv X.K cl W0 e)) (hs : ∀ x, foldedSetIterable iter X.env x = pure x := by intro _; rfl)
    (hy : X.N[i]? = some y := by rfl) (hyl : X.env.scope.names.lookup y = some .local := by rfl) (hsw : swapsWith (.ListComp elt [⟨tg, iter, ifs, 0⟩] scope p2) (some (.Name y py)) pos.line X.env = pure true := by rfl) :
    PV1 X cl W He H0 (.Assign [.Name y py] (.ListComp elt [⟨tg, iter, ifs, 0⟩] scope p2) pos) (sOwn i bs (eLc (own.map (·.2)) t it c e)) :=
  psWeak (ps_setLc hc hN hy hyl hsw hi ok hg ht he hs) fun D σ H ⟨Hs, ρ, S, h⟩ => lc_use hR hG hI (onO_use S h fun xs a vs Hs1 H1 ρ1 up S1 e1 r n1 n0 new hp => hp _ _ _ (Sub.refl _) (S1.setOwn e1 r n1 n0 new i))
theorem onO_asLst {g : Ev → R (List PV)} {k : PV → Env → Out} {ρ : Env} {D : Ends} {Hs : Hp} {K : PySem.W.Frag} {σ : St} {H : Hp} {Q : VK} (S : SEnv K cl He H0 Hs H σ ρ) (h : Post K cl He H0 W Hs D (onE PV.nol (asLst g) bs ρ k))
    (hk : ∀ v x Hs1 H1 ρ1, Sub Hs Hs1 → SEnv K cl He H0 Hs1 H1 σ ρ1 → Rp K cl Hs1 x v → Post K cl He H0 W Hs1 D (k v ρ1) → Q x H1) : to K cl W g σ H Q := by
  refine ⟨_, _, S.pe bs, ?_⟩
  unfold onE asLst at h
  have s1 := (S.plusExt bs).1
  cases e : g (vw bs ρ) with
  | ok xs =>
    rw [e] at h
    replace h : Post K cl He H0 W Hs D (k (.lst xs) (fr bs ρ)) := h
    intro a vs Hs1 H1 X e1 n1 n2 r
    have X2 : Ext (plus (isOwn bs ρ σ) Hs H) H (upd Hs1 a (.lst vs)) H1 := ⟨X.fs.trans (Sub.new n1), fun b o q => by
      by_cases hb : b = a
      · subst hb; rw [upd_same] at q; rw [e1]; exact q
      · rw [upd_ne hb] at q; exact X.sub b o q, X.same, fun b hb n => by
      rw [upd_ne (fun z => hb (by rw [z]; exact n2))]
      exact X.nw b hb n⟩
    have up := s1.trans X2.fs
    exact hk _ (.ref a) _ H1 _ up (S.froze X2) (.lst upd_same (r.mono (Sub.new n1))) (Post.up h up)
  | exc c fs =>
    rw [e] at h
    intro d fvs Hs1 H1 X e1 r
    exact h σ Hs1 H1 d fvs (s1.trans X.fs) (S.froze X) e1 r
  | stuck => rw [e] at h; exact h
theorem vs_setLc (hc : X.calm = true) (hN : X.N.Nodup) (hi : PI X tg iter (gv X.K cl rel W it)) (hR : ∀ Hs J xs, rel Hs J xs → Wk X.K cl Hs J xs)
    (ok : BlkOk X.N X.env.scope scope own) (hG : TgOk X.K cl g t) (hI : TgIn t (own.map (·.2)))
    (hg : ∀ (s : Shared) (H : Hp) (C : Addr) (cl : List (Str × Addr)) (fp : List Addr), PG (X.blk s H scope (compEnvC scope cl C X.env) fp) tg g) (ht : ∀ (s : Shared) (H : Hp) (C : Addr) (cl' : List (Str × Addr)) (fp : List Addr), PTs (X.blk s H scope (compEnvC scope cl' C X.env) fp) ifs (tt X.K cl W0 c))
    (he : ∀ (s : Shared) (H : Hp) (C : Addr) (cl' : List (Str × Addr)) (fp : List Addr), PE (X.blk s H scope (compEnvC scope cl' C X.env) fp) elt (tv X.K cl W0 e)) (hs : ∀ x, foldedSetIterable iter X.env x = pure x := by intro _; rfl)
    (hy : X.N[i]? = some y := by rfl) (hyl : X.env.scope.names.lookup y = some .local := by rfl) (hsw : swapsWith (.ListComp elt [⟨tg, iter, ifs, 0⟩] scope p2) (some (.Name y py)) pos.line X.env = pure true := by rfl) :
    PV1 X cl W He H0 (.Assign [.Name y py] (.ListComp elt [⟨tg, iter, ifs, 0⟩] scope p2) pos) (sSet i bs (asLst (eLc (own.map (·.2)) t it c e))) :=
  psWeak (ps_setLc hc hN hy hyl hsw hi ok hg ht he hs) fun D σ H ⟨Hs, ρ, S, h⟩ => lc_use hR hG hI (onO_asLst S h fun v x Hs1 H1 ρ1 up S1 r hp => hp _ _ _ (Sub.refl _) (S1.set r i))
end

/-! changing an own list -/
theorem getO_set {ρ : Env} {i : Nat} {xs : List PV} (h : getO ρ i = some xs) : ρ[i]? = some (.own xs) := getO_eq h
/-- the method's rule, by its reading -/
def MetOk (K : PySem.W.Frag) (cl : Nat → Addr) (r : V → List V → Hp → VK → Prop) (g : List PV → List PV → Option (List PV)) : Prop :=
  ∀ (Hs H : Hp) (a : Addr) (vs us : List V) (xs ws ys : List PV) (Q : VK), Sub Hs H → H a = some (.lst vs) → Hs a = none → RpA K cl Hs vs xs → RpA K cl Hs us ws → g xs ws = some ys → (∀ zs, RpA K cl Hs zs ys → Q .non (upd H a (.lst zs))) → r (.ref a) us H Q
theorem met_app {K : PySem.W.Frag} : MetOk K cl rAppend mApp := fun Hs H a vs us xs ws ys Q s e n r ru h q => by
  cases ru with
  | nil => cases h
  | cons r1 t =>
    cases t with
    | cons _ _ => cases h
    | nil =>
      replace h : (if xs.length < sizeLine then some (xs ++ [_]) else none) = some ys := h
      split at h
      · cases h; exact ⟨a, vs, _, rfl, rfl, e, by rw [r.length]; assumption, q _ (r.append (.cons r1 .nil))⟩
      · cases h
theorem met_ext {K : PySem.W.Frag} : MetOk K cl rExtend mExt := fun Hs H a vs us xs ws ys Q s e n r ru h q => by
  cases ru with
  | nil => cases h
  | cons r1 t =>
    cases t with
    | cons _ _ => cases r1 <;> cases h
    | nil =>
      cases r1 with
      | @lst b zs ys' hb rb =>
        replace h : (if xs.length + ys'.length ≤ sizeLine then some (xs ++ ys') else none) = some ys := h
        split at h
        · cases h; exact ⟨a, b, vs, zs, rfl, rfl, e, s _ _ hb, by rw [r.length, rb.length]; assumption, q _ (r.append rb)⟩
        · cases h
      | _ => cases h
def rInsert : V → List V → Hp → VK → Prop := fun x vs H Q => ∃ (l : Addr) (xs : List V) (i : Int) (y : V), x = .ref l ∧ vs = [.int i, y] ∧ H l = some (.lst xs) ∧ xs.length < sizeLine ∧ 0 ≤ i ∧ i < 2 ^ 63 ∧ Q .non (upd H l (.lst (xs.take i.toNat ++ [y] ++ xs.drop i.toNat)))
theorem met_ins {K : PySem.W.Frag} : MetOk K cl rInsert mIns := fun Hs H a vs us xs ws ys Q s e n r ru h q => by
  cases ru with
  | nil => cases h
  | cons r1 t =>
    cases t with
    | nil => cases r1 <;> cases h
    | cons r2 t =>
      cases t with
      | cons _ _ => cases r1 <;> cases h
      | nil =>
        cases r1 with
        | int i =>
          replace h : (if xs.length < sizeLine ∧ 0 ≤ i ∧ i < 2 ^ 63 then some (xs.take i.toNat ++ [_] ++ xs.drop i.toNat) else none) = some ys := h
          split at h
          · rename_i hk
            cases h
            exact ⟨a, vs, i, _, rfl, rfl, e, by rw [r.length]; exact hk.1, hk.2.1, hk.2.2, q _ (((r.take _).append (.cons r2 .nil)).append (r.drop _))⟩
          · cases h
        | _ => cases h
theorem vs_met {i : Nat} {x : Str} {px apos cpos : Pos} {name : Str} {id : String} {r : V → List V → Hp → VK → Prop} {g : List PV → List PV → Option (List PV)} {es : List Expr} {fs : List Ex} (slot : Slot "list" name id) (hty : typeOf (.builtin id) = pure (.type "method_descriptor")) (hm : MtR X id r) (hg : MetOk X.K cl r g)
    (ha : PA X (e :: es) (ta X.K cl W (evs fs))) (hi : X.N[i]? = some x := by rfl) (hv : Vis X.env.scope x := by first | exact Or.inl rfl | exact Or.inr (Or.inl rfl) | exact Or.inr (Or.inr rfl)) (hd : (x == ("__debug__" : Str)) = false := by decide) (hcd : (x == ("__classdict__" : Str)) = false := by decide)
    (hbase : attributeBase (.Name x px) name X.env (eval (.Name x px) X.env) = eval (.Name x px) X.env := by rfl)
    (hfew : ((backTo cpos (starEach (e :: es) X.env)).all (fun x => !x.1) && (backToKw cpos (keywordEach [] X.env)).all (fun x => x.1.isSome)
      && decide ((e :: es).length + ([] : List Keyword).length + (if ([] : List Keyword).isEmpty then 0 else 1) < 30)) = true := by rfl)
    (hline : (apos.endLine == cpos.line) = true := by rfl) (hs : starEach (e :: es) X.env = (false, eval e X.env) :: starEach es X.env := by rfl) (hplain : (backTo cpos (starEach es X.env)).any (·.1) = false := by rfl)
    (hsw : swapsWith (.Call (.Attribute (.Name x px) name apos) (e :: es) [] cpos) none pos.line X.env = pure false := by rfl) :
    PV1 X cl W He H0 (.Expr (.Call (.Attribute (.Name x px) name apos) (e :: es) [] cpos) pos) (sMet i g bs fs) :=
  psWeak (ps_expr (pe_bm PySem.F.plainAttrs_list slot hty hm (pe_var hi hv hd hcd) ha hbase hfew hline hs hplain) hsw) fun D σ H ⟨Hs, ρ, S, h⟩ => by
    unfold sMet at h
    cases e0 : getO ρ i with
    | none => rw [e0] at h; exact h.elim
    | some xs0 =>
      rw [e0] at h
      obtain ⟨a, vs, h1, h2, _⟩ := S.own i xs0 (getO_eq e0)
      refine ⟨_, h1, .inl ⟨rfl, vs, .of h2⟩, ?_⟩
      refine onE_use bears_a S h fun ws us Hs1 H1 ρ1 up S1 ru ev e1 sm hp => ?_
      cases e2 : getO ρ1 i with
      | none => rw [e2] at hp; exact hp.elim
      | some xs =>
        rw [e2] at hp
        cases e3 : g xs ws with
        | none => simp only [e3] at hp; exact hp.elim
        | some ys =>
          simp only [e3] at hp
          obtain ⟨b, vs2, g1, g2, g3, g4, g5⟩ := S1.own i xs (getO_eq e2)
          rw [h1] at g1
          cases g1
          exact hg Hs1 H1 a vs2 us xs ws ys _ S1.sub g2 g4 g3 ru e3 fun zs rz => hp _ _ _ (Sub.refl _) (S1.put (getO_eq e2) h1 rz)
/-- x[i] = e -/
theorem vs_put {i : Nat} {x : Str} {px p2 : Pos} {ie : Expr} {fi : Ex} (he : PE X e (tv X.K cl W f)) (hie : PE X ie (tv X.K cl W fi)) (hi : X.N[i]? = some x := by rfl) (hv : Vis X.env.scope x := by first | exact Or.inl rfl | exact Or.inr (Or.inl rfl) | exact Or.inr (Or.inr rfl)) (hd : (x == ("__debug__" : Str)) = false := by decide) (hcd : (x == ("__classdict__" : Str)) = false := by decide)
    (ha : ∀ v, assign (.Subscript (.Name x px) ie p2) X.env v = (do
      let ov ← holding [v] (eval (.Name x px) X.env)
      let iv ← holding [v, ov] (eval ie X.env)
      standAt p2
      holding [v, ov, iv] (setItem ov iv v)
      release [v, ov, iv] []) := by intro _; rfl) (hs : swapsWithSole [.Subscript (.Name x px) ie p2] e pos.line X.env = pure false := by rfl) (hw : swappedStores [.Subscript (.Name x px) ie p2] e X.env = pure none := by rfl) (h1 : (assignEach [.Subscript (.Name x px) ie p2] X.env).map (·.2) = [assign (.Subscript (.Name x px) ie p2) X.env] := by rfl) :
    PV1 X cl W He H0 (.Assign [.Subscript (.Name x px) ie p2] e pos) (sPut i bs f fi) :=
  psWeak (ps_asg he (pg_sub (pe_var hi hv hd hcd) hie set_list ha) hs hw h1) fun D σ H ⟨Hs, ρ, S, h⟩ => by
    refine onE_use bears_v S h fun v xv Hs1 H1 ρ1 up S1 r _ _ _ hp => ?_
    cases e0 : getO ρ1 i with
    | none => rw [e0] at hp; exact hp.elim
    | some xs0 =>
      rw [e0] at hp
      obtain ⟨a, vs, h1, h2, _⟩ := S1.own i xs0 (getO_eq e0)
      refine ⟨_, h1, ?_⟩
      refine onE_use bears_v S1 hp fun k kv Hs2 H2 ρ2 up2 S2 rk _ _ _ hp2 => ?_
      cases e2 : getO ρ2 i with
      | none => rw [e2] at hp2; exact hp2.elim
      | some xs =>
        rw [e2] at hp2
        cases rk with
        | int z =>
          cases e3 : ixN xs.length z with
          | none => simp only [e3] at hp2; exact hp2.elim
          | some j =>
            simp only [e3] at hp2
            obtain ⟨b, vs2, g1, g2, g3, g4, g5⟩ := S2.own i xs (getO_eq e2)
            rw [h1] at g1
            cases g1
            exact ⟨a, vs2, z, j, rfl, rfl, g2, by rw [g3.length]; exact e3, hp2 _ _ _ (Sub.refl _) (S2.put (getO_eq e2) h1 (RpA.set (r.mono up2) j g3))⟩
        | _ => exact hp2.elim
theorem vs_pop {i : Nat} {x : Str} {px apos cpos : Pos} {tg : Expr} {g : TG} {t : Tg} (hg : PG X tg g) (hG : TgOk X.K cl g t) (hi : X.N[i]? = some x := by rfl) (hv : Vis X.env.scope x := by first | exact Or.inl rfl | exact Or.inr (Or.inl rfl) | exact Or.inr (Or.inr rfl)) (hd : (x == ("__debug__" : Str)) = false := by decide) (hcd : (x == ("__classdict__" : Str)) = false := by decide)
    (hbase : attributeBase (.Name x px) "pop" X.env (eval (.Name x px) X.env) = eval (.Name x px) X.env := by rfl) (hline : (apos.endLine == cpos.line) = true := by rfl)
    (hs : swapsWithSole [tg] (.Call (.Attribute (.Name x px) "pop" apos) [] [] cpos) pos.line X.env = pure false := by rfl) (hw : swappedStores [tg] (.Call (.Attribute (.Name x px) "pop" apos) [] [] cpos) X.env = pure none := by rfl) (h1 : (assignEach [tg] X.env).map (·.2) = [assign tg X.env] := by rfl) :
    PV1 X cl W He H0 (.Assign [tg] (.Call (.Attribute (.Name x px) "pop" apos) [] [] cpos) pos) (sPop i t) :=
  psWeak (ps_asg (pe_bm0 PySem.F.plainAttrs_list PySem.F.slot_list_pop PySem.F.type_list_pop mt_pop (pe_var hi hv hd hcd) hbase hline) hg hs hw h1) fun D σ H ⟨Hs, ρ, S, h⟩ => by
    unfold sPop at h
    cases e0 : getO ρ i with
    | none => rw [e0] at h; exact h.elim
    | some xs =>
      rw [e0] at h
      obtain ⟨a, vs, h1, h2, h3, h4, h5⟩ := S.own i xs (getO_eq e0)
      refine ⟨_, h1, .inl ⟨rfl, vs, .of h2⟩, ?_⟩
      cases e1 : xs[xs.length - 1]? with
      | none => simp only [e1] at h; exact h.elim
      | some v =>
        simp only [e1] at h
        cases e2 : t v with
        | none => simp only [e2] at h; exact h.elim
        | some as =>
          simp only [e2] at h
          obtain ⟨y, g1, g2⟩ := h3.get e1
          have dl : RpA X.K cl Hs vs.dropLast xs.dropLast := by
            rw [List.dropLast_eq_take, List.dropLast_eq_take, h3.length]
            exact h3.take _
          have S2 := S.put (getO_eq e0) h1 dl
          exact ⟨a, vs, y, rfl, rfl, h2, by rw [h3.length]; exact g1, hG Hs _ σ y v as _ S2.sub g2 e2 fun us ru => h _ _ _ (Sub.refl _) (S2.sets ru)⟩
/-- name op= e -/
theorem vs_aug {i : Nat} {x : Str} {op : Operator} {r : R2} {g : PV → PV → Option PV} {p' : Pos} (ho : OpR X (inplaceOp op) r) (hg : OpV X.K cl r g) (hN : X.N.Nodup) (he : PE X e (tv X.K cl W f)) (hi : X.N[i]? = some x := by rfl) (hx : Loc X.env.scope x := by first | exact Or.inl rfl | exact Or.inr rfl) (hf : X.fn x = true ∨ X.env.scope.names.lookup x = some .local := by first | exact .inl rfl | exact .inr rfl | assumption) :
    PV1 X cl W He H0 (.AugAssign (.Name x p') op e pos) (sAug i g bs f) :=
  psWeak (ps_aug hN hi hx he ho hf) fun D σ H ⟨Hs, ρ, S, h⟩ => by
    unfold sAug at h
    split at h
    · rename_i v e0
      obtain ⟨y, h1, h2⟩ := S.fz i v e0
      refine ⟨y, h1, onE_use bears_v S h fun u w Hs1 H1 ρ1 up S1 ru _ _ _ hp => ?_⟩
      cases e1 : g v u with
      | none => simp only [e1] at hp; exact hp.elim
      | some z =>
        simp only [e1] at hp
        exact hg W σ Hs1 H1 y w v u z _ S1.sub (h2.mono up) ru e1 fun zz Hs2 H2 x2 rz => hp _ _ _ x2.fs (SEnv.set ⟨S1.ext.trans x2, S1.len, fun j v' e => let ⟨q, a1, a2⟩ := S1.fz j v' e; ⟨q, a1, a2.mono x2.fs⟩, fun j ys e => let ⟨q, a0, a1, a2, a3, a4, a5⟩ := S1.own j ys e; ⟨q, a0, a1, x2.same _ _ a2, a3.mono x2.fs, x2.nw q (by rw [a2]; simp) a4, a5⟩, S1.inj⟩ rz i)
    · exact h.elim
theorem vs_if {c : Expr} {a b : List Stmt} {cc : Ev → R Bool} (hc : PT X c (tt X.K cl W cc)) (ha : PVs X cl W He H0 a s) (hb : PVs X cl W He H0 b t) : PV1 X cl W He H0 (.If c a b pos) (sIf bs cc s t) :=
  psWeak (ps_if hc ha hb) fun D σ H ⟨Hs, ρ, S, h⟩ => onE_use bears_b S h fun v x Hs1 H1 ρ1 up S1 r _ _ _ hp => by
    subst r
    cases x with
    | true => rw [if_pos rfl] at hp ⊢; exact ⟨Hs1, ρ1, S1, hp⟩
    | false => rw [if_neg Bool.false_ne_true] at hp ⊢; exact ⟨Hs1, ρ1, S1, hp⟩
theorem vs_while {c : Expr} {body : List Stmt} {cc : Ev → R Bool} (hp : PassesOwn (model X.prog X.w) X.A X.env X.xe) (hc : PT X c (tt X.K cl W cc)) (hb : PVs X cl W He H0 body s) : PV1 X cl W He H0 (.While c body [] pos) (sWhile bs cc s) :=
  psWeak (ps_while hp hc hb) fun D σ H ⟨Hs, ρ, S, h⟩ => by
    have hx : ∃ n o, wN bs cc s n ρ = some o ∧ Post X.K cl He H0 W Hs D o := by
      unfold sWhile at h
      split at h
      · rename_i hx
        obtain ⟨n, e⟩ := hx.choose_spec
        exact ⟨n, _, e, h⟩
      · exact h.elim
    obtain ⟨n0, o0, e0, p0⟩ := hx
    refine ⟨fun m σ H => ∃ Hs1 ρ o, Sub Hs Hs1 ∧ SEnv X.K cl He H0 Hs1 H σ ρ ∧ wN bs cc s m ρ = some o ∧ Post X.K cl He H0 W Hs1 D o, ⟨n0, Hs, ρ, o0, Sub.refl _, S, e0, p0⟩, ?_⟩
    rintro m σ H ⟨Hs1, ρ, o, up, S, e, p⟩
    cases m with
    | zero => cases e
    | succ m =>
      -- the test
      have key : Post X.K cl He H0 W Hs1 { nx := fun σ' H' => False, rt := D.rt, bk := D.bk, ct := D.ct } (onE (fun _ => true) cc bs ρ fun b ρ' => .stuck) ∨ ∃ b, cc (vw bs ρ) = .ok b := by
        unfold wN at e
        cases ec : cc (vw bs ρ) with
        | ok b => exact .inr ⟨b, rfl⟩
        | exc c fs =>
          simp only [ec] at e
          cases e
          refine .inl ?_
          unfold onE
          rw [ec]
          exact p
        | stuck => simp only [ec] at e; cases e; exact p.elim
      rcases key with key | ⟨b, ec⟩
      · exact onE_use (Q := fun b H1 => if b = true then _ else _) bears_b S key fun v x Hs2 H2 ρ2 _ _ _ _ _ _ z => z.elim
      · have S' := S
        refine ⟨_, _, S.pe bs, ?_⟩
        rw [ec]
        intro b' Hs2 H2 x2 eb
        subst eb
        obtain ⟨S2, up2⟩ := S.back x2
        unfold wN at e
        simp only [ec] at e
        cases b' with
        | false =>
          simp only at e
          cases e
          rw [if_neg Bool.false_ne_true]
          exact p _ _ _ up2 S2
        | true =>
          simp only at e
          rw [if_pos rfl]
          refine ⟨fun σ H => ∃ Hs1 ρ o, Sub Hs Hs1 ∧ SEnv X.K cl He H0 Hs1 H σ ρ ∧ wN bs cc s m ρ = some o ∧ Post X.K cl He H0 W Hs1 D o, fun σ' H' h => ⟨m, Nat.lt_succ_self m, h⟩, ?_⟩
          refine ⟨_, ρ, S2, ?_⟩
          have p2 := Post.up p up2
          cases es : s ρ with
          | next ρ' => simp only [es] at e; exact fun σ' Hs' H' up' S' => ⟨Hs', ρ', o, (up.trans up2).trans up', S', e, Post.up p2 up'⟩
          | cont ρ' => simp only [es] at e; exact fun σ' Hs' H' up' S' => ⟨Hs', ρ', o, (up.trans up2).trans up', S', e, Post.up p2 up'⟩
          | brk ρ' => simp only [es] at e; cases e; exact p2
          | ret v => simp only [es] at e; cases e; exact p2
          | exc c fs ρ' => simp only [es] at e; cases e; exact p2
          | stuck => simp only [es] at e; cases e; exact p2.elim
theorem vs_for {rel : Hp → It → List PV → Prop} {nl : Bool} {tg iter : Expr} {body : List Stmt} {it : Ev → R (List PV)} {g : TG} {t : Tg} (hp : PassesOwn (model X.prog X.w) X.A X.env X.xe) (hc : X.calm = true) (B : Bears X.K cl rel (fun _ => nl)) (hR : ∀ Hs J xs, rel Hs J xs → Wk X.K cl Hs J xs) (hi : PI X tg iter (gv X.K cl rel W it)) (hg : PG X tg g) (hG : TgOk X.K cl g t) (hb : PVs X cl W He H0 body s)
    (hs : ∀ x, foldedSetIterable iter X.env x = pure x := by intro _; rfl) : PV1 X cl W He H0 (.For tg iter body [] pos) (sFor nl t bs it s) :=
  psWeak (ps_for hp hc hi hg hb hs) fun D σ H ⟨Hs, ρ, S, h⟩ => onE_use B S h fun xs J Hs1 H1 ρ1 up S1 rx _ _ _ hp => by
    have Wj := hR _ _ _ rx
    refine ⟨fun i m σ H => ∃ Hs2 ρ, i + m = xs.length ∧ Sub Hs1 Hs2 ∧ SEnv X.K cl He H0 Hs2 H σ ρ ∧ Post X.K cl He H0 W Hs2 D (forL t s (xs.drop i) ρ), ⟨xs.length, Hs1, ρ1, by omega, Sub.refl _, S1, by simpa using hp⟩, ?_⟩
    rintro i m σ H ⟨Hs2, ρ, em, up2, S2, hp⟩
    by_cases hi : i < xs.length
    · refine .inr ⟨Wj.go i H Hs2 up2 S2.sub hi, fun σ' H' => ∃ Hs2 ρ, Sub Hs1 Hs2 ∧ SEnv X.K cl He H0 Hs2 H' σ' ρ ∧ Post X.K cl He H0 W Hs2 D (forL t s (xs.drop (i + 1)) ρ), fun σ' H' ⟨Hs3, ρ3, q⟩ => ⟨m - 1, by omega, Hs3, ρ3, by omega, q⟩, fun x H' hy => ?_⟩
      have ev : xs[i]? = some xs[i] := List.getElem?_eq_getElem hi
      obtain ⟨Hs3, x3, rx3⟩ := Wj.yld i x H H' Hs2 xs[i] up2 S2.sub ev hy
      have S3 : SEnv X.K cl He H0 Hs3 H' σ ρ := ⟨S2.ext.trans x3, S2.len, fun j v' e => let ⟨q, a1, a2⟩ := S2.fz j v' e; ⟨q, a1, a2.mono x3.fs⟩, fun j ys e => let ⟨q, a0, a1, a2, a3, a4, a5⟩ := S2.own j ys e; ⟨q, a0, a1, x3.same _ _ a2, a3.mono x3.fs, x3.nw q (by rw [a2]; simp) a4, a5⟩, S2.inj⟩
      rw [List.drop_eq_getElem_cons hi] at hp
      unfold forL at hp
      cases et : t xs[i] with
      | none => rw [et] at hp; exact hp.elim
      | some as =>
        simp only [et] at hp
        refine hG Hs3 H' σ x xs[i] as _ x3.sub rx3 et fun vs rv => ?_
        refine ⟨Hs3, _, S3.sets rv, ?_⟩
        have hp3 := Post.up hp x3.fs
        have up13 := up2.trans x3.fs
        cases es : s (setS as ρ) with
        | next ρ' => simp only [es] at hp3; exact fun σ' Hs' H' up' S' => ⟨Hs', ρ', up13.trans up', S', Post.up hp3 up'⟩
        | cont ρ' => simp only [es] at hp3; exact fun σ' Hs' H' up' S' => ⟨Hs', ρ', up13.trans up', S', Post.up hp3 up'⟩
        | brk ρ' => simp only [es] at hp3; exact hp3
        | ret v => simp only [es] at hp3; exact hp3
        | exc c fs ρ' => simp only [es] at hp3; exact hp3
        | stuck => simp only [es] at hp3; exact hp3.elim
    · have hz : xs.drop i = [] := List.drop_of_length_le (by omega)
      rw [hz] at hp
      exact .inl ⟨Wj.stop i H Hs2 up2 S2.sub (by omega), hp _ _ _ (Sub.refl _) S2⟩
end
end VL
namespace VL
open PySem PySem.Spec PyProof.Rows L2
open PySem.W (KxsFacts kxs_mw KxsAt kxs_callWith kxs_getMethod kxs_ValueError check_bound_init InstAt)
/-! ### own errors: an __init__ that begins with super().__init__(..) -/
/-- the bound built-in __init__, called -/
theorem mw_call {prog : Program} {w : World} {A : Around} {E : Value → Shared → Prop} {hp : Heap} {gs : Array GenState} {dr : Drawn} {tk : Nat} {os : OsState} {nm qn : Str} {C N : Addr} {bs bm : List Value} {hd : Bool} {sn : List Str} {sb : List Value} {ab : Bool} {co : Option Bool} {dd : Option Addr} {k0 k1 k2 k3 k5 : Option Value} {u x t0 : Addr} {us : List Value} {Q : Value → Shared → Prop}
    (cls : hp.get? C = some (excClassObj nm qn C N bs bm hd sn sb ab co dd k0 k1 k2 k3 k5 "ValueError.__new__")) (hx : hp.get? x = some (PySem.HandSPX.excO C t0)) (hu : hp.get? u = some (kxs_mw "ValueError.__init__" x)) (few : us.length ≤ sizeLine)
    (fin : ∀ hq t1, (∀ b o, b ≠ x → hp.get? b = some o → hq.get? b = some o) → hq.get? x = some (PySem.HandSPX.excO C t1) → Q .none ⟨hq, gs, dr, tk, os⟩) :
    wpAny (model prog w) A (call (.ref u) us) Q E ⟨hp, gs, dr, tk, os⟩ := by
  have FB := PySem.F.excBase_ValueError
  refine wpAny_call (codeAny_of_tree ?_)
  show wpAny (model prog w) A.in1 (callAny (.ref u) ⟨us, []⟩) _ _ ⟨hp, gs, dr, tk, os⟩
  unfold callAny
  refine wpAny_bind (wpAny_load hu ?_)
  have e1 : ((Value.type "method-wrapper" == Value.type "method" || Value.type "method-wrapper" == Value.type "builtin_function_or_method") || Value.type "method-wrapper" == Value.type "method-wrapper") = true := by decide
  simp only [kxs_mw, e1, ite_true]
  refine PySem.W.KFB.if_so (by decide) ?_
  refine wpAny_bind (check_bound_init FB.toExcCallFacts cls hx rfl ?_)
  refine wpAny_bind (wpAny_pure (wpAny_pure ⟨plainId_quiet FB.init.plain _, codeAny_builtin FB.initEntry ?_⟩))
  exact PySem.W.exc_init_tree (cls := .ref C) (t0 := t0) (dv := none) (c2 := .none) (c3 := .none) (b4 := .bool false) hx few fun hq k e _ => fin hq _ k e

/-- what the written part says of an own error's class, at C, whose __init__ (at fI, its cell at cc, its code at cda) begins with super().__init__ -/
structure ExC (K : PySem.W.Frag) (P : Program) (C fI cc cda : Addr) (qual : Str) (sI : Stmt) : Prop where
  base : OexC K C
  fn : ∃ (oc : Value) (od : Option Addr) (kV doc pm : Value) (an : Option Addr) (ct : Value) (osl : Array (Option Value)), K.lookup fI = some ⟨oc, od, .func (PySem.W.ksFn "__init__" qual (defArgs sI) (defBody sI) (defScope sI) .none kV doc pm an (.ref cda) ct cc), osl⟩
  code : PySem.W.codeIn K (.ref cda) qual = true
  file : ∃ (oc : Value) (od : Option Addr) (vs : Array Value) (osl : Array (Option Value)) (f : Str) (tf : Tok), K.lookup cda = some ⟨oc, od, .fields vs, osl⟩ ∧ vs[2]? = some (.str f tf) ∧ ((P.main.file : Str) == f) = true
  cell : ∃ (oc : Value) (od : Option Addr) (osl : Array (Option Value)), K.lookup cc = some ⟨oc, od, .cell (some (.ref C)), osl⟩
  sup : PySem.W.ks_superIn K C C "__init__" = some (some (.builtin "ValueError.__init__"))
  self : PySem.W.mroIn K C (.ref C) = some true
  ve : PySem.W.subIn K (.ref C) (.type "ValueError") = some true
  noS : PySem.W.nsIn K mainGlobals "super" = some none
  third : PySem.W.nsIn K cStatics "thirdparty.any" = some none
  ini : PySem.W.findIn K (.ref C) "__init__" = some (some (.ref fI))
  tyI : PySem.W.typeIn K (.ref fI) = some (.type "function")
/-- the scope of such an __init__: its parameters N, and __class__ -/
structure ExScope (N : List Str) (sc : Scope) : Prop where
  kind : sc.kind = .function
  co : sc.isCoroutine = false
  gen : sc.isGenerator = false
  nd : N.Nodup
  par : ∀ x ∈ N, sc.names.lookup x = some .local
  nocell : ∀ x ∈ sc.names, x.2 ≠ .cell
  only : ∀ x, sc.names.lookup x = some .free → x = "__class__"
  cls : sc.names.lookup ("__class__" : Str) = some .free
  sup : sc.names.lookup ("super" : Str) = some .globalImplicit
/-- the context of the body behind the first statement -/
def exCx (CX : CXT) (P : Program) (w : World) (K : PySem.W.Frag) (mg : Str → Option Value) (base : Heap) (N : List Str) (qual : Str) (scope : Scope) (f : Addr) (cd : Value) (cc : Addr) (A : Around) (outer : List PySem.Env) (s : Shared) (H : Hp) (E : XK) : Cx where
  prog := P
  w := w
  K := K
  mg := mg
  base := base
  A := A.deeper (PySem.W.ksEnv qual scope s.heap.objs.size f cd cc)
  N := N
  s_0 := s
  H_0 := H
  env := PySem.W.ksEnv qual scope s.heap.objs.size f cd cc
  outer := outer
  stack := PySem.W.ksEnv qual scope s.heap.objs.size f cd cc :: outer
  ex := []
  calm := true
  fn := fun _ => false
  pn := []
  xe := fun e s' => wpAny (model P w) (A.deeper (PySem.W.ksEnv qual scope s.heap.objs.size f cd cc)) (leaving (PySem.W.ksEnv qual scope s.heap.objs.size f cd cc) e) (fun _ s'' => CX outer H s E e s'') (fun e' s'' => CX outer H s E e' s'') s'
theorem zip_lookup : ∀ {N : List Str} {us : List Value} {i : Nat} {x : Str} {u : Value}, N.Nodup → N[i]? = some x → us[i]? = some u → (N.zip us).reverse.lookup x = some u := by
  intro N us i x u nd h1 h2
  have hm : (x, u) ∈ (N.zip us).reverse := by
    rw [List.mem_reverse]
    refine List.mem_of_getElem? (i := i) ?_
    rw [List.getElem?_zip_eq_some]
    exact ⟨h1, h2⟩
  have nd2 : ((N.zip us).reverse.map (·.1)).Nodup := by
    rw [List.map_reverse]
    refine (List.reverse_perm _).nodup_iff.mpr ?_
    have : ∀ (N : List Str) (us : List Value), N.Nodup → ((N.zip us).map (·.1)).Nodup := by
      intro N
      induction N with
      | nil => intro us _; simp
      | cons n N ih =>
        intro us nd
        cases us with
        | nil => simp
        | cons v us =>
          simp only [List.zip_cons_cons, List.map_cons, List.nodup_cons]
          rw [List.nodup_cons] at nd
          refine ⟨fun h => nd.1 ?_, ih us nd.2⟩
          rw [List.mem_map] at h
          obtain ⟨⟨a, b⟩, h1, h2⟩ := h
          subst h2
          exact (List.of_mem_zip h1).1
    exact this N us nd
  generalize (N.zip us).reverse = l at hm nd2
  induction l with
  | nil => simp at hm
  | cons p l ih =>
    obtain ⟨a, b⟩ := p
    simp only [List.map_cons, List.nodup_cons] at nd2
    rcases List.mem_cons.mp hm with e | hm
    · cases e; simp [List.lookup]
    · have : x ≠ a := fun e => nd2.1 (by rw [← e]; exact List.mem_map_of_mem (f := (·.1)) hm)
      have e2 : (x == a) = false := by simpa using this
      simp only [List.lookup, e2]
      exact ih hm nd2.2
section
variable {CX : CXT} {P : Program} {w : World} {K : PySem.W.Frag} {mg : Str → Option Value} {base : Heap} {N : List Str} {qual : Str} {scope : Scope} {f C cc cda : Addr} {cd : Value} {A : Around} {outer : List PySem.Env} {s : Shared} {H : Hp} {E : XK} {us : List Value} {vs : List V}
theorem ex_start (S : ExScope N scope) (hd : A.handled = none) (e0 : Env0 P w K mg base A outer s H) (hl : vs.length = N.length) (r : Vals vs us) (hcell : ∃ v, s.heap.IsCell cc v) (hccb : ∃ o, base.get? cc = some o) {h1 : Heap} {tk : Nat}
    (hns : h1.Ns s.heap.objs.size (fun x => (N.zip us).reverse.lookup x)) (hk : ∀ b o, s.heap.get? b = some o → h1.get? b = some o) :
    Inv (exCx CX P w K mg base N qual scope f cd cc A outer s H E) [] (vs.map some) H { s with heap := h1, toks := tk } := by
  have noA : ∀ b : Addr, b ∉ (exCx CX P w K mg base N qual scope f cd cc A outer s H E).ex := fun b z => absurd (show b ∈ ([] : List Addr) from z) (by simp)
  have cl1 : ∀ {y : Str} {c : Addr}, ([(("__class__" : Str), cc)] : List (Str × Addr)).lookup y = some c → y = "__class__" ∧ c = cc := fun {y c} h => by
    by_cases e : y = "__class__"
    · subst e
      simp [List.lookup] at h
      exact ⟨rfl, h.symm⟩
    · have e2 : (y == ("__class__" : Str)) = false := by simpa using e
      simp [List.lookup, e2] at h
  obtain ⟨ob, hob⟩ := hccb
  refine ⟨⟨e0.mod, S.kind, rfl, rfl, Nat.le_refl _, fun y z c h1 h2 => (cl1 h1).1.trans (cl1 h2).1.symm, fun y hy => ?_, fun y c h _ => Bool.noConfusion h, fun _ => hd, Around.frames_deeper e0.frames, .inr ⟨rfl, rfl⟩, fun b z => absurd z (noA b), e0.bs, e0.bsz, fun b _ _ => noA b, fun b z => absurd z (noA b), e0.funs, e0.frf⟩,
    rfl, e0.bare, Un.kept hk, ⟨_, hns, fun i y v h1 h2 h3 => ?_⟩, fun y c h => ?_, e0.hok.fresh (Nat.le_refl _), fun y c h => ?_, fun p hp => absurd (show p ∈ ([] : List (Addr × Obj)) from hp) (by simp), e0.hok.kept hk, by simp only [List.length_map]; exact hl⟩
  · rcases hy with hy | hy
    · have hy : scope.names.lookup y = some .cell := hy
      exact absurd rfl (S.nocell _ (PySem.mem_of_lookup hy))
    · have hy : scope.names.lookup y = some .free := hy
      have e := S.only y hy
      subst e
      exact ⟨cc, by simp [exCx, List.lookup]⟩
  · have h2' : (vs.map some)[i]? = some (some v) := h2
    rw [List.getElem?_map] at h2'
    cases e : vs[i]? with
    | none => rw [e] at h2'; cases h2'
    | some a =>
      rw [e] at h2'
      cases h2'
      obtain ⟨u, hu, rv⟩ := r.get e
      refine ⟨u, rv, .inl ⟨S.par y (List.mem_of_getElem? h1), zip_lookup S.nd h1 hu⟩⟩
  · obtain ⟨_, e⟩ := cl1 h
    subst e
    obtain ⟨v, o, ho, q⟩ := hcell
    exact ⟨v, o, hk _ _ ho, q⟩
  · obtain ⟨_, e⟩ := cl1 h
    subst e
    exact (e0.bs c ob hob).2
end
/-- THE RULE for such an __init__: the written argument of super().__init__ and the rest of the body -/
theorem ex_fn {CX : CXT} {P : Program} {w : World} {K : PySem.W.Frag} {mg : Str → Option Value} {base : Heap} {k : Nat} {C fI cc cda : Addr} {qual : Str} {sI : Stmt} {N : List Str} {sp : Sp} {p0 p1 p2 p3 p4 : Pos} {a0 : Expr} {rest : List Stmt} {ar : Arg}
    (T : ExC K P C fI cc cda qual sI) (S : ExScope N (defScope sI)) (hbody : defBody sI = .Expr (.Call (.Attribute (.Call (.Name "super" p0) [] [] p1) "__init__" p2) [a0] [] p3) p4 :: rest)
    (hpar : ((defArgs sI).posonlyargs ++ (defArgs sI).args).head? = some ar) (h0 : N[0]? = some ar.arg) (htop : (P.main.scope.names.lookup ("super" : Str)).isSome = false)
    (hmg : mg "super" = none)
    (hsw : ∀ env : PySem.Env, swapsWith (.Call (.Attribute (.Call (.Name "super" p0) [] [] p1) "__init__" p2) [a0] [] p3) none p4.line env = pure false)
    (hev : ∀ env : PySem.Env, ∃ pl : Sem Bool, eval (.Call (.Attribute (.Call (.Name "super" p0) [] [] p1) "__init__" p2) [a0] [] p3) env = (do
      let ov ← attributeBase (.Call (.Name "super" p0) [] [] p1) "__init__" env (eval (.Call (.Name "super" p0) [] [] p1) env)
      standAt p2.atName
      let (f, first) ← holding [ov] (getMethod ov "__init__" pl)
      callWith p3 f first (backTo p3 (starEach [a0] env)) []))
    (hst : ∀ env : PySem.Env, starEach [a0] env = [(false, eval a0 env)])
    (len : ∀ vs H Q E, sp vs H Q E → vs.length = N.length)
    (hb : ∀ (A : Around) (outer : List PySem.Env) (s : Shared) (H : Hp) (vs : List V) (Q : VK) (E : XK), Room k (A.deeper (PySem.W.ksEnv qual (defScope sI) s.heap.objs.size fI (.ref cda) cc)) → sp vs H Q E →
      ∃ x ws t0 t, vs = .ref x :: ws ∧ H x = some (exo x C none) ∧ PE (exCx CX P w K mg base N qual (defScope sI) fI (.ref cda) cc A outer s H E) a0 t0 ∧ PSs (exCx CX P w K mg base N qual (defScope sI) fI (.ref cda) cc A outer s H E) rest t ∧
        t0 (vs.map some) H (fun _ H1 => H1 = H) ∧ t { nx := fun _ H' => Q .non H', rt := Q } (vs.map some) H) :
    ∀ fd oc od osl, K.lookup fI = some ⟨oc, od, .func fd, osl⟩ → FnOk P w K mg base CX (k + 1) fI fd N sp := by
  obtain ⟨oc, od, kV, doc, pm, an, ct, osl, lk⟩ := T.fn
  intro fd oc' od' osl' lk'
  rw [lk] at lk'
  obtain ⟨rfl, rfl, rfl, rfl⟩ : oc = oc' ∧ od = od' ∧ PySem.W.ksFn "__init__" qual (defArgs sI) (defBody sI) (defScope sI) .none kV doc pm an (.ref cda) ct cc = fd ∧ osl = osl' := by
    have e := Option.some.inj lk'
    injection e with e1 e2 e3 e4
    injection e3 with e3
    exact ⟨e1, e2, e3, e4⟩
  refine ⟨len, fun A outer s H args us vs Q E hr e0 hbd r hsp => ?_⟩
  have hl := len _ _ _ _ hsp
  have KX : K.In s.heap := e0.mod.kin.keeps fun b o e => (e0.bs b o e).1
  have lim : s.heap.NoLimit := e0.mod.nolimit.keeps fun b o e => (e0.bs b o e).1
  obtain ⟨x, ws, t0, t, evs, eH, hp0, hps, q0, qt⟩ := hb A outer s H vs Q E (hr.deeper _) hsp
  obtain ⟨oc3, od3, osl3, hcell⟩ := T.cell
  have lv : us.length = N.length := by rw [← r.length, hl]
  refine ks_codeAny_call_defAt (fd := PySem.W.ksFn "__init__" qual (defArgs sI) (defBody sI) (defScope sI) .none kV doc pm an (.ref cda) ct cc) (body := defBody sI) (binds := N.zip us) hr.depth (KX _ _ lk) rfl lim (PySem.W.codeRec_of KX T.code) rfl hbd S.nocell (fun y hy => S.par y.1 (List.of_mem_zip (a := y.1) (b := y.2) hy).1) (fun h1 hns hk => ?_) S.co S.gen S.kind
  have I : Inv (exCx CX P w K mg base N qual (defScope sI) fI (.ref cda) cc A outer s H E) [] (vs.map some) H { s with heap := h1, toks := s.toks + (N.zip us).length } :=
    ex_start S hr.hd e0 hl r ⟨_, _, KX _ _ hcell, rfl⟩ ⟨_, e0.mod.kin _ _ hcell⟩ hns hk
  -- the parts
  obtain ⟨nm, qn, Nn, bs, bm, sn, sb, ab, co, dd, k0, k1, k2, k3, k5, hC, hbm⟩ := T.base.cls
  have hcl : PySem.W.clsIn K C = some { name := nm, bases := bs, mro := .ref C :: bm, ns := Nn, qualname := qn, hasDict := true, slotNames := sn, subclasses := sb, abstract := ab, collection := co, hasDel := false } := by
    unfold PySem.W.clsIn
    rw [hC] <;> rfl
  obtain ⟨oc4, od4, fvs, osl4, ff, tf, hcode, hf2, hfile⟩ := T.file
  have K1 : K.In h1 := I.kIn
  obtain ⟨t1, ho⟩ := exo_at I.hok eH
  have hx0 : us[0]? = some (.ref x) := by
    subst evs
    cases r with
    | cons rv rt => cases rv; rfl
  have hself : (N.zip us).reverse.lookup ar.arg = some (.ref x) := zip_lookup S.nd h0 hx0
  have hxs : x < s.heap.objs.size := e0.hok.lt eH
  let env := PySem.W.ksEnv qual (defScope sI) s.heap.objs.size fI (.ref cda) cc
  show PySem.wpAt _ (A.deeper env) (.func (defBody sI) env) (execs (defBody sI) env) _ _ _
  obtain ⟨mb, hb1, hb2⟩ := e0.mod.blt
  have IA : InstAt h1 x (PySem.HandSPX.excO C t1) C none := ⟨ho, rfl, rfl, trivial⟩
  have hxC : x ≠ C := PySem.W.ks_ne K1 IA hcl
  -- behind super().__init__(..): the rest
  have after : ∀ (s2 : Shared), Inv (exCx CX P w K mg base N qual (defScope sI) fI (.ref cda) cc A outer s H E) [] (vs.map some) H s2 →
      wpAny (model P w) (A.deeper env) (execs rest env) (fun fl s' => CR CX outer P w H s Q E (.ok (.ret (match fl with | .ret v => v | _ => .none))) s')
        (fun e s' => wpAny (model P w) (A.deeper env) (leaving env e) (fun _ s'' => CR CX outer P w H s Q E (.error e) s'') (fun e' s'' => CR CX outer P w H s Q E (.error e') s'') s') s2 := by
    intro s2 I2
    refine wpAny_mono (hps.run [] s2 (vs.map some) H _ I2 qt) (fun fl s' hs => ?_) fun e s' hs => hs
    have fin : ∀ {σ' : St} {H' : Hp} {v : V} {u : Value}, Inv (exCx CX P w K mg base N qual (defScope sI) fI (.ref cda) cc A outer s H E) [] σ' H' s' → RelV v u → Q v H' → CE outer P w H s Q u s' :=
      fun {σ' H' v u} J rv q => ⟨v, H', J.os, J.bare, J.base, J.hok, rv, q⟩
    cases fl with
    | ret u =>
      obtain ⟨v, σ', H', J, rv, q⟩ := hs
      exact fin J rv q
    | next =>
      obtain ⟨σ', H', J, q⟩ := hs
      exact fin (v := V.non) (u := Value.none) J rfl q
    | brk => exact hs.elim fun _ z => z.elim fun _ z => z.2.elim
    | cont => exact hs.elim fun _ z => z.elim fun _ z => z.2.elim
  have nx : interactive env = false := by simp [interactive, env, S.kind]
  have go : PySem.wpAt (model P w) (A.deeper env) (.func (defBody sI) env) (eval (.Call (.Attribute (.Call (.Name "super" p0) [] [] p1) "__init__" p2) [a0] [] p3) env)
      (fun _ s2 => Inv (exCx CX P w K mg base N qual (defScope sI) fI (.ref cda) cc A outer s H E) [] (vs.map some) H s2)
      (fun e s' => wpAny (model P w) (A.deeper env) (leaving env e) (fun _ s'' => CR CX outer P w H s Q E (.error e) s'') (fun e' s'' => CR CX outer P w H s Q E (.error e') s'') s') { s with heap := h1, toks := s.toks + (N.zip us).length } := by
    obtain ⟨pl, hev⟩ := hev env
    refine ks_wpAt_MethodCall (pl := pl) ?_ hev
    refine ks_wpAt_super_base (f := fI) (cc := cda) (env := env) (ar := ar) (file := ff) (tf := tf) (vs := fvs) S.sup S.cls (by decide) rfl (K1 _ _ lk) rfl hpar rfl (K1 _ _ hcode) rfl hf2 hfile htop ?_
    refine PySem.W.ks_loadName_global S.kind S.sup (PySem.Calls.loadGlobal_builtin (env := env) (mb := mb) (I.mod.glob.keeps I.bk) hmg (hb1.keeps I.bk) ((hb2 _ (by decide)).trans (by first | boot_by_name | decide +kernel)) ⟨rfl, ?_⟩)
    refine wpAny_loadName_free (c := cc) S.kind S.cls (by simp [env, List.lookup]) ⟨_, K1 _ _ hcell, rfl⟩ ?_
    refine wpAny_loadName_local S.kind (S.par _ (List.mem_of_getElem? h0)) hns hself ?_
    refine ks_wpAny_isType_cls (K1 _ _ hC) rfl ⟨rfl, ?_⟩
    refine ks_wpAny_call_super (K1 _ _ hC) rfl ho rfl (fun c e => nomatch e) (PySem.W.looks_mroIn K1 T.self) (fun h2 e2 kk2 => ?_)
    have I2 : Inv (exCx CX P w K mg base N qual (defScope sI) fI (.ref cda) cc A outer s H E) [] (vs.map some) H { s with heap := h2, toks := s.toks + (N.zip us).length } := I.kept (h' := h2) (t' := s.toks + (N.zip us).length) kk2
    have K2 : K.In h2 := I2.kIn
    have ho2 := kk2 _ _ ho
    have hm2 : (PySem.W.clsIn K C).bind (fun cd => PySem.W.alongIn K "__init__" ((cd.mro.dropWhile (· != .ref C)).drop 1)) = some (some (.builtin "ValueError.__init__")) := T.sup
    rw [hcl] at hm2
    have IA2 : InstAt h2 x (PySem.HandSPX.excO C t1) C none := ⟨ho2, rfl, rfl, trivial⟩
    refine kxs_getMethod kxs_ValueError e2 (PySem.W.looks_opaque K2 T.third) (l₀ := .ref C :: bm) (fun A' Q' E' s' k' q' => wpAny_bind ((PySem.W.looks_clsIn K2 hcl) A' _ E' s' k' (wpAny_pure q'))) rfl K2 hm2 (IA2.type.andThen (PySem.W.looks_subIn K2 T.ve)) hxC (by decide) ?_
    -- the wrapper stands at u
    have I3 : Inv (exCx CX P w K mg base N qual (defScope sI) fI (.ref cda) cc A outer s H E) [] (vs.map some) H { s with heap := h2.push (kxs_mw "ValueError.__init__" x), toks := s.toks + (N.zip us).length + 1 } := I2.kept (t' := s.toks + (N.zip us).length + 1) fun b o e => Heap.get?_push_of_some _ e
    have hu3 : (h2.push (kxs_mw "ValueError.__init__" x)).get? h2.objs.size = some (kxs_mw "ValueError.__init__" x) := Heap.get?_push_size _ rfl
    have hun : H h2.objs.size = none := I2.hok.fresh (Nat.le_refl _)
    have I4 := I3.pins_of (pins' := [(h2.objs.size, kxs_mw "ValueError.__init__" x)]) (fun p hp => by
      have e : p = (h2.objs.size, kxs_mw "ValueError.__init__" x) := by simpa using hp
      subst e
      exact ⟨hu3, hun, Nat.ne_of_gt I2.lt, I2.nofs (Nat.le_refl _), fun v z => nomatch z⟩)
    refine kxs_callWith (i := "ValueError.__init__") (x := x) (by rw [hst]; rfl) ?_
    rw [hst]
    refine PySem.Calls.evalArgs_plain (PySem.Calls.spliced_cons (wpAny_mono (hp0.run _ _ (vs.map some) H _ I4 q0) (fun u s3 ⟨v0, H5, I5, r5, e5⟩ => PySem.Calls.spliced_nil ?_) fun _ _ z => z))
    subst e5
    have hw := (I5.pin (h2.objs.size, kxs_mw "ValueError.__init__" x) (by simp [exCx])).1
    refine ⟨hw, ?_⟩
    obtain ⟨t5, ho5⟩ := exo_at I5.hok eH
    obtain ⟨hp5, g5, d5, tk5, os5⟩ := s3
    refine mw_call (I5.kIn _ _ hC) ho5 hw (by rw [sizeLine_eq]; exact (by decide : 1 ≤ 16777216)) fun hq tq kq eq => ?_
    have J := I5.write (t' := tk5) (x := x) (e := x) (o := exo x C none) (by rw [eH]; exact True.intro) (.inl rfl) kq ⟨_, eq⟩ (exo_ok eq)
    have eu : upd H5 x (exo x C none) = H5 := by
      funext b
      by_cases hb : b = x
      · rw [hb, upd_same, eH]
      · rw [upd_ne hb]
    rw [eu] at J
    exact J.pins_of (pins' := []) (fun p hp => absurd hp (by simp))
  rw [hbody] at go ⊢
  refine ks_wpAt_execs_cons (ks_wpAt_Expr_any (ks_wpAt_mono go (fun _ s2 I2 => ?_) fun _ _ z => z) nx (hsw env))
  exact PySem.wpAt_of_wpAny (after s2 I2)
end VL
namespace VL
open PySem PySem.Spec PyProof.Rows L2
/-! ### calls of the text's own defs -/
/-- a def's promise by a plain function of its arguments -/
def spP (K : PySem.W.Frag) (cl : Nat → Addr) (Hs H : Hp) (Q : VK) (E : XK) : R PV → Prop
  | .ok v => ∀ x Hs' H', Ext Hs H Hs' H' → Rp K cl Hs' x v → Q x H'
  | .exc c fs => ∀ d fvs Hs' H', Ext Hs H Hs' H' → Hs' d = some (.xd fvs) → RpF K cl Hs' fvs fs → E (.ref (cl c)) (some d) H'
  | .stuck => False
def spF (K : PySem.W.Frag) (cl : Nat → Addr) (n : Nat) (g : List PV → R PV) : Sp := fun vs H Q E => ∃ Hs us, Sub Hs H ∧ RpA K cl Hs vs us ∧ vs.length = n ∧ spP K cl Hs H Q E (g us)
def gN (n : Nat) (g : List PV → R PV) : List PV → R PV := fun us => if us.length = n then g us else .stuck
section
variable {X : Cx} {cl : Nat → Addr} {W : WX} {pos p : Pos} {x : Str} {k n : Nat} {f : Addr} {fd : FuncData} {ps : List Str} {g : List PV → R PV}
theorem sp_use {vs : List V} {us : List PV} {σ : St} {Hs H : Hp} {Q : VK} {K : PySem.W.Frag} (s : Sub Hs H) (r : RpA K cl Hs vs us) (h : GP K cl (Rp K cl) W Hs H σ (gN n g us) Q) : spF K cl n g vs H Q (WE W σ) := by
  unfold gN at h
  split at h
  · rename_i hl
    refine ⟨Hs, us, s, r, by rw [r.length, hl], ?_⟩
    cases e : g us with
    | ok v => rw [e] at h; exact h
    | exc c fs => rw [e] at h; exact h
    | stuck => rw [e] at h; exact h
  · exact h.elim
theorem ve_call {e : Expr} {es : List Expr} {fs : List Ex} (F : FnOk X.prog X.w X.K X.mg X.base (L2.CX X.prog X.w) k f fd ps (spF X.K cl n g)) (hr : Room k X.A) (hm : X.mg x = some (.ref f)) (hk : PySem.W.keepIn X.K (.ref f) = true) (hb : Binds X.K fd ps []) (tk : Takes X W) (ha : PA X (e :: es) (ta X.K cl W (evs fs)))
    (hg : Gl X x := by rfl) (hdb : (x == ("__debug__" : Str)) = false := by decide) (he : starEach (e :: es) X.env = (false, eval e X.env) :: starEach es X.env := by rfl) (hpl : (backTo pos (starEach es X.env)).any (·.1) = false := by rfl) :
    PE X (.Call (.Name x p) (e :: es) [] pos) (tv X.K cl W (eArgs (gN n g) fs)) :=
  peWeak (pe_callSD (dvs := []) (E := fun σ => WE W σ) F hr hg hm hk hb .nil (fun σ => passAt tk σ) ha hdb he hpl) fun σ H Q ⟨Hs, ρ, E, h⟩ => by
    refine gv_bind E h fun us vs Hs1 H1 _ s1 rx h1 => ?_
    show spF X.K cl n g (vs ++ []) H1 Q (WE W σ)
    rw [List.append_nil]
    exact sp_use s1.sub rx h1
theorem ve_call0 (F : FnOk X.prog X.w X.K X.mg X.base (L2.CX X.prog X.w) k f fd ps (spF X.K cl n g)) (hr : Room k X.A) (hm : X.mg x = some (.ref f)) (hk : PySem.W.keepIn X.K (.ref f) = true) (hb : Binds X.K fd ps []) (tk : Takes X W)
    (hg : Gl X x := by rfl) (hdb : (x == ("__debug__" : Str)) = false := by decide) : PE X (.Call (.Name x p) [] [] pos) (tv X.K cl W (eArgs (gN n g) [])) := by
  refine ⟨fun pins s σ H Q I ⟨Hs, ρ, E, h⟩ => ?_⟩
  refine wpAny_Call_Name_kw (ld_glob I hg hm ?_ hdb)
  exact PySem.W.callWith_K0 I.kIn hk (run_fnSD (us := []) (vs := []) (dvs := []) (E := fun σ => WE W σ) F hr hb .nil (passAt tk σ) I .nil (sp_use E.sub .nil h))
end
/-- a def's slots at its entry -/
def startE (n : Nat) (us : List PV) : Env := us.map Sl.fz ++ List.replicate (n - us.length) Sl.no
def outR : Out → R PV
  | .next _ => .ok .non
  | .ret v => .ok v
  | .exc c fs _ => .exc c fs
  | _ => .stuck
theorem start_ok {K : PySem.W.Frag} {cl : Nat → Addr} {Hs H : Hp} {N : List Str} {vs : List V} {us : List PV} (s : Sub Hs H) (r : RpA K cl Hs vs us) : SEnv K cl Hs H Hs H (L2.start N vs) (startE N.length us) := by
  have get : ∀ {i : Nat} {sl : Sl}, (startE N.length us)[i]? = some sl → (∃ u, us[i]? = some u ∧ sl = .fz u) ∨ sl = .no := fun {i sl} h => by
    unfold startE at h
    by_cases hi : i < us.length
    · rw [List.getElem?_append_left (by simpa using hi), List.getElem?_map] at h
      cases e : us[i]? with
      | none => rw [e] at h; cases h
      | some u => rw [e] at h; cases h; exact .inl ⟨u, rfl, rfl⟩
    · rw [List.getElem?_append_right (by simpa using hi), List.getElem?_replicate] at h
      split at h
      · cases h; exact .inr rfl
      · cases h
  refine ⟨Ext.refl s, ?_, fun i v h => ?_, fun i xs h => ?_, fun i j xs ys a h => ?_⟩
  · unfold L2.start startE
    simp [r.length]
  · rcases get h with ⟨u, e, e2⟩ | e
    · cases e2
      obtain ⟨x, e3, rx⟩ := r.get e
      refine ⟨x, ?_, rx⟩
      unfold L2.start
      have hi : i < vs.length := (List.getElem?_eq_some_iff.mp e3).1
      rw [List.getElem?_append_left (by simpa using hi), List.getElem?_map, e3]
      rfl
    · cases e
  · rcases get h with ⟨u, e, e2⟩ | e
    · cases e2
    · cases e
  · rcases get h with ⟨u, e, e2⟩ | e
    · cases e2
    · cases e
section
variable {P : Program} {w : World} {K : PySem.W.Frag} {mg : Str → Option Value} {base : Heap} {cl : Nat → Addr}
/-- THE RULE for a def: its body as a plain function of the slots -/
theorem def_ok {x qual : Str} {st : Stmt} {f : Addr} {fd : FuncData} {N ps : List Str} {k : Nat} {b : Env → Out} (F : Fun K x qual st f fd) (S : FnScope N ps (defScope st))
    (hbody : ∀ (cdv : Value) (A : Around) (outer : List PySem.Env) (s : Shared) (H : Hp) (E : XK) (He : Hp), Room k (A.deeper (envOfC qual (defScope st) s.heap.objs.size f cdv)) →
      PVs (cxOf (L2.CX P w) P w K mg base N qual (defScope st) f cdv A outer s H E) cl (fun c d _ H => E c d H) He H (defBody st) b) : FnOk P w K mg base (L2.CX P w) (k + 1) f fd ps (spF K cl ps.length fun us => outR (b (startE N.length us))) := by
  refine F.okX S (fun vs H Q E ⟨_, _, _, _, e, _⟩ => e) fun cdv A outer s H vs Q E hr ⟨Hs, us, s1, r, hl, h⟩ => ?_
  refine ⟨_, hbody cdv A outer s H E Hs hr, Hs, _, start_ok s1 r, ?_⟩
  replace h : spP K cl Hs H Q E (outR (b (startE N.length us))) := h
  cases e : b (startE N.length us) with
  | next ρ => rw [e] at h; exact fun σ Hs' H' _ S' => h .non Hs' H' S'.ext .non
  | ret v => rw [e] at h; exact h
  | exc c fs ρ => rw [e] at h; exact fun σ Hs' H' d fvs _ S' e1 r1 => h d fvs Hs' H' S'.ext e1 r1
  | brk ρ => rw [e] at h; exact h.elim
  | cont ρ => rw [e] at h; exact h.elim
  | stuck => rw [e] at h; exact h.elim
/-- a def of which nothing is promised -/
theorem def_none {fd : FuncData} {f : Addr} {ps : List Str} {k n : Nat} : FnOk P w K mg base (L2.CX P w) k f fd ps (spF K cl n fun _ => .stuck) :=
  ⟨fun vs H Q E ⟨_, _, _, _, _, h⟩ => h.elim, fun A outer s H args us vs Q E _ _ _ _ ⟨_, _, _, _, _, h⟩ => h.elim⟩
end

/-! ### raise -/
theorem SEnv.up {K : PySem.W.Frag} {cl : Nat → Addr} {He H0 Hs H Hs1 H1 : Hp} {σ : St} {ρ : Env} (S : SEnv K cl He H0 Hs H σ ρ) (x : Ext Hs H Hs1 H1) : SEnv K cl He H0 Hs1 H1 σ ρ :=
  ⟨S.ext.trans x, S.len, fun j v' e => let ⟨q, a1, a2⟩ := S.fz j v' e; ⟨q, a1, a2.mono x.fs⟩, fun j ys e => let ⟨q, a0, a1, a2, a3, a4, a5⟩ := S.own j ys e; ⟨q, a0, a1, x.same _ _ a2, a3.mono x.fs, x.nw q (by rw [a2]; simp) a4, a5⟩, S.inj⟩
/-- the fields that an __init__ stores behind super().__init__: a written text, or its i-th argument -/
inductive Fv where
  | c (z : Str) | a (i : Nat)
abbrev Fsp := List (Str × Fv)
def fvTE : Fv → TE
  | .c z => tC (.str z)
  | .a i => tVar (i + 1)
def tInit (K : PySem.W.Frag) : Fsp → TS
  | [] => tNext
  | (f, v) :: r => tSeq (tOst K f (tVar 0) (fvTE v)) (tInit K r)
def fvV (vs : List V) : Fv → Option V
  | .c z => some (.str z)
  | .a i => vs[i]?
def fsV (vs : List V) : Fsp → List (Str × V) → Option (List (Str × V))
  | [], acc => some acc
  | (f, v) :: r, acc => (fvV vs v).bind fun y => fsV vs r ((f, y) :: acc)
def fvP (vs : List PV) : Fv → Option PV
  | .c z => some (.str z)
  | .a i => vs[i]?
def fsP (vs : List PV) : Fsp → List (Str × PV) → Option (List (Str × PV))
  | [], acc => some acc
  | (f, v) :: r, acc => (fvP vs v).bind fun y => fsP vs r ((f, y) :: acc)
theorem fs_rel {K : PySem.W.Frag} {cl : Nat → Addr} {Hs : Hp} {vs : List V} {us : List PV} (r : RpA K cl Hs vs us) : ∀ {sp : Fsp} {acc : List (Str × V)} {acc' fs' : List (Str × PV)}, RpF K cl Hs acc acc' → fsP us sp acc' = some fs' → ∃ fs, fsV vs sp acc = some fs ∧ RpF K cl Hs fs fs'
  | [], acc, acc', fs', ra, e => by cases e; exact ⟨acc, rfl, ra⟩
  | (f, v) :: t, acc, acc', fs', ra, e => by
    simp only [fsP, Option.bind_eq_some_iff] at e
    obtain ⟨y, e1, e2⟩ := e
    have hv : ∃ x, fvV vs v = some x ∧ Rp K cl Hs x y := by
      cases v with
      | c z => cases e1; exact ⟨_, rfl, .str z⟩
      | a i => exact r.get e1
    obtain ⟨x, h1, h2⟩ := hv
    obtain ⟨fs, h3, h4⟩ := fs_rel r (acc := (f, x) :: acc) (.cons h2 ra) e2
    exact ⟨fs, by simp only [fsV, h1, Option.bind_some]; exact h3, h4⟩
theorem fvTE_use {v : Fv} {y x : V} {vs : List V} {H : Hp} {Q : VK} (e : fvV vs v = some y) (q : Q y H) : fvTE v ((x :: vs).map some) H Q := by
  cases v with
  | c z => cases e; exact q
  | a i =>
    have e : vs[i]? = some y := e
    refine ⟨y, ?_, q⟩
    rw [List.map_cons, List.getElem?_cons_succ, List.getElem?_map, e]
    rfl
theorem init_more {K : PySem.W.Frag} {C x dx : Addr} (T : OexC K C) {vs : List V} {D : Ends} (hne : x ≠ dx) : ∀ {sp : Fsp} {acc fs : List (Str × V)} {H : Hp}, (∀ p ∈ sp, PySem.W.findIn K (.ref C) p.1 = some none) → fsV vs sp acc = some fs → acc.length + sp.length ≤ 900 → H x = some (exo x C (some dx)) → H dx = some (exd dx acc) →
    (∀ H', H' x = some (exo x C (some dx)) → H' dx = some (exd dx fs) → (∀ b, b ≠ x → b ≠ dx → H' b = H b) → D.nx ((V.ref x :: vs).map some) H') → tInit K sp D ((V.ref x :: vs).map some) H
  | [], acc, fs, H, _, e, _, h1, h2, q => by cases e; exact q H h1 h2 fun _ _ _ => rfl
  | (f, v) :: r, acc, fs, H, hn, e, hl, h1, h2, q => by
    simp only [fsV, Option.bind_eq_some_iff] at e
    obtain ⟨y, e1, e2⟩ := e
    refine fvTE_use e1 ⟨.ref x, rfl, x, C, rfl, T, hn (f, v) List.mem_cons_self, .inr ⟨dx, acc, h1, h2, by simp at hl; omega, ?_⟩⟩
    refine init_more (D := D) T hne (fun p hp => hn p (List.mem_cons_of_mem _ hp)) e2 (by simp at hl ⊢; omega) (by rw [upd_ne hne]; exact h1) upd_same fun H' a b c => q H' a b fun z z1 z2 => by rw [c z z1 z2, upd_ne z2]
theorem init_all {K : PySem.W.Frag} {C x : Addr} (T : OexC K C) {vs : List V} {D : Ends} {f : Str} {v : Fv} {r : Fsp} {fs : List (Str × V)} {H : Hp} (hn : ∀ p ∈ (f, v) :: r, PySem.W.findIn K (.ref C) p.1 = some none) (e : fsV vs ((f, v) :: r) [] = some fs) (hl : r.length ≤ 800) (h1 : H x = some (exo x C none))
    (q : ∀ dx H', H dx = none → dx ≠ x → H' x = some (exo x C (some dx)) → H' dx = some (exd dx fs) → (∀ b, b ≠ x → b ≠ dx → H' b = H b) → D.nx ((V.ref x :: vs).map some) H') : tInit K ((f, v) :: r) D ((V.ref x :: vs).map some) H := by
  simp only [fsV, Option.bind_eq_some_iff] at e
  obtain ⟨y, e1, e2⟩ := e
  refine fvTE_use e1 ⟨.ref x, rfl, x, C, rfl, T, hn (f, v) List.mem_cons_self, .inl ⟨h1, fun dx n ne => ?_⟩⟩
  refine init_more (D := D) (acc := [(f, y)]) T (Ne.symm ne) (fun p hp => hn p (List.mem_cons_of_mem _ hp)) e2 (by simp; omega) upd_same (by rw [upd_ne ne]; exact upd_same) fun H' a b c => q dx H' n ne a b fun z z1 z2 => by rw [c z z1 z2, upd_ne z1, upd_ne z2]
/-- what such an __init__ promises: the fields of its arguments -/
def spI (C : Addr) (n : Nat) (sp : Fsp) : Sp := fun vs H Q E => ∃ x ws fs, vs = .ref x :: ws ∧ ws.length = n ∧ H x = some (exo x C none) ∧ fsV ws sp [] = some fs ∧
  ∀ dx H', H dx = none → dx ≠ x → H' x = some (exo x C (some dx)) → H' dx = some (exd dx fs) → (∀ b, b ≠ x → b ≠ dx → H' b = H b) → Q .non H'
/-- .. by its text -/
theorem init_ok {P : Program} {w : World} {K : PySem.W.Frag} {mg : Str → Option Value} {base : Heap} {k : Nat} {C fI cc cda : Addr} {qual : Str} {sI : Stmt} {N : List Str} {p0 p1 p2 p3 p4 : Pos} {a0 : Expr} {rest : List Stmt} {ar : Arg} {f : Str} {v : Fv} {r : Fsp} {n : Nat}
    (T : ExC K P C fI cc cda qual sI) (S : ExScope N (defScope sI)) (hbody : defBody sI = .Expr (.Call (.Attribute (.Call (.Name "super" p0) [] [] p1) "__init__" p2) [a0] [] p3) p4 :: rest)
    (hpar : ((defArgs sI).posonlyargs ++ (defArgs sI).args).head? = some ar) (h0 : N[0]? = some ar.arg) (htop : (P.main.scope.names.lookup ("super" : Str)).isSome = false) (hmg : mg "super" = none) (hN : N.length = n + 1)
    (hsw : ∀ env : PySem.Env, swapsWith (.Call (.Attribute (.Call (.Name "super" p0) [] [] p1) "__init__" p2) [a0] [] p3) none p4.line env = pure false)
    (hev : ∀ env : PySem.Env, ∃ pl : Sem Bool, eval (.Call (.Attribute (.Call (.Name "super" p0) [] [] p1) "__init__" p2) [a0] [] p3) env = (do
      let ov ← attributeBase (.Call (.Name "super" p0) [] [] p1) "__init__" env (eval (.Call (.Name "super" p0) [] [] p1) env)
      standAt p2.atName
      let (f, first) ← holding [ov] (getMethod ov "__init__" pl)
      callWith p3 f first (backTo p3 (starEach [a0] env)) []))
    (hst : ∀ env : PySem.Env, starEach [a0] env = [(false, eval a0 env)]) (hn : ∀ p ∈ (f, v) :: r, PySem.W.findIn K (.ref C) p.1 = some none) (hl : r.length ≤ 800)
    (ha : ∀ X : Cx, X.N = N → X.env.scope = defScope sI → ∃ t0, PE X a0 t0 ∧ ∀ (x : V) (ws : List V) (H : Hp), ws.length = n → t0 ((x :: ws).map some) H (fun _ H1 => H1 = H))
    (hr : ∀ X : Cx, X.N = N → X.env.scope = defScope sI → PSs X rest (tInit X.K ((f, v) :: r))) {fd : FuncData} {oc : Value} {od : Option Addr} {osl : Array (Option Value)} (lk : K.lookup fI = some ⟨oc, od, .func fd, osl⟩) : FnOk P w K mg base (L2.CX P w) (k + 1) fI fd N (spI C n ((f, v) :: r)) := by
  refine ex_fn (k := k) T S hbody hpar h0 htop hmg hsw hev hst (fun vs H Q E ⟨x, ws, fs, e, hl, _⟩ => by rw [e, hN, List.length_cons, hl]) (fun A outer s H vs Q E hrm ⟨x, ws, fs, e, hw, eH, ef, q⟩ => ?_) fd oc od osl lk
  subst e
  obtain ⟨t0, g1, g2⟩ := ha (exCx (L2.CX P w) P w K mg base N qual (defScope sI) fI (.ref cda) cc A outer s H E) rfl rfl
  exact ⟨x, ws, t0, _, rfl, eH, g1, hr (exCx (L2.CX P w) P w K mg base N qual (defScope sI) fI (.ref cda) cc A outer s H E) rfl rfl, g2 _ _ _ hw, init_all T.base hn ef hl eH q⟩
section
variable {X : Cx} {cl : Nat → Addr} {W : WX} {He H0 : Hp} {pos p p2 : Pos} {x : Str} {k n : Nat} {C fI : Addr} {fd : FuncData} {ps : List Str} {sp : Fsp}
def mkFs (n : Nat) (sp : Fsp) (us : List PV) : Option (List (Str × PV)) := if us.length = n ∧ n ≤ 1000 then fsP us sp [] else none
def sRaise (c : Nat) (mk : List PV → Option (List (Str × PV))) (bs : List Bool) (fs : List Ex) : Env → Out := fun ρ => onE PV.nols (evs fs) bs ρ fun us ρ' => match mk us with
  | some f => .exc c f ρ'
  | none => .stuck
/-- the heap behind a made error -/
theorem made_eq {H1 H2 : Hp} {a d : Addr} {fs : List (Str × V)} {o : HO} (n : H1 a = none) (h : ∀ b, b ≠ a → b ≠ d → H2 b = upd H1 a o b) (hd : d ≠ a) : upd (del H2 a) d (.xd fs) = upd H1 d (.xd fs) := by
  funext b
  by_cases e : b = d
  · rw [e, upd_same, upd_same]
  · rw [upd_ne e, upd_ne e]
    by_cases e2 : b = a
    · rw [e2, del_same, n]
    · rw [del_ne e2, h b e2 e, upd_ne e2]
theorem er_use {ta' : TA} {σ : St} {H : Hp} {D : Ends} {c : Nat} {bs : List Bool} {fs : List Ex} (hC : C = cl c) (h : ts X.K cl He H0 W (sRaise c (mkFs n sp) bs fs) D σ H) : tMkO C (spI C n sp) [] (ta X.K cl W (evs fs)) σ H (fun cls d H' => W cls d σ H') := by
  obtain ⟨Hs, ρ, S, h⟩ := h
  refine onE_use bears_a S h fun us vs Hs1 H1 ρ1 up S1 r ev _ _ hp => ?_
  unfold mkFs at hp
  split at hp
  · rename_i f hf
    split at hf
    · rename_i hk
      obtain ⟨hl, hk⟩ := hk
      have hlv : vs.length = n := by rw [r.length, hl]
      obtain ⟨fs', e1, e2⟩ := fs_rel r .nil hf
      refine ⟨by omega, fun a na => ⟨a, vs ++ [], fs', by rw [List.append_nil], by rw [List.append_nil]; exact hlv, upd_same, by rw [List.append_nil]; exact e1, fun dx H2 nd ne h1 h2 hoth => ⟨rfl, dx, fs', h1, h2, ?_, ?_⟩⟩⟩
      · rw [upd_ne ne] at nd; exact nd
      · rw [upd_ne ne] at nd
        rw [made_eq na hoth ne, hC]
        have x2 := Ext.new (o := HO.xd fs') S1.sub nd
        exact hp σ _ _ dx fs' x2.fs (S1.up x2) upd_same (e2.mono x2.fs)
    · cases hf
  · exact hp.elim
theorem vs_raise {e : Expr} {es : List Expr} {fs : List Ex} {bs : List Bool} {c : Nat} (hcalm : X.calm = true) (tk : Takes X W) (T : OexC X.K C) (iC : PySem.W.findIn X.K (.ref C) "__init__" = some (some (.ref fI))) (tI : PySem.W.typeIn X.K (.ref fI) = some (.type "function"))
    (F : FnOk X.prog X.w X.K X.mg X.base (L2.CX X.prog X.w) k fI fd ps (spI C n sp)) (hr : Room (k + 1) X.A) (hb : Binds X.K fd ps []) (hm : X.mg x = some (.ref C)) (hC : C = cl c) (ha : PA X (e :: es) (ta X.K cl W (evs fs)))
    (hg : Gl X x := by rfl) (hdb : (x == ("__debug__" : Str)) = false := by decide) (he : starEach (e :: es) X.env = (false, eval e X.env) :: starEach es X.env := by rfl) (hpl : (backTo p2 (starEach es X.env)).any (·.1) = false := by rfl) :
    PV1 X cl W He H0 (.Raise (some (.Call (.Name x p) (e :: es) [] p2)) none pos) (sRaise c (mkFs n sp) bs fs) :=
  psWeak (ps_raise hcalm tk (pmk_oex T iC tI F hr hb .nil (fun _ _ _ _ _ _ _ h => by
    obtain ⟨_, _, _, _, _, _, _, _, _, _, _, _, z⟩ := h
    exact z.elim) hg hm ha hdb he hpl)) fun D σ H h => er_use (ta' := ta X.K cl W (evs fs)) hC h
end
end VL
namespace VL
open PySem PySem.Spec PyProof.Rows L2
/-! ### try: clauses with a name and without -/
abbrev SuT := Addr → Value → Option Addr → TS
/-- a clause: the class, the slot of its name, its suite's reading -/
abbrev ClT := Value × Option Nat × SuT
def endsGone (D : Ends) (i : Nat) : Ends := { nx := fun σ' H' => D.nx (σ'.set i none) H', rt := D.rt, bk := fun σ' H' => D.bk (σ'.set i none) H', ct := fun σ' H' => D.ct (σ'.set i none) H' }
def wMix (K : PySem.W.Frag) (Wout : WX) (D : Ends) : List ClT → WX
  | [] => Wout
  | (c, none, ts) :: r => fun cls d σ H => ∃ b, PySem.W.exmOne K cls c = some b ∧ (b = true → ∀ a, H a = none → ts a cls d D σ H) ∧ (b = false → wMix K Wout D r cls d σ H)
  | (c, some i, ts) :: r => fun cls d σ H => ∃ b, PySem.W.exmOne K cls c = some b ∧ (b = true → ∀ a, H a = none → ts a cls d (endsGone D i) (σ.set i (some (.ref a))) H) ∧ (b = false → wMix K Wout D r cls d σ H)
inductive MixOk (X : Cx) : List ExceptHandler → List ClT → Prop
  | nil : MixOk X [] []
  | un {x : Str} {c : Value} {ts : SuT} {b₀ : Stmt} {suite : List Stmt} {np pos' : Pos} {hds : List ExceptHandler} {l : List ClT} (hc : Names X x c)
      (hsu : ∀ (a : Addr) (oe : Obj) (cls : Value) (d : Option Addr) (pn : List (Addr × Obj)), Zc cls d oe → (∃ vs, oe.data = .fields vs) → PSs (X.suite a ((a, oe) :: pn)) (b₀ :: suite) (ts a cls d)) (r : MixOk X hds l) :
      MixOk X (.ExceptHandler (some (.Name x np)) none (b₀ :: suite) pos' :: hds) ((c, none, ts) :: l)
  | nm {x n : Str} {i : Nat} {c : Value} {ts : SuT} {b₀ : Stmt} {suite : List Stmt} {np pos' : Pos} {hds : List ExceptHandler} {l : List ClT} (hN : X.N.Nodup) (hi : X.N[i]? = some n) (hln : X.env.kindOf n = some .local) (hc : Names X x c)
      (hsu : ∀ (a : Addr) (oe : Obj) (cls : Value) (d : Option Addr) (pn : List (Addr × Obj)), Zc cls d oe → (∃ vs, oe.data = .fields vs) → PSs (X.suite a ((a, oe) :: pn)) (b₀ :: suite) (ts a cls d)) (r : MixOk X hds l) :
      MixOk X (.ExceptHandler (some (.Name x np)) (some n) (b₀ :: suite) pos' :: hds) ((c, some i, ts) :: l)
section
variable {X : Cx} {body : List Stmt} {h₀ : ExceptHandler} {hds : List ExceptHandler} {l : List ClT} {pos : Pos} {tb : WX → TS} {Wout : WX}
theorem ps_try_mix (hs : X.stack = X.env :: X.outer) (hf : X.env.frame = some X.env.locals) (tk : Takes X Wout)
    (hb : ∀ (W : WX) (pn : List (Addr × Obj)) (xe : Value → Shared → Prop), Takes (X.tr pn xe) W → PassesOwn (model X.prog X.w) X.A X.env xe → PSs (X.tr pn xe) body (tb W))
    (hh : MixOk X (h₀ :: hds) l) : PS X (.Try body (h₀ :: hds) [] [] pos) (fun D σ H => tb (wMix X.K Wout D l) D σ H) := by
  refine ⟨fun pins s σ H D I h => ?_⟩
  have ok := I.ok
  have hfr : X.A.frames = some (X.env :: X.outer) := by rw [ok.frames, hs]
  refine wpAny_Try_except ?_
  refine wpAny_mono ((hb (wMix X.K Wout D l) (X.pn ++ pins) (fun e s₁ => wpAny (model X.prog X.w) X.A (noteFrame e X.env) (fun _ s₂ => wpAny (model X.prog X.w) X.A (setFlight e none) (fun _ s₃ =>
    wpAny (model X.prog X.w) X.A (handleBy e X.env (h₀ :: hds)) (SP X pins D) X.xe s₃) X.xe s₂) X.xe s₁) (fun u s' xx => ?_) PassesOwn.looking).run [] s σ H D (I.toTry _) h) (fun f s1 hsp => ?_) (fun e s1 he => he)
  · -- what was raised
    obtain ⟨a, B, sI, pins', σ', H', cls, d, rfl, J', nb, up, sky, na, os, ag, w⟩ := xx
    have J : Inv X pins σ' H' sI := J'.ofTry ok
    have sky' : Sky B (X.env :: X.outer) a (Zc cls d) X.env.locals s'.heap := by rw [← hs]; exact sky
    show wpAny (model X.prog X.w) X.A (noteFrame (.ref a) X.env) _ _ _
    refine Sky.land Zc.steady hfr hf sky' fun h3 fl3 up3 => ?_
    have J3 : Inv X pins σ' H' { s' with heap := h3 } := J.landed nb fl3.1 (up.trans up3) os ag
    obtain ⟨oe3, vs3, he3, hz3, hd3⟩ := fl3.there
    have nfr : a ∉ frs (X.env :: X.outer) := fun hm => by
      obtain ⟨_, o', e', hnf⟩ := fl3.2.2.1.mem hm
      rw [he3] at e'; cases e'
      exact hnf _ hd3
    have nL : a ≠ X.env.locals := fun z => nfr (List.mem_filterMap.mpr ⟨X.env, List.mem_cons_self, by rw [hf, z]⟩)
    have nF : a ∉ X.fs := fun hm => by
      obtain ⟨e, he, q⟩ := List.mem_filterMap.mp hm
      exact nfr (List.mem_filterMap.mpr ⟨e, List.mem_cons_of_mem _ he, q⟩)
    have S3 := J3.suite he3 hd3 na nL nF
    have LT : PySem.W.Looks (model X.prog X.w) h3 (typeOf (.ref a)) cls := fun A Q E s k q => wpAny_typeOf_ref (k _ _ he3) (by rw [hz3.1]; exact q)
    have test : ∀ {x : Str} {np : Pos} {c : Value} {Q : Value → Shared → Prop} {E : Value → Shared → Prop}, Names X x c → Q c { s' with heap := h3 } → wpAny (model X.prog X.w) (X.A.mark (some (.ref a))) (eval (.Name x np) X.env) Q E { s' with heap := h3 } := fun {x np c Q E} hc q => by
      obtain ⟨hg, hdbg, hm | ⟨hm, hv, hnn⟩⟩ := hc
      · exact ld_glob (X := X.suite a ((a, oe3) :: (X.pn ++ pins))) S3 hg hm q hdbg
      · exact ld_blt (X := X.suite a ((a, oe3) :: (X.pn ++ pins))) S3 hg hm hv q hnn hdbg
    have walk : ∀ {hds' : List ExceptHandler} {l' : List ClT}, MixOk X hds' l' → wMix X.K Wout D l' cls d σ' H' →
        wpAny (model X.prog X.w) X.A (handleBy (.ref a) X.env hds') (SP X pins D) X.xe { s' with heap := h3 } := by
      intro hds' l' hk
      induction hk with
      | nil =>
        intro w
        refine wpAny_handleBy_nil ?_
        obtain ⟨k1, k2, k3, oe, vs, T, oT, ts', he, hz, hd, h1, hr⟩ := id fl3
        unfold PySem.passOn
        refine wpAny_bind (wpAny_field he hd h1 ?_)
        rw [if_neg (show ¬ ((Value.ref T == Value.none) = true) from by simp)]
        have fin : wpAny (model X.prog X.w) X.A (setFlight (.ref a) X.env.frame) (fun _ s4 => wpAny (model X.prog X.w) X.A (throw (.ref a) : Sem Flow) (SP X pins D) X.xe s4) X.xe { s' with heap := h3 } := by
          rw [hf]
          refine HandSPX.setFlight_upZ fl3 fun h4 hh4 up4 => wpAny_throw (tk _ _ ?_)
          exact ⟨a, B, sI, pins, σ', H', cls, d, rfl, J, nb, (up.trans up3).trans up4, .inr (.inr (by rw [hs]; exact hh4)), na, os, ag, w⟩
        first
          | exact wpAny_bind (wpAny_pure (wpAny_bind fin))
          | exact wpAny_bind fin
      | @un x c ts b₀ suite np pos' hds2 l2 hc hsu r ih =>
        intro w
        obtain ⟨b, hb1, hyes, hno⟩ := w
        refine wpAny_handleBy_cons (codeAny_handlers_test ?_) (by intro q; cases q)
        refine test hc ((PySem.W.exm_one (M := model X.prog X.w) (J3.kIn) LT hb1).here ?_)
        cases b with
        | true =>
          refine codeAny_handlers_suite (HandSPX.lands_againZ fl3 fun h4 fl4 up4 => ?_)
          have J4 : Inv X pins σ' H' { s' with heap := h4 } := J.landed nb fl4.1 ((up.trans up3).trans up4) os ag
          obtain ⟨oe4, vs4, he4, hz4, hd4⟩ := fl4.there
          refine wpAny_mono ((hsu a oe4 cls d (X.pn ++ pins) hz4 ⟨_, hd4⟩).run [] _ _ H' _ (J4.suite he4 hd4 na nL nF) (hyes rfl a na)) (fun f s6 hsp => ?_) (fun _ _ z => False.elim z)
          cases f with
          | ret u =>
            obtain ⟨v6, σ6, H6, S6, r6, q6⟩ := hsp
            exact ⟨_, _, _, S6.unsuite ok, r6, q6⟩
          | _ =>
            obtain ⟨σ6, H6, S6, q6⟩ := hsp
            exact ⟨_, _, S6.unsuite ok, q6⟩
        | false => exact ih (hno rfl)
      | @nm x n i c ts b₀ suite np pos' hds2 l2 hN hi hln hc hsu r ih =>
        intro w
        obtain ⟨b, hb1, hyes, hno⟩ := w
        refine wpAny_handleBy_cons (codeAny_handlers_test ?_) (by intro q; cases q)
        refine test hc ((PySem.W.exm_one (M := model X.prog X.w) (J3.kIn) LT hb1).here ?_)
        cases b with
        | true =>
          refine codeAny_handlers_suite_as (HandSPX.lands_againZ fl3 fun h4 fl4 up4 => ?_)
          have J4 : Inv X pins σ' H' { s' with heap := h4 } := J.landed nb fl4.1 ((up.trans up3).trans up4) os ag
          obtain ⟨oe4, vs4, he4, hz4, hd4⟩ := fl4.there
          refine store_ok (X := X.suite a ((a, oe4) :: (X.pn ++ pins))) (v := .ref a) (J4.suite he4 hd4 na nL nF) hN hi (.inl hln) rfl (fun s5 S5 => ?_) (.inr hln)
          refine wpAny_mono ((hsu a oe4 cls d (X.pn ++ pins) hz4 ⟨_, hd4⟩).run [] s5 _ H' _ S5 (hyes rfl a na)) (fun f s6 hsp => ?_) (fun _ _ z => False.elim z)
          have gone : ∀ {σ6 : St} {H6 : Hp} {Q : Shared → Prop}, Inv (X.suite a ((a, oe4) :: (X.pn ++ pins))) [] σ6 H6 s6 → (∀ s7, Inv X pins (σ6.set i none) H6 s7 → Q s7) →
              wpAny (model X.prog X.w) X.A (do bindName X.env n .none; unbindBehindTheSuite X.env n pos') (fun _ s7 => Q s7) X.xe s6 := fun {σ6 H6 Q} S6 hq => gone_ok (S6.unsuite ok) hN hi hln hq
          cases f with
          | ret u =>
            obtain ⟨v6, σ6, H6, S6, r6, q6⟩ := hsp
            exact gone S6 fun s7 J7 => ⟨_, _, _, J7, r6, q6⟩
          | _ =>
            obtain ⟨σ6, H6, S6, q6⟩ := hsp
            exact gone S6 fun s7 J7 => ⟨_, _, J7, q6⟩
        | false => exact ih (hno rfl)
    exact walk hh w
  · cases f with
    | next =>
      obtain ⟨σ', H', J', q⟩ := hsp
      exact wpAny_execs_nil ⟨σ', H', J'.ofTry ok, q⟩
    | ret u =>
      obtain ⟨v, σ', H', J', r, q⟩ := hsp
      exact ⟨v, σ', H', J'.ofTry ok, r, q⟩
    | _ =>
      obtain ⟨σ', H', J', q⟩ := hsp
      exact ⟨σ', H', J'.ofTry ok, q⟩
end

/-! ### .. as values -/
inductive Hd where
  | un (mt : Nat → Option Bool) (s : Env → Out)
  | nm (mt : Nat → Option Bool) (i : Nat) (g : Nat → List (Str × PV) → R PV)
def tryH (c : Nat) (fs : List (Str × PV)) (ρ : Env) : List Hd → Out
  | [] => .exc c fs ρ
  | .un mt s :: r => match mt c with
    | some true => match s ρ with
      | .exc _ _ _ => .stuck
      | o => o
    | some false => tryH c fs ρ r
    | none => .stuck
  | .nm mt i g :: r => match mt c with
    | some true => if i < ρ.length then match g c fs with
      | .ok v => .ret v
      | _ => .stuck
      else .stuck
    | some false => tryH c fs ρ r
    | none => .stuck
def sTry (s : Env → Out) (hs : List Hd) : Env → Out := fun ρ => match s ρ with
  | .exc c fs ρ' => tryH c fs ρ' hs
  | o => o

/-! the suites that name the error: fields, written constants, tuples -/
section
variable (K : PySem.W.Frag) (cl : Nat → Addr) (i : Nat) (a : Addr) (cls : Value) (d : Option Addr)
def gx {α β : Type} (rel : Hp → β → α → Prop) (f : Nat → List (Str × PV) → R α) : St → Hp → (β → Hp → Prop) → Prop := fun σ H Q =>
  ∃ Hs c dd fvs fs, σ[i]? = some (some (.ref a)) ∧ cls = .ref (cl c) ∧ d = some dd ∧ Sub Hs H ∧ Hs dd = some (.xd fvs) ∧ RpF K cl Hs fvs fs ∧
    match f c fs with
    | .ok v => ∀ x Hs' H', Ext Hs H Hs' H' → rel Hs' x v → Q x H'
    | _ => False
end
abbrev Xx (α : Type) := Nat → List (Str × PV) → R α
def xC (v : PV) : Xx PV := fun _ _ => .ok v
def lkF (f : Str) : List (Str × PV) → Option PV
  | [] => none
  | (k, v) :: r => if f = k then some v else lkF f r
def xF (c0 : Nat) (f : Str) : Xx PV := fun c fs => if c = c0 then opt (lkF f fs) else .stuck
def xNil : Xx (List PV) := fun _ _ => .ok []
def xCons (f : Xx PV) (r : Xx (List PV)) : Xx (List PV) := fun c fs => (f c fs).bind fun x => (r c fs).bind fun xs => .ok (x :: xs)
def xTup (r : Xx (List PV)) : Xx PV := fun c fs => (r c fs).bind gTupV
theorem lkF_ok {K : PySem.W.Frag} {cl : Nat → Addr} {Hs : Hp} {f : Str} {v : PV} : ∀ {fvs : List (Str × V)} {fs : List (Str × PV)}, RpF K cl Hs fvs fs → lkF f fs = some v → ∃ x, fvs.lookup f = some x ∧ Rp K cl Hs x v
  | _, _, .nil, h => by cases h
  | _, _, .cons (k := k) (v := y) (vs := vs) (x := z) (xs := xs) r t, h => by
    replace h : (if f = k then some z else lkF f xs) = some v := h
    by_cases e : f = k
    · rw [if_pos e] at h
      cases h
      exact ⟨y, by subst e; simp [List.lookup], r⟩
    · rw [if_neg e] at h
      obtain ⟨x, h1, h2⟩ := lkF_ok t h
      have e2 : (f == k) = false := by simpa using e
      exact ⟨x, by simp only [List.lookup, e2]; exact h1, h2⟩
section
variable {X : Cx} {cl : Nat → Addr} {i : Nat} {a : Addr} {cls : Value} {d : Option Addr} {oe : Obj} {pn : List (Addr × Obj)} {pos : Pos}
abbrev PXv (X : Cx) (cl : Nat → Addr) (i : Nat) (a : Addr) (cls : Value) (d : Option Addr) (oe : Obj) (pn : List (Addr × Obj)) (e : Expr) (f : Xx PV) : Prop := PE (X.suite a ((a, oe) :: pn)) e (gx X.K cl i a cls d (Rp X.K cl) f)
abbrev PXa (X : Cx) (cl : Nat → Addr) (i : Nat) (a : Addr) (cls : Value) (d : Option Addr) (oe : Obj) (pn : List (Addr × Obj)) (e : List Expr) (f : Xx (List PV)) : Prop := PA (X.suite a ((a, oe) :: pn)) e (gx X.K cl i a cls d (RpA X.K cl) f)
theorem xx_c {v : V} {u : PV} {e : Expr} (h : PE (X.suite a ((a, oe) :: pn)) e (tC v)) (r : ∀ H, Rp X.K cl H v u) : PXv X cl i a cls d oe pn e (xC u) :=
  peWeak h fun σ H Q ⟨Hs, c, dd, fvs, fs, _, _, _, s, _, _, q⟩ => q v Hs H (Ext.refl s) (r _)
theorem xx_int {n j} : PXv X cl i a cls d oe pn (.Constant (.int n) j pos) (xC (.int n)) := xx_c pe_int fun _ => .int n
theorem xx_bl {n j} : PXv X cl i a cls d oe pn (.Constant (.bool n) j pos) (xC (.bl n)) := xx_c pe_bl fun _ => .bl n
theorem xx_non {j} : PXv X cl i a cls d oe pn (.Constant .none j pos) (xC .non) := xx_c pe_non fun _ => .non
theorem xx_str {n j} : PXv X cl i a cls d oe pn (.Constant (.str n) j pos) (xC (.str n)) := xx_c pe_str fun _ => .str n
theorem xx_fld {x n : Str} {px : Pos} {c0 : Nat} {C : Addr} (T : XfC X.K C) (hno : PySem.W.findIn X.K (.ref C) n = some none) (hC : C = cl c0) (hz : Zc cls d oe) (hf : ∃ vs, oe.data = .fields vs) (hN : X.N[i]? = some x := by rfl) (hv : Vis X.env.scope x := by first | exact Or.inl rfl | exact Or.inr (Or.inl rfl) | exact Or.inr (Or.inr rfl)) (hd : (x == ("__debug__" : Str)) = false := by decide)
    (hcd : (x == ("__classdict__" : Str)) = false := by decide) (hb : attributeBase (.Name x px) n X.env (eval (.Name x px) X.env) = eval (.Name x px) X.env := by rfl) : PXv X cl i a cls d oe pn (.Attribute (.Name x px) n pos) (xF c0 n) :=
  peWeak (pe_xf T hno hz hf (pe_var (X := X.suite a ((a, oe) :: pn)) (i := i) hN hv hd hcd) hb) fun σ H Q ⟨Hs, c, dd, fvs, fs, h1, h2, h3, s, h4, h5, q⟩ => by
    unfold xF at q
    split at q
    · rename_i v hq
      split at hq
      · rename_i ec
        subst ec
        cases e : lkF n fs with
        | none => rw [e] at hq; cases hq
        | some w =>
          rw [e] at hq
          cases hq
          obtain ⟨y, g1, g2⟩ := lkF_ok h5 e
          exact ⟨.ref a, h1, rfl, by rw [hC]; exact h2, dd, fvs, y, h3, s _ _ h4, g1, q y Hs H (Ext.refl s) g2⟩
      · cases hq
    · exact q.elim
theorem gx_up {α β : Type} {K : PySem.W.Frag} {rel : Hp → β → α → Prop} {f : Xx α} {σ : St} {H : Hp} {Q : β → Hp → Prop} : gx K cl i a cls d rel f σ H Q ↔ gx K cl i a cls d rel f σ H Q := Iff.rfl
theorem xa_nil : PXa X cl i a cls d oe pn [] xNil := paWeak pa_nil fun σ H Q ⟨Hs, c, dd, fvs, fs, _, _, _, s, _, _, q⟩ => q [] Hs H (Ext.refl s) .nil
theorem xa_cons {e : Expr} {es : List Expr} {f : Xx PV} {r : Xx (List PV)} (ha : PXv X cl i a cls d oe pn e f) (hr : PXa X cl i a cls d oe pn es r) (hs : starEach (e :: es) X.env = (false, eval e X.env) :: starEach es X.env := by rfl) : PXa X cl i a cls d oe pn (e :: es) (xCons f r) :=
  paWeak (pa_cons ha hr hs) fun σ H Q ⟨Hs, c, dd, fvs, fs, h1, h2, h3, s, h4, h5, q⟩ => by
    unfold xCons at q
    refine ⟨Hs, c, dd, fvs, fs, h1, h2, h3, s, h4, h5, ?_⟩
    cases e1 : f c fs with
    | ok v =>
      rw [e1] at q
      intro x Hs1 H1 s1 rx
      refine ⟨Hs1, c, dd, fvs, fs, h1, h2, h3, s1.sub, s1.fs _ _ h4, h5.mono s1.fs, ?_⟩
      cases e2 : r c fs with
      | ok vs =>
        rw [e2] at q
        exact fun xs Hs2 H2 s2 rxs => q (x :: xs) Hs2 H2 (s1.trans s2) (.cons (rx.mono s2.fs) rxs)
      | exc c' fs' => rw [e2] at q; exact q.elim
      | stuck => rw [e2] at q; exact q.elim
    | exc c' fs' => rw [e1] at q; exact q.elim
    | stuck => rw [e1] at q; exact q.elim
theorem xx_tup {es : List Expr} {x1} {r : Xx (List PV)} (h : PXa X cl i a cls d oe pn es r) : PXv X cl i a cls d oe pn (.Tuple es x1 pos) (xTup r) :=
  peWeak (pe_tup h) fun σ H Q ⟨Hs, c, dd, fvs, fs, h1, h2, h3, s, h4, h5, q⟩ => by
    unfold xTup at q
    refine ⟨Hs, c, dd, fvs, fs, h1, h2, h3, s, h4, h5, ?_⟩
    cases e1 : r c fs with
    | ok vs =>
      rw [e1, bind_ok] at q
      intro x Hs1 H1 s1 rx
      unfold gTupV at q
      by_cases hl : vs.length ≤ sizeLine
      · rw [if_pos hl] at q
        refine ⟨by rw [rx.length]; exact hl, fun p n => ?_⟩
        exact q (.ref p) (upd Hs1 p (.tup x)) _ (s1.trans (Ext.new s1.sub n)) (.tup (.of upd_same) (rx.mono (Sub.new (s1.sub.none n))))
      · rw [if_neg hl] at q; exact q.elim
    | exc c' fs' => rw [e1] at q; exact q.elim
    | stuck => rw [e1] at q; exact q.elim
/-- the suite's reading -/
def tSx (K : PySem.W.Frag) (cl : Nat → Addr) (i : Nat) (g : Xx PV) : SuT := fun a cls d D σ H => gx K cl i a cls d (Rp K cl) g σ H fun x H' => D.rt x H'
theorem sx_ret {e : Expr} {g : Xx PV} (h : PXv X cl i a cls d oe pn e g) : PSs (X.suite a ((a, oe) :: pn)) [.Return (some e) pos] (tSx X.K cl i g a cls d) := pss_one (ps_ret h)
end
/-- what the clauses are -/
inductive HdsV (X : Cx) (cl : Nat → Addr) (He H0 : Hp) : List ExceptHandler → List Hd → List ClT → Prop
  | nil : HdsV X cl He H0 [] [] []
  | un {x : Str} {c : Value} {mt : Nat → Option Bool} {s : Env → Out} {b₀ : Stmt} {suite : List Stmt} {np pos' : Pos} {hds : List ExceptHandler} {l : List Hd} {l' : List ClT} (hc : Names X x c) (hm : ∀ k b, mt k = some b → PySem.W.exmOne X.K (.ref (cl k)) c = some b)
      (hsu : ∀ (a : Addr) (oe : Obj) (pn : List (Addr × Obj)), (∃ vs, oe.data = .fields vs) → PVs (X.suite a ((a, oe) :: pn)) cl W0 He H0 (b₀ :: suite) s) (r : HdsV X cl He H0 hds l l') :
      HdsV X cl He H0 (.ExceptHandler (some (.Name x np)) none (b₀ :: suite) pos' :: hds) (.un mt s :: l) ((c, none, fun _ _ _ => ts X.K cl He H0 W0 s) :: l')
  | nm {x n : Str} {i : Nat} {c : Value} {mt : Nat → Option Bool} {g : Xx PV} {b₀ : Stmt} {suite : List Stmt} {np pos' : Pos} {hds : List ExceptHandler} {l : List Hd} {l' : List ClT} (hN : X.N.Nodup) (hi : X.N[i]? = some n) (hln : X.env.kindOf n = some .local) (hc : Names X x c) (hm : ∀ k b, mt k = some b → PySem.W.exmOne X.K (.ref (cl k)) c = some b)
      (hsu : ∀ (a : Addr) (oe : Obj) (cls : Value) (d : Option Addr) (pn : List (Addr × Obj)), Zc cls d oe → (∃ vs, oe.data = .fields vs) → PSs (X.suite a ((a, oe) :: pn)) (b₀ :: suite) (tSx X.K cl i g a cls d)) (r : HdsV X cl He H0 hds l l') :
      HdsV X cl He H0 (.ExceptHandler (some (.Name x np)) (some n) (b₀ :: suite) pos' :: hds) (.nm mt i g :: l) ((c, some i, tSx X.K cl i g) :: l')
section
variable {X : Cx} {cl : Nat → Addr} {He H0 : Hp}
theorem HdsV.mix {hds : List ExceptHandler} {l : List Hd} {l' : List ClT} (h : HdsV X cl He H0 hds l l') : MixOk X hds l' := by
  induction h with
  | nil => exact .nil
  | un hc hm hsu r ih => exact .un hc (fun a oe cls d pn _ hf => hsu a oe pn hf) ih
  | nm hN hi hln hc hm hsu r ih => exact .nm hN hi hln hc hsu ih
theorem HdsV.use {W : WX} {D : Ends} {hds : List ExceptHandler} {l : List Hd} {l' : List ClT} (h : HdsV X cl He H0 hds l l') {c : Nat} {fs : List (Str × PV)} {ρ : Env} {Hs : Hp} (p : Post X.K cl He H0 W Hs D (tryH c fs ρ l)) {σ : St} {Hs' H' : Hp} {d : Addr} {fvs : List (Str × V)} (up : Sub Hs Hs') (S : SEnv X.K cl He H0 Hs' H' σ ρ)
    (e : Hs' d = some (.xd fvs)) (r : RpF X.K cl Hs' fvs fs) : wMix X.K W D l' (.ref (cl c)) (some d) σ H' := by
  induction h with
  | nil => exact p σ Hs' H' d fvs up S e r
  | @un x cv mt s b₀ suite np pos' hds2 l2 l3 hc hm hsu r2 ih =>
    unfold tryH at p
    cases em : mt c with
    | none => rw [em] at p; exact p.elim
    | some b =>
      rw [em] at p
      refine ⟨b, hm _ _ em, fun hb a na => ?_, fun hb => ?_⟩
      · subst hb
        refine ⟨Hs', ρ, S, ?_⟩
        cases es : s ρ with
        | exc c' fs' ρ' => simp only [es] at p; exact p.elim
        | stuck => simp only [es] at p; exact p.elim
        | next ρ' => simp only [es] at p; exact Post.up (W := W0) (o := .next ρ') p up
        | brk ρ' => simp only [es] at p; exact Post.up (W := W0) (o := .brk ρ') p up
        | cont ρ' => simp only [es] at p; exact Post.up (W := W0) (o := .cont ρ') p up
        | ret v => simp only [es] at p; exact p
      · subst hb
        exact ih p
  | @nm x n i cv mt g b₀ suite np pos' hds2 l2 l3 hN hi hln hc hm hsu r2 ih =>
    unfold tryH at p
    cases em : mt c with
    | none => rw [em] at p; exact p.elim
    | some b =>
      rw [em] at p
      refine ⟨b, hm _ _ em, fun hb a na => ?_, fun hb => ?_⟩
      · subst hb
        simp only at p
        split at p
        · rename_i hl
          rw [← S.len] at hl
          refine ⟨Hs', c, d, fvs, fs, by rw [List.getElem?_set_self hl], rfl, rfl, S.sub, e, r, ?_⟩
          cases eg : g c fs with
          | ok v =>
            simp only [eg] at p
            exact fun x Hs1 H1 s1 rx => p x Hs1 H1 (S.ext.trans s1) rx
          | exc c' fs' => simp only [eg] at p; exact p.elim
          | stuck => simp only [eg] at p; exact p.elim
        · exact p.elim
      · subst hb
        exact ih p
/-- the rule -/
theorem vs_try {W : WX} {body : List Stmt} {h₀ : ExceptHandler} {hds : List ExceptHandler} {l : List Hd} {l' : List ClT} {pos : Pos} {s : Env → Out} (hs : X.stack = X.env :: X.outer) (hf : X.env.frame = some X.env.locals) (tk : Takes X W)
    (hb : ∀ (W : WX) (pn : List (Addr × Obj)) (xe : Value → Shared → Prop), Takes (X.tr pn xe) W → PassesOwn (model X.prog X.w) X.A X.env xe → PVs (X.tr pn xe) cl W He H0 body s)
    (hh : HdsV X cl He H0 (h₀ :: hds) l l') : PV1 X cl W He H0 (.Try body (h₀ :: hds) [] [] pos) (sTry s l) :=
  psWeak (ps_try_mix (tb := fun W => ts X.K cl He H0 W s) hs hf tk hb hh.mix) fun D σ H ⟨Hs, ρ, S, p⟩ => by
    refine ⟨Hs, ρ, S, ?_⟩
    unfold sTry at p
    cases es : s ρ with
    | exc c fs ρ' =>
      simp only [es] at p
      exact fun σ' Hs' H' d fvs up S' e r => hh.use p up S' e r
    | stuck => simp only [es] at p; exact p.elim
    | next ρ' => simp only [es] at p; exact p
    | brk ρ' => simp only [es] at p; exact p
    | cont ρ' => simp only [es] at p; exact p
    | ret v => simp only [es] at p; exact p
end
/-! ### raise C() -/
section
variable {X : Cx} {cl : Nat → Addr} {W : WX} {He H0 : Hp} {pos p p2 : Pos} {x : Str} {k : Nat} {C fI : Addr} {fd : FuncData} {ps : List Str} {sp : Fsp}
theorem pmk_none {spx : Sp} (T : OexC X.K C) (iC : PySem.W.findIn X.K (.ref C) "__init__" = some (some (.ref fI))) (tI : PySem.W.typeIn X.K (.ref fI) = some (.type "function"))
    (F : FnOk X.prog X.w X.K X.mg X.base (L2.CX X.prog X.w) k fI fd ps spx) (hr : Room (k + 1) X.A) (hb : Binds X.K fd ps []) (hx : Passes (L2.CX X.prog X.w) X (fun _ _ _ => False)) (hg : Gl X x) (hm : X.mg x = some (.ref C))
    (hdb : (x == ("__debug__" : Str)) = false := by decide) : PMk X (.Call (.Name x p) [] [] pos) (tMkO C spx [] tNil) := by
  intro pins s σ H Q I h
  obtain ⟨nm, q, N, bs, bm, sn, sub, ab, col, dd, k0, k1, k2, k3, k5, hC, hbm⟩ := T.cls
  refine wpAny_Call_Name_kw (ld_glob I hg hm (PySem.W.callWith_K0 I.kIn T.kC ?_) hdb)
  obtain ⟨hz, q1⟩ := h
  obtain ⟨hp, g, dr, tk, os⟩ := s
  have hsz : hp.objs.size ≤ hp.objs.size + 1 := Nat.le_succ _
  have hq := q1 (hp.objs.size + 1) (I.hok.fresh hsz)
  have keep : ∀ b o, hp.get? b = some o → ((hp.push (PySem.W.kdv_tup [])).push (PySem.HandSPX.excO C hp.objs.size)).get? b = some o := fun b o e => Heap.get?_push_of_some _ (Heap.get?_push_of_some _ e)
  have hget : ((hp.push (PySem.W.kdv_tup [])).push (PySem.HandSPX.excO C hp.objs.size)).get? (hp.objs.size + 1) = some (PySem.HandSPX.excO C hp.objs.size) := by heap_get
  have I2 : Inv X pins σ (upd H (hp.objs.size + 1) (exo (hp.objs.size + 1) C none)) ⟨(hp.push (PySem.W.kdv_tup [])).push (PySem.HandSPX.excO C hp.objs.size), g, dr, tk, os⟩ :=
    I.laid (t' := tk) (a := hp.objs.size + 1) (o := exo (hp.objs.size + 1) C none) (h' := (hp.push (PySem.W.kdv_tup [])).push (PySem.HandSPX.excO C hp.objs.size)) keep hsz (exo_ok hget)
  have hl : ([Value.ref (hp.objs.size + 1)] : List Value).length = ps.length := (F.len _ _ _ _ hq)
  refine wpAny_call (PySem.HandSPX.call_own PySem.F.excBase_ValueError (fun Y => PySem.HandSPX.refsVE_contains Y bm hbm) (I.kIn _ _ hC) (PySem.W.looks_findIn I.kIn iC) (fun self => PySem.W.bind_fn I.kIn self tI) (by rw [sizeLine_eq]; exact Nat.zero_le _)
    (codeAny_mono (F.run _ X.stack _ _ ⟨[Value.ref (hp.objs.size + 1)], []⟩ [Value.ref (hp.objs.size + 1)] [V.ref (hp.objs.size + 1)] _ (fun _ _ _ => False) (hr.make C [] []) (I2.env0.make C [] []) (by have := hb _ [Value.ref (hp.objs.size + 1)] I2.kIn hl; exact this) (.cons rfl .nil) hq) fun r s' hq' => ?_))
  cases r with
  | error er => exact hx pins σ _ _ er s' I2 hq'
  | ok fl =>
    cases fl with
    | ret u =>
      obtain ⟨v, H2, os2, bare2, un2, hok2, rv, ev, d, fs, ea, ed, hd1, q2⟩ := hq'
      subst ev
      obtain ⟨h2, g2, d2, t2, os'⟩ := s'
      exact ⟨rv, mk_end (raises_own T.exC T.tyC) I hsz keep un2 hok2 os2 bare2 ea ed hd1 q2⟩
    | next => exact False.elim hq'
    | brk => exact False.elim hq'
    | cont => exact False.elim hq'
theorem vs_raise0 {bs : List Bool} {c : Nat} (hcalm : X.calm = true) (tk : Takes X W) (T : OexC X.K C) (iC : PySem.W.findIn X.K (.ref C) "__init__" = some (some (.ref fI))) (tI : PySem.W.typeIn X.K (.ref fI) = some (.type "function"))
    (F : FnOk X.prog X.w X.K X.mg X.base (L2.CX X.prog X.w) k fI fd ps (spI C 0 sp)) (hr : Room (k + 1) X.A) (hb : Binds X.K fd ps []) (hm : X.mg x = some (.ref C)) (hC : C = cl c)
    (hg : Gl X x := by rfl) (hdb : (x == ("__debug__" : Str)) = false := by decide) :
    PV1 X cl W He H0 (.Raise (some (.Call (.Name x p) [] [] p2)) none pos) (sRaise c (mkFs 0 sp) bs []) :=
  psWeak (ps_raise hcalm tk (pmk_none T iC tI F hr hb (fun _ _ _ _ _ _ _ h => by
    obtain ⟨_, _, _, _, _, _, _, _, _, _, _, _, z⟩ := h
    exact z.elim) hg hm hdb)) fun D σ H h => by
      have q := er_use (X := X) (W := W) (He := He) (H0 := H0) (n := 0) (ta' := tNil) (D := D) hC h
      obtain ⟨Hs, ρ, E, q⟩ := q
      exact q.here E.sub .nil
end
end VL
namespace VL
open PySem PySem.Spec PyProof.Rows L2
/-! ### what a law's text gives, by names -/
section
variable (P : Program) (w : World) (K : PySem.W.Frag) (mg : Str → Option Value) (base : Heap) (cl : Nat → Addr)
/-- a def by its name -/
structure DefAt (k : Nat) (x : Str) (n : Nat) (g : List PV → R PV) : Prop where
  ex : ∃ (f : Addr) (fd : FuncData) (ps : List Str), FnOk P w K mg base (L2.CX P w) k f fd ps (spF K cl n g) ∧ mg x = some (.ref f) ∧ PySem.W.keepIn K (.ref f) = true ∧ Binds K fd ps []
/-- an own error by its name: its number, its __init__'s arguments and fields -/
structure ExcAt (k : Nat) (x : Str) (c n : Nat) (sp : Fsp) : Prop where
  ex : ∃ (C fI : Addr) (fd : FuncData) (ps : List Str), OexC K C ∧ PySem.W.findIn K (.ref C) "__init__" = some (some (.ref fI)) ∧ PySem.W.typeIn K (.ref fI) = some (.type "function") ∧ FnOk P w K mg base (L2.CX P w) k fI fd ps (spI C n sp) ∧ Binds K fd ps [] ∧ mg x = some (.ref C) ∧ C = cl c
/-- a class that an except clause names -/
structure ExmAt (x : Str) (mt : Nat → Option Bool) : Prop where
  ex : ∃ C : Addr, mg x = some (.ref C) ∧ ∀ k b, mt k = some b → PySem.W.exmOne K (.ref (cl k)) (.ref C) = some b
/-- a field of a caught error -/
structure FldAt (c : Nat) (f : Str) : Prop where
  xf : XfC K (cl c)
  no : PySem.W.findIn K (.ref (cl c)) f = some none
end
section
variable {X : Cx} {cl : Nat → Addr} {W : WX} {He H0 : Hp} {pos p p2 : Pos} {x : Str} {k n : Nat} {g : List PV → R PV}
theorem vc {e : Expr} {es : List Expr} {fs : List Ex} (D : DefAt X.prog X.w X.K X.mg X.base cl k x n g) (hr : Room k X.A) (tk : Takes X W) (ha : PA X (e :: es) (ta X.K cl W (evs fs)))
    (hg : Gl X x := by rfl) (hdb : (x == ("__debug__" : Str)) = false := by decide) (he : starEach (e :: es) X.env = (false, eval e X.env) :: starEach es X.env := by rfl) (hpl : (backTo pos (starEach es X.env)).any (·.1) = false := by rfl) :
    PE X (.Call (.Name x p) (e :: es) [] pos) (tv X.K cl W (eArgs (gN n g) fs)) := by
  obtain ⟨f, fd, ps, F, hm, hk, hb⟩ := D.ex
  exact ve_call F hr hm hk hb tk ha hg hdb he hpl
theorem vc0 (D : DefAt X.prog X.w X.K X.mg X.base cl k x n g) (hr : Room k X.A) (tk : Takes X W) (hg : Gl X x := by rfl) (hdb : (x == ("__debug__" : Str)) = false := by decide) :
    PE X (.Call (.Name x p) [] [] pos) (tv X.K cl W (eArgs (gN n g) [])) := by
  obtain ⟨f, fd, ps, F, hm, hk, hb⟩ := D.ex
  exact ve_call0 F hr hm hk hb tk hg hdb
theorem vr {e : Expr} {es : List Expr} {fs : List Ex} {bs : List Bool} {c : Nat} {sp : Fsp} (D : ExcAt X.prog X.w X.K X.mg X.base cl k x c n sp) (hr : Room (k + 1) X.A) (hcalm : X.calm = true) (tk : Takes X W) (ha : PA X (e :: es) (ta X.K cl W (evs fs)))
    (hg : Gl X x := by rfl) (hdb : (x == ("__debug__" : Str)) = false := by decide) (he : starEach (e :: es) X.env = (false, eval e X.env) :: starEach es X.env := by rfl) (hpl : (backTo p2 (starEach es X.env)).any (·.1) = false := by rfl) :
    PV1 X cl W He H0 (.Raise (some (.Call (.Name x p) (e :: es) [] p2)) none pos) (sRaise c (mkFs n sp) bs fs) := by
  obtain ⟨C, fI, fd, ps, T, iC, tI, F, hb, hm, hC⟩ := D.ex
  exact vs_raise hcalm tk T iC tI F hr hb hm hC ha hg hdb he hpl
theorem vr0 {bs : List Bool} {c : Nat} {sp : Fsp} (D : ExcAt X.prog X.w X.K X.mg X.base cl k x c 0 sp) (hr : Room (k + 1) X.A) (hcalm : X.calm = true) (tk : Takes X W)
    (hg : Gl X x := by rfl) (hdb : (x == ("__debug__" : Str)) = false := by decide) : PV1 X cl W He H0 (.Raise (some (.Call (.Name x p) [] [] p2)) none pos) (sRaise c (mkFs 0 sp) bs []) := by
  obtain ⟨C, fI, fd, ps, T, iC, tI, F, hb, hm, hC⟩ := D.ex
  exact vs_raise0 hcalm tk T iC tI F hr hb hm hC hg hdb
/-- the clauses of a try, some reading of them -/
def Cls (X : Cx) (cl : Nat → Addr) (He H0 : Hp) (hds : List ExceptHandler) (l : List Hd) : Prop := ∃ l', HdsV X cl He H0 hds l l'
theorem hd_nil : Cls X cl He H0 [] [] := ⟨[], .nil⟩
theorem hd_un {mt : Nat → Option Bool} {s : Env → Out} {b₀ : Stmt} {suite : List Stmt} {np pos' : Pos} {hds : List ExceptHandler} {l : List Hd} (D : ExmAt X.K X.mg cl x mt)
    (hsu : ∀ (a : Addr) (oe : Obj) (pn : List (Addr × Obj)), (∃ vs, oe.data = .fields vs) → PVs (X.suite a ((a, oe) :: pn)) cl W0 He H0 (b₀ :: suite) s) (r : Cls X cl He H0 hds l) (hg : Gl X x := by rfl) (hdb : (x == ("__debug__" : Str)) = false := by decide) :
    Cls X cl He H0 (.ExceptHandler (some (.Name x np)) none (b₀ :: suite) pos' :: hds) (.un mt s :: l) := by
  obtain ⟨C, hm, hx⟩ := D.ex
  obtain ⟨l', r⟩ := r
  exact ⟨_, .un ⟨hg, hdb, .inl hm⟩ hx hsu r⟩
theorem hd_nm {y : Str} {i : Nat} {mt : Nat → Option Bool} {g : Xx PV} {b₀ : Stmt} {suite : List Stmt} {np pos' : Pos} {hds : List ExceptHandler} {l : List Hd} (D : ExmAt X.K X.mg cl x mt) (hN : X.N.Nodup)
    (hsu : ∀ (a : Addr) (oe : Obj) (cls : Value) (d : Option Addr) (pn : List (Addr × Obj)), Zc cls d oe → (∃ vs, oe.data = .fields vs) → PSs (X.suite a ((a, oe) :: pn)) (b₀ :: suite) (tSx X.K cl i g a cls d)) (r : Cls X cl He H0 hds l) (hi : X.N[i]? = some y := by rfl) (hln : X.env.kindOf y = some .local := by rfl) (hg : Gl X x := by rfl) (hdb : (x == ("__debug__" : Str)) = false := by decide) :
    Cls X cl He H0 (.ExceptHandler (some (.Name x np)) (some y) (b₀ :: suite) pos' :: hds) (.nm mt i g :: l) := by
  obtain ⟨C, hm, hx⟩ := D.ex
  obtain ⟨l', r⟩ := r
  exact ⟨_, .nm hN hi hln ⟨hg, hdb, .inl hm⟩ hx hsu r⟩
theorem vs_tr {body : List Stmt} {h₀ : ExceptHandler} {hds : List ExceptHandler} {l : List Hd} {s : Env → Out} (tk : Takes X W)
    (hb : ∀ (W : WX) (pn : List (Addr × Obj)) (xe : Value → Shared → Prop), Takes (X.tr pn xe) W → PassesOwn (model X.prog X.w) X.A X.env xe → PVs (X.tr pn xe) cl W He H0 body s)
    (hh : Cls X cl He H0 (h₀ :: hds) l) (hs : X.stack = X.env :: X.outer := by rfl) (hf : X.env.frame = some X.env.locals := by rfl) : PV1 X cl W He H0 (.Try body (h₀ :: hds) [] [] pos) (sTry s l) := by
  obtain ⟨l', hh⟩ := hh
  exact vs_try hs hf tk hb hh
theorem xx_f {px : Pos} {i c0 : Nat} {a : Addr} {cls : Value} {d : Option Addr} {oe : Obj} {pn : List (Addr × Obj)} {f : Str} (D : FldAt X.K cl c0 f) (hz : Zc cls d oe) (hf : ∃ vs, oe.data = .fields vs) (hN : X.N[i]? = some x := by rfl) (hv : Vis X.env.scope x := by first | exact Or.inl rfl | exact Or.inr (Or.inl rfl) | exact Or.inr (Or.inr rfl)) (hd : (x == ("__debug__" : Str)) = false := by decide)
    (hcd : (x == ("__classdict__" : Str)) = false := by decide) (hb : attributeBase (.Name x px) f X.env (eval (.Name x px) X.env) = eval (.Name x px) X.env := by rfl) : PXv X cl i a cls d oe pn (.Attribute (.Name x px) f pos) (xF c0 f) :=
  xx_fld D.xf D.no rfl hz hf hN hv hd hcd hb
end
theorem room64 {A : Around} {k : Nat} (hr : Room k A) : A.units + 64 < cLine := by have := hr.un; omega
theorem room65 {A : Around} {k : Nat} (hr : Room k A) : A.units + 65 < cLine := by have := hr.un; omega
theorem room0 {A : Around} {k : Nat} (hr : Room k A) : A.units < cLine := by have := hr.un; omega
theorem room2 {A : Around} {d : Nat} (hr : Room (d + 2) A) : Room 2 A := hr.mono (by omega)
/-! ### a comprehension's block, as a test -/
def kindB (a b : Option NameKind) : Bool := match a, b with
  | some .local, some .local => true
  | some .cell, some .cell => true
  | some .free, some .free => true
  | some .globalImplicit, some .globalImplicit => true
  | some .globalExplicit, some .globalExplicit => true
  | _, _ => false
theorem kindB_ok {a b : Option NameKind} (h : kindB a b = true) : a = b := by
  cases a with
  | none => cases b <;> cases h
  | some a => cases b with
    | none => cases a <;> cases h
    | some b => cases a <;> cases b <;> first | rfl | cases h
def freeB (k : NameKind) : Bool := match k with | .free => true | _ => false
def locB (k : NameKind) : Bool := match k with | .local => true | .cell => true | _ => false
def blkB (N : List Str) (sc scope : Scope) (own : List (Str × Nat)) : Bool :=
  (match scope.kind with | .function => true | _ => false) && (scope.names.all fun y => kindB (scope.names.lookup y.1) (some y.2)) && (own.all fun p => match N[p.2]? with | some z => z == p.1 | none => false) &&
  (scope.names.all fun y => !freeB y.2 || kindB (sc.names.lookup y.1) (some .cell) || kindB (sc.names.lookup y.1) (some .free)) && (scope.names.all fun y => !locB y.2 || (own.any fun p => p.1 == y.1) || !(N.any fun z => z == y.1))
theorem blk_of {N : List Str} {sc scope : Scope} {own : List (Str × Nat)} (h : blkB N sc scope own = true) : BlkOk N sc scope own := by
  unfold blkB at h
  simp only [Bool.and_eq_true, List.all_eq_true, Bool.or_eq_true, Bool.not_eq_true'] at h
  obtain ⟨⟨⟨⟨h1, h2⟩, h3⟩, h4⟩, h5⟩ := h
  refine ⟨?_, fun y hy => kindB_ok (h2 y hy), fun p hp => ?_, fun y hy e => ?_, fun y hy e => ?_⟩
  · revert h1
    cases scope.kind <;> intro h1 <;> first | rfl | cases h1
  · have := h3 p hp
    revert this
    cases N[p.2]? with
    | none => intro h; cases h
    | some z => intro h; rw [eq_of_beq h]
  · have := h4 y hy
    rw [e] at this
    rcases this with (h | h) | h
    · cases h
    · exact .inl (kindB_ok h)
    · exact .inr (kindB_ok h)
  · rcases h5 y hy with (h | h) | h
    · rcases e with e | e <;> (rw [e] at h; cases h)
    · refine .inl ?_
      rw [List.any_eq_true] at h
      obtain ⟨p, hp, e2⟩ := h
      rw [List.mem_map]
      exact ⟨p, hp, eq_of_beq e2⟩
    · refine .inr fun hm => ?_
      have : (N.any fun z => z == y.1) = true := List.any_eq_true.mpr ⟨y.1, hm, beq_self_eq_true _⟩
      rw [this] at h; cases h
/-! ### the table of the plain functions is made of these -/
theorem mem_tn {i : Nat} {own : List Nat} (h : own.contains i = true) : TgIn (tN i) own := tin_n (by simpa using h)
theorem tin_nil {own : List Nat} : ∀ t ∈ ([] : List Tg), TgIn t own := fun _ h => by simp at h
theorem tin_cons {t : Tg} {ts : List Tg} {own : List Nat} (h : TgIn t own) (r : ∀ t ∈ ts, TgIn t own) : ∀ u ∈ t :: ts, TgIn u own := fun u hu => by
  rcases List.mem_cons.mp hu with e | hu
  · rw [e]; exact h
  · exact r u hu
theorem wk_of {K : PySem.W.Frag} {cl : Nat → Addr} : ∀ Hs J xs, Wk K cl Hs J xs → Wk K cl Hs J xs := fun _ _ _ h => h
theorem wkA_of {K : PySem.W.Frag} {cl : Nat → Addr} : ∀ Hs J xs, WkA K cl Hs J xs → Wk K cl Hs J xs := fun _ _ _ h => h _
/-- constants of the module, read off the written part -/
def valP (K : PySem.W.Frag) : Nat → Value → Option PV
  | _, .none => some .non
  | _, .bool b => some (.bl b)
  | _, .int i _ => some (.int i)
  | _, .str s _ => some (.str s)
  | 0, .ref _ => none
  | n + 1, .ref a => match K.lookup a with
    | some ⟨.type t, _, .seq its _, _⟩ => if t = "tuple" ∧ its.size ≤ sizeLine then (its.toList.mapM (valP K n)).map .tup else none
    | _ => none
  | _, _ => none
theorem valP_ok {K : PySem.W.Frag} {cl : Nat → Addr} : ∀ {n : Nat} {v : Value} {u : PV}, valP K n v = some u → ∃ x : V, RelV x v ∧ ∀ H, Rp K cl H x u := by
  have base : ∀ {n : Nat} {v : Value} {u : PV}, (∀ a, v ≠ .ref a) → valP K n v = some u → ∃ x : V, RelV x v ∧ ∀ H, Rp K cl H x u := by
    intro n v u hr e
    cases v with
    | none => cases n <;> (cases e; exact ⟨.non, rfl, fun _ => .non⟩)
    | bool b => cases n <;> (cases e; exact ⟨.bl b, rfl, fun _ => .bl b⟩)
    | int i t => cases n <;> (cases e; exact ⟨.int i, ⟨_, rfl⟩, fun _ => .int i⟩)
    | str i t => cases n <;> (cases e; exact ⟨.str i, ⟨_, rfl⟩, fun _ => .str i⟩)
    | ref a => exact absurd rfl (hr a)
    | _ => cases n <;> cases e
  intro n
  induction n with
  | zero =>
    intro v u e
    cases v with
    | ref a => cases e
    | _ => exact base (fun a z => by cases z) e
  | succ n ih =>
    intro v u e
    cases v with
    | ref a =>
      unfold valP at e
      split at e
      · rename_i t od its k sl q
        split at e
        · rename_i hk
          obtain ⟨rfl, hz⟩ := hk
          rw [Option.map_eq_some_iff] at e
          obtain ⟨us, e1, rfl⟩ := e
          have go : ∀ (l : List Value) (us : List PV), l.mapM (valP K n) = some us → ∃ xs : List V, Vals xs l ∧ ∀ H, RpA K cl H xs us := by
            intro l
            induction l with
            | nil => intro us e; simp at e; subst e; exact ⟨[], .nil, fun _ => .nil⟩
            | cons v l ih2 =>
              intro us e
              simp only [List.mapM_cons, Option.bind_eq_bind, Option.bind_eq_some_iff] at e
              obtain ⟨y, e2, ys, e3, e4⟩ := e
              cases e4
              obtain ⟨x, g1, g2⟩ := ih e2
              obtain ⟨xs, g3, g4⟩ := ih2 ys e3
              exact ⟨x :: xs, .cons g1 g3, fun H => .cons (g2 H) (g4 H)⟩
          obtain ⟨xs, h1, h2⟩ := go _ _ e1
          exact ⟨.ref a, rfl, fun H => .tup (.inr ⟨_, its, k, q, rfl, rfl, hz, h1⟩) (h2 H)⟩
        · cases e
      · cases e
    | _ => exact base (fun a z => by cases z) e
theorem gl_of {K : PySem.W.Frag} {cl : Nat → Addr} {mg : Str → Option Value} {x : Str} {n : Nat} {v : Value} {u : PV} (h : mg x = some v) (e : valP K n v = some u) : GlobV K cl mg x u := by
  obtain ⟨y, h1, h2⟩ := valP_ok (cl := cl) e
  exact ⟨y, v, h, h1, h2⟩
/-! name op= e -/
def addIP : PV → PV → Option PV
  | .int i, .int j => some (.int (i + j))
  | _, _ => none
def mulIP : PV → PV → Option PV
  | .int i, .int j => if mulOk i j = true then some (.int (i * j)) else none
  | _, _ => none
section
variable {X : Cx} {cl : Nat → Addr}
theorem ov_iadd : OpV X.K cl (rI0 fun i j => .int (i + j)) addIP := by
  intro W σ Hs H x y u v w Q s rx ry e q
  cases rx with
  | int i =>
    cases ry with
    | int j => cases e; exact ⟨_, _, rfl, rfl, q.here s (.int _)⟩
    | _ => cases e
  | _ => cases e
theorem ov_imul : OpV X.K cl (rI CMul fun i j => .int (i * j)) mulIP := by
  intro W σ Hs H x y u v w Q s rx ry e q
  cases rx with
  | int i =>
    cases ry with
    | int j =>
      replace e : (if mulOk i j = true then some (PV.int (i * j)) else none) = some w := e
      split at e
      · rename_i hk
        cases e
        refine ⟨_, _, rfl, rfl, ?_, q.here s (.int _)⟩
        unfold mulOk at hk
        simpa [CMul] using hk
      · cases e
    | _ => cases e
  | _ => cases e
end
/-! from a def's text to its promise -/
section
variable {P : Program} {w : World} {K : PySem.W.Frag} {mg : Str → Option Value} {base : Heap} {cl : Nat → Addr} {x : Str} {st : Stmt} {n : Nat} {ps N : List Str}
theorem nun (h : ∃ f fd, Fun K x x st f fd ∧ mg x = some (.ref f)) (hb : ∀ {f : Addr} {fd : FuncData}, Fun K x x st f fd → Binds K fd ps []) : DefAt P w K mg base cl (0 + 2) x n (fun _ => .stuck) := by
  obtain ⟨f, fd, F, hm⟩ := h
  exact ⟨f, fd, ps, def_none, hm, F.kp, hb F⟩
theorem dun {d : Nat} {b : Env → Out} (h : ∃ f fd, Fun K x x st f fd ∧ mg x = some (.ref f)) (S : FnScope N ps (defScope st)) (hb : ∀ {f : Addr} {fd : FuncData}, Fun K x x st f fd → Binds K fd ps [])
    (hbody : ∀ (f : Addr) (cdv : Value) (A : Around) (outer : List PySem.Env) (s : Shared) (H : Hp) (E : XK) (He : Hp), Room (d + 2) (A.deeper (envOfC x (defScope st) s.heap.objs.size f cdv)) →
      PVs (cxOf (L2.CX P w) P w K mg base N x (defScope st) f cdv A outer s H E) cl (fun c d _ H => E c d H) He H (defBody st) b) : DefAt P w K mg base cl (d + 1 + 2) x ps.length (fun us => outR (b (startE N.length us))) := by
  obtain ⟨f, fd, F, hm⟩ := h
  exact ⟨f, fd, ps, def_ok F S fun cdv A outer s H E He hr => hbody f cdv A outer s H E He hr, hm, F.kp, hb F⟩
end
end VL
namespace VL
open PySem PySem.Spec PyProof.Rows L2
/-! ### x.index(y) -/
def idxO (xs : List PV) (y : PV) : Option PV := if flatP y = true ∧ xs.all flatP = true then (xs.findIdx? fun x => eqF x y).map fun (j : Nat) => PV.int ((j : Nat) : Int) else none
def eIdxL (a b : Ex) : Ex := fun ρ => (a ρ).bind fun x => match x with
  | .lst xs => (b ρ).bind fun y => opt (idxO xs y)
  | _ => .stuck
def eIdxT (ys : List Str) (b : Ex) : Ex := fun ρ => (b ρ).bind fun y => match y with
  | .str z => opt ((ys.findIdx? fun x => x == z).map fun (j : Nat) => PV.int ((j : Nat) : Int))
  | _ => .stuck
section
variable {X : Cx} {cl : Nat → Addr} {W : WX} {o e : Expr} {apos cpos : Pos} {f f' : Ex}
theorem ve_idxL (ho : PE X o (tv X.K cl W f)) (ha : PE X e (tv X.K cl W f'))
    (hbase : attributeBase o "index" X.env (eval o X.env) = eval o X.env := by rfl)
    (hfew : ((backTo cpos (starEach [e] X.env)).all (fun x => !x.1) && (backToKw cpos (keywordEach [] X.env)).all (fun x => x.1.isSome)
      && decide ([e].length + ([] : List Keyword).length + (if ([] : List Keyword).isEmpty then 0 else 1) < 30)) = true := by rfl)
    (hline : (apos.endLine == cpos.line) = true := by rfl) (hs : starEach [e] X.env = (false, eval e X.env) :: starEach [] X.env := by rfl) (hplain : (backTo cpos (starEach [] X.env)).any (·.1) = false := by rfl) :
    PE X (.Call (.Attribute o "index" apos) [e] [] cpos) (tv X.K cl W (eIdxL f f')) :=
  peWeak (pe_bm PySem.F.plainAttrs_list PySem.F.slot_list_index PySem.F.type_list_index mt_index ho (va_cons ha va_nil hs) hbase hfew hline hs hplain) fun σ H Q ⟨Hs, ρ, E, h⟩ => by
    refine gv_bind E h fun v x Hs1 H1 _ s1 rx h1 => ?_
    cases rx with
    | @lst a vs xs h ra =>
      refine ⟨.inl ⟨rfl, _, .of (s1.sub _ _ h)⟩, ?_⟩
      refine ⟨Hs1, ρ, E.up s1, ?_⟩
      replace h1 : GP X.K cl (Rp X.K cl) W Hs1 H1 σ ((f' ρ).bind fun y => opt (idxO xs y)) Q := h1
      unfold evs
      cases e1 : f' ρ with
      | ok y =>
        rw [e1] at h1
        intro ws Hs2 H2 s2 rw2
        replace h1 : GP X.K cl (Rp X.K cl) W Hs1 H1 σ (opt (idxO xs y)) Q := h1
        obtain ⟨w, e2, q⟩ := h1.opt
        cases rw2 with
        | cons ry rt =>
          cases rt
          unfold idxO at e2
          split at e2
          · rename_i hk
            rw [Option.map_eq_some_iff] at e2
            obtain ⟨j, e3, rfl⟩ := e2
            rw [List.findIdx?_eq_some_iff_getElem] at e3
            obtain ⟨hj, e4, e5⟩ := e3
            obtain ⟨z, g1, g2⟩ := ra.get (List.getElem?_eq_getElem hj)
            refine ⟨a, vs, _, j, z, rfl, rfl, .of (s2.sub _ _ (s2.fs _ _ h)), ry.flat hk.1, ra.flat hk.2, g1, ?_, fun m z' hm hz' => ?_, (GP.up q s2).here s2.sub (.int _)⟩
            · rw [eqF_ok (g2.mono s2.fs) ry]; exact e4
            · have hm2 : m < xs.length := by omega
              obtain ⟨z2, g3, g4⟩ := ra.get (List.getElem?_eq_getElem hm2)
              rw [g3] at hz'
              cases hz'
              rw [eqF_ok (g4.mono s2.fs) ry]
              simpa using e5 m hm
          · cases e2
      | exc c fs => rw [e1] at h1; exact h1
      | stuck => rw [e1] at h1; exact h1
    | _ => exact h1.elim
/-- what the tuple's rule asks -/
theorem idxT_use {σ : St} {Hs H : Hp} {ρ : Ev} {Q : VK} {p : Addr} {ys : List Str} (E : PEnv X.K cl Hs H σ ρ) (h : GP X.K cl (Rp X.K cl) W Hs H σ (eIdxT ys f' ρ) Q) (hp : ∀ Hs' H', Ext Hs H Hs' H' → SqT X.K H' p (ys.map V.str)) :
    ta X.K cl W (evs [f']) σ H fun xs H2 => (∃ q, ∃ ys : List Str, ∃ z j, V.ref p = .ref q ∧ xs = [.str z] ∧ SqT X.K H2 q (ys.map V.str) ∧ ys[j]? = some z ∧ (∀ m, m < j → ys[m]? ≠ some z) ∧ Q (.int (j : Nat)) H2) := by
  refine ⟨Hs, ρ, E, ?_⟩
  unfold evs
  unfold eIdxT at h
  cases e1 : f' ρ with
  | ok y =>
    rw [e1] at h
    intro ws Hs2 H2 s2 rw2
    cases rw2 with
    | cons ry rt =>
      cases rt
      cases ry with
      | str z =>
        obtain ⟨w, e2, q⟩ := GP.opt h
        rw [Option.map_eq_some_iff] at e2
        obtain ⟨j, e3, rfl⟩ := e2
        rw [List.findIdx?_eq_some_iff_getElem] at e3
        obtain ⟨hj, e4, e5⟩ := e3
        refine ⟨p, ys, z, j, rfl, rfl, hp _ _ s2, ?_, fun m hm hz => ?_, (GP.up q s2).here s2.sub (.int _)⟩
        · rw [List.getElem?_eq_getElem hj, eq_of_beq e4]
        · have hm2 : m < ys.length := by omega
          rw [List.getElem?_eq_getElem hm2] at hz
          have := e5 m hm
          rw [Option.some.inj hz] at this
          simp at this
      | _ => exact h.elim
  | exc c fs => rw [e1] at h; exact h
  | stuck => rw [e1] at h; exact h
/-- a tuple of texts of the module -/
def GlobT (K : PySem.W.Frag) (mg : Str → Option Value) (x : Str) (ys : List Str) : Prop := ∃ p o, mg x = some (.ref p) ∧ K.lookup p = some o ∧ o.cls = .type "tuple" ∧ o.dict = none ∧ ∀ H, SqT K H p (ys.map V.str)
theorem ve_idxG {x : Str} {ys : List Str} {p1 : Pos} (G : GlobT X.K X.mg x ys) (ha : PE X e (tv X.K cl W f')) (hg : Gl X x := by rfl) (hd : (x == ("__debug__" : Str)) = false := by decide)
    (hbase : attributeBase (.Name x p1) "index" X.env (eval (.Name x p1) X.env) = eval (.Name x p1) X.env := by rfl)
    (hfew : ((backTo cpos (starEach [e] X.env)).all (fun x => !x.1) && (backToKw cpos (keywordEach [] X.env)).all (fun x => x.1.isSome)
      && decide ([e].length + ([] : List Keyword).length + (if ([] : List Keyword).isEmpty then 0 else 1) < 30)) = true := by rfl)
    (hline : (apos.endLine == cpos.line) = true := by rfl) (hs : starEach [e] X.env = (false, eval e X.env) :: starEach [] X.env := by rfl) (hplain : (backTo cpos (starEach [] X.env)).any (·.1) = false := by rfl) :
    PE X (.Call (.Attribute (.Name x p1) "index" apos) [e] [] cpos) (tv X.K cl W (eIdxT ys f')) := by
  obtain ⟨p, o, hm, hl, hc, hdd, hT⟩ := G
  refine peWeak (pe_bm PySem.F.plainAttrs_tuple PySem.F.slot_tuple_index PySem.F.type_tuple_index mt_tup_index (pe_glob (v := .ref p) hg hm rfl hd) (va_cons ha va_nil hs) hbase hfew hline hs hplain) fun σ H Q ⟨Hs, ρ, E, h⟩ => ?_
  exact ⟨.inr (.inl ⟨rfl, o, hl, hc, hdd⟩), idxT_use E h fun _ _ _ => hT _⟩
/-- a written tuple of texts -/
theorem evs_strs : ∀ (ys : List Str) (ρ : Ev), evs (ys.map fun z => eC (.str z)) ρ = .ok (ys.map .str)
  | [], _ => rfl
  | y :: ys, ρ => by
    show ((eC (.str y) ρ).bind fun x => (evs (ys.map fun z => eC (.str z)) ρ).bind fun xs => .ok (x :: xs)) = _
    rw [evs_strs ys ρ]
    rfl
theorem rpa_strs {K : PySem.W.Frag} {H : Hp} : ∀ {ys : List Str} {vs : List V}, RpA K cl H vs (ys.map .str) → vs = ys.map V.str
  | [], _, .nil => rfl
  | y :: ys, _, .cons r t => by
    cases r
    rw [rpa_strs t]
    rfl
theorem ve_idxD {es : List Expr} {x1 : Nat} {p1 : Pos} {ys : List Str} (he : PA X es (ta X.K cl W (evs (ys.map fun z => eC (.str z))))) (ha : PE X e (tv X.K cl W f')) (hl : ys.length ≤ sizeLine := by decide)
    (hbase : attributeBase (.Tuple es x1 p1) "index" X.env (eval (.Tuple es x1 p1) X.env) = eval (.Tuple es x1 p1) X.env := by rfl)
    (hfew : ((backTo cpos (starEach [e] X.env)).all (fun x => !x.1) && (backToKw cpos (keywordEach [] X.env)).all (fun x => x.1.isSome)
      && decide ([e].length + ([] : List Keyword).length + (if ([] : List Keyword).isEmpty then 0 else 1) < 30)) = true := by rfl)
    (hline : (apos.endLine == cpos.line) = true := by rfl) (hs : starEach [e] X.env = (false, eval e X.env) :: starEach [] X.env := by rfl) (hplain : (backTo cpos (starEach [] X.env)).any (·.1) = false := by rfl) :
    PE X (.Call (.Attribute (.Tuple es x1 p1) "index" apos) [e] [] cpos) (tv X.K cl W (eIdxT ys f')) := by
  refine ⟨fun pins s σ H Q I ⟨Hs, ρ, E, h⟩ => ?_⟩
  refine wpAny_Call_method_late hbase hfew hline rfl ?_
  refine wpAny_Tuple_spliced (thn (he.run p1 pins s σ H (fun xs H1 => xs = ys.map V.str ∧ ∃ Hs1, Ext Hs H Hs1 H1) I ⟨Hs, ρ, E, ?_⟩) fun us s1 hh => ?_)
  · rw [evs_strs]
    exact fun x Hs' H' s' rx => ⟨rpa_strs rx, Hs', s'⟩
  · obtain ⟨xs, H1, I1, r, e1, Hs1, s1'⟩ := hh
    have z : xs.length ≤ sizeLine := by rw [e1, List.length_map]; exact hl
    refine ⟨by rw [← r.length]; exact z, ?_⟩
    have hf : H1 s1.heap.objs.size = none := I1.hok.fresh (Nat.le_refl _)
    have I2 : Inv X pins σ (upd H1 s1.heap.objs.size (.tup xs)) { s1 with heap := s1.heap.push { cls := .type "tuple", data := .seq us.toArray 0 } } :=
      I1.laid (t' := s1.toks) (fun b u e => Heap.get?_push_of_some _ e) (Nat.le_refl _) ⟨z, us, r, ⟨_, Heap.get?_push_size _ rfl, rfl, _, rfl⟩⟩
    refine ⟨"tuple", _, PySem.F.plainAttrs_tuple, PySem.F.slot_tuple_index, PySem.F.type_tuple_index, ⟨_, Heap.get?_push_size _ rfl, rfl⟩, fun a e => ?_, ?_⟩
    · cases e
      exact ⟨_, Heap.get?_push_size _ rfl, rfl⟩
    · subst e1
      have X2 := s1'.trans (Ext.new (o := .tup (ys.map V.str)) s1'.sub hf)
      have q2 := idxT_use (p := s1.heap.objs.size) (E.up X2) (GP.up h X2) fun Hs' H' t => .of (t.same _ _ upd_same)
      have hA := (va_cons ha va_nil hs).run cpos pins _ σ _ _ I2 q2
      rw [hs] at hA ⊢
      refine Calls.callWith_builtin (by show (false || (backTo cpos (starEach [] X.env)).any (·.1)) = false; rw [hplain] <;> rfl) (Calls.evalArgs_plain ?_)
      exact thn hA fun us2 s2 ⟨vs, H3, I3, r3, q3⟩ => mt_tup_index pins s2 σ H3 (.ref s1.heap.objs.size) vs _ us2 Q I3 rfl r3 q3
end
end VL
namespace VL
open PySem PySem.Spec PyProof.Rows L2
/-! ### what the top has written -/
section
variable {K : PySem.W.Frag} {h : Heap} {mg : Str → Option Value} {x : Str}
theorem fun_at {st : Stmt} {f : Addr} {od an : Option Addr} {osl : Array (Option Value)} {oc kV doc pm cdv ct : Value} (X : K.In h) (G : h.Ns mainGlobals mg) (a : PySem.W.nsIn K mainGlobals x = some (some (.ref f)))
    (l : K.lookup f = some ⟨oc, od, .func (PySem.W.fnOf x x (defArgs st) (defBody st) (defScope st) .none kV doc pm an cdv ct), osl⟩) (c : PySem.W.codeIn K cdv x = true) (k : PySem.W.keepIn K (.ref f) = true) : ∃ f fd, Fun K x x st f fd ∧ mg x = some (.ref f) :=
  ⟨f, _, fun_mk l c k, PySem.W.mg_of X G a⟩
theorem none_at (X : K.In h) (G : h.Ns mainGlobals mg) (a : PySem.W.nsIn K mainGlobals x = some none) : mg x = none := PySem.W.mg_none_of X G a
theorem int_at {cl : Nat → Addr} {i : Int} {t : Tok} (X : K.In h) (G : h.Ns mainGlobals mg) (a : PySem.W.nsIn K mainGlobals x = some (some (.int i t))) : GlobV K cl mg x (.int i) := ⟨.int i, _, PySem.W.mg_of X G a, ⟨_, rfl⟩, fun _ => .int i⟩
theorem str_at {cl : Nat → Addr} {z : Str} {t : Tok} (X : K.In h) (G : h.Ns mainGlobals mg) (a : PySem.W.nsIn K mainGlobals x = some (some (.str z t))) : GlobV K cl mg x (.str z) := ⟨.str z, _, PySem.W.mg_of X G a, ⟨_, rfl⟩, fun _ => .str z⟩
/-! a value that is written out -/
mutual
inductive Wr (K : PySem.W.Frag) : Value → PV → Prop
  | non : Wr K .none .non
  | bl (b : Bool) : Wr K (.bool b) (.bl b)
  | int (i : Int) (t : Tok) : Wr K (.int i t) (.int i)
  | str (z : Str) (t : Tok) : Wr K (.str z t) (.str z)
  | tup {a : Addr} {od : Option Addr} {its : Array Value} {n : Nat} {sl : Array (Option Value)} {vs : List Value} {us : List PV} (l : K.lookup a = some ⟨.type "tuple", od, .seq its n, sl⟩) (e : its.toList = vs) (r : Wrs K vs us) (hl : us.length ≤ sizeLine) : Wr K (.ref a) (.tup us)
inductive Wrs (K : PySem.W.Frag) : List Value → List PV → Prop
  | nil : Wrs K [] []
  | cons {v : Value} {vs : List Value} {u : PV} {us : List PV} : Wr K v u → Wrs K vs us → Wrs K (v :: vs) (u :: us)
end
mutual
theorem Wr.rp {cl : Nat → Addr} : ∀ {v : Value} {u : PV}, Wr K v u → ∃ y : V, RelV y v ∧ ∀ H, Rp K cl H y u
  | _, _, .non => ⟨.non, rfl, fun _ => .non⟩
  | _, _, .bl b => ⟨.bl b, rfl, fun _ => .bl b⟩
  | _, _, .int i t => ⟨.int i, ⟨_, rfl⟩, fun _ => .int i⟩
  | _, _, .str z t => ⟨.str z, ⟨_, rfl⟩, fun _ => .str z⟩
  | _, _, .tup (a := a) (its := its) (n := n) l e r hl => by
    obtain ⟨xs, h1, h2⟩ := Wrs.rp (cl := cl) r
    refine ⟨.ref a, rfl, fun H => .tup (.inr ⟨_, its, n, l, rfl, rfl, ?_, by rw [e]; exact h1⟩) (h2 H)⟩
    rw [← Array.length_toList, e, ← h1.length, (h2 H).length]; exact hl
theorem Wrs.rp {cl : Nat → Addr} : ∀ {vs : List Value} {us : List PV}, Wrs K vs us → ∃ xs : List V, Vals xs vs ∧ ∀ H, RpA K cl H xs us
  | _, _, .nil => ⟨[], .nil, fun _ => .nil⟩
  | _, _, .cons r t => by
    obtain ⟨y, h1, h2⟩ := Wr.rp (cl := cl) r
    obtain ⟨xs, h3, h4⟩ := Wrs.rp (cl := cl) t
    exact ⟨y :: xs, .cons h1 h3, fun H => .cons (h2 H) (h4 H)⟩
end
theorem val_at {cl : Nat → Addr} {v : Value} {u : PV} (X : K.In h) (G : h.Ns mainGlobals mg) (a : PySem.W.nsIn K mainGlobals x = some (some v)) (w : Wr K v u) : GlobV K cl mg x u := by
  obtain ⟨y, h1, h2⟩ := w.rp (cl := cl)
  exact ⟨y, v, PySem.W.mg_of X G a, h1, h2⟩
theorem tupT_at {a : Addr} {its : Array Value} {n : Nat} {sl : Array (Option Value)} {ys : List Str} (X : K.In h) (G : h.Ns mainGlobals mg) (e : PySem.W.nsIn K mainGlobals x = some (some (.ref a))) (l : K.lookup a = some ⟨.type "tuple", none, .seq its n, sl⟩) (r : Wrs K its.toList (ys.map PV.str)) (hl : ys.length ≤ sizeLine) : GlobT K mg x ys := by
  have w : Wr K (.ref a) (.tup (ys.map .str)) := .tup l rfl r (by simpa using hl)
  obtain ⟨y, h1, h2⟩ := w.rp (cl := fun _ => 0)
  cases y with
  | ref b =>
    have h1 : Value.ref a = Value.ref b := h1
    cases h1
    refine ⟨a, _, PySem.W.mg_of X G e, l, rfl, rfl, fun H => ?_⟩
    cases h2 H with
    | tup hs hr => rw [← rpa_strs hr]; exact hs
  | str z => obtain ⟨t, e⟩ := h1; cases e
  | int z => obtain ⟨t, e⟩ := h1; cases e
  | byt z => obtain ⟨t, e⟩ := h1; cases e
  | flt z => obtain ⟨t, e⟩ := h1; cases e
  | non => cases h1
  | bl z => cases h1
  | ty z => cases h1
end
/-! own errors -/
theorem sup_of {K : PySem.W.Frag} {C L N NL : Addr} {nm q nmL qL : Str} {bs bm bsL bmL sub subL : List Value} {sn snL : List Str} {ab abL : Bool} {col colL : Option Bool} {dd ddL : Option Addr} {k0 k1 k2 k3 k5 j0 j1 j2 j3 j5 : Option Value} {z : Option (Option Value)} {n : Str}
    (lC : K.lookup C = some (excClassObj nm q C N bs bm true sn sub ab col dd k0 k1 k2 k3 k5 "ValueError.__new__")) (lL : K.lookup L = some (excClassObj nmL qL L NL bsL bmL true snL subL abL colL ddL j0 j1 j2 j3 j5 "ValueError.__new__")) (e : bm = .ref L :: bmL)
    (f : PySem.W.findIn K (.ref L) n = z) : PySem.W.ks_superIn K C C n = z := by
  have h1 : PySem.W.clsIn K C = some { name := nm, bases := bs, mro := .ref C :: bm, ns := N, qualname := q, hasDict := true, slotNames := sn, subclasses := sub, abstract := ab, collection := col, hasDel := false } := by
    unfold PySem.W.clsIn
    rw [lC] <;> rfl
  unfold PySem.W.ks_superIn
  rw [h1]
  show PySem.W.alongIn K n (((Value.ref C :: bm).dropWhile (· != .ref C)).drop 1) = z
  have e2 : (Value.ref C :: bm).dropWhile (· != .ref C) = .ref C :: bm := by simp [List.dropWhile]
  rw [e2, ← f]
  show PySem.W.alongIn K n bm = _
  show PySem.W.alongIn K n bm = (match K.lookup L with
    | some ⟨_, _, .cls cd, _⟩ => PySem.W.alongIn K n cd.mro
    | _ => none)
  rw [lL, e] <;> rfl
theorem exm_of {K : PySem.W.Frag} {C c : Addr} {b : Bool} (h1 : PySem.W.subIn K (.ref C) (.type "BaseException") = some true) (hd : PySem.W.isClsIn K C = true) (ht : PySem.W.typeIn K (.ref C) = some (.type "type")) (h4 : PySem.W.subIn K (.ref c) (.ref C) = some b) : PySem.W.exmOne K (.ref c) (.ref C) = some b := by
  have e1 : (PySem.W.subIn K (.ref C) (.type "BaseException") == some true) = true := by rw [h1] <;> rfl
  have e2 : ((PySem.W.clsIn K C).isSome && PySem.W.typeIn K (.ref C) == some (.type "type")) = true := by
    have h2' : (PySem.W.clsIn K C).isSome = true := hd
    rw [h2', ht] <;> rfl
  show (if (PySem.W.subIn K (.ref C) (.type "BaseException") == some true) = true then (if ((PySem.W.clsIn K C).isSome && PySem.W.typeIn K (.ref C) == some (.type "type")) = true then PySem.W.subIn K (.ref c) (.ref C) else none) else none) = some b
  rw [if_pos e1, if_pos e2]
  exact h4
/-! the law's own promise -/
def spLaw (K : PySem.W.Frag) : Sp := fun vs H Q _ => ∃ (a : Addr) (ns : List Int), vs = [.ref a] ∧ SqL K H a (ns.map V.int) ∧ ns.length ≤ 63 ∧ (∀ z ∈ ns, Builtin.Int.intBits z ≤ 1048576) ∧ ∀ H', Q (.bl true) H'
theorem law_imp {K : PySem.W.Frag} {cl : Nat → Addr} {g : List PV → R PV} (hg : ∀ ns : List Int, ns.length ≤ 63 → (∀ z ∈ ns, Builtin.Int.intBits z ≤ 1048576) → g [.src (ns.map .int)] = .ok (.bl true)) (vs : List V) (H : Hp) (Q : VK) (E : XK) (h : spLaw K vs H Q E) : spF K cl 1 g vs H Q E := by
  obtain ⟨a, ns, rfl, hs, hl, hb, q⟩ := h
  refine ⟨H, [.src (ns.map .int)], Sub.refl H, .cons (.src hs (rpa_ints ns)) .nil, rfl, ?_⟩
  rw [hg ns hl hb]
  intro x Hs' H' _ rx
  cases rx
  exact q H'
/-! the scope and the facts of an own error's __init__ -/
def exScB (N : List Str) (sc : Scope) : Bool := (match sc.kind with | .function => true | _ => false) && !sc.isCoroutine && !sc.isGenerator && (N.all fun x => kindB (sc.names.lookup x) (some .local)) && (sc.names.all fun y => match y.2 with | .cell => false | _ => true) &&
  (sc.names.all fun y => !freeB y.2 || y.1 == ("__class__" : Str)) && kindB (sc.names.lookup ("__class__" : Str)) (some .free) && kindB (sc.names.lookup ("super" : Str)) (some .globalImplicit)
theorem exSc_of {N : List Str} {sc : Scope} (nd : N.Nodup) (h : exScB N sc = true) : ExScope N sc := by
  unfold exScB at h
  simp only [Bool.and_eq_true, List.all_eq_true, Bool.or_eq_true, Bool.not_eq_true'] at h
  obtain ⟨⟨⟨⟨⟨⟨⟨h1, h2⟩, h3⟩, h4⟩, h5⟩, h6⟩, h7⟩, h8⟩ := h
  refine ⟨?_, h2, h3, nd, fun x hx => kindB_ok (h4 x hx), fun x hx e => ?_, fun x e => ?_, kindB_ok h7, kindB_ok h8⟩
  · revert h1
    cases sc.kind <;> intro h1 <;> first | rfl | cases h1
  · have := h5 x hx
    rw [e] at this
    cases this
  · rcases h6 _ (PySem.mem_of_lookup e) with q | q
    · cases q
    · exact eq_of_beq q
theorem exc_facts {K : PySem.W.Frag} {P : Program} {C fI cc cda N : Addr} {qual nm q ff : Str} {sI : Stmt} {bs bm sub : List Value} {sn : List Str} {ab : Bool} {col : Option Bool} {dd od od2 od3 an : Option Addr} {k0 k1 k2 k3 k5 : Option Value} {oc oc2 oc3 kV doc pm ct : Value} {osl osl2 osl3 : Array (Option Value)} {vs : Array Value} {tf : Tok}
    (lC : K.lookup C = some (excClassObj nm q C N bs bm true sn sub ab col dd k0 k1 k2 k3 k5 "ValueError.__new__")) (hbm : PySem.HandSPX.refsVE bm = true) (sa : PySem.W.findIn K (.ref C) "__setattr__" = some (some (.builtin "object.__setattr__"))) (exC : PySem.W.subIn K (.ref C) (.type "BaseException") = some true)
    (tyC : PySem.W.typeIn K (.ref C) = some (.type "type")) (kC : PySem.W.keepIn K (.ref C) = true) (ini : PySem.W.findIn K (.ref C) "__init__" = some (some (.ref fI))) (tyI : PySem.W.typeIn K (.ref fI) = some (.type "function"))
    (lI : K.lookup fI = some ⟨oc, od, .func (PySem.W.ksFn "__init__" qual (defArgs sI) (defBody sI) (defScope sI) .none kV doc pm an (.ref cda) ct cc), osl⟩) (code : PySem.W.codeIn K (.ref cda) qual = true) (lF : K.lookup cda = some ⟨oc2, od2, .fields vs, osl2⟩) (h2 : vs[2]? = some (.str ff tf)) (hfile : ((P.main.file : Str) == ff) = true)
    (lc : K.lookup cc = some ⟨oc3, od3, .cell (some (.ref C)), osl3⟩) (sup : PySem.W.ks_superIn K C C "__init__" = some (some (.builtin "ValueError.__init__"))) (self : PySem.W.mroIn K C (.ref C) = some true) (ve : PySem.W.subIn K (.ref C) (.type "ValueError") = some true) (noS : PySem.W.nsIn K mainGlobals "super" = some none) (third : PySem.W.nsIn K cStatics "thirdparty.any" = some none) :
    ExC K P C fI cc cda qual sI :=
  ⟨⟨⟨nm, q, N, bs, bm, sn, sub, ab, col, dd, k0, k1, k2, k3, k5, lC, hbm⟩, sa, exC, tyC, kC⟩, ⟨oc, od, kV, doc, pm, an, ct, osl, lI⟩, code, ⟨oc2, od2, vs, osl2, ff, tf, lF, h2, hfile⟩, ⟨oc3, od3, osl3, lc⟩, sup, self, ve, noS, third, ini, tyI⟩
/-- a class of own errors, by its __init__'s promise -/
theorem exc_at {K : PySem.W.Frag} {P : Program} {w : World} {h : Heap} {mg : Str → Option Value} {base : Heap} {cl : Nat → Addr} {C fI cc cda : Addr} {qual x : Str} {sI : Stmt} {k c n : Nat} {sp : Fsp} {ps : List Str} (X : K.In h) (G : h.Ns mainGlobals mg) (a : PySem.W.nsIn K mainGlobals x = some (some (.ref C))) (T : ExC K P C fI cc cda qual sI)
    (F : ∀ {fd : FuncData} {oc : Value} {od : Option Addr} {osl : Array (Option Value)}, K.lookup fI = some ⟨oc, od, .func fd, osl⟩ → FnOk P w K mg base (L2.CX P w) k fI fd ps (spI C n sp))
    (hb : ∀ (kV doc pm : Value) (an : Option Addr) (ct : Value) (us : List Value), us.length = ps.length → bindArgs (PySem.W.ksFn "__init__" qual (defArgs sI) (defBody sI) (defScope sI) .none kV doc pm an (.ref cda) ct cc) ⟨us, []⟩ = pure (ps.zip us)) (hC : C = cl c) : ExcAt P w K mg base cl k x c n sp := by
  obtain ⟨oc, od, kV, doc, pm, an, ct, osl, lI⟩ := T.fn
  exact ⟨C, fI, _, ps, T.base, T.ini, T.tyI, F lI, .all (hb kV doc pm an ct), PySem.W.mg_of X G a, hC⟩
theorem exm_at {K : PySem.W.Frag} {h : Heap} {mg : Str → Option Value} {cl : Nat → Addr} {C : Addr} {x : Str} {mt : Nat → Option Bool} (X : K.In h) (G : h.Ns mainGlobals mg) (a : PySem.W.nsIn K mainGlobals x = some (some (.ref C))) (hx : ∀ k b, mt k = some b → PySem.W.exmOne K (.ref (cl k)) (.ref C) = some b) : ExmAt K mg cl x mt := ⟨C, PySem.W.mg_of X G a, hx⟩
theorem cx_no {P : Program} (w : World) (H : Hp) (s : Shared) (e : Value) (s' : Shared) (h : L2.CX P w [] H s (fun _ _ _ => False) e s') : False := by
  obtain ⟨_, _, _, _, _, _, _, _, _, _, _, _, z⟩ := h
  exact z.elim
/-- a table of plain functions -/
def look : List (Nat × (List PV → R PV)) → Nat → List PV → R PV
  | [], _ => fun _ => .stuck
  | (k, g) :: r, n => if Nat.beq k n = true then g else look r n
end VL
namespace VL
open PySem PySem.Spec PyProof.Rows L2
/-! ### the plain functions, run by simp -/
section
variable {ρ : Ev} {r : Env} {α β : Type}
@[simp] theorem bind_okS (a : α) (f : α → R β) : (R.ok a).bind f = f a := rfl
@[simp] theorem bind_excS (c fs) (f : α → R β) : (R.exc c fs : R α).bind f = .exc c fs := rfl
@[simp] theorem bind_stuckS (f : α → R β) : (R.stuck : R α).bind f = .stuck := rfl
@[simp] theorem opt_someS (a : α) : opt (some a) = .ok a := rfl
@[simp] theorem opt_noneS : opt (none : Option α) = .stuck := rfl
@[simp] theorem eVar_0 (v : PV) (ρ : Ev) : eVar 0 (some v :: ρ) = .ok v := rfl
@[simp] theorem eVar_S (n : Nat) (x : Option PV) (ρ : Ev) : eVar (n + 1) (x :: ρ) = eVar n ρ := rfl
@[simp] theorem eC_S (v : PV) : eC v ρ = .ok v := rfl
@[simp] theorem e1_S (g) (a : Ex) : e1 g a ρ = (a ρ).bind fun x => opt (g x) := rfl
@[simp] theorem e2_S (g) (a b : Ex) : e2 g a b ρ = (a ρ).bind fun x => (b ρ).bind fun y => opt (g x y) := rfl
@[simp] theorem eIf_S (c) (a b : Ex) : eIf c a b ρ = (c ρ).bind fun t => if t = true then a ρ else b ρ := rfl
@[simp] theorem evs_0 : evs [] ρ = .ok [] := rfl
@[simp] theorem evs_S (a : Ex) (r) : evs (a :: r) ρ = (a ρ).bind fun x => (evs r ρ).bind fun xs => .ok (x :: xs) := rfl
@[simp] theorem eArgs_S (g) (as : List Ex) : eArgs g as ρ = (evs as ρ).bind g := rfl
@[simp] theorem eCB_S (g) (as : List Ex) : eCB g as ρ = (evs as ρ).bind fun xs => opt (g xs) := rfl
@[simp] theorem gTup_S (xs : List PV) (h : xs.length ≤ sizeLine) : gTupV xs = .ok (.tup xs) := if_pos h
@[simp] theorem gLst_S (xs : List PV) (h : xs.length ≤ sizeLine) : gLstV xs = .ok (.lst xs) := if_pos h
@[simp] theorem gN_S (n : Nat) (g) (us : List PV) (h : us.length = n) : gN n g us = g us := if_pos h
def asB : PV → R Bool
  | .bl b => .ok b
  | _ => .stuck
@[simp] theorem asB_b (b) : asB (.bl b) = .ok b := rfl
def asI : PV → R (Option Int)
  | .int i => .ok (some i)
  | _ => .stuck
@[simp] theorem asI_i (b) : asI (.int b) = .ok (some b) := rfl
def andK (b : Ex) (ρ : Ev) : PV → R PV
  | .bl t => if t = true then b ρ else .ok (.bl false)
  | _ => .stuck
@[simp] theorem andK_b (b ρ t) : andK b ρ (.bl t) = if t = true then b ρ else .ok (.bl false) := rfl
def orK (b : Ex) (ρ : Ev) : PV → R PV
  | .bl t => if t = true then .ok (.bl true) else b ρ
  | _ => .stuck
@[simp] theorem orK_b (b ρ t) : orK b ρ (.bl t) = if t = true then .ok (.bl true) else b ρ := rfl
def notK : PV → R PV
  | .bl t => .ok (.bl (!t))
  | _ => .stuck
@[simp] theorem notK_b (t) : notK (.bl t) = .ok (.bl (!t)) := rfl
@[simp] theorem eTst_S (a : Ex) : eTst a ρ = (a ρ).bind asB := by unfold eTst; congr <;> (funext x; cases x <;> rfl)
@[simp] theorem eTru_S (a : Ex) : eTru a ρ = (a ρ).bind fun x => opt (truV x) := rfl
@[simp] theorem cAnd_S (a b) : cAnd a b ρ = (a ρ).bind fun t => if t = true then b ρ else .ok false := rfl
@[simp] theorem cOr_S (a b) : cOr a b ρ = (a ρ).bind fun t => if t = true then .ok true else b ρ := rfl
@[simp] theorem cNot_S (a) : cNot a ρ = (a ρ).bind fun t => .ok (!t) := rfl
@[simp] theorem eAnd_S (a b : Ex) : eAnd a b ρ = (a ρ).bind (andK b ρ) := by unfold eAnd; congr <;> (funext x; cases x <;> rfl)
@[simp] theorem eOr_S (a b : Ex) : eOr a b ρ = (a ρ).bind (orK b ρ) := by unfold eOr; congr <;> (funext x; cases x <;> rfl)
@[simp] theorem eNot_S (a : Ex) : eNot a ρ = (a ρ).bind notK := by unfold eNot; congr <;> (funext x; cases x <;> rfl)
@[simp] theorem eChain_S (g g') (a b c : Ex) : eChain g g' a b c ρ = (a ρ).bind fun x => (b ρ).bind fun y => (opt (g x y)).bind (chainK g' c ρ y) := rfl
@[simp] theorem chainK_S (g') (c : Ex) (y : PV) (k : Bool) : chainK g' c ρ y (.bl k) = if k = true then (c ρ).bind fun w => opt (g' y w) else .ok (.bl false) := rfl
@[simp] theorem pNo_S : pNo ρ = .ok none := rfl
@[simp] theorem pAt_S (a : Ex) : pAt a ρ = (a ρ).bind asI := by unfold pAt; congr <;> (funext x; cases x <;> rfl)
@[simp] theorem eSl_S (a : Ex) (lo hi : Pt) : eSl a lo hi ρ = (a ρ).bind fun x => (lo ρ).bind fun l => (hi ρ).bind fun h => opt (slP x l h) := rfl
@[simp] theorem asLst_S (f) : asLst f ρ = (f ρ).bind fun xs => .ok (.lst xs) := rfl
@[simp] theorem eLst1_S (fs : List Ex) : eLst1 fs ρ = (evs fs ρ).bind fun xs => if xs.length ≤ sizeLine then .ok xs else .stuck := rfl
@[simp] theorem eO2_S (g) (a b : Ex) : eO2 g a b ρ = (a ρ).bind fun x => (b ρ).bind fun y => lstOf (g x y) := rfl
@[simp] theorem eOlist_S (a : Ex) : eOlist a ρ = (a ρ).bind fun x => lstOf (listP [x]) := rfl
def oslK (l h : Option Int) : PV → R (List PV)
  | .lst xs => .ok (cutP xs l h)
  | .src xs => .ok (cutP xs l h)
  | _ => .stuck
@[simp] theorem oslK_l (l h xs) : oslK l h (.lst xs) = .ok (cutP xs l h) := rfl
@[simp] theorem eOsl_S (a : Ex) (lo hi : Pt) : eOsl a lo hi ρ = (a ρ).bind fun x => (lo ρ).bind fun l => (hi ρ).bind fun h => oslK l h x := by
  unfold eOsl; congr <;> (funext x; congr <;> (funext l; congr <;> (funext h; cases x <;> rfl)))
@[simp] theorem lstOf_S (xs : List PV) : lstOf (some (.lst xs)) = .ok xs := rfl
@[simp] theorem eLc_S (own t it c e) : eLc own t it c e ρ = (it ρ).bind fun xs => szO (lcL t c e (wipeE ρ own) xs) := rfl
@[simp] theorem szO_S (ys : List PV) : szO (.ok ys) = if ys.length ≤ sizeLine then .ok ys else .stuck := rfl
@[simp] theorem cYes_S : cYes ρ = .ok true := rfl
@[simp] theorem iSeq_S (a : Ex) : iSeq a ρ = (a ρ).bind itemsP := rfl
def rg1 (j : Int) : R (List PV) := if -(2 ^ 62) ≤ j ∧ j < 2 ^ 62 then .ok (rangeP 0 j.toNat) else .stuck
def rg2 (i j : Int) : R (List PV) := if -(2 ^ 62) ≤ i ∧ i < 2 ^ 62 ∧ -(2 ^ 62) ≤ j ∧ j < 2 ^ 62 then .ok (rangeP i (j - i).toNat) else .stuck
@[simp] theorem rg1_nat {n : Nat} (h : n ≤ 1000000000) : rg1 (n : Int) = .ok (rangeP 0 n) := by
  unfold rg1
  rw [if_pos ⟨by omega, by omega⟩]
  rfl
theorem rg2_nat {i n : Nat} (h0 : i ≤ 1000000000) (h : n ≤ 1000000000) : rg2 (i : Int) (n : Int) = .ok (rangeP (i : Int) (n - i)) := by
  unfold rg2
  rw [if_pos ⟨by omega, by omega, by omega, by omega⟩]
  congr 2
  omega
def rgK : PV → R (List PV)
  | .int j => rg1 j
  | _ => .stuck
@[simp] theorem rgK_i (j) : rgK (.int j) = rg1 j := rfl
def rgK2 : PV → PV → R (List PV)
  | .int i, .int j => rg2 i j
  | _, _ => .stuck
@[simp] theorem rgK2_i (i j) : rgK2 (.int i) (.int j) = rg2 i j := rfl
@[simp] theorem iR1_S (a : Ex) : iR1 a ρ = (a ρ).bind rgK := by unfold iR1; congr <;> (funext x; cases x <;> rfl)
@[simp] theorem iR2_S (a b : Ex) : iR2 a b ρ = (a ρ).bind fun x => (b ρ).bind fun y => rgK2 x y := by unfold iR2; congr <;> (funext x; congr <;> (funext y; cases x <;> cases y <;> rfl))
def idxK (b : R PV) : PV → R PV
  | .lst xs => b.bind fun y => opt (idxO xs y)
  | _ => .stuck
@[simp] theorem idxK_l (b xs) : idxK b (.lst xs) = b.bind fun y => opt (idxO xs y) := rfl
@[simp] theorem eIdxL_S (a b : Ex) : eIdxL a b ρ = (a ρ).bind (idxK (b ρ)) := by unfold eIdxL; congr <;> (funext x; cases x <;> rfl)
def idxS (ys : List Str) : PV → R PV
  | .str z => opt ((ys.findIdx? fun x => x == z).map fun (j : Nat) => PV.int ((j : Nat) : Int))
  | _ => .stuck
@[simp] theorem idxS_s (ys z) : idxS ys (.str z) = opt ((ys.findIdx? fun x => x == z).map fun (j : Nat) => PV.int ((j : Nat) : Int)) := rfl
@[simp] theorem eIdxT_S (ys : List Str) (b : Ex) : eIdxT ys b ρ = (b ρ).bind (idxS ys) := by unfold eIdxT; congr <;> (funext x; cases x <;> rfl)
@[simp] theorem wipeE_0 : wipeE ρ [] = ρ := rfl
@[simp] theorem wipeE_S (v vs) : wipeE ρ (v :: vs) = (wipeE ρ vs).set v none := rfl
@[simp] theorem setE_0 : setE [] ρ = ρ := rfl
@[simp] theorem setE_S (i v) (as : As) : setE ((i, v) :: as) ρ = setE as (ρ.set i (some v)) := rfl
@[simp] theorem setS_0 : setS [] r = r := rfl
@[simp] theorem setS_S (i v) (as : As) : setS ((i, v) :: as) r = setS as (r.set i (.fz v)) := rfl
@[simp] theorem tN_S (i : Nat) (v : PV) : tN i v = some [(i, v)] := rfl
@[simp] theorem tT_S (ts : List Tg) (vs : List PV) : tT ts (.tup vs) = tTs ts vs := rfl
@[simp] theorem tTs_0 : tTs [] [] = some [] := rfl
@[simp] theorem tTs_S (t : Tg) (ts : List Tg) (v : PV) (vs : List PV) : tTs (t :: ts) (v :: vs) = (t v).bind fun a => (tTs ts vs).map (a ++ ·) := rfl
/-! slots -/
@[simp] theorem vw_0 (bs : List Bool) : vw bs [] = [] := by unfold vw; rfl
def vw1 (b : Bool) : Sl → Option PV
  | .no => none
  | .fz v => some v
  | .own xs => if b = true then some (.lst xs) else none
@[simp] theorem vw1_n (b) : vw1 b .no = none := rfl
@[simp] theorem vw1_f (b v) : vw1 b (.fz v) = some v := rfl
@[simp] theorem vw1_t (xs) : vw1 true (.own xs) = some (.lst xs) := rfl
@[simp] theorem vw1_o (xs) : vw1 false (.own xs) = none := rfl
@[simp] theorem vw_cons (bs : List Bool) (s : Sl) : vw bs (s :: r) = vw1 (bs.headD false) s :: vw bs.tail r := by cases s <;> rw [vw] <;> rfl
@[simp] theorem fr_0 (bs : List Bool) : fr bs [] = [] := by unfold fr; rfl
def fr1 (b : Bool) : Sl → Sl
  | .own xs => if b = true then .fz (.lst xs) else .own xs
  | s => s
@[simp] theorem fr1_n (b) : fr1 b .no = .no := rfl
@[simp] theorem fr1_f (b v) : fr1 b (.fz v) = .fz v := rfl
@[simp] theorem fr1_t (xs) : fr1 true (.own xs) = .fz (.lst xs) := rfl
@[simp] theorem fr1_o (s) : fr1 false s = s := by cases s <;> rfl
@[simp] theorem fr_cons (bs : List Bool) (s : Sl) : fr bs (s :: r) = fr1 (bs.headD false) s :: fr bs.tail r := by cases s <;> rw [fr] <;> rfl
@[simp] theorem settle_t (bs : List Bool) : settle bs true r = r := rfl
@[simp] theorem settle_f (bs : List Bool) : settle bs false r = fr bs r := rfl
@[simp] theorem settle_nil (b : Bool) : settle [] b r = r := by
  have : fr [] r = r := by
    induction r with
    | nil => simp
    | cons s r ih => simp [ih]
  unfold settle
  rw [this]
  split <;> rfl
@[simp] theorem startE_S (n : Nat) (us : List PV) : startE n us = us.map Sl.fz ++ List.replicate (n - us.length) Sl.no := rfl
@[simp] theorem sPass_S : sPass r = .next r := rfl
@[simp] theorem sBreak_S : sBreak r = .brk r := rfl
@[simp] theorem sCont_S : sCont r = .cont r := rfl
@[simp] theorem sRetN_S : sRetN r = .ret .non := rfl
def seqK (t : Env → Out) : Out → Out
  | .next ρ => t ρ
  | o => o
@[simp] theorem seqK_n (t r) : seqK t (.next r) = t r := rfl
@[simp] theorem seqK_b (t r) : seqK t (.brk r) = .brk r := rfl
@[simp] theorem seqK_c (t r) : seqK t (.cont r) = .cont r := rfl
@[simp] theorem seqK_r (t v) : seqK t (.ret v) = .ret v := rfl
@[simp] theorem seqK_e (t c fs r) : seqK t (.exc c fs r) = .exc c fs r := rfl
@[simp] theorem seqK_s (t) : seqK t .stuck = .stuck := rfl
@[simp] theorem sSeq_S (s t : Env → Out) : sSeq s t r = seqK t (s r) := by unfold sSeq seqK; cases s r <;> rfl
def onK (nl : α → Bool) (bs : List Bool) (r : Env) (k : α → Env → Out) : R α → Out
  | .ok v => k v (settle bs (nl v) r)
  | .exc c fs => .exc c fs (fr bs r)
  | .stuck => .stuck
@[simp] theorem onK_o (nl : α → Bool) (bs r k) (v : α) : onK nl bs r k (.ok v) = k v (settle bs (nl v) r) := rfl
@[simp] theorem onK_e (nl : α → Bool) (bs r k c fs) : onK nl bs r k (.exc c fs) = .exc c fs (fr bs r) := rfl
@[simp] theorem onK_s (nl : α → Bool) (bs r k) : onK nl bs r k .stuck = .stuck := rfl
@[simp] theorem onE_S (nl : α → Bool) (f : Ev → R α) (bs : List Bool) (k : α → Env → Out) : onE nl f bs r k = onK nl bs r k (f (vw bs r)) := by unfold onE onK; cases f (vw bs r) <;> rfl
@[simp] theorem onO_S (f : Ev → R (List PV)) (bs : List Bool) (k : List PV → Env → Out) : onO f bs r k = onK PV.nols bs r k (f (vw bs r)) := by unfold onO onK; cases f (vw bs r) <;> rfl
@[simp] theorem sExpr_S (bs f) : sExpr bs f r = onE PV.nol f bs r fun _ ρ' => .next ρ' := rfl
@[simp] theorem sRet_S (bs f) : sRet bs f r = onE PV.nol f bs r fun v _ => .ret v := rfl
@[simp] theorem sSet_S (i bs f) : sSet i bs f r = onE PV.nol f bs r fun v ρ' => .next (ρ'.set i (.fz v)) := rfl
def tgK (r : Env) : Option As → Out
  | some as => .next (setS as r)
  | none => .stuck
@[simp] theorem tgK_s (r as) : tgK r (some as) = .next (setS as r) := rfl
@[simp] theorem sTg_S (t bs f) : sTg t bs f r = onE PV.nol f bs r fun v ρ' => tgK ρ' (t v) := by unfold sTg; congr <;> (funext v ρ'; cases t v <;> rfl)
@[simp] theorem sPar_S (is bs fs) : sPar is bs fs r = onE PV.nols (evs fs) bs r fun vs ρ' => .next (setS (is.zip vs) ρ') := rfl
@[simp] theorem sOwn_S (i bs f) : sOwn i bs f r = onO f bs r fun xs ρ' => .next (ρ'.set i (.own xs)) := rfl
def ownK (k : List PV → Out) : Option (List PV) → Out
  | some xs => k xs
  | none => .stuck
@[simp] theorem ownK_s (k xs) : ownK k (some xs) = k xs := rfl
@[simp] theorem sMet_S (i g bs fs) : sMet i g bs fs r = ownK (fun _ => onE PV.nols (evs fs) bs r fun vs ρ' => ownK (fun xs => ownK (fun ys => .next (ρ'.set i (.own ys))) (g xs vs)) (getO ρ' i)) (getO r i) := by
  unfold sMet
  cases getO r i with
  | none => rfl
  | some _ =>
    rw [ownK_s]
    refine congrArg (fun k => onE PV.nols (evs fs) bs r k) ?_
    funext vs ρ'
    cases getO ρ' i with
    | none => rfl
    | some xs =>
      rw [ownK_s]
      show (match g xs vs with | none => Out.stuck | some ys => Out.next (List.set ρ' i (Sl.own ys))) = _
      cases g xs vs <;> rfl
def putK (i : Nat) (v : PV) (ρ2 : Env) : Option (List PV) → PV → Out
  | some xs, .int z => ownK (fun _ => ownK (fun ys => .next (ρ2.set i (.own ys))) ((ixN xs.length z).map fun j => xs.set j v)) (some [])
  | _, _ => .stuck
@[simp] theorem putK_s (i v ρ2 xs z) : putK i v ρ2 (some xs) (.int z) = ownK (fun ys => .next (ρ2.set i (.own ys))) ((ixN xs.length z).map fun j => xs.set j v) := rfl
@[simp] theorem sPut_S (i bs fv fi) : sPut i bs fv fi r = onE PV.nol fv bs r fun v ρ1 => ownK (fun _ => onE PV.nol fi bs ρ1 fun k ρ2 => putK i v ρ2 (getO ρ2 i) k) (getO ρ1 i) := by
  unfold sPut
  refine congrArg (fun k => onE PV.nol fv bs r k) ?_
  funext v ρ1
  cases getO ρ1 i with
  | none => rfl
  | some _ =>
    rw [ownK_s]
    refine congrArg (fun k => onE PV.nol fi bs ρ1 k) ?_
    funext k ρ2
    cases getO ρ2 i with
    | none => rfl
    | some xs =>
      cases k with
      | int z =>
        show _ = putK i v ρ2 (some xs) (.int z)
        rw [putK_s]
        show (match ixN xs.length z with | some j => Out.next (ρ2.set i (.own (xs.set j v))) | none => Out.stuck) = _
        cases ixN xs.length z <;> rfl
      | _ => rfl
def augK (g : PV → PV → Option PV) (f : Ex) (bs : List Bool) (i : Nat) (r : Env) : Option Sl → Out
  | some (.fz x) => onE PV.nol f bs r fun y ρ' => ownK (fun z => .next (ρ'.set i (.fz (z.headD .non)))) ((g x y).map fun z => [z])
  | _ => .stuck
@[simp] theorem augK_s (g f bs i r x) : augK g f bs i r (some (.fz x)) = onE PV.nol f bs r fun y ρ' => ownK (fun z => .next (ρ'.set i (.fz (z.headD .non)))) ((g x y).map fun z => [z]) := rfl
@[simp] theorem sAug_S (i g bs f) : sAug i g bs f r = augK g f bs i r r[i]? := by
  unfold sAug
  cases r[i]? with
  | none => rfl
  | some s =>
    cases s with
    | fz x =>
      rw [augK_s]
      refine congrArg (fun k => onE PV.nol f bs r k) ?_
      funext y ρ'
      cases g x y <;> rfl
    | _ => rfl
@[simp] theorem sIf_S (bs c s t) : sIf bs c s t r = onE (fun _ => true) c bs r fun b ρ' => if b = true then s ρ' else t ρ' := rfl
@[simp] theorem sFor_S (nl t bs it s) : sFor nl t bs it s r = onE (fun _ => nl) it bs r fun xs ρ' => forL t s xs ρ' := rfl
def raiK (c : Nat) (r : Env) : Option (List (Str × PV)) → Out
  | some f => .exc c f r
  | none => .stuck
@[simp] theorem raiK_s (c r f) : raiK c r (some f) = .exc c f r := rfl
@[simp] theorem sRaise_S (c mk bs fs) : sRaise c mk bs fs r = onE PV.nols (evs fs) bs r fun us ρ' => raiK c ρ' (mk us) := by
  unfold sRaise; congr <;> (funext us ρ'; cases mk us <;> rfl)
def tryK (hs : List Hd) : Out → Out
  | .exc c fs ρ' => tryH c fs ρ' hs
  | o => o
@[simp] theorem tryK_e (hs c fs r) : tryK hs (.exc c fs r) = tryH c fs r hs := rfl
@[simp] theorem tryK_n (hs r) : tryK hs (.next r) = .next r := rfl
@[simp] theorem tryK_r (hs v) : tryK hs (.ret v) = .ret v := rfl
@[simp] theorem sTry_S (s hs) : sTry s hs r = tryK hs (s r) := by unfold sTry tryK; cases s r <;> rfl
@[simp] theorem getO_0 (xs : List PV) : getO (.own xs :: r) 0 = some xs := rfl
@[simp] theorem getO_S (s : Sl) (n : Nat) : getO (s :: r) (n + 1) = getO r n := by cases s <;> rfl
@[simp] theorem outR_n : outR (.next r) = .ok .non := rfl
@[simp] theorem outR_r (v : PV) : outR (.ret v) = .ok v := rfl
@[simp] theorem outR_e (c fs) : outR (.exc c fs r) = .exc c fs := rfl
@[simp] theorem outR_s : outR .stuck = .stuck := rfl
@[simp] theorem forL_0 (t s) : forL t s [] r = .next r := rfl
end
/-! values -/
@[simp] theorem nol_non : PV.nol .non = true := by simp [PV.nol]
@[simp] theorem nol_bl (b) : PV.nol (.bl b) = true := by simp [PV.nol]
@[simp] theorem nol_int (b) : PV.nol (.int b) = true := by simp [PV.nol]
@[simp] theorem nol_str (b) : PV.nol (.str b) = true := by simp [PV.nol]
@[simp] theorem nol_lst (b) : PV.nol (.lst b) = false := by simp [PV.nol]
@[simp] theorem nol_src (b) : PV.nol (.src b) = false := by simp [PV.nol]
@[simp] theorem nol_tup (b) : PV.nol (.tup b) = PV.nols b := by simp [PV.nol]
@[simp] theorem nols_0 : PV.nols [] = true := by simp [PV.nols]
@[simp] theorem nols_S (x xs) : PV.nols (x :: xs) = (PV.nol x && PV.nols xs) := by simp [PV.nols]
@[simp] theorem addP_i (i j) : addP (.int i) (.int j) = some (.int (i + j)) := rfl
@[simp] theorem addP_l (i j) : addP (.lst i) (.lst j) = if i.length + j.length ≤ sizeLine then some (.lst (i ++ j)) else none := rfl
@[simp] theorem addP_s (i j) : addP (.str i) (.str j) = if i.length + j.length ≤ sizeLine then some (.str (i ++ j)) else none := rfl
@[simp] theorem addIP_i (i j) : addIP (.int i) (.int j) = some (.int (i + j)) := rfl
@[simp] theorem subP_i (i j) : subP (.int i) (.int j) = some (.int (i - j)) := rfl
@[simp] theorem mulP_i (i j) : mulP (.int i) (.int j) = if mulOk i j = true then some (.int (i * j)) else none := rfl
@[simp] theorem mulP_l (xs k) : mulP (.lst xs) (.int k) = if -(2 ^ 63) ≤ k ∧ k < 2 ^ 63 ∧ xs.length * k.toNat ≤ sizeLine then some (.lst (List.replicate k.toNat xs).flatten) else none := rfl
@[simp] theorem modP_i (i j) : modP (.int i) (.int j) = if 0 < j then some (.int (i % j)) else none := rfl
@[simp] theorem divP_i (i j) : divP (.int i) (.int j) = if 0 < j ∧ j < bigI then some (.int (i / j)) else if j < 0 ∧ -bigI < j then some (.int ((-i) / (-j))) else none := rfl
@[simp] theorem negP_i (i) : negP (.int i) = some (.int (-i)) := rfl
@[simp] theorem ltP_i (i j) : ltP (.int i) (.int j) = some (.bl (decide (i < j))) := rfl
@[simp] theorem leP_i (i j) : leP (.int i) (.int j) = some (.bl (decide (i ≤ j))) := rfl
@[simp] theorem gtP_i (i j) : gtP (.int i) (.int j) = some (.bl (decide (j < i))) := rfl
@[simp] theorem geP_i (i j) : geP (.int i) (.int j) = some (.bl (decide (j ≤ i))) := rfl
@[simp] theorem eqB_i (i j) : eqB (.int i) (.int j) = some (decide (i = j)) := rfl
@[simp] theorem eqB_s (i j) : eqB (.str i) (.str j) = some (decide (i = j)) := rfl
@[simp] theorem eqB_b (i j) : eqB (.bl i) (.bl j) = some (decide (i = j)) := rfl
@[simp] theorem eqB_n : eqB .non .non = some true := rfl
@[simp] theorem eqP_S (x y) : eqP x y = (eqB x y).map .bl := rfl
@[simp] theorem neP_S (x y) : neP x y = (eqB x y).map fun b => .bl (!b) := rfl
@[simp] theorem inP_S (x y) : inP x y = (inB x y).map .bl := rfl
@[simp] theorem ninP_S (x y) : ninP x y = (inB x y).map fun b => .bl (!b) := rfl
@[simp] theorem isP_n : isP .non .non = some (.bl true) := rfl
@[simp] theorem isP_i (i) : isP (.int i) .non = some (.bl false) := rfl
@[simp] theorem isP_t (i) : isP (.tup i) .non = some (.bl false) := rfl
@[simp] theorem isP_l (i) : isP (.lst i) .non = some (.bl false) := rfl
@[simp] theorem isP_b (a b) : isP (.bl a) (.bl b) = some (.bl (decide (a = b))) := rfl
@[simp] theorem isntP_n : isntP .non .non = some (.bl false) := rfl
@[simp] theorem isntP_i (i) : isntP (.int i) .non = some (.bl true) := rfl
@[simp] theorem isntP_t (i) : isntP (.tup i) .non = some (.bl true) := rfl
@[simp] theorem isntP_l (i) : isntP (.lst i) .non = some (.bl true) := rfl
@[simp] theorem isntP_b (a b) : isntP (.bl a) (.bl b) = some (.bl (!decide (a = b))) := rfl
@[simp] theorem ixP_l (xs i) : ixP (.lst xs) (.int i) = atI xs i := rfl
@[simp] theorem ixP_r (xs i) : ixP (.src xs) (.int i) = atI xs i := rfl
@[simp] theorem ixP_t (xs i) : ixP (.tup xs) (.int i) = atI xs i := rfl
@[simp] theorem lenP_l (xs) : lenP [.lst xs] = some (.int xs.length) := rfl
@[simp] theorem lenP_r (xs) : lenP [.src xs] = some (.int xs.length) := rfl
@[simp] theorem lenP_t (xs) : lenP [.tup xs] = some (.int xs.length) := rfl
@[simp] theorem absP_i (i) : absP [.int i] = some (.int (if i < 0 then -i else i)) := rfl
@[simp] theorem intP_i (i) : intP [.int i] = some (.int i) := rfl
@[simp] theorem intP_b (b) : intP [.bl b] = some (.int (if b then 1 else 0)) := rfl
@[simp] theorem minP_i (i j) : minP [.int i, .int j] = some (.int (if j < i then j else i)) := rfl
@[simp] theorem maxP_i (i j) : maxP [.int i, .int j] = some (.int (if j > i then j else i)) := rfl
@[simp] theorem sumP_l (xs) : sumP [.lst xs] = (intsP xs).map fun ns => .int ns.sum := rfl
@[simp] theorem listP_l (xs) : listP [.lst xs] = some (.lst xs) := rfl
@[simp] theorem listP_r (xs) : listP [.src xs] = some (.lst xs) := rfl
@[simp] theorem listP_t (xs) : listP [.tup xs] = some (.lst xs) := rfl
@[simp] theorem slP_l (xs lo hi) : slP (.lst xs) lo hi = some (.lst (cutP xs lo hi)) := rfl
@[simp] theorem slP_t (xs lo hi) : slP (.tup xs) lo hi = some (.tup (cutP xs lo hi)) := rfl
@[simp] theorem itemsP_l (xs) : itemsP (.lst xs) = .ok xs := rfl
@[simp] theorem itemsP_t (xs) : itemsP (.tup xs) = .ok xs := rfl
@[simp] theorem truV_b (b) : truV (.bl b) = some b := rfl
@[simp] theorem truV_i (i) : truV (.int i) = some (i != 0) := rfl
@[simp] theorem mApp_S (xs v) : mApp xs [v] = if xs.length < sizeLine then some (xs ++ [v]) else none := rfl
@[simp] theorem isa_S (x n) : isaP [x, .ty n] = (tyName x).bind fun t => (isaT t n).map .bl := rfl
@[simp] theorem tyName_i (i) : tyName (.int i) = some "int" := rfl
@[simp] theorem tyName_t (i) : tyName (.tup i) = some "tuple" := rfl
@[simp] theorem tyName_l (i) : tyName (.lst i) = some "list" := rfl
@[simp] theorem tyName_b (i) : tyName (.bl i) = some "bool" := rfl
@[simp] theorem tyName_s (i) : tyName (.str i) = some "str" := rfl
@[simp] theorem tyName_n : tyName .non = some "NoneType" := rfl
@[simp] theorem isaT_1 : isaT "int" "int" = some true := by decide
@[simp] theorem isaT_2 : isaT "bool" "int" = some true := by decide
@[simp] theorem isaT_3 : isaT "tuple" "tuple" = some true := by decide
@[simp] theorem isaT_4 : isaT "int" "tuple" = some false := by decide
@[simp] theorem isaT_5 : isaT "int" "bool" = some false := by decide
@[simp] theorem isaT_6 : isaT "bool" "bool" = some true := by decide
@[simp] theorem isaT_7 : isaT "NoneType" "bool" = some false := by decide
@[simp] theorem isaT_8 : isaT "NoneType" "int" = some false := by decide
@[simp] theorem isaT_9 : isaT "str" "int" = some false := by decide
theorem szl : sizeLine = 16777216 := sizeLine_eq
/-! indexing -/
theorem atI_nat' {α : Type} {xs : List α} {i : Nat} (h : i < xs.length) : atI xs (i : Int) = some xs[i] := by
  rw [atI_nat (j := i) (List.getElem?_eq_getElem h)]
theorem atI_get {α : Type} {xs : List α} {i : Int} (h0 : 0 ≤ i) (h : i.toNat < xs.length) : atI xs i = some xs[i.toNat] := by
  obtain ⟨n, rfl⟩ := Int.eq_ofNat_of_zero_le h0
  exact atI_nat' (by simpa using h)
theorem atI_neg1 {α : Type} {xs : List α} (h : xs ≠ []) : atI xs (-1) = xs.getLast? := by
  have hl : 0 < xs.length := List.length_pos_iff.mpr h
  unfold atI ixN
  rw [List.getLast?_eq_getElem?, if_neg (by decide), if_pos (by omega)]
  show xs[(-1 + (xs.length : Int)).toNat]? = _
  congr 1
  omega
/-! loops -/
theorem forL_by {t : Tg} {s : Env → Out} {Q : Out → Prop} : ∀ {vs : List PV} {r : Env} (I : Nat → Env → Prop), I 0 r →
    (∀ i v r, vs[i]? = some v → I i r → ∃ as, t v = some as ∧ ((∃ r', (s (setS as r) = .next r' ∨ s (setS as r) = .cont r') ∧ I (i + 1) r') ∨ (∃ r', s (setS as r) = .brk r' ∧ Q (.next r')) ∨ (∃ v, s (setS as r) = .ret v ∧ Q (.ret v)) ∨ ∃ c fs r', s (setS as r) = .exc c fs r' ∧ Q (.exc c fs r'))) →
    (∀ r, I vs.length r → Q (.next r)) → Q (forL t s vs r)
  | [], r, I, h0, _, fin => fin r h0
  | v :: vs, r, I, h0, step, fin => by
    obtain ⟨as, e1, h⟩ := step 0 v r rfl h0
    unfold forL
    rw [e1]
    have rest : ∀ r', I 1 r' → Q (forL t s vs r') := fun r' h1 => forL_by (fun i => I (i + 1)) h1 (fun i v r hv hi => step (i + 1) v r (by simpa using hv) hi) (fun r hr => fin r (by simpa using hr))
    rcases h with ⟨r', e2 | e2, h1⟩ | ⟨r', e2, q⟩ | ⟨v, e2, q⟩ | ⟨c, fs, r', e2, q⟩
    · simp only [e2]; exact rest r' h1
    · simp only [e2]; exact rest r' h1
    · simp only [e2]; exact q
    · simp only [e2]; exact q
    · simp only [e2]; exact q
@[simp] theorem rangeP_len (lo : Int) (n : Nat) : (rangeP lo n).length = n := by simp [rangeP]
theorem rangeP_get {lo : Int} {n i : Nat} {v : PV} (h : (rangeP lo n)[i]? = some v) : i < n ∧ v = .int (lo + (i : Int)) := by
  unfold rangeP at h
  rw [List.getElem?_map] at h
  have hi : i < n := by
    by_cases hi : i < n
    · exact hi
    · rw [List.getElem?_eq_none (by simpa using hi)] at h; cases h
  rw [List.getElem?_range hi] at h
  cases h
  exact ⟨hi, rfl⟩
theorem lcL_map {γ : Type} {t : Tg} {e : Ex} {ρ : Ev} (enc h : γ → PV) : ∀ (xs : List γ), (∀ x ∈ xs, ∃ as, t (enc x) = some as ∧ e (setE as ρ) = .ok (h x)) → lcL t cYes e ρ (xs.map enc) = .ok (xs.map h)
  | [], _ => rfl
  | x :: xs, H => by
    obtain ⟨as, e1, e2⟩ := H x List.mem_cons_self
    have ih := lcL_map enc h xs fun y hy => H y (List.mem_cons_of_mem _ hy)
    simp only [List.map_cons, lcL, e1, cYes_S, e2, ih]
theorem lcL_filter {γ : Type} {t : Tg} {c : Ev → R Bool} {e : Ex} {ρ : Ev} (enc h : γ → PV) (p : γ → Bool) : ∀ (xs : List γ), (∀ x ∈ xs, ∃ as, t (enc x) = some as ∧ c (setE as ρ) = .ok (p x) ∧ (p x = true → e (setE as ρ) = .ok (h x))) → lcL t c e ρ (xs.map enc) = .ok ((xs.filter p).map h)
  | [], _ => rfl
  | x :: xs, H => by
    obtain ⟨as, e1, e2, e3⟩ := H x List.mem_cons_self
    have ih := lcL_filter enc h p xs fun y hy => H y (List.mem_cons_of_mem _ hy)
    cases hp : p x with
    | true => simp only [List.map_cons, lcL, e1, e2, hp, e3 hp, ih, List.filter_cons, if_true]
    | false => simp only [List.map_cons, lcL, e1, e2, hp, ih, List.filter_cons]; rfl
@[simp] theorem intsP_map (ns : List Int) : intsP (ns.map .int) = some ns := by
  induction ns with
  | nil => rfl
  | cons n ns ih => simp [intsP, ih]
@[simp] theorem mulOk_r {i j : Int} (h : -18446744073709551616 < j ∧ j < 18446744073709551616) : mulOk i j = true := by
  unfold mulOk
  rw [show ((2 : Int) ^ 64) = 18446744073709551616 from by decide, decide_eq_true h.1, decide_eq_true h.2]
  simp
theorem mulOk_l {i j : Int} (h : -18446744073709551616 < i ∧ i < 18446744073709551616) : mulOk i j = true := by
  unfold mulOk
  rw [show ((2 : Int) ^ 64) = 18446744073709551616 from by decide, decide_eq_true h.1, decide_eq_true h.2]
  simp
theorem bigI_of {j : Int} (h : j < 18446744073709551616) : j < bigI := lt_bigI (by rw [show ((2 : Int) ^ 64) = 18446744073709551616 from by decide]; exact h)
end VL
namespace VL
open PySem PySem.Spec PyProof.Rows L2
/-! ### == of values that are lists and tuples -/
/-- a text without odd signs -/
abbrev okS (z : Str) : Bool := PyData.canLay0 (.str z)
def PV.tm (n : Nat) (x : PV) : Bool := match x.data with
  | some d => PyData.canLay0 d && decide (d.depth ≤ n)
  | none => false
def PV.tms (n : Nat) (x : List PV) : Bool := match PV.datas x with
  | some d => PyData.canLayAll0 d && decide (PyData.depthAll d ≤ n)
  | none => false
def PV.eqv (x y : PV) : Bool := match x.data, y.data with
  | some d, some e => PyData.eqv d e
  | _, _ => false
def PV.eqvs (x y : List PV) : Bool := match PV.datas x, PV.datas y with
  | some d, some e => PyData.eqvAll d e
  | _, _ => false
@[simp] theorem tm_i (n i) : PV.tm n (.int i) = true := by simp [PV.tm, PV.data, PyData.canLay0, PyData.depth]
@[simp] theorem tm_b (n i) : PV.tm n (.bl i) = true := by simp [PV.tm, PV.data, PyData.canLay0, PyData.depth]
@[simp] theorem tm_n (n) : PV.tm n .non = true := by simp [PV.tm, PV.data, PyData.canLay0, PyData.depth]
@[simp] theorem tm_s (n i) : PV.tm n (.str i) = okS i := by simp [PV.tm, PV.data, PyData.depth]
@[simp] theorem tm_t (n xs) : PV.tm (n + 1) (.tup xs) = PV.tms n xs := by
  unfold PV.tm PV.tms
  simp only [PV.data]
  cases PV.datas xs with
  | none => rfl
  | some d => simp [PyData.canLay0, PyData.depth]
@[simp] theorem tm_l (n xs) : PV.tm (n + 1) (.lst xs) = PV.tms n xs := by
  unfold PV.tm PV.tms
  simp only [PV.data]
  cases PV.datas xs with
  | none => rfl
  | some d => simp [PyData.canLay0, PyData.depth]
@[simp] theorem tms_0 (n) : PV.tms n [] = true := by simp [PV.tms, PV.datas, PyData.canLayAll0, PyData.depthAll]
@[simp] theorem tms_S (n x xs) : PV.tms n (x :: xs) = (PV.tm n x && PV.tms n xs) := by
  unfold PV.tm PV.tms
  simp only [PV.datas]
  cases PV.data x with
  | none => simp
  | some d =>
    cases PV.datas xs with
    | none => simp
    | some ds =>
      simp only [Option.bind_some, Option.map_some, PyData.canLayAll0, PyData.depthAll]
      rw [Bool.eq_iff_iff]
      simp only [Bool.and_eq_true, decide_eq_true_eq, Nat.max_le]
      constructor
      · rintro ⟨⟨a, b⟩, c, d⟩; exact ⟨⟨a, c⟩, b, d⟩
      · rintro ⟨⟨a, b⟩, c, d⟩; exact ⟨⟨a, c⟩, b, d⟩
theorem tms_iff {n : Nat} : ∀ {xs : List PV}, PV.tms n xs = true ↔ ∀ x ∈ xs, PV.tm n x = true
  | [] => by simp
  | x :: xs => by simp [tms_iff]
@[simp] theorem eqv_ii (i j) : PV.eqv (.int i) (.int j) = decide (i = j) := by
  show (i == j) = decide (i = j)
  rfl
@[simp] theorem eqv_ss (i j) : PV.eqv (.str i) (.str j) = decide (i = j) := by
  show PyData.eqv (.str i) (.str j) = _
  simp only [PyData.eqv]
  rfl
@[simp] theorem eqv_bb (i j) : PV.eqv (.bl i) (.bl j) = decide (i = j) := by cases i <;> cases j <;> rfl
@[simp] theorem eqv_nn : PV.eqv .non .non = true := rfl
@[simp] theorem eqv_ni (i) : PV.eqv .non (.int i) = false := rfl
@[simp] theorem eqv_in (i) : PV.eqv (.int i) .non = false := rfl
@[simp] theorem eqv_nt (xs) : PV.eqv .non (.tup xs) = false := by
  unfold PV.eqv; simp only [PV.data]; cases PV.datas xs <;> simp [PyData.eqv]
@[simp] theorem eqv_tn (xs) : PV.eqv (.tup xs) .non = false := by
  unfold PV.eqv; simp only [PV.data]; cases PV.datas xs <;> simp [PyData.eqv]
@[simp] theorem eqv_nl (xs) : PV.eqv .non (.lst xs) = false := by
  unfold PV.eqv; simp only [PV.data]; cases PV.datas xs <;> simp [PyData.eqv]
@[simp] theorem eqv_ln (xs) : PV.eqv (.lst xs) .non = false := by
  unfold PV.eqv; simp only [PV.data]; cases PV.datas xs <;> simp [PyData.eqv]
@[simp] theorem eqv_ns (xs) : PV.eqv .non (.str xs) = false := rfl
@[simp] theorem eqv_sn (xs) : PV.eqv (.str xs) .non = false := rfl
@[simp] theorem eqv_tt (xs ys) : PV.eqv (.tup xs) (.tup ys) = PV.eqvs xs ys := by
  unfold PV.eqv PV.eqvs; simp only [PV.data]; cases PV.datas xs <;> cases PV.datas ys <;> simp [PyData.eqv]
@[simp] theorem eqv_ll (xs ys) : PV.eqv (.lst xs) (.lst ys) = PV.eqvs xs ys := by
  unfold PV.eqv PV.eqvs; simp only [PV.data]; cases PV.datas xs <;> cases PV.datas ys <;> simp [PyData.eqv]
@[simp] theorem eqvs_00 : PV.eqvs [] [] = true := by simp [PV.eqvs, PV.datas, PyData.eqvAll]
@[simp] theorem eqvs_0S (x xs) : PV.eqvs [] (x :: xs) = false := by
  unfold PV.eqvs; simp only [PV.datas]; cases PV.data x <;> cases PV.datas xs <;> simp [PyData.eqvAll]
@[simp] theorem eqvs_S0 (x xs) : PV.eqvs (x :: xs) [] = false := by
  unfold PV.eqvs; simp only [PV.datas]; cases PV.data x <;> cases PV.datas xs <;> simp [PyData.eqvAll]
theorem eqvs_SS {x xs y ys} {n : Nat} (hx : PV.tms n (x :: xs) = true) (hy : PV.tms n (y :: ys) = true) : PV.eqvs (x :: xs) (y :: ys) = (PV.eqv x y && PV.eqvs xs ys) := by
  unfold PV.tms at hx hy
  unfold PV.eqvs PV.eqv
  simp only [PV.datas] at *
  cases e1 : PV.data x <;> cases e2 : PV.datas xs <;> cases e3 : PV.data y <;> cases e4 : PV.datas ys <;> simp_all [PyData.eqvAll]
theorem eqB_tm {x y : PV} (hx : PV.tm 64 x = true) (hy : PV.tm 64 y = true) : eqB x y = some (PV.eqv x y) := by
  have gen : (match x.data, y.data with
    | some d, some e => if SeqAt.shaped d = true ∧ SeqAt.shaped e = true then some (PyData.eqv d e) else none
    | _, _ => none) = some (PV.eqv x y) := by
    unfold PV.tm at hx hy
    unfold PV.eqv
    cases e1 : x.data with
    | none => rw [e1] at hx; cases hx
    | some d =>
      cases e2 : y.data with
      | none => rw [e2] at hy; cases hy
      | some e =>
        rw [e1] at hx
        rw [e2] at hy
        exact if_pos ⟨hx, hy⟩
  cases x <;> cases y <;> first | exact gen | simp
theorem eqvs_len : ∀ {xs ys : List PV}, PV.eqvs xs ys = true → xs.length = ys.length
  | [], [], _ => rfl
  | [], _ :: _, h => by simp at h
  | _ :: _, [], h => by simp at h
  | x :: xs, y :: ys, h => by
    unfold PV.eqvs at h
    simp only [PV.datas] at h
    cases e1 : PV.data x <;> cases e2 : PV.datas xs <;> cases e3 : PV.data y <;> cases e4 : PV.datas ys <;> simp [e1, e2, e3, e4] at h
    rename_i a b c d
    simp only [PyData.eqvAll, Bool.and_eq_true] at h
    have := eqvs_len (xs := xs) (ys := ys) (by unfold PV.eqvs; rw [e2, e4]; exact h.2)
    simp [this]
/-- lists of values of one make -/
theorem eqvs_map {γ : Type} [DecidableEq γ] {f : γ → PV} {n : Nat} (hf : ∀ x, PV.tm n (f x) = true → True) (ht : ∀ a b, PV.eqv (f a) (f b) = decide (a = b)) : ∀ {xs ys : List γ}, (∀ x ∈ xs, PV.tm n (f x) = true) → (∀ x ∈ ys, PV.tm n (f x) = true) → PV.eqvs (xs.map f) (ys.map f) = decide (xs = ys)
  | [], [], _, _ => by simp
  | [], y :: ys, _, _ => by simp
  | x :: xs, [], _, _ => by simp
  | x :: xs, y :: ys, h1, h2 => by
    have t1 : PV.tms n ((x :: xs).map f) = true := tms_iff.mpr fun z hz => by
      obtain ⟨a, ha, rfl⟩ := List.mem_map.mp hz
      exact h1 a ha
    have t2 : PV.tms n ((y :: ys).map f) = true := tms_iff.mpr fun z hz => by
      obtain ⟨a, ha, rfl⟩ := List.mem_map.mp hz
      exact h2 a ha
    rw [List.map_cons, List.map_cons, eqvs_SS t1 t2, ht, eqvs_map hf ht (fun a ha => h1 a (List.mem_cons_of_mem _ ha)) (fun a ha => h2 a (List.mem_cons_of_mem _ ha))]
    rw [Bool.eq_iff_iff]
    simp
end VL
namespace PF
open PySem PySem.Spec PyProof.Rows L2 VL
def c_MOST_PART : PV := .int 100
def c_MOST_PLACE : PV := .int 100000
def c_MOST_SPEED : PV := .int 1000
def sp_OutOfRange : Fsp := [("label", .c "OutOfRange"), ("value", .a 0)]
def sp_BadCourse : Fsp := [("label", .c "BadCourse")]
def sp_SamePlace : Fsp := [("label", .c "SamePlace")]
/-- check_between (222): 0 value, 1 least, 2 most -/
noncomputable def b_check_between (F : Nat → List PV → R PV) : VL.Env → Out := sIf [] (cOr (eTst (e2 ltP (eVar 0) (eVar 1))) (eTst (e2 gtP (eVar 0) (eVar 2)))) (sRaise 17 (mkFs 1 sp_OutOfRange) [] [eVar 0]) (sPass)
noncomputable def b_gcd_of_0 (F : Nat → List PV → R PV) : Ev → R Bool := eTst (e2 gtP (eVar 1) (eC (.int 0)))
noncomputable def b_gcd_of_1 (F : Nat → List PV → R PV) : VL.Env → Out := sPar [0, 1] [] [eVar 1, e2 modP (eVar 0) (eVar 1)]
/-- gcd_of (330): 0 a, 1 b -/
noncomputable def b_gcd_of (F : Nat → List PV → R PV) : VL.Env → Out := sSeq (sWhile [] (b_gcd_of_0 F) (b_gcd_of_1 F)) (sRet [] (eVar 0))
/-- lowest (453): 0 top, 1 bottom, 2 common -/
noncomputable def b_lowest (F : Nat → List PV → R PV) : VL.Env → Out := sSeq (sSet 2 [] (eArgs (gN 2 (F 330)) [eCB absP [eVar 0], eVar 1])) (sRet [] (eArgs gTupV [e2 divP (eVar 0) (eVar 2), e2 divP (eVar 1) (eVar 2)]))
noncomputable def b_check_place_0 (F : Nat → List PV → R PV) : VL.Env → Out := sIf [] (cNot (eTst (eChain leP leP (e1 negP (eC c_MOST_PLACE)) (eVar 1) (eC c_MOST_PLACE)))) (sRaise 17 (mkFs 1 sp_OutOfRange) [] [eVar 1]) (sPass)
/-- check_place (242): 0 place, 1 part -/
noncomputable def b_check_place (F : Nat → List PV → R PV) : VL.Env → Out := sFor false (tN 1) [] (iSeq (eVar 0)) (b_check_place_0 F)
/-- cross (285): 0 a, 1 b -/
noncomputable def b_cross (F : Nat → List PV → R PV) : VL.Env → Out := sRet [] (e2 subP (e2 mulP (e2 ixP (eVar 0) (eC (.int 0))) (e2 ixP (eVar 1) (eC (.int 1)))) (e2 mulP (e2 ixP (eVar 0) (eC (.int 1))) (e2 ixP (eVar 1) (eC (.int 0)))))
/-- dot (296): 0 a, 1 b -/
noncomputable def b_dot (F : Nat → List PV → R PV) : VL.Env → Out := sRet [] (e2 addP (e2 mulP (e2 ixP (eVar 0) (eC (.int 0))) (e2 ixP (eVar 1) (eC (.int 0)))) (e2 mulP (e2 ixP (eVar 0) (eC (.int 1))) (e2 ixP (eVar 1) (eC (.int 1)))))
/-- way_between (646): 0 one, 1 other -/
noncomputable def b_way_between (F : Nat → List PV → R PV) : VL.Env → Out := sRet [] (eArgs gTupV [e2 subP (e2 ixP (eVar 1) (eC (.int 0))) (e2 ixP (eVar 0) (eC (.int 0))), e2 subP (e2 ixP (eVar 1) (eC (.int 1))) (e2 ixP (eVar 0) (eC (.int 1)))])
noncomputable def b_is_course_0 (F : Nat → List PV → R PV) : Ex := eCB isaP [eVar 5, eC (.ty "int")]
/-- is_course (355): 0 course, 1 x, 2 y, 3 over, 4 up, 5 part -/
noncomputable def b_is_course (F : Nat → List PV → R PV) : VL.Env → Out := sSeq (sIf [] (cOr (cNot (eTru (eCB isaP [eVar 0, eC (.ty "tuple")]))) (cOr (eTst (e2 neP (eCB lenP [eVar 0]) (eC (.int 4)))) (eTst (e2 inP (eC (.bl false)) (asLst (eLc [5] (tN 5) (iSeq (eVar 0)) (cYes) (b_is_course_0 F))))))) (sRet [] (eC (.bl false))) (sPass)) (sSeq (sTg (tT [tN 1, tN 2, tN 3, tN 4]) [] (eVar 0)) (sRet [] (eAnd (e2 leP (eCB maxP [eCB absP [eVar 1], eCB absP [eVar 2]]) (eC c_MOST_PLACE)) (e2 leP (eCB maxP [eCB absP [eVar 3], eCB absP [eVar 4]]) (eC c_MOST_SPEED)))))
/-- check_course (225): 0 course -/
noncomputable def b_check_course (F : Nat → List PV → R PV) : VL.Env → Out := sIf [] (cNot (eTru (eArgs (gN 1 (F 355)) [eVar 0]))) (sRaise 1 (mkFs 0 sp_BadCourse) [] []) (sPass)
/-- place_by (503): 0 course, 1 t -/
noncomputable def b_place_by (F : Nat → List PV → R PV) : VL.Env → Out := sRet [] (eArgs gTupV [e2 addP (e2 ixP (eVar 0) (eC (.int 0))) (e2 mulP (e2 ixP (eVar 0) (eC (.int 2))) (eVar 1)), e2 addP (e2 ixP (eVar 0) (eC (.int 1))) (e2 mulP (e2 ixP (eVar 0) (eC (.int 3))) (eVar 1))])
/-- check_line (233): 0 front, 1 rear -/
noncomputable def b_check_line (F : Nat → List PV → R PV) : VL.Env → Out := sSeq (sIf [] (eTst (e2 eqP (eVar 0) (eVar 1))) (sRaise 20 (mkFs 0 sp_SamePlace) [] []) (sPass)) (sSeq (sExpr [] (eArgs (gN 1 (F 242)) [eVar 0])) (sExpr [] (eArgs (gN 1 (F 242)) [eVar 1])))
/-- line_way (445): 0 front, 1 rear -/
noncomputable def b_line_way (F : Nat → List PV → R PV) : VL.Env → Out := sRet [] (eArgs (gN 2 (F 646)) [eVar 0, eVar 1])
/-- side_of (577): 0 front, 1 rear, 2 ship -/
noncomputable def b_side_of (F : Nat → List PV → R PV) : VL.Env → Out := sRet [] (eArgs (gN 2 (F 285)) [eArgs (gN 2 (F 445)) [eVar 0, eVar 1], eArgs (gN 2 (F 646)) [eVar 0, eVar 2]])
/-- word_of (659): 0 side -/
noncomputable def b_word_of_v1 (F : Nat → List PV → R PV) : VL.Env → Out := sSeq (sIf [] (eTst (e2 eqP (eVar 0) (eC (.int 0)))) (sRet [] (eC (.str "on"))) (sPass)) (sRet [] (eIf (eTst (e2 gtP (eVar 0) (eC (.int 0)))) (eC (.str "left")) (eC (.str "right"))))
/-- off_by (480): 0 place, 1 way, 2 ship, 3 side -/
noncomputable def b_off_by (F : Nat → List PV → R PV) : VL.Env → Out := sSeq (sSet 3 [] (eArgs (gN 2 (F 285)) [eVar 1, eArgs (gN 2 (F 646)) [eVar 0, eVar 2]])) (sRet [] (eArgs gTupV [eArgs (gN 1 (F 659)) [eVar 3], eArgs (gN 2 (F 453)) [e2 mulP (eVar 3) (eVar 3), eArgs (gN 2 (F 296)) [eVar 1, eVar 1]]]))
/-- check_ship (248): 0 front, 1 rear, 2 ship -/
noncomputable def b_check_ship (F : Nat → List PV → R PV) : VL.Env → Out := sSeq (sExpr [] (eArgs (gN 2 (F 233)) [eVar 0, eVar 1])) (sExpr [] (eArgs (gN 1 (F 242)) [eVar 2]))
/-- off_line (481): 0 front, 1 rear, 2 ship -/
noncomputable def b_off_line (F : Nat → List PV → R PV) : VL.Env → Out := sSeq (sExpr [] (eArgs (gN 3 (F 248)) [eVar 0, eVar 1, eVar 2])) (sRet [] (eArgs (gN 3 (F 480)) [eVar 0, eArgs (gN 2 (F 445)) [eVar 0, eVar 1], eVar 2]))
/-- opens (483): 0 front, 1 rear, 2 ship, 3 side -/
noncomputable def b_opens (F : Nat → List PV → R PV) : VL.Env → Out := sSeq (sExpr [] (eArgs (gN 3 (F 248)) [eVar 0, eVar 1, eVar 2])) (sSeq (sSet 3 [] (eArgs (gN 2 (F 285)) [eArgs (gN 2 (F 646)) [eVar 2, eVar 1], eArgs (gN 2 (F 646)) [eVar 2, eVar 0]])) (sSeq (sIf [] (eTst (e2 eqP (eVar 3) (eC (.int 0)))) (sRet [] (eC (.str "in line"))) (sPass)) (sRet [] (eIf (eTst (e2 gtP (eVar 3) (eC (.int 0)))) (eC (.str "front left")) (eC (.str "front right"))))))
/-- is_ahead (346): 0 front, 1 rear, 2 ship -/
noncomputable def b_is_ahead (F : Nat → List PV → R PV) : VL.Env → Out := sRet [] (e2 ltP (eArgs (gN 2 (F 296)) [eArgs (gN 2 (F 445)) [eVar 0, eVar 1], eArgs (gN 2 (F 646)) [eVar 0, eVar 2]]) (eC (.int 0)))
/-- ahead_of (176): 0 front, 1 rear, 2 ship -/
noncomputable def b_ahead_of (F : Nat → List PV → R PV) : VL.Env → Out := sSeq (sExpr [] (eArgs (gN 3 (F 248)) [eVar 0, eVar 1, eVar 2])) (sRet [] (eArgs (gN 3 (F 346)) [eVar 0, eVar 1, eVar 2]))
/-- crosses_line (286): 0 course, 1 front, 2 rear, 3 start, 4 speed -/
noncomputable def b_crosses_line (F : Nat → List PV → R PV) : VL.Env → Out := sSeq (sExpr [] (eArgs (gN 2 (F 233)) [eVar 1, eVar 2])) (sSeq (sExpr [] (eArgs (gN 1 (F 225)) [eVar 0])) (sSeq (sSet 3 [] (eArgs (gN 3 (F 577)) [eVar 1, eVar 2, eSl (eVar 0) (pNo) (pAt (eC (.int 2)))])) (sSeq (sSet 4 [] (eArgs (gN 2 (F 285)) [eArgs (gN 2 (F 445)) [eVar 1, eVar 2], eSl (eVar 0) (pAt (eC (.int 2))) (pNo)])) (sSeq (sIf [] (eTst (e2 eqP (eVar 3) (eC (.int 0)))) (sRet [] (eArgs gTupV [eC (.int 0), eC (.int 1)])) (sPass)) (sSeq (sIf [] (cOr (eTst (e2 eqP (eVar 4) (eC (.int 0)))) (eTst (e2 eqP (e2 gtP (eVar 3) (eC (.int 0))) (e2 gtP (eVar 4) (eC (.int 0)))))) (sRet [] (eC .non)) (sPass)) (sRet [] (eArgs (gN 2 (F 453)) [eCB absP [eVar 3], eCB absP [eVar 4]])))))))
/-- keeps_line (387): 0 course, 1 front, 2 rear, 3 on_line -/
noncomputable def b_keeps_line (F : Nat → List PV → R PV) : VL.Env → Out := sSeq (sExpr [] (eArgs (gN 2 (F 233)) [eVar 1, eVar 2])) (sSeq (sExpr [] (eArgs (gN 1 (F 225)) [eVar 0])) (sSeq (sSet 3 [] (eAnd (e2 eqP (eArgs (gN 3 (F 577)) [eVar 1, eVar 2, eSl (eVar 0) (pNo) (pAt (eC (.int 2)))]) (eC (.int 0))) (e2 eqP (eArgs (gN 2 (F 285)) [eArgs (gN 2 (F 445)) [eVar 1, eVar 2], eSl (eVar 0) (pAt (eC (.int 2))) (pNo)]) (eC (.int 0))))) (sRet [] (eAnd (eVar 3) (eArgs (gN 3 (F 346)) [eVar 1, eVar 2, eArgs (gN 2 (F 503)) [eVar 0, eC (.int 0)]])))))
noncomputable def b_speeds_on_0 (F : Nat → List PV → R PV) : VL.Env → Out := sIf [] (cAnd (eTst (e2 eqP (eArgs (gN 2 (F 285)) [eVar 4, eArgs gTupV [eVar 6, eVar 7]]) (eC (.int 0)))) (eTst (e2 gtP (eArgs (gN 2 (F 296)) [eVar 4, eArgs gTupV [eVar 6, eVar 7]]) (eC (.int 0))))) (sMet 5 mApp [] [eArgs gTupV [eVar 6, eVar 7]]) (sPass)
noncomputable def b_speeds_on_1 (F : Nat → List PV → R PV) : VL.Env → Out := sFor true (tN 7) [] (iR2 (e1 negP (eVar 3)) (e2 addP (eVar 3) (eC (.int 1)))) (b_speeds_on_0 F)
/-- speeds_on (582): 0 front, 1 rear, 2 ship, 3 most, 4 way, 5 found, 6 over, 7 up -/
noncomputable def b_speeds_on (F : Nat → List PV → R PV) : VL.Env → Out := sSeq (sExpr [] (eArgs (gN 3 (F 248)) [eVar 0, eVar 1, eVar 2])) (sSeq (sExpr [] (eArgs (gN 3 (F 222)) [eVar 3, eC (.int 1), eC c_MOST_PART])) (sSeq (sSet 4 [] (eArgs (gN 2 (F 646)) [eVar 2, eVar 0])) (sSeq (sIf [] (eTst (e2 neP (eArgs (gN 3 (F 577)) [eVar 0, eVar 1, eVar 2]) (eC (.int 0)))) (sRet [] (eArgs gLstV [])) (sPass)) (sSeq (sOwn 5 [] (eLst1 [])) (sSeq (sFor true (tN 6) [] (iR2 (e1 negP (eVar 3)) (e2 addP (eVar 3) (eC (.int 1)))) (b_speeds_on_1 F)) (sRet [false, false, false, false, false, true] (eVar 5)))))))
noncomputable def b_safe_side_0 (F : Nat → List PV → R PV) : VL.Env → Out := sExpr [] (eArgs (gN 1 (F 242)) [eVar 3])
noncomputable def b_safe_side_1 (F : Nat → List PV → R PV) : Ex := eArgs (gN 1 (F 659)) [eArgs (gN 3 (F 577)) [eVar 0, eVar 1, eVar 3]]
/-- safe_side (533): 0 front, 1 rear, 2 rocks, 3 rock, 4 sides -/
noncomputable def b_safe_side (F : Nat → List PV → R PV) : VL.Env → Out := sSeq (sExpr [] (eArgs (gN 2 (F 233)) [eVar 0, eVar 1])) (sSeq (sFor false (tN 3) [] (iSeq (eVar 2)) (b_safe_side_0 F)) (sSeq (sSet 4 [] (asLst (eLc [3] (tN 3) (iSeq (eVar 2)) (cYes) (b_safe_side_1 F)))) (sSeq (sIf [] (cOr (eTst (e2 inP (eC (.str "on")) (eVar 4))) (cAnd (eTst (e2 inP (eC (.str "left")) (eVar 4))) (eTst (e2 inP (eC (.str "right")) (eVar 4))))) (sRet [] (eC (.str "none"))) (sPass)) (sSeq (sIf [] (eTst (e2 eqP (eCB lenP [eVar 4]) (eC (.int 0)))) (sRet [] (eC (.str "both"))) (sPass)) (sRet [] (eIf (eTst (e2 inP (eC (.str "left")) (eVar 4))) (eC (.str "right")) (eC (.str "left"))))))))
/-- _law_cell (13): 0 script, 1 k -/
noncomputable def b__law_cell (F : Nat → List PV → R PV) : VL.Env → Out := sSeq (sIf [] (eTst (e2 ltP (eVar 1) (eCB lenP [eVar 0]))) (sRet [] (e2 ixP (eVar 0) (eVar 1))) (sPass)) (sRet [] (eC (.int 0)))
noncomputable def b__law_draw_0 (F : Nat → List PV → R PV) : VL.Env → Out := sIf [] (cAnd (eTru (eVar 4)) (eTst (e2 geP (eVar 3) (e2 ixP (eVar 1) (eVar 5))))) (sSeq (sMet 2 mApp [] [e2 modP (eCB intP [eVar 3]) (e2 ixP (eVar 1) (eVar 5))]) (sSet 3 [] (e2 divP (eVar 3) (e2 ixP (eVar 1) (eVar 5))))) (sSeq (sSet 6 [] (e2 modP (eCB intP [e2 addP (e2 mulP (eCB absP [eVar 0]) (eC (.int 48271))) (e2 mulP (e2 addP (eVar 5) (eC (.int 1))) (eC (.int 69621)))]) (eC (.int 2147483647)))) (sSeq (sSet 6 [] (e2 modP (eCB intP [e2 addP (e2 mulP (eVar 6) (eC (.int 16807))) (e2 mulP (e2 addP (eVar 5) (eC (.int 1))) (eC (.int 40692)))]) (eC (.int 2147483399)))) (sMet 2 mApp [] [e2 modP (eCB intP [eVar 6]) (e2 ixP (eVar 1) (eVar 5))])))
/-- _law_draw (22): 0 cell, 1 limits, 2 row, 3 rest, 4 great, 5 k, 6 mixed -/
noncomputable def b__law_draw (F : Nat → List PV → R PV) : VL.Env → Out := sSeq (sOwn 2 [] (eLst1 [])) (sSeq (sSet 3 [] (eCB absP [eVar 0])) (sSeq (sSet 4 [] (e2 geP (eVar 3) (eC (.int 1000000000000000000)))) (sSeq (sFor true (tN 5) [] (iR1 (eCB lenP [eVar 1])) (b__law_draw_0 F)) (sRet [false, false, true] (eVar 2)))))
/-- _law_turn_of (163): 0 a, 1 b -/
noncomputable def b__law_turn_of (F : Nat → List PV → R PV) : VL.Env → Out := sRet [] (e2 subP (e2 mulP (e2 ixP (eVar 0) (eC (.int 0))) (e2 ixP (eVar 1) (eC (.int 1)))) (e2 mulP (e2 ixP (eVar 0) (eC (.int 1))) (e2 ixP (eVar 1) (eC (.int 0)))))
/-- _law_ship (105): 0 cell, 1 wide, 2 d -/
noncomputable def b__law_ship (F : Nat → List PV → R PV) : VL.Env → Out := sSeq (sSet 2 [] (eArgs (gN 2 (F 22)) [eVar 0, eArgs gLstV [e2 addP (e2 mulP (eC (.int 2)) (eVar 1)) (eC (.int 1)), e2 addP (e2 mulP (eC (.int 2)) (eVar 1)) (eC (.int 1))]])) (sRet [] (eArgs gTupV [e2 subP (e2 ixP (eVar 2) (eC (.int 0))) (eVar 1), e2 subP (e2 ixP (eVar 2) (eC (.int 1))) (eVar 1)]))
/-- _law_course (18): 0 cell, 1 wide, 2 fast, 3 d -/
noncomputable def b__law_course (F : Nat → List PV → R PV) : VL.Env → Out := sSeq (sSet 3 [] (eArgs (gN 2 (F 22)) [eVar 0, eArgs gLstV [e2 addP (e2 mulP (eC (.int 2)) (eVar 1)) (eC (.int 1)), e2 addP (e2 mulP (eC (.int 2)) (eVar 1)) (eC (.int 1)), e2 addP (e2 mulP (eC (.int 2)) (eVar 2)) (eC (.int 1)), e2 addP (e2 mulP (eC (.int 2)) (eVar 2)) (eC (.int 1))]])) (sRet [] (eArgs gTupV [e2 subP (e2 ixP (eVar 3) (eC (.int 0))) (eVar 1), e2 subP (e2 ixP (eVar 3) (eC (.int 1))) (eVar 1), e2 subP (e2 ixP (eVar 3) (eC (.int 2))) (eVar 2), e2 subP (e2 ixP (eVar 3) (eC (.int 3))) (eVar 2)]))
noncomputable def b__law_lowest_v0_0 (F : Nat → List PV → R PV) : VL.Env → Out := sSeq (sIf [] (eTst (e2 eqP (eVar 3) (eC (.int 0)))) (sBreak) (sPass)) (sSeq (sSet 5 [] (e2 modP (eCB intP [eVar 2]) (eVar 3))) (sSeq (sSet 2 [] (eVar 3)) (sSet 3 [] (eVar 5))))
/-- _law_lowest (55): 0 top, 1 bottom, 2 a, 3 b, 4 k, 5 rest -/
noncomputable def b__law_lowest_v0 (F : Nat → List PV → R PV) : VL.Env → Out := sSeq (sSet 2 [] (eCB absP [eVar 0])) (sSeq (sSet 3 [] (eCB absP [eVar 1])) (sSeq (sFor true (tN 4) [] (iR1 (eC (.int 400))) (b__law_lowest_v0_0 F)) (sSeq (sIf [] (eTst (e2 ltP (eVar 1) (eC (.int 0)))) (sSet 2 [] (e1 negP (eVar 2))) (sPass)) (sRet [] (eArgs gTupV [e2 divP (eVar 0) (eVar 2), e2 divP (eVar 1) (eVar 2)])))))
/-- _law_cross (19): 0 front, 1 rear, 2 ship, 3 look -/
noncomputable def b__law_cross (F : Nat → List PV → R PV) : VL.Env → Out := sSeq (sSet 3 [] (eArgs gTupV [e2 subP (e2 ixP (eVar 1) (eC (.int 0))) (e2 ixP (eVar 0) (eC (.int 0))), e2 subP (e2 ixP (eVar 1) (eC (.int 1))) (e2 ixP (eVar 0) (eC (.int 1)))])) (sRet [] (eArgs (gN 2 (F 163)) [eVar 3, eArgs gTupV [e2 subP (e2 ixP (eVar 2) (eC (.int 0))) (e2 ixP (eVar 0) (eC (.int 0))), e2 subP (e2 ixP (eVar 2) (eC (.int 1))) (e2 ixP (eVar 0) (eC (.int 1)))]]))
noncomputable def b__law_rocks_0 (F : Nat → List PV → R PV) : Ex := eArgs (gN 2 (F 105)) [e2 addP (eCB absP [eArgs (gN 2 (F 13)) [eVar 2, eC (.int 5)]]) (e2 mulP (eC (.int 13)) (eVar 8)), eC (.int 40)]
noncomputable def b__law_rocks_1 (F : Nat → List PV → R PV) : Ex := eArgs (gN 3 (F 19)) [eVar 0, eVar 1, eVar 9]
noncomputable def b__law_rocks_2 (F : Nat → List PV → R PV) : Ex := eVar 10
noncomputable def b__law_rocks_3 (F : Nat → List PV → R PV) : Ev → R Bool := eTst (e2 gtP (eVar 10) (eC (.int 0)))
noncomputable def b__law_rocks_4 (F : Nat → List PV → R PV) : Ex := eVar 10
noncomputable def b__law_rocks_5 (F : Nat → List PV → R PV) : Ev → R Bool := eTst (e2 ltP (eVar 10) (eC (.int 0)))
/-- _law_rocks (87): 0 front, 1 rear, 2 script, 3 rocks, 4 sides, 5 left, 6 right, 7 word, 8 k, 9 rock, 10 side -/
noncomputable def b__law_rocks (F : Nat → List PV → R PV) : VL.Env → Out := sSeq (sSet 3 [] (asLst (eLc [8] (tN 8) (iR1 (e2 modP (eCB intP [eArgs (gN 2 (F 13)) [eVar 2, eC (.int 5)]]) (eC (.int 7)))) (cYes) (b__law_rocks_0 F)))) (sSeq (sSet 4 [] (asLst (eLc [9] (tN 9) (iSeq (eVar 3)) (cYes) (b__law_rocks_1 F)))) (sSeq (sSet 5 [] (e2 eqP (eCB lenP [asLst (eLc [10] (tN 10) (iSeq (eVar 4)) (b__law_rocks_3 F) (b__law_rocks_2 F))]) (eC (.int 0)))) (sSeq (sSet 6 [] (e2 eqP (eCB lenP [asLst (eLc [10] (tN 10) (iSeq (eVar 4)) (b__law_rocks_5 F) (b__law_rocks_4 F))]) (eC (.int 0)))) (sSeq (sSet 7 [] (eC (.str "none"))) (sSeq (sIf [] (eTst (e2 ninP (eC (.int 0)) (eVar 4))) (sIf [] (cAnd (eTru (eVar 5)) (eTru (eVar 6))) (sSet 7 [] (eC (.str "both"))) (sIf [] (eTru (eVar 5)) (sSet 7 [] (eC (.str "left"))) (sIf [] (eTru (eVar 6)) (sSet 7 [] (eC (.str "right"))) (sPass)))) (sPass)) (sRet [] (e2 eqP (eArgs (gN 5 (F 148)) [eC (.int 5), eVar 0, eVar 1, eCB listP [eVar 3], eC (.int 0)]) (eArgs gTupV [eC (.str "value"), eVar 7]))))))))
noncomputable def b_law_v15_0 (F : Nat → List PV → R PV) : Ex := eArgs gTupV [eVar 17, eVar 19]
noncomputable def b_law_v15_1 (F : Nat → List PV → R PV) : Ev → R Bool := cAnd (eTst (e2 eqP (eArgs (gN 2 (F 163)) [eVar 3, eArgs gTupV [eVar 17, eVar 19]]) (eC (.int 0)))) (eTst (e2 gtP (e2 addP (e2 mulP (eVar 17) (e2 ixP (eVar 3) (eC (.int 0)))) (e2 mulP (eVar 19) (e2 ixP (eVar 3) (eC (.int 1))))) (eC (.int 0))))
noncomputable def b_law_v15_2 (F : Nat → List PV → R PV) : VL.Env → Out := sSet 16 [] (e2 addP (eVar 16) (asLst (eLc [19] (tN 19) (iR2 (e1 negP (eC (.int 4))) (eC (.int 5))) (b_law_v15_1 F) (b_law_v15_0 F))))
noncomputable def b_law_v15_3 (F : Nat → List PV → R PV) : VL.Env → Out := sIf [] (eTst (e2 neP (eArgs (gN 5 (F 148)) [eC (.int 6), eArgs gTupV [e2 ixP (eVar 4) (eC (.int 0)), e2 ixP (eVar 4) (eC (.int 1)), e2 ixP (eVar 18) (eC (.int 0)), e2 ixP (eVar 18) (eC (.int 1))], eVar 1, eVar 2, eC (.int 0)]) (eArgs gTupV [eC (.str "value"), eC (.bl true)]))) (sRet [] (eC (.bl false))) (sPass)
noncomputable def b_law_v15_t26 (F : Nat → List PV → R PV) : VL.Env → Out := sRet [] (eAnd (e2 eqP (eArgs (gN 5 (F 148)) [eC (.int 5), eVar 1, eVar 1, eArgs gLstV [], eC (.int 0)]) (eArgs gTupV [eC (.str "same"), eC (.int 0)])) (eOr (e2 neP (eVar 6) (eC (.int 0))) (e2 eqP (eArgs (gN 5 (F 148)) [eC (.int 4), eVar 1, eVar 2, eVar 4, eC (.int 0)]) (eArgs gTupV [eC (.str "range"), eC (.int 0)]))))
noncomputable def b_law_v15_t25 (F : Nat → List PV → R PV) : VL.Env → Out := sSeq (sIf [] (cOr (eTst (e2 neP (eArgs (gN 5 (F 148)) [eC (.int 0), eVar 1, eVar 1, eVar 4, eC (.int 0)]) (eArgs gTupV [eC (.str "same"), eC (.int 0)]))) (cOr (eTst (e2 neP (eArgs (gN 5 (F 148)) [eC (.int 0), eArgs gTupV [eC (.int 100001), eC (.int 0)], eVar 2, eVar 4, eC (.int 0)]) (eArgs gTupV [eC (.str "range"), eC (.int 100001)]))) (eTst (e2 neP (eArgs (gN 5 (F 148)) [eC (.int 3), eArgs gTupV [eC (.int 0), eC (.int 0), eC (.int 1001), eC (.int 0)], eVar 1, eVar 2, eC (.int 0)]) (eArgs gTupV [eC (.str "course"), eC (.int 0)]))))) (sRet [] (eC (.bl false))) (sPass)) (b_law_v15_t26 F)
noncomputable def b_law_v15_t24 (F : Nat → List PV → R PV) : VL.Env → Out := sSeq (sIf [] (cNot (eTru (eArgs (gN 3 (F 87)) [eVar 1, eVar 2, eVar 0]))) (sRet [] (eC (.bl false))) (sPass)) (b_law_v15_t25 F)
noncomputable def b_law_v15_t23 (F : Nat → List PV → R PV) : VL.Env → Out := sSeq (sIf [] (cAnd (eTst (e2 neP (eVar 6) (eC (.int 0)))) (eTst (e2 neP (eArgs (gN 5 (F 148)) [eC (.int 6), eArgs gTupV [e2 ixP (eVar 4) (eC (.int 0)), e2 ixP (eVar 4) (eC (.int 1)), eC (.int 1), eC (.int 0)], eVar 1, eVar 2, eC (.int 0)]) (eArgs gTupV [eC (.str "value"), eC (.bl false)])))) (sRet [] (eC (.bl false))) (sPass)) (b_law_v15_t24 F)
noncomputable def b_law_v15_t22 (F : Nat → List PV → R PV) : VL.Env → Out := sSeq (sIf [] (cAnd (eTst (e2 eqP (eVar 6) (eC (.int 0)))) (eTru (eVar 9))) (sSeq (sSet 16 [] (eArgs gLstV [])) (sSeq (sFor true (tN 17) [] (iR2 (e1 negP (eC (.int 4))) (eC (.int 5))) (b_law_v15_2 F)) (sSeq (sIf [] (eTst (e2 neP (eArgs (gN 5 (F 148)) [eC (.int 4), eVar 1, eVar 2, eVar 4, eC (.int 4)]) (eArgs gTupV [eC (.str "value"), eVar 16]))) (sRet [] (eC (.bl false))) (sPass)) (sSeq (sIf [] (eTst (e2 neP (eArgs (gN 5 (F 148)) [eC (.int 6), eArgs gTupV [e2 ixP (eVar 4) (eC (.int 0)), e2 ixP (eVar 4) (eC (.int 1)), e2 ixP (eVar 3) (eC (.int 1)), e1 negP (e2 ixP (eVar 3) (eC (.int 0)))], eVar 1, eVar 2, eC (.int 0)]) (eArgs gTupV [eC (.str "value"), eC (.bl false)]))) (sRet [] (eC (.bl false))) (sPass)) (sFor false (tN 18) [] (iSeq (eSl (eVar 16) (pNo) (pAt (eC (.int 2))))) (b_law_v15_3 F)))))) (sPass)) (b_law_v15_t23 F)
noncomputable def b_law_v15_t21 (F : Nat → List PV → R PV) : VL.Env → Out := sSeq (sIf [] (eTst (e2 neP (eArgs (gN 5 (F 148)) [eC (.int 3), eVar 13, eVar 1, eVar 2, eC (.int 0)]) (eArgs gTupV [eC (.str "value"), eVar 8]))) (sRet [] (eC (.bl false))) (sPass)) (b_law_v15_t22 F)
noncomputable def b_law_v15_t20 (F : Nat → List PV → R PV) : VL.Env → Out := sSeq (sIf [] (cAnd (eTst (e2 eqP (eVar 14) (eC (.int 0)))) (eTst (e2 eqP (eVar 15) (eC (.int 0))))) (sSet 8 [] (eArgs gTupV [eC (.int 0), eC (.int 1)])) (sIf [] (cAnd (eTst (e2 neP (eVar 15) (eC (.int 0)))) (eTst (e2 geP (e2 mulP (e1 negP (eVar 14)) (eVar 15)) (eC (.int 0))))) (sSet 8 [] (eArgs (gN 2 (F 55)) [e1 negP (eVar 14), eVar 15])) (sPass))) (b_law_v15_t21 F)
noncomputable def b_law_v15_t19 (F : Nat → List PV → R PV) : VL.Env → Out := sSeq (sSet 8 [] (eC .non)) (b_law_v15_t20 F)
noncomputable def b_law_v15_t18 (F : Nat → List PV → R PV) : VL.Env → Out := sSeq (sSet 15 [] (eArgs (gN 2 (F 163)) [eVar 3, eSl (eVar 13) (pAt (eC (.int 2))) (pNo)])) (b_law_v15_t19 F)
noncomputable def b_law_v15_t17 (F : Nat → List PV → R PV) : VL.Env → Out := sSeq (sSet 14 [] (eArgs (gN 3 (F 19)) [eVar 1, eVar 2, eSl (eVar 13) (pNo) (pAt (eC (.int 2)))])) (b_law_v15_t18 F)
noncomputable def b_law_v15_t16 (F : Nat → List PV → R PV) : VL.Env → Out := sSeq (sSet 13 [] (eArgs (gN 3 (F 18)) [eCB absP [eArgs (gN 2 (F 13)) [eVar 0, eC (.int 4)]], eC (.int 40), eC (.int 4)])) (b_law_v15_t17 F)
noncomputable def b_law_v15_t15 (F : Nat → List PV → R PV) : VL.Env → Out := sSeq (sIf [] (eTru (eVar 9)) (sSeq (sSet 12 [] (eC (.str "in line"))) (sSeq (sIf [] (eTst (e2 gtP (eVar 6) (eC (.int 0)))) (sSet 12 [] (eC (.str "front right"))) (sPass)) (sSeq (sIf [] (eTst (e2 ltP (eVar 6) (eC (.int 0)))) (sSet 12 [] (eC (.str "front left"))) (sPass)) (sIf [] (eTst (e2 neP (eArgs (gN 5 (F 148)) [eC (.int 1), eVar 1, eVar 2, eVar 4, eC (.int 0)]) (eArgs gTupV [eC (.str "value"), eVar 12]))) (sRet [] (eC (.bl false))) (sPass))))) (sPass)) (b_law_v15_t16 F)
noncomputable def b_law_v15_t14 (F : Nat → List PV → R PV) : VL.Env → Out := sSeq (sIf [] (cOr (eTst (e2 neP (eVar 11) (eArgs gTupV [eC (.str "value"), eVar 9]))) (cNot (eTru (eCB isaP [e2 ixP (eVar 11) (eC (.int 1)), eC (.ty "bool")])))) (sRet [] (eC (.bl false))) (sPass)) (b_law_v15_t15 F)
noncomputable def b_law_v15_t13 (F : Nat → List PV → R PV) : VL.Env → Out := sSeq (sSet 11 [] (eArgs (gN 5 (F 148)) [eC (.int 2), eVar 1, eVar 2, eVar 4, eC (.int 0)])) (b_law_v15_t14 F)
noncomputable def b_law_v15_t12 (F : Nat → List PV → R PV) : VL.Env → Out := sSeq (sIf [] (cOr (eTst (e2 neP (e2 ixP (eVar 10) (eC (.int 0))) (eC (.str "value")))) (cOr (eTst (e2 neP (e2 ixP (e2 ixP (eVar 10) (eC (.int 1))) (eC (.int 1))) (e2 ixP (eVar 8) (eC (.int 1))))) (cAnd (cOr (eTru (eVar 9)) (eTst (e2 eqP (eVar 6) (eC (.int 0))))) (eTst (e2 neP (eVar 10) (eArgs gTupV [eC (.str "value"), eVar 8])))))) (sRet [] (eC (.bl false))) (sPass)) (b_law_v15_t13 F)
noncomputable def b_law_v15_t11 (F : Nat → List PV → R PV) : VL.Env → Out := sSeq (sSet 10 [] (eArgs (gN 5 (F 148)) [eC (.int 0), eVar 1, eVar 2, eVar 4, eC (.int 0)])) (b_law_v15_t12 F)
noncomputable def b_law_v15_t10 (F : Nat → List PV → R PV) : VL.Env → Out := sSeq (sSet 9 [] (e2 ltP (e2 addP (e2 mulP (e2 subP (e2 ixP (eVar 4) (eC (.int 0))) (e2 ixP (eVar 1) (eC (.int 0)))) (e2 ixP (eVar 3) (eC (.int 0)))) (e2 mulP (e2 subP (e2 ixP (eVar 4) (eC (.int 1))) (e2 ixP (eVar 1) (eC (.int 1)))) (e2 ixP (eVar 3) (eC (.int 1))))) (eC (.int 0)))) (b_law_v15_t11 F)
noncomputable def b_law_v15_t9 (F : Nat → List PV → R PV) : VL.Env → Out := sSeq (sIf [] (eTst (e2 neP (eVar 6) (eC (.int 0)))) (sSet 8 [] (eArgs gTupV [e2 ixP (eArgs gLstV [eC (.str "right"), eC (.str "left")]) (eCB intP [e2 gtP (eVar 6) (eC (.int 0))]), eArgs (gN 2 (F 55)) [e2 mulP (eVar 6) (eVar 6), eVar 7]])) (sPass)) (b_law_v15_t10 F)
noncomputable def b_law_v15_t8 (F : Nat → List PV → R PV) : VL.Env → Out := sSeq (sSet 8 [] (eArgs gTupV [eC (.str "on"), eArgs gTupV [eC (.int 0), eC (.int 1)]])) (b_law_v15_t9 F)
noncomputable def b_law_v15_t7 (F : Nat → List PV → R PV) : VL.Env → Out := sSeq (sSet 7 [] (e2 addP (e2 mulP (e2 ixP (eVar 3) (eC (.int 0))) (e2 ixP (eVar 3) (eC (.int 0)))) (e2 mulP (e2 ixP (eVar 3) (eC (.int 1))) (e2 ixP (eVar 3) (eC (.int 1)))))) (b_law_v15_t8 F)
noncomputable def b_law_v15_t6 (F : Nat → List PV → R PV) : VL.Env → Out := sSeq (sSet 6 [] (eArgs (gN 3 (F 19)) [eVar 1, eVar 2, eVar 4])) (b_law_v15_t7 F)
noncomputable def b_law_v15_t5 (F : Nat → List PV → R PV) : VL.Env → Out := sSeq (sIf [] (eTst (e2 eqP (e2 modP (eCB intP [eArgs (gN 2 (F 13)) [eVar 0, eC (.int 3)]]) (eC (.int 2))) (eC (.int 1)))) (sSeq (sSet 5 [] (e2 subP (e2 modP (e2 divP (eCB intP [eArgs (gN 2 (F 13)) [eVar 0, eC (.int 3)]]) (eC (.int 2))) (eC (.int 5))) (eC (.int 1)))) (sSet 4 [] (eArgs gTupV [e2 subP (e2 ixP (eVar 1) (eC (.int 0))) (e2 mulP (eVar 5) (e2 ixP (eVar 3) (eC (.int 0)))), e2 subP (e2 ixP (eVar 1) (eC (.int 1))) (e2 mulP (eVar 5) (e2 ixP (eVar 3) (eC (.int 1))))]))) (sPass)) (b_law_v15_t6 F)
noncomputable def b_law_v15_t4 (F : Nat → List PV → R PV) : VL.Env → Out := sSeq (sSet 4 [] (eArgs (gN 2 (F 105)) [eCB absP [eArgs (gN 2 (F 13)) [eVar 0, eC (.int 2)]], eC (.int 40)])) (b_law_v15_t5 F)
noncomputable def b_law_v15_t3 (F : Nat → List PV → R PV) : VL.Env → Out := sSeq (sSet 3 [] (eArgs gTupV [e2 subP (e2 ixP (eVar 2) (eC (.int 0))) (e2 ixP (eVar 1) (eC (.int 0))), e2 subP (e2 ixP (eVar 2) (eC (.int 1))) (e2 ixP (eVar 1) (eC (.int 1)))])) (b_law_v15_t4 F)
noncomputable def b_law_v15_t2 (F : Nat → List PV → R PV) : VL.Env → Out := sSeq (sIf [] (eTst (e2 eqP (eVar 1) (eVar 2))) (sSet 2 [] (eArgs gTupV [e2 addP (e2 ixP (eVar 1) (eC (.int 0))) (eC (.int 1)), e2 addP (e2 ixP (eVar 1) (eC (.int 1))) (eC (.int 2))])) (sPass)) (b_law_v15_t3 F)
noncomputable def b_law_v15_t1 (F : Nat → List PV → R PV) : VL.Env → Out := sSeq (sSet 2 [] (eArgs (gN 2 (F 105)) [eCB absP [eArgs (gN 2 (F 13)) [eVar 0, eC (.int 1)]], eC (.int 20)])) (b_law_v15_t2 F)
/-- law (413): 0 script, 1 front, 2 rear, 3 look, 4 ship, 5 k, 6 cross_v, 7 both, 8 due, 9 beyond, 10 off, 11 told, 12 word, 13 course, 14 begin, 15 speed, 16 speeds, 17 vx, 18 speed_of, 19 vy -/
noncomputable def b_law_v15 (F : Nat → List PV → R PV) : VL.Env → Out := sSeq (sSet 1 [] (eArgs (gN 2 (F 105)) [eCB absP [eArgs (gN 2 (F 13)) [eVar 0, eC (.int 0)]], eC (.int 20)])) (b_law_v15_t1 F)
noncomputable def b__law_lowest_v1_0 (F : Nat → List PV → R PV) : VL.Env → Out := sSeq (sIf [] (eTst (e2 eqP (eVar 3) (eC (.int 0)))) (sBreak) (sPass)) (sSeq (sSet 5 [] (e2 modP (eCB intP [eVar 2]) (eVar 3))) (sSeq (sSet 2 [] (eVar 3)) (sSet 3 [] (eVar 5))))
/-- _law_lowest (56): 0 top, 1 bottom, 2 a, 3 b, 4 k, 5 rest -/
noncomputable def b__law_lowest_v1 (F : Nat → List PV → R PV) : VL.Env → Out := sSeq (sSet 2 [] (eCB absP [eVar 0])) (sSeq (sSet 3 [] (eVar 1)) (sSeq (sFor true (tN 4) [] (iR1 (eC (.int 400))) (b__law_lowest_v1_0 F)) (sRet [] (eArgs gTupV [e2 divP (eVar 0) (eVar 2), e2 divP (eVar 1) (eVar 2)]))))
end PF
namespace PH
open PySem PySem.Spec PyProof.Rows L2 VL PF
/-! ### the laws' common words: _law_cell, _law_draw -/
theorem atI_map {α β : Type} (f : α → β) (xs : List α) (i : Int) : atI (xs.map f) i = (atI xs i).map f := by
  unfold atI
  rw [List.length_map]
  cases ixN xs.length i with
  | none => rfl
  | some j => simp
theorem atI_getD {α : Type} {xs : List α} {i : Nat} (d : α) (h : i < xs.length) : atI xs (i : Int) = some (xs.getD i d) := by
  rw [atI_nat' h]
  simp [h]
def cell (ns : List Int) (k : Nat) : Int := ns.getD k 0
def S_cell (g : List PV → R PV) : Prop := ∀ (ns : List Int) (k : Nat), g [.src (ns.map .int), .int (k : Int)] = .ok (.int (cell ns k))
theorem sp_cell (F : Nat → List PV → R PV) : S_cell fun us => outR (b__law_cell F (startE 2 us)) := by
  intro ns k
  unfold cell
  by_cases h : k < ns.length
  · have h' : (k : Int) < (ns.length : Int) := by omega
    simp -implicitDefEqProofs [b__law_cell, h', atI_map, atI_getD 0 h]
  · have h' : ¬ (k : Int) < (ns.length : Int) := by omega
    have e : ns[k]? = none := List.getElem?_eq_none (by omega)
    simp -implicitDefEqProofs [b__law_cell, h', e]
/-- a value of a list at a place -/
def nth (xs : List Int) (i : Nat) : Int := xs.getD i 0
theorem nth_at {xs : List Int} {i : Nat} (h : i < xs.length) : atI (xs.map PV.int) (i : Int) = some (.int (nth xs i)) := by
  rw [atI_map, atI_getD 0 h]
  rfl
def S_draw (g : List PV → R PV) : Prop := ∀ (c : Int) (ls : List Int), ls.length ≤ 1000 → (∀ i < ls.length, 0 < nth ls i ∧ nth ls i < 18446744073709551616) →
  ∃ row : List Int, g [.int c, .lst (ls.map .int)] = .ok (.lst (row.map .int)) ∧ row.length = ls.length ∧ ∀ i < ls.length, 0 ≤ nth row i ∧ nth row i < nth ls i
theorem nth_app {row : List Int} {x : Int} {i : Nat} : nth (row ++ [x]) i = if i < row.length then nth row i else if i = row.length then x else 0 := by
  unfold nth
  rw [List.getD_eq_getElem?_getD, List.getElem?_append]
  split
  · rw [List.getD_eq_getElem?_getD]
  · rename_i h
    split
    · rename_i e; subst e; simp
    · rename_i e
      rw [List.getElem?_eq_none (by simp; omega)]
      rfl
theorem draw_turn (F : Nat → List PV → R PV) {c rest : Int} {great : Bool} {ls row : List Int} {i : Nat} {s6 : Sl} (hi : i < ls.length) (hr : row.length = i) (h0 : 0 < nth ls i) (h1 : nth ls i < 18446744073709551616) (hsz : row.length < sizeLine) :
    ∃ (x rest' : Int) (s : Sl), 0 ≤ x ∧ x < nth ls i ∧ b__law_draw_0 F [.fz (.int c), .fz (.lst (ls.map .int)), .own (row.map .int), .fz (.int rest), .fz (.bl great), .fz (.int (i : Int)), s6] =
      .next [.fz (.int c), .fz (.lst (ls.map .int)), .own ((row ++ [x]).map .int), .fz (.int rest'), .fz (.bl great), .fz (.int (i : Int)), s] := by
  have hb := bigI_of h1
  have hsz' : (row.map PV.int).length < sizeLine := by simpa using hsz
  by_cases hg : great = true ∧ nth ls i ≤ rest
  · refine ⟨rest % nth ls i, rest / nth ls i, s6, Int.emod_nonneg _ (by omega), Int.emod_lt_of_pos _ h0, ?_⟩
    simp -implicitDefEqProofs [b__law_draw_0, nth_at hi, hg.1, hg.2, h0, hb, hsz]
  · have key : ∀ m : Int, 0 ≤ m % nth ls i ∧ m % nth ls i < nth ls i := fun m => ⟨Int.emod_nonneg _ (by omega), Int.emod_lt_of_pos _ h0⟩
    let M : Int := (((if c < 0 then -c else c) * 48271 + ((i : Int) + 1) * 69621) % 2147483647 * 16807 + ((i : Int) + 1) * 40692) % 2147483399
    refine ⟨M % nth ls i, rest, .fz (.int M), (key M).1, (key M).2, ?_⟩
    by_cases hg1 : great = true
    · have hg2 : ¬ nth ls i ≤ rest := fun z => hg ⟨hg1, z⟩
      simp -implicitDefEqProofs [b__law_draw_0, nth_at hi, hg1, hg2, h0, hsz, M]
    · have hg1' : great = false := by simpa using hg1
      simp -implicitDefEqProofs [b__law_draw_0, nth_at hi, hg1', h0, hsz, M]
theorem sp_draw (F : Nat → List PV → R PV) : S_draw fun us => outR (b__law_draw F (startE 7 us)) := by
  intro c ls hl hb
  have loop : ∃ row : List Int, (∃ r1 r2 r3 r4 r5 r6, forL (tN 5) (b__law_draw_0 F) (rangeP 0 ls.length) [.fz (.int c), .fz (.lst (ls.map .int)), .own [], .fz (.int (if c < 0 then -c else c)), .fz (.bl (decide ((1000000000000000000 : Int) ≤ if c < 0 then -c else c))), .no, .no] = .next [r1, r2, .own (row.map .int), r3, r4, r5, r6]) ∧ row.length = ls.length ∧ ∀ i < ls.length, 0 ≤ nth row i ∧ nth row i < nth ls i := by
    refine forL_by (Q := fun o => ∃ row : List Int, (∃ r1 r2 r3 r4 r5 r6, o = .next [r1, r2, .own (row.map .int), r3, r4, r5, r6]) ∧ row.length = ls.length ∧ ∀ i < ls.length, 0 ≤ nth row i ∧ nth row i < nth ls i)
      (fun i r => ∃ (row : List Int) (rest : Int) (g : Bool) (s5 s6 : Sl), r = [.fz (.int c), .fz (.lst (ls.map .int)), .own (row.map .int), .fz (.int rest), .fz (.bl g), s5, s6] ∧ row.length = i ∧ ∀ j < i, 0 ≤ nth row j ∧ nth row j < nth ls j)
      ⟨[], _, _, _, _, rfl, rfl, fun j hj => by omega⟩ (fun i v r hv hi => ?_) (fun r hr => ?_)
    · obtain ⟨hi1, rfl⟩ := rangeP_get hv
      obtain ⟨row, rest, g, s5, s6, rfl, hlen, hbd⟩ := hi
      obtain ⟨x, rest', s, hx0, hx1, e⟩ := draw_turn F (c := c) (rest := rest) (great := g) (s6 := s6) hi1 hlen (hb i hi1).1 (hb i hi1).2 (by rw [szl]; omega)
      refine ⟨_, rfl, .inl ⟨_, .inl ?_, row ++ [x], rest', g, .fz (.int (i : Int)), s, rfl, by simp [hlen], fun j hj => ?_⟩⟩
      · rw [← e]
        simp -implicitDefEqProofs
      · rw [nth_app]
        by_cases hj1 : j < row.length
        · rw [if_pos hj1]; exact hbd j (by omega)
        · rw [if_neg hj1, if_pos (by omega), show j = i by omega]
          exact ⟨hx0, hx1⟩
    · obtain ⟨row, rest, g, s5, s6, rfl, hlen, hbd⟩ := hr
      rw [rangeP_len] at hlen hbd
      exact ⟨row, ⟨_, _, _, _, _, _, rfl⟩, hlen, hbd⟩
  obtain ⟨row, ⟨r1, r2, r3, r4, r5, r6, e⟩, h1, h2⟩ := loop
  refine ⟨row, ?_, h1, h2⟩
  have hl2 : ls.length ≤ 1000000000 := Nat.le_trans hl (by decide)
  simp -implicitDefEqProofs [b__law_draw, rg1_nat hl2, e, szl]
end PH
namespace PH
open PySem PySem.Spec PyProof.Rows L2 VL PF
/-! ### phases -/
abbrev Ph := Str × Int
def COL : List Str := ["white", "red", "green", "yellow", "dark"]
def isPh (p : Ph) : Bool := decide (p.1 ∈ COL) && (decide (1 ≤ p.2) && decide (p.2 ≤ 6000))
def d0 : Ph := ("", 0)
def ph (ps : List Ph) (i : Nat) : Ph := ps.getD i d0
/-! ### the checks -/
/-- a well-made character, its ends aside -/
structure Chain (ps : List Ph) : Prop where
  ne : ps ≠ []
  ok : ∀ p ∈ ps, isPh p = true
  adj : ∀ i, i + 1 < ps.length → (ph ps i).1 ≠ (ph ps (i + 1)).1
/-- .. whose ends are of different colours -/
structure Good (ps : List Ph) : Prop extends Chain ps where
  ends : 1 < ps.length → (ph ps 0).1 ≠ (ph ps (ps.length - 1)).1
theorem getLast_ph {ps : List Ph} (h : ps ≠ []) : ps.getLast h = ph ps (ps.length - 1) := by
  unfold ph
  rw [List.getLast_eq_getElem, List.getD_eq_getElem?_getD, List.getElem?_eq_getElem (by have := List.length_pos_iff.mpr h; omega)]
  rfl
end PH
namespace PH
/-! ### tenths and runs -/
open PySem (Str)
def ticks (ps : List Ph) : List Str := ps.flatMap fun p => List.replicate p.2.toNat p.1
@[simp] theorem ticks_nil : ticks [] = [] := rfl
@[simp] theorem ticks_cons (p : Ph) (r : List Ph) : ticks (p :: r) = List.replicate p.2.toNat p.1 ++ ticks r := by simp [ticks]
def Adj : List Ph → Prop
  | [] => True
  | [_] => True
  | p :: q :: r => p.1 ≠ q.1 ∧ Adj (q :: r)
def Pos (ps : List Ph) : Prop := ∀ p ∈ ps, 1 ≤ p.2
theorem adj_of : ∀ {ps : List Ph}, (∀ i, i + 1 < ps.length → (ph ps i).1 ≠ (ph ps (i + 1)).1) → Adj ps
  | [], _ => trivial
  | [_], _ => trivial
  | p :: q :: r, h => ⟨h 0 (by simp), adj_of fun i hi => by
    have := h (i + 1) (by simp at hi ⊢; omega)
    simpa [ph] using this⟩
theorem adj_at : ∀ {ps : List Ph}, Adj ps → ∀ i, i + 1 < ps.length → (ph ps i).1 ≠ (ph ps (i + 1)).1
  | [], _, i, h => by simp at h
  | [_], _, i, h => by simp at h
  | p :: q :: r, ⟨h1, h2⟩, 0, h => h1
  | p :: q :: r, ⟨h1, h2⟩, i + 1, h => by
    have := adj_at h2 i (by simp at h ⊢; omega)
    simpa [ph] using this
def hd (ps : List Ph) : Option Str := ps.head?.map (·.1)
def lastC (ps : List Ph) : Option Str := ps.getLast?.map (·.1)
/-- what _law_runs does at a colour -/
def runStep (acc : List Ph) (c : Str) : List Ph := match acc.getLast? with
  | some l => if l.1 = c then acc.dropLast ++ [(c, l.2 + 1)] else acc ++ [(c, 1)]
  | none => [(c, 1)]
def runs (row : List Str) : List Ph := row.foldl runStep []
/-! runs of any row -/
/-! where a tenth lies -/
def place : List Ph → Int → Nat × Int
  | [], r => (0, r)
  | p :: ps, r => if p.2 ≤ r then ((place ps (r - p.2)).1 + 1, (place ps (r - p.2)).2) else (0, r)
end PH
namespace PH
open PySem PySem.Spec PyProof.Rows L2 VL PF
abbrev wh (ps : List Ph) : Int := (ps.map (·.2)).sum
theorem isPh_pos {p : Ph} (h : isPh p = true) : 1 ≤ p.2 ∧ p.2 ≤ 6000 ∧ p.1 ∈ COL := by
  unfold isPh at h
  simp only [Bool.and_eq_true, decide_eq_true_eq] at h
  exact ⟨h.2.1, h.2.2, h.1⟩
theorem Chain.pos {ps : List Ph} (c : Chain ps) : Pos ps := fun p hp => (isPh_pos (c.ok p hp)).1
/-! turned -/
theorem cut_to {α : Type} (xs : List α) (i : Nat) : cutP xs none (some (i : Int)) = xs.take i := by
  unfold cutP
  rw [HT.sIx_nat, HT.sIx_none]
  simp only [List.drop_zero, Nat.sub_zero]
  by_cases h : i ≤ xs.length
  · rw [Nat.min_eq_left h]
  · rw [Nat.min_eq_right (by omega), List.take_of_length_le (by omega), List.take_of_length_le (by omega)]
def turned (ps : List Ph) (t : Int) : List Ph :=
  if ps.length = 1 then ps else
  let a := (place ps (t % wh ps)).1
  let r := (place ps (t % wh ps)).2
  if r = 0 then ps.drop a ++ ps.take a else [((ph ps a).1, (ph ps a).2 - r)] ++ ps.drop (a + 1) ++ ps.take a ++ [((ph ps a).1, r)]
end PH
namespace PH
open PySem PySem.Spec PyProof.Rows L2 VL PF
/-! joined -/
/-! shortest -/
theorem okS_col {c : Str} (h : c ∈ COL) : okS c = true := by
  simp only [COL, List.mem_cons, List.not_mem_nil, or_false] at h
  rcases h with h | h | h | h | h <;> (subst h; decide +kernel)
theorem Chain.oks {ps : List Ph} (c : Chain ps) : ∀ p ∈ ps, okS p.1 = true := fun p hp => okS_col (isPh_pos (c.ok p hp)).2.2
end PH
namespace PH
open PySem PySem.Spec PyProof.Rows L2 VL PF
theorem map_get {α : Type} {f : α → PV} {xs : List α} {i : Nat} {v : PV} (h : (xs.map f)[i]? = some v) : ∃ x, xs[i]? = some x ∧ v = f x := by
  rw [List.getElem?_map] at h
  cases e : xs[i]? with
  | none => rw [e] at h; cases h
  | some x => rw [e] at h; cases h; exact ⟨x, rfl, rfl⟩
theorem take_succ' {α : Type} {xs : List α} {i : Nat} {x : α} (h : xs[i]? = some x) : xs.take (i + 1) = xs.take i ++ [x] := by
  rw [List.take_add_one, h]
  rfl
end PH
namespace PH
open PySem PySem.Spec PyProof.Rows L2 VL PF
/-! ### _law_least -/
/-! ### _law_phases -/
theorem a12 (x y : PV) : atI [x, y] 1 = some y := rfl
end PH
namespace PH
open PySem PySem.Spec PyProof.Rows L2 VL PF
end PH
namespace PH
open PySem (Str)
/-! ### characters, turned and repeated -/
theorem hd_ph {ps : List Ph} (h : ps ≠ []) : hd ps = some (ph ps 0).1 := by
  cases ps with
  | nil => exact absurd rfl h
  | cons p r => rfl
theorem lastC_ph {ps : List Ph} (h : ps ≠ []) : lastC ps = some (ph ps (ps.length - 1)).1 := by
  unfold lastC
  rw [List.getLast?_eq_some_getLast h, getLast_ph h]
  rfl
/-- well made, said of lists -/
structure GL (ps : List Ph) : Prop where
  ne : ps ≠ []
  ok : ∀ p ∈ ps, isPh p = true
  adj : Adj ps
  ends : 1 < ps.length → lastC ps ≠ hd ps
theorem good_iff {ps : List Ph} : Good ps ↔ GL ps := by
  constructor
  · intro g
    refine ⟨g.ne, g.ok, adj_of g.adj, fun h e => ?_⟩
    rw [lastC_ph g.ne, hd_ph g.ne] at e
    exact g.ends h (Option.some.inj e).symm
  · intro g
    refine ⟨⟨g.ne, g.ok, adj_at g.adj⟩, fun h e => ?_⟩
    apply g.ends h
    rw [lastC_ph g.ne, hd_ph g.ne, e]
theorem GL.pos {ps : List Ph} (g : GL ps) : Pos ps := (good_iff.mpr g).pos
end PH
namespace PH
open PySem (Str)
/-! ### the shortest form -/
end PH
namespace VL
open PySem PySem.Spec PyProof.Rows L2
/-! a value is equal to itself -/
mutual
theorem data_self : ∀ d : PyData, PyData.canLay0 d = true → PyData.eqv d d = true
  | .none, _ => by simp [PyData.eqv]
  | .bool b, _ => by simp [PyData.eqv]
  | .int b, _ => by simp [PyData.eqv]
  | .str b, _ => by simp [PyData.eqv]
  | .list xs, h => by simp only [PyData.eqv]; exact datas_self xs (by simpa [PyData.canLay0] using h)
  | .tuple xs, h => by simp only [PyData.eqv]; exact datas_self xs (by simpa [PyData.canLay0] using h)
  | .dict _, h => by simp [PyData.canLay0] at h
theorem datas_self : ∀ d : List PyData, PyData.canLayAll0 d = true → PyData.eqvAll d d = true
  | [], _ => by simp [PyData.eqvAll]
  | x :: xs, h => by
    simp only [PyData.canLayAll0, Bool.and_eq_true] at h
    simp only [PyData.eqvAll, Bool.and_eq_true]
    exact ⟨data_self x h.1, datas_self xs h.2⟩
end
theorem eqB_self {x : PV} (h : PV.tm 64 x = true) : eqB x x = some true := by
  rw [eqB_tm h h]
  unfold PV.tm at h
  unfold PV.eqv
  cases e : x.data with
  | none => rw [e] at h; cases h
  | some d =>
    rw [e] at h
    simp only [Bool.and_eq_true] at h
    simp only
    rw [data_self d h.1]
end VL
namespace PH
open PySem PySem.Spec PyProof.Rows L2 VL PF
end PH
namespace VL
open PySem PySem.Spec PyProof.Rows L2
/-! ### more rules for the plain part -/
section
variable {ρ : Ev} {r : Env}
/-! suites of clauses -/
def xxK (ρ : Env) : R PV → Out
  | .ok v => .ret v
  | _ => .stuck
@[simp] theorem xxK_o (ρ v) : xxK ρ (.ok v) = .ret v := rfl
def hdK (i c : Nat) (fs : List (Str × PV)) (ρ : Env) (g : Xx PV) (r : List Hd) : Option Bool → Out
  | some true => if i < ρ.length then xxK ρ (g c fs) else .stuck
  | some false => tryH c fs ρ r
  | none => .stuck
@[simp] theorem hdK_t (i c fs ρ g r) : hdK i c fs ρ g r (some true) = if i < ρ.length then xxK ρ (g c fs) else .stuck := rfl
@[simp] theorem hdK_f (i c fs ρ g r) : hdK i c fs ρ g r (some false) = tryH c fs ρ r := rfl
@[simp] theorem tryH_nm (c fs) (ρ : Env) (mt i g r) : tryH c fs ρ (.nm mt i g :: r) = hdK i c fs ρ g r (mt c) := by
  conv => lhs; unfold tryH
  unfold hdK
  cases mt c with
  | none => rfl
  | some b =>
    cases b
    · rfl
    · simp only
      split
      · cases g c fs <;> rfl
      · rfl
def suiK : Out → Out
  | .exc _ _ _ => .stuck
  | o => o
@[simp] theorem suiK_r (v) : suiK (.ret v) = .ret v := rfl
@[simp] theorem suiK_n (v) : suiK (.next v) = .next v := rfl
def hdU (c : Nat) (fs : List (Str × PV)) (ρ : Env) (s : Env → Out) (r : List Hd) : Option Bool → Out
  | some true => suiK (s ρ)
  | some false => tryH c fs ρ r
  | none => .stuck
@[simp] theorem hdU_t (c fs ρ s r) : hdU c fs ρ s r (some true) = suiK (s ρ) := rfl
@[simp] theorem hdU_f (c fs ρ s r) : hdU c fs ρ s r (some false) = tryH c fs ρ r := rfl
@[simp] theorem tryH_un (c fs) (ρ : Env) (mt s r) : tryH c fs ρ (.un mt s :: r) = hdU c fs ρ s r (mt c) := by
  conv => lhs; unfold tryH
  unfold hdU
  cases mt c with
  | none => rfl
  | some b =>
    cases b
    · rfl
    · simp only
      cases s ρ <;> rfl
@[simp] theorem xC_S (v c fs) : xC v c fs = .ok v := rfl
@[simp] theorem xF_S (c0 f fs) : xF c0 f c0 fs = opt (lkF f fs) := if_pos rfl
@[simp] theorem lkF_S (f k v r) : lkF f ((k, v) :: r) = if f = k then some v else lkF f r := rfl
@[simp] theorem xNil_S (c fs) : xNil c fs = .ok [] := rfl
@[simp] theorem xCons_S (f r c fs) : xCons f r c fs = (f c fs).bind fun x => (r c fs).bind fun xs => .ok (x :: xs) := rfl
@[simp] theorem xTup_S (r c fs) : xTup r c fs = (r c fs).bind gTupV := rfl
end
/-! lists as pictures -/
theorem cutP_map {α β : Type} (f : α → β) (xs : List α) (lo hi : Option Int) : cutP (xs.map f) lo hi = (cutP xs lo hi).map f := by
  unfold cutP
  rw [List.length_map, ← List.map_drop, ← List.map_take]
theorem slP_map {α : Type} (f : α → PV) (xs : List α) (lo hi : Option Int) : slP (.lst (xs.map f)) lo hi = some (.lst ((cutP xs lo hi).map f)) := by
  rw [slP_l, cutP_map]
theorem addP_map {α : Type} {f : α → PV} {a b : List α} (h : a.length + b.length ≤ 16777216) : addP (.lst (a.map f)) (.lst (b.map f)) = some (.lst ((a ++ b).map f)) := by
  rw [addP_l, if_pos (by rw [szl]; simpa using h), List.map_append]
theorem lenP_map {α : Type} (f : α → PV) (xs : List α) : lenP [.lst (xs.map f)] = some (.int (xs.length : Int)) := by
  rw [lenP_l, List.length_map]
theorem ixP_map {α : Type} {f : α → PV} {xs : List α} {i : Nat} (d : α) (h : i < xs.length) : ixP (.lst (xs.map f)) (.int (i : Int)) = some (f (xs.getD i d)) := by
  rw [ixP_l, PH.atI_map, PH.atI_getD d h]
  rfl
/-- pictures of a kind, compared -/
structure EqF {α : Type} [DecidableEq α] (f : α → PV) (P : α → Prop) (n : Nat) : Prop where
  tm : ∀ a, P a → PV.tm n (f a) = true
  eq : ∀ a b, PV.eqv (f a) (f b) = decide (a = b)
theorem EqF.lst {α : Type} [DecidableEq α] {f : α → PV} {P : α → Prop} {n : Nat} (h : EqF f P n) {xs : List α} (hx : ∀ a ∈ xs, P a) : PV.tm (n + 1) (.lst (xs.map f)) = true := by
  rw [tm_l, tms_iff]
  intro x hx'
  obtain ⟨a, ha, rfl⟩ := List.mem_map.mp hx'
  exact h.tm a (hx a ha)
theorem EqF.eqs {α : Type} [DecidableEq α] {f : α → PV} {P : α → Prop} {n : Nat} (h : EqF f P n) {xs ys : List α} (hx : ∀ a ∈ xs, P a) (hy : ∀ a ∈ ys, P a) : PV.eqv (.lst (xs.map f)) (.lst (ys.map f)) = decide (xs = ys) := by
  rw [eqv_ll]
  exact eqvs_map (n := n) (fun _ _ => trivial) h.eq (fun a ha => h.tm a (hx a ha)) (fun a ha => h.tm a (hy a ha))
@[simp] theorem at_0 {α : Type} (x : α) (xs : List α) : atI (x :: xs) 0 = some x := by
  have := atI_nat' (xs := x :: xs) (i := 0) (by simp)
  simpa using this
@[simp] theorem at_1 {α : Type} (x y : α) (xs : List α) : atI (x :: y :: xs) 1 = some y := by
  have := atI_nat' (xs := x :: y :: xs) (i := 1) (by simp)
  simpa using this
@[simp] theorem at_2 {α : Type} (x y z : α) (xs : List α) : atI (x :: y :: z :: xs) 2 = some z := by
  have := atI_nat' (xs := x :: y :: z :: xs) (i := 2) (by simp)
  simpa using this
@[simp] theorem at_3 {α : Type} (x y z u : α) (xs : List α) : atI (x :: y :: z :: u :: xs) 3 = some u := by
  have := atI_nat' (xs := x :: y :: z :: u :: xs) (i := 3) (by simp)
  simpa using this
theorem lcL_ex {γ δ : Type} {t : Tg} {e : Ex} {ρ : Ev} (enc : γ → PV) (out : δ → PV) (P : δ → Prop) : ∀ (xs : List γ), (∀ x ∈ xs, ∃ as d, t (enc x) = some as ∧ e (setE as ρ) = .ok (out d) ∧ P d) →
    ∃ ds : List δ, lcL t cYes e ρ (xs.map enc) = .ok (ds.map out) ∧ ds.length = xs.length ∧ ∀ d ∈ ds, P d
  | [], _ => ⟨[], rfl, rfl, by simp⟩
  | x :: xs, H => by
    obtain ⟨as, d, e1, e2, e3⟩ := H x List.mem_cons_self
    obtain ⟨ds, f1, f2, f3⟩ := lcL_ex enc out P xs fun y hy => H y (List.mem_cons_of_mem _ hy)
    refine ⟨d :: ds, ?_, by simp [f2], fun y hy => ?_⟩
    · simp only [List.map_cons, lcL, e1, cYes_S, e2, f1]
    · rcases List.mem_cons.mp hy with h | h
      · rw [h]; exact e3
      · exact f3 y h
/-! loops -/
/-- for x in xs: g := f g x -/
theorem forL_fold {β γ : Type} {t : Tg} {s : Env → Out} {enc : β → PV} {f : γ → β → γ} (R : γ → Env → Prop) {xs : List β} {g0 : γ} {r0 : Env} (h0 : R g0 r0)
    (turn : ∀ (i : Nat) (x : β) (g : γ) (r : Env), xs[i]? = some x → g = (xs.take i).foldl f g0 → R g r → ∃ as r', t (enc x) = some as ∧ (s (setS as r) = .next r' ∨ s (setS as r) = .cont r') ∧ R (f g x) r') :
    ∃ r', forL t s (xs.map enc) r0 = .next r' ∧ R (xs.foldl f g0) r' := by
  refine forL_by (Q := fun o => ∃ r', o = .next r' ∧ R (xs.foldl f g0) r') (fun i r => R ((xs.take i).foldl f g0) r) (by simpa using h0) (fun i v r hv hi => ?_) (fun r hr => ?_)
  · obtain ⟨x, hx, rfl⟩ := PH.map_get hv
    obtain ⟨as, r', e1, e2, e3⟩ := turn i x _ r hx rfl hi
    refine ⟨as, e1, .inl ⟨r', e2, ?_⟩⟩
    rw [PH.take_succ' hx, List.foldl_append]
    exact e3
  · rw [List.length_map, List.take_length] at hr
    exact ⟨r, rfl, hr⟩
/-- how a turn ends that ends the loop -/
def isEnd : Out → Prop
  | .ret _ => True
  | .exc _ _ _ => True
  | _ => False
/-- for x in xs: if p x: return .. -/
theorem forL_find {β : Type} {t : Tg} {s : Env → Out} {enc : β → PV} (R : Env → Prop) (p : β → Bool) (Q : β → Out → Prop) {xs : List β} {r0 : Env} (h0 : R r0)
    (turn : ∀ (i : Nat) (x : β) (r : Env), xs[i]? = some x → R r → ∃ as, t (enc x) = some as ∧ ((p x = true ∧ isEnd (s (setS as r)) ∧ Q x (s (setS as r))) ∨ (p x = false ∧ ∃ r', (s (setS as r) = .next r' ∨ s (setS as r) = .cont r') ∧ R r'))) :
    (∃ x, xs.find? p = some x ∧ Q x (forL t s (xs.map enc) r0)) ∨ (xs.find? p = none ∧ ∃ r', forL t s (xs.map enc) r0 = .next r' ∧ R r') := by
  refine forL_by (Q := fun o => (∃ x, xs.find? p = some x ∧ Q x o) ∨ (xs.find? p = none ∧ ∃ r', o = .next r' ∧ R r')) (fun i r => R r ∧ ∀ x ∈ xs.take i, p x = false) ⟨h0, by simp⟩ (fun i v r hv hi => ?_) (fun r hr => ?_)
  · obtain ⟨x, hx, rfl⟩ := PH.map_get hv
    obtain ⟨as, e1, h⟩ := turn i x r hx hi.1
    refine ⟨as, e1, ?_⟩
    rcases h with ⟨hp, he, hq⟩ | ⟨hp, r', e2, e3⟩
    · have hf : xs.find? p = some x := by
        have hi1 : i < xs.length := by
          rcases Nat.lt_or_ge i xs.length with h | h
          · exact h
          · rw [List.getElem?_eq_none h] at hx; cases hx
        have e : xs = xs.take i ++ x :: xs.drop (i + 1) := by
          rw [List.getElem?_eq_getElem hi1] at hx
          cases hx
          rw [List.getElem_cons_drop, List.take_append_drop]
        rw [e, List.find?_append, List.find?_eq_none.mpr (fun y hy => by rw [hi.2 y hy]; simp)]
        simp [hp]
      cases ho : s (setS as r) with
      | ret v => rw [ho] at hq; exact .inr (.inr (.inl ⟨v, rfl, .inl ⟨x, hf, hq⟩⟩))
      | exc c fs r' => rw [ho] at hq; exact .inr (.inr (.inr ⟨c, fs, r', rfl, .inl ⟨x, hf, hq⟩⟩))
      | next _ => rw [ho] at he; exact he.elim
      | cont _ => rw [ho] at he; exact he.elim
      | brk _ => rw [ho] at he; exact he.elim
      | stuck => rw [ho] at he; exact he.elim
    · refine .inl ⟨r', e2, e3, fun y hy => ?_⟩
      rw [PH.take_succ' hx, List.mem_append] at hy
      rcases hy with hy | hy
      · exact hi.2 y hy
      · rw [List.mem_singleton] at hy; subst hy; exact hp
  · rw [List.length_map, List.take_length] at hr
    exact .inr ⟨List.find?_eq_none.mpr fun y hy => by rw [hr.2 y hy]; simp, r, rfl, hr.1⟩
theorem rangeP_map (n : Nat) : rangeP 0 n = (List.range n).map fun (i : Nat) => PV.int ((i : Nat) : Int) := by
  unfold rangeP
  refine List.map_congr_left fun i _ => ?_
  rw [Int.zero_add]
theorem range_at {n i x : Nat} (h : (List.range n)[i]? = some x) : x = i ∧ i < n := by
  rcases Nat.lt_or_ge i n with h1 | h1
  · rw [List.getElem?_range h1] at h; cases h; exact ⟨rfl, h1⟩
  · rw [List.getElem?_eq_none (by simpa using h1)] at h; cases h
end VL
namespace WY
open PySem PySem.Spec PyProof.Rows L2 VL PF PH
/-! ### directions -/
abbrev Dr := Int × Int
def encD (d : Dr) : PV := .tup [.int d.1, .int d.2]
def crs (a b : Dr) : Int := a.1 * b.2 - a.2 * b.1
def dt (a b : Dr) : Int := a.1 * b.1 + a.2 * b.2
def Sm (d : Dr) : Prop := (-1000000000000 < d.1 ∧ d.1 < 1000000000000) ∧ (-1000000000000 < d.2 ∧ d.2 < 1000000000000)
theorem encD_0 (d : Dr) : ixP (encD d) (.int 0) = some (.int d.1) := rfl
theorem encD_1 (d : Dr) : ixP (encD d) (.int 1) = some (.int d.2) := rfl
theorem nol_D (d : Dr) : PV.nol (encD d) = true := by simp [encD]
theorem mk1 {d : Dr} (h : Sm d) (x : Int) : mulOk x d.1 = true := mulOk_r ⟨by have := h.1.1; omega, by have := h.1.2; omega⟩
theorem mk2 {d : Dr} (h : Sm d) (x : Int) : mulOk x d.2 = true := mulOk_r ⟨by have := h.2.1; omega, by have := h.2.2; omega⟩
def S_cross (g : List PV → R PV) : Prop := ∀ a b : Dr, Sm b → g [encD a, encD b] = .ok (.int (crs a b))
theorem sp_cross (F : Nat → List PV → R PV) : S_cross fun us => outR (b_cross F (startE 2 us)) := by
  intro a b hb
  simp -implicitDefEqProofs [b_cross, encD_0, encD_1, mk1 hb, mk2 hb, crs]
def S_dot (g : List PV → R PV) : Prop := ∀ a b : Dr, Sm b → g [encD a, encD b] = .ok (.int (dt a b))
theorem sp_dot (F : Nat → List PV → R PV) : S_dot fun us => outR (b_dot F (startE 2 us)) := by
  intro a b hb
  simp -implicitDefEqProofs [b_dot, encD_0, encD_1, mk1 hb, mk2 hb, dt]
end WY
namespace WY
/-! ### the law's own order of directions -/
def ag (a d : Dr) : Dr := (d.1 * a.2 - d.2 * a.1, d.1 * a.1 + d.2 * a.2)
theorem nz_sq {a : Dr} (h : a ≠ (0, 0)) : 0 < a.1 * a.1 + a.2 * a.2 := by
  have s1 : ∀ x : Int, 0 ≤ x * x := fun x => by
    rcases Int.le_total 0 x with h | h
    · exact Int.mul_nonneg h h
    · exact Int.mul_nonneg_of_nonpos_of_nonpos h h
  have s2 : ∀ x : Int, x ≠ 0 → 0 < x * x := fun x hx => by
    rcases Int.lt_trichotomy x 0 with h | h | h
    · exact Int.mul_pos_of_neg_of_neg h h
    · exact absurd h hx
    · exact Int.mul_pos h h
  by_cases c : a.1 = 0
  · have : a.2 ≠ 0 := fun z => h (by obtain ⟨a1, a2⟩ := a; simp only at c z; rw [c, z])
    have := s2 _ this
    have := s1 a.1
    omega
  · have := s2 _ c
    have := s1 a.2
    omega
end WY
namespace WY
open PySem PySem.Spec PyProof.Rows L2 VL PF PH
/-! ### checks of directions -/
theorem tm_D (n : Nat) (d : Dr) : PV.tm (n + 1) (encD d) = true := by
  unfold encD
  rw [tm_t, tms_S, tms_S, tms_0, tm_i, tm_i]
  rfl
theorem eqv_D (a b : Dr) : PV.eqv (encD a) (encD b) = decide (a = b) := by
  unfold encD
  rw [eqv_tt]
  obtain ⟨a1, a2⟩ := a
  obtain ⟨b1, b2⟩ := b
  show PyData.eqvAll [.int a1, .int a2] [.int b1, .int b2] = _
  rw [Bool.eq_iff_iff]
  simp [PyData.eqvAll, PyData.eqv]
theorem eqB_D (a b : Dr) : eqB (encD a) (encD b) = some (decide (a = b)) := by
  rw [eqB_tm (tm_D 63 a) (tm_D 63 b), eqv_D]
def encDs (ds : List Dr) : PV := .lst (ds.map encD)
def bw (k : Int) : List (Str × PV) := [("number", .int k), ("label", .str "BadWay")]
/-- the first direction that is none -/
def badW (ds : List Dr) : Option Nat := (List.range ds.length).find? fun i => decide (ds.getD i (0, 0) = (0, 0))
def S_ways (g : List PV → R PV) : Prop := ∀ (ds : List Dr) (f : Int), ds.length ≤ 1000000 → g [encDs ds, .int f] = match badW ds with
  | some k => .exc 8 (bw (f + (k : Int)))
  | none => .ok .non
end WY
namespace WY
open PySem PySem.Spec PyProof.Rows L2 VL PF PH
/-! ### gcd_of -/
def S_gcd (g : List PV → R PV) : Prop := ∀ a b : Nat, g [.int (a : Int), .int (b : Int)] = .ok (.int (Nat.gcd a b : Int))
theorem gcd_step (a b : Nat) : Nat.gcd b (a % b) = Nat.gcd a b := by
  rw [Nat.gcd_comm a b, Nat.gcd_rec b a, Nat.gcd_comm]
theorem sp_gcd (F : Nat → List PV → R PV) : S_gcd fun us => outR (b_gcd_of F (startE 2 us)) := by
  intro a b
  have loop : sWhile [] (b_gcd_of_0 F) (b_gcd_of_1 F) [.fz (.int (a : Int)), .fz (.int (b : Int))] = .next [.fz (.int (Nat.gcd a b : Int)), .fz (.int 0)] := by
    refine sWhile_by (Q := fun o => o = .next [.fz (.int (Nat.gcd a b : Int)), .fz (.int 0)])
      (fun m r => ∃ x y : Nat, r = [.fz (.int (x : Int)), .fz (.int (y : Int))] ∧ m = y ∧ Nat.gcd x y = Nat.gcd a b) ?_ (m := b) ⟨a, b, rfl, rfl, rfl⟩
    rintro m r ⟨x, y, rfl, rfl, hg⟩
    by_cases c : 0 < m
    · have c' : (0 : Int) < (m : Int) := by omega
      refine .inr ⟨by simp -implicitDefEqProofs [b_gcd_of_0, c], .inl ⟨x % m, [.fz (.int (m : Int)), .fz (.int ((x : Int) % (m : Int)))], Nat.mod_lt _ c, .inl (by simp -implicitDefEqProofs [b_gcd_of_1, c]), m, x % m, rfl, rfl, by rw [gcd_step, hg]⟩⟩
    · have h0 : m = 0 := by omega
      subst h0
      refine .inl ⟨by simp -implicitDefEqProofs [b_gcd_of_0], ?_⟩
      rw [← hg, Nat.gcd_zero_right]
      rfl
  simp -implicitDefEqProofs [b_gcd_of, loop]
end WY
namespace WY
open PySem PySem.Spec PyProof.Rows L2 VL PF PH
/-! ### Euclid by turns: _law_lowest -/
theorem half_mod {x y : Nat} (h0 : 0 < y) (h : y < x) : 2 * (x % y) ≤ x := by
  have h1 := Nat.mod_lt x h0
  have h2 := Nat.div_add_mod x y
  have h3 : 1 ≤ x / y := by
    rw [Nat.le_div_iff_mul_le h0]; omega
  have h4 : y * 1 ≤ y * (x / y) := Nat.mul_le_mul_left _ h3
  omega
theorem low_loop {F : Nat → List PV → R PV} {body : VL.Env → Out} (hbody : body = b__law_lowest_v1_0 F) {x0 y0 : Nat} (hB : y0 * y0 < 2 ^ 399) (t bt : Sl) :
    ∃ s4 s5, forL (tN 4) body (rangeP 0 400) [t, bt, .fz (.int (x0 : Int)), .fz (.int (y0 : Int)), .no, .no] = .next [t, bt, .fz (.int (Nat.gcd x0 y0 : Int)), .fz (.int 0), s4, s5] := by
  subst hbody
  refine forL_by (Q := fun o => ∃ s4 s5, o = .next [t, bt, .fz (.int (Nat.gcd x0 y0 : Int)), .fz (.int 0), s4, s5])
    (fun i r => ∃ (x y : Nat) (s4 s5 : Sl), r = [t, bt, .fz (.int (x : Int)), .fz (.int (y : Int)), s4, s5] ∧ Nat.gcd x y = Nat.gcd x0 y0 ∧ ((i = 0 ∧ y = y0) ∨ (1 ≤ i ∧ y < x ∧ x * y * 2 ^ (i - 1) ≤ y0 * y0)))
    ⟨x0, y0, _, _, rfl, rfl, .inl ⟨rfl, rfl⟩⟩ (fun i v r hv hi => ?_) (fun r hr => ?_)
  · obtain ⟨hi1, rfl⟩ := rangeP_get hv
    obtain ⟨x, y, s4, s5, rfl, hg, hc⟩ := hi
    refine ⟨_, rfl, ?_⟩
    have e2 : setS [(4, PV.int (0 + (i : Int)))] [t, bt, .fz (.int (x : Int)), .fz (.int (y : Int)), s4, s5] = [t, bt, .fz (.int (x : Int)), .fz (.int (y : Int)), .fz (.int (i : Int)), s5] := by simp
    rw [e2]
    by_cases h0 : y = 0
    · subst h0
      refine .inr (.inl ⟨[t, bt, .fz (.int (x : Int)), .fz (.int 0), .fz (.int (i : Int)), s5], by simp -implicitDefEqProofs [b__law_lowest_v1_0], .fz (.int (i : Int)), s5, ?_⟩)
      rw [← hg, Nat.gcd_zero_right]
    · have hp : 0 < y := by omega
      have hz : ¬ (y : Int) = 0 := by omega
      refine .inl ⟨[t, bt, .fz (.int (y : Int)), .fz (.int ((x : Int) % (y : Int))), .fz (.int (i : Int)), .fz (.int ((x : Int) % (y : Int)))], .inl (by simp -implicitDefEqProofs [b__law_lowest_v1_0, h0, hz, hp]), y, x % y, _, _, rfl, by rw [gcd_step, hg], .inr ⟨by omega, Nat.mod_lt _ hp, ?_⟩⟩
      rw [Nat.add_sub_cancel]
      rcases hc with ⟨rfl, rfl⟩ | ⟨k1, k2, k3⟩
      · rw [Nat.pow_zero, Nat.mul_one]
        exact Nat.mul_le_mul_left _ (Nat.le_of_lt (Nat.mod_lt _ hp))
      · have h3 := half_mod hp k2
        obtain ⟨j, rfl⟩ : ∃ j, i = j + 1 := ⟨i - 1, by omega⟩
        rw [Nat.add_sub_cancel] at k3
        have h4 : y * (x % y) * 2 ≤ x * y := by
          have := Nat.mul_le_mul_left y h3
          rw [Nat.mul_comm x y]
          calc y * (x % y) * 2 = y * (2 * (x % y)) := by rw [Nat.mul_assoc, Nat.mul_comm (x % y) 2]
            _ ≤ y * x := this
        calc y * (x % y) * 2 ^ (j + 1) = y * (x % y) * 2 * 2 ^ j := by rw [Nat.pow_succ, Nat.mul_assoc (y * (x % y)) 2, Nat.mul_comm 2 (2 ^ j)]
          _ ≤ x * y * 2 ^ j := Nat.mul_le_mul_right _ h4
          _ ≤ y0 * y0 := k3
  · obtain ⟨x, y, s4, s5, rfl, hg, hc⟩ := hr
    rw [rangeP_len] at hc
    have hy : y = 0 := by
      rcases hc with ⟨h, _⟩ | ⟨k1, k2, k3⟩
      · omega
      · by_cases h0 : y = 0
        · exact h0
        · exfalso
          have : 1 ≤ x * y := Nat.mul_pos (by omega) (by omega)
          have := Nat.mul_le_mul_right (2 ^ (400 - 1)) this
          rw [Nat.one_mul] at this
          exact absurd hB (by
            have e : (400 - 1 : Nat) = 399 := rfl
            rw [e] at this k3
            exact Nat.not_lt.mpr (Nat.le_trans this k3))
    subst hy
    rw [Nat.gcd_zero_right] at hg
    exact ⟨s4, s5, by rw [hg]; rfl⟩
end WY
namespace WY
open PySem PySem.Spec PyProof.Rows L2 VL PF PH
/-! ### between -/
theorem sp_cross_l (F : Nat → List PV → R PV) : S_cross fun us => outR (b__law_turn_of F (startE 2 us)) := by
  intro a b hb
  simp -implicitDefEqProofs [b__law_turn_of, encD_0, encD_1, mk1 hb, mk2 hb, crs]
/-- small enough for products -/
def Sx (d : Dr) : Prop := (-300000 ≤ d.1 ∧ d.1 ≤ 300000) ∧ (-300000 ≤ d.2 ∧ d.2 ≤ 300000)
theorem Sx.sm {d : Dr} (h : Sx d) : Sm d := by
  obtain ⟨⟨a, b⟩, c, e⟩ := h
  exact ⟨⟨by omega, by omega⟩, by omega, by omega⟩
theorem mul_bd {x y : Int} (hx : -300000 ≤ x ∧ x ≤ 300000) (hy : -300000 ≤ y ∧ y ≤ 300000) : -90000000000 ≤ x * y ∧ x * y ≤ 90000000000 := by
  have h : (x * y).natAbs ≤ 300000 * 300000 := by
    rw [Int.natAbs_mul]
    exact Nat.mul_le_mul (by omega) (by omega)
  omega
theorem Sx.ag {a d : Dr} (h : Sx a) (h' : Sx d) : Sm (WY.ag a d) := by
  have p1 := mul_bd h'.1 h.2
  have p2 := mul_bd h'.2 h.1
  have p3 := mul_bd h'.1 h.1
  have p4 := mul_bd h'.2 h.2
  unfold WY.ag Sm
  simp only
  omega
theorem Sx.dt {a d : Dr} (h : Sx a) (h' : Sx d) : -180000000000 ≤ WY.dt a d ∧ WY.dt a d ≤ 180000000000 := by
  have p3 := mul_bd h.1 h'.1
  have p4 := mul_bd h.2 h'.2
  unfold WY.dt
  omega
end WY
namespace WY
open PySem PySem.Spec PyProof.Rows L2 VL PF PH
/-! ### the order round from a direction -/
/-! the law's way of ordering -/
end WY
namespace WY
open PySem PySem.Spec PyProof.Rows L2 VL PF PH
/-! ### eighths -/
def ab (x : Int) : Int := if x < 0 then -x else x
theorem absP_ab (i : Int) : absP [.int i] = some (.int (ab i)) := rfl
theorem ab_nn (x : Int) : 0 ≤ ab x := by unfold ab; split <;> omega
/-! ### lowest terms -/
def lowT (t : Int) (b : Nat) : PV := .tup [.int (t / (Nat.gcd t.natAbs b : Int)), .int ((b : Int) / (Nat.gcd t.natAbs b : Int))]
def S_lowest (g : List PV → R PV) : Prop := ∀ (t : Int) (b : Nat), 0 < b → b < 100000000000000000000000000000000000000000000000000 → g [.int t, .int (b : Int)] = .ok (lowT t b)
theorem big50 {n : Nat} (h : n < 100000000000000000000000000000000000000000000000000) : (n : Int) < bigI := by
  have : (100000000000000000000000000000000000000000000000000 : Int) < bigI := by unfold bigI; decide +kernel
  omega
theorem ab_nat (t : Int) : ab t = (t.natAbs : Int) := by unfold ab; split <;> omega
theorem sp_lowest {F : Nat → List PV → R PV} (h1 : S_gcd (F 330)) : S_lowest fun us => outR (b_lowest F (startE 3 us)) := by
  intro t b hb hB
  have hg := Nat.gcd_pos_of_pos_right t.natAbs hb
  have hle := Nat.gcd_le_right t.natAbs hb
  have hbig := big50 (Nat.lt_of_le_of_lt hle hB)
  have e := h1 t.natAbs b
  have hg' : (0 : Int) < (Nat.gcd t.natAbs b : Int) := by omega
  unfold lowT
  generalize Nat.gcd t.natAbs b = G at *
  simp -implicitDefEqProofs [b_lowest, absP_ab, -absP_i, ab_nat, e, hg, hg', hbig, szl]
/-! ### places -/
def oor (k : Int) : List (Str × PV) := [("value", .int k), ("label", .str "OutOfRange")]
theorem mk_oor (k : Int) : mkFs 1 sp_OutOfRange [.int k] = some (oor k) := by
  unfold mkFs
  rw [if_pos ⟨rfl, by decide⟩]
  rfl
def inPl (x : Int) : Bool := decide (-100000 ≤ x) && decide (x ≤ 100000)
def S_place_ck (g : List PV → R PV) : Prop := ∀ d : Dr, g [encD d] = if inPl d.1 = false then .exc 17 (oor d.1) else if inPl d.2 = false then .exc 17 (oor d.2) else .ok .non
theorem sp_place_ck (F : Nat → List PV → R PV) : S_place_ck fun us => outR (b_check_place F (startE 2 us)) := by
  intro d
  obtain ⟨x, y⟩ := d
  have turn : ∀ (z : Int) (s : Sl), b_check_place_0 F [.fz (encD (x, y)), .fz (.int z)] = if inPl z = false then .exc 17 (oor z) [.fz (encD (x, y)), .fz (.int z)] else .next [.fz (encD (x, y)), .fz (.int z)] := by
    intro z s
    unfold inPl
    by_cases c1 : -100000 ≤ z
    · by_cases c2 : z ≤ 100000 <;> simp -implicitDefEqProofs [b_check_place_0, c_MOST_PLACE, c1, c2, mk_oor]
    · simp -implicitDefEqProofs [b_check_place_0, c_MOST_PLACE, c1, mk_oor]
  have e1 : itemsP (encD (x, y)) = .ok [.int x, .int y] := rfl
  have L : forL (tN 1) (b_check_place_0 F) [.int x, .int y] [.fz (encD (x, y)), .no] = if inPl x = false then .exc 17 (oor x) [.fz (encD (x, y)), .fz (.int x)] else if inPl y = false then .exc 17 (oor y) [.fz (encD (x, y)), .fz (.int y)] else .next [.fz (encD (x, y)), .fz (.int y)] := by
    unfold forL
    simp only [tN_S, setS_S, setS_0, List.set_cons_succ, List.set_cons_zero]
    rw [turn x .no]
    cases h : inPl x
    · simp
    · simp only [Bool.true_eq_false, if_false]
      unfold forL
      simp only [tN_S, setS_S, setS_0, List.set_cons_succ, List.set_cons_zero]
      rw [turn y .no]
      cases h : inPl y <;> simp
  simp only
  cases h1 : inPl x <;> cases h2 : inPl y <;> rw [h1] at L <;> simp only [h2, Bool.true_eq_false, if_false, if_true] at L ⊢ <;> simp -implicitDefEqProofs [b_check_place, e1, L]
end WY
namespace WY
open PySem PySem.Spec PyProof.Rows L2 VL PF PH
/-! ### the functions from outside -/
theorem badW_none {ws : List Dr} (h : ∀ w ∈ ws, w ≠ (0, 0)) : badW ws = none := by
  unfold badW
  rw [List.find?_range_eq_none]
  intro i hi
  have hm : ws.getD i (0, 0) ∈ ws := by
    rw [List.getD_eq_getElem?_getD, List.getElem?_eq_getElem hi]
    exact List.getElem_mem hi
  simpa using h _ hm
variable {F : Nat → List PV → R PV}
theorem ways_ok {g : List PV → R PV} (h : S_ways g) {ws : List Dr} {f : Int} (hl : ws.length ≤ 1000000) (hw : ∀ w ∈ ws, w ≠ (0, 0)) : g [.lst (ws.map encD), .int f] = .ok .non := by
  have := h ws f hl
  rw [badW_none hw] at this
  exact this
theorem w1 {g : List PV → R PV} (h : S_ways g) {a : Dr} {f : Int} (ha : a ≠ (0, 0)) : g [.lst [encD a], .int f] = .ok .non := ways_ok h (ws := [a]) (by simp) (by simpa using ha)
theorem w2 {g : List PV → R PV} (h : S_ways g) {a b : Dr} {f : Int} (ha : a ≠ (0, 0)) (hb : b ≠ (0, 0)) : g [.lst [encD a, encD b], .int f] = .ok .non := ways_ok h (ws := [a, b]) (by simp) (by simp [ha, hb])
theorem dt_self {a : Dr} (h : Sx a) (n : a ≠ (0, 0)) : 0 < dt a a ∧ dt a a ≤ 180000000000 := ⟨nz_sq n, (h.dt h).2⟩
def S_way_between (g : List PV → R PV) : Prop := ∀ a b : Dr, g [encD a, encD b] = .ok (encD (b.1 - a.1, b.2 - a.2))
theorem sp_way_between (F : Nat → List PV → R PV) : S_way_between fun us => outR (b_way_between F (startE 2 us)) := by
  intro a b
  simp -implicitDefEqProofs [b_way_between, encD_0, encD_1, szl]
  rfl
def smp : List (Str × PV) := [("label", .str "SamePlace")]
theorem mk_smp : mkFs 0 sp_SamePlace [] = some smp := by
  unfold mkFs
  rw [if_pos ⟨rfl, by decide⟩]
  rfl
/-! the law's directions -/
end WY
namespace VL
open PySem PySem.Spec PyProof.Rows L2
/-! in of plain lists -/
theorem inB_strs (c : Str) (xs : List Str) : inB (.str c) (.lst (xs.map .str)) = some (decide (c ∈ xs)) := by
  show (if flatP (.str c) = true ∧ (xs.map PV.str).all flatP = true then some ((xs.map PV.str).any fun y => eqF y (.str c)) else _) = _
  rw [if_pos ⟨rfl, by simp [flatP]⟩]
  congr 1
  rw [Bool.eq_iff_iff]
  simp [eqF]
theorem inB_ints (c : Int) (xs : List Int) : inB (.int c) (.lst (xs.map .int)) = some (decide (c ∈ xs)) := by
  show (if flatP (.int c) = true ∧ (xs.map PV.int).all flatP = true then some ((xs.map PV.int).any fun y => eqF y (.int c)) else _) = _
  rw [if_pos ⟨rfl, by simp [flatP]⟩]
  congr 1
  rw [Bool.eq_iff_iff]
  simp [eqF]
end VL
namespace WY
open PySem PySem.Spec PyProof.Rows L2 VL PF PH
/-! ### lines -/
def sub (a b : Dr) : Dr := (a.1 - b.1, a.2 - b.2)
/-- near enough -/
def Nr (d : Dr) : Prop := (-150000 ≤ d.1 ∧ d.1 ≤ 150000) ∧ (-150000 ≤ d.2 ∧ d.2 ≤ 150000)
theorem Nr.sub {a b : Dr} (h : Nr a) (h' : Nr b) : Sx (WY.sub a b) := by
  obtain ⟨⟨a1, a2⟩, a3, a4⟩ := h
  obtain ⟨⟨b1, b2⟩, b3, b4⟩ := h'
  exact ⟨⟨by simp only [WY.sub]; omega, by simp only [WY.sub]; omega⟩, by simp only [WY.sub]; omega, by simp only [WY.sub]; omega⟩
theorem Sx.crs {a d : Dr} (h : Sx a) (h' : Sx d) : -180000000000 ≤ WY.crs a d ∧ WY.crs a d ≤ 180000000000 := by
  have p3 := mul_bd h.1 h'.2
  have p4 := mul_bd h.2 h'.1
  unfold WY.crs
  omega
theorem wb {g : List PV → R PV} (h : S_way_between g) (a b : Dr) : g [encD a, encD b] = .ok (encD (sub b a)) := h a b
theorem sp_line_way {F : Nat → List PV → R PV} (h1 : S_way_between (F 646)) : S_way_between fun us => outR (b_line_way F (startE 2 us)) := by
  intro a b
  simp -implicitDefEqProofs [b_line_way, h1 a b]
def S_side_of' (g : List PV → R PV) : Prop := ∀ f r s : Dr, Nr f → Nr s → g [encD f, encD r, encD s] = .ok (.int (crs (sub r f) (sub s f)))
theorem sp_side_of {F : Nat → List PV → R PV} (h1 : S_way_between (F 646)) (h2 : S_way_between (F 445)) (h3 : S_cross (F 285)) : S_side_of' fun us => outR (b_side_of F (startE 3 us)) := by
  intro f r s hf hs
  simp -implicitDefEqProofs [b_side_of, wb h1, wb h2, h3 (sub r f) (sub s f) (hs.sub hf).sm]
def wordS (x : Int) : Str := if x = 0 then "on" else if 0 < x then "left" else "right"
def S_word_of (g : List PV → R PV) : Prop := ∀ x : Int, g [.int x] = .ok (.str (wordS x))
theorem sp_word_of (F : Nat → List PV → R PV) : S_word_of fun us => outR (b_word_of_v1 F (startE 1 us)) := by
  intro x
  unfold wordS
  by_cases c : x = 0
  · simp -implicitDefEqProofs [b_word_of_v1, c]
  · by_cases c2 : 0 < x <;> simp -implicitDefEqProofs [b_word_of_v1, c, c2]
def offV (p w s : Dr) : PV := .tup [.str (wordS (crs w (sub s p))), lowT (crs w (sub s p) * crs w (sub s p)) (dt w w).toNat]
def S_off_by (g : List PV → R PV) : Prop := ∀ p w s : Dr, Nr p → Nr s → Sx w → w ≠ (0, 0) → g [encD p, encD w, encD s] = .ok (offV p w s)
theorem sp_off_by {F : Nat → List PV → R PV} (h1 : S_way_between (F 646)) (h2 : S_cross (F 285)) (h3 : S_word_of (F 659)) (h4 : S_lowest (F 453)) (h5 : S_dot (F 296)) : S_off_by fun us => outR (b_off_by F (startE 4 us)) := by
  intro p w s hp hs hw nw
  have d1 := dt_self hw nw
  have c1 := hw.crs (hs.sub hp)
  have e4 := h4 (crs w (sub s p) * crs w (sub s p)) (dt w w).toNat (by omega) (by omega)
  rw [Int.toNat_of_nonneg (by omega)] at e4
  have m1 : mulOk (crs w (sub s p)) (crs w (sub s p)) = true := mulOk_l ⟨by omega, by omega⟩
  unfold offV
  simp -implicitDefEqProofs [b_off_by, wb h1, h2 w (sub s p) (hs.sub hp).sm, h3 (crs w (sub s p)), h5 w w hw.sm, e4, m1, szl]
/-- both numbers in range -/
def plB (d : Dr) : Bool := inPl d.1 && inPl d.2
theorem pl_ok {g : List PV → R PV} (h : S_place_ck g) {d : Dr} (hd : plB d = true) : g [encD d] = .ok .non := by
  rw [h d]
  unfold plB at hd
  rw [Bool.and_eq_true] at hd
  rw [hd.1, hd.2]
  rfl
theorem pl_bad {g : List PV → R PV} (h : S_place_ck g) {d : Dr} (hd : inPl d.1 = false) : g [encD d] = .exc 17 (oor d.1) := by
  rw [h d, if_pos hd]
structure S_check_line (g : List PV → R PV) : Prop where
  ok : ∀ f r : Dr, f ≠ r → plB f = true → plB r = true → g [encD f, encD r] = .ok .non
  same : ∀ f : Dr, g [encD f, encD f] = .exc 20 smp
  far : ∀ f r : Dr, f ≠ r → inPl f.1 = false → g [encD f, encD r] = .exc 17 (oor f.1)
theorem sp_check_line {F : Nat → List PV → R PV} (h1 : S_place_ck (F 242)) : S_check_line fun us => outR (b_check_line F (startE 2 us)) := by
  refine ⟨fun f r n hf hr => ?_, fun f => ?_, fun f r n hf => ?_⟩
  · simp -implicitDefEqProofs [b_check_line, eqB_D, n, pl_ok h1 hf, pl_ok h1 hr]
  · simp -implicitDefEqProofs [b_check_line, eqB_D, mk_smp]
  · simp -implicitDefEqProofs [b_check_line, eqB_D, n, pl_bad h1 hf]
structure S_check_ship (g : List PV → R PV) : Prop where
  ok : ∀ f r s : Dr, f ≠ r → plB f = true → plB r = true → plB s = true → g [encD f, encD r, encD s] = .ok .non
  same : ∀ f s : Dr, g [encD f, encD f, encD s] = .exc 20 smp
  far : ∀ f r s : Dr, f ≠ r → inPl f.1 = false → g [encD f, encD r, encD s] = .exc 17 (oor f.1)
theorem sp_check_ship {F : Nat → List PV → R PV} (h1 : S_place_ck (F 242)) (h2 : S_check_line (F 233)) : S_check_ship fun us => outR (b_check_ship F (startE 3 us)) := by
  refine ⟨fun f r s n hf hr hs => ?_, fun f s => ?_, fun f r s n hf => ?_⟩
  · simp -implicitDefEqProofs [b_check_ship, h2.ok f r n hf hr, pl_ok h1 hs]
  · simp -implicitDefEqProofs [b_check_ship, h2.same f]
  · simp -implicitDefEqProofs [b_check_ship, h2.far f r n hf]
/-! courses -/
abbrev Co := Dr × Dr
def encC (c : Co) : PV := .tup [.int c.1.1, .int c.1.2, .int c.2.1, .int c.2.2]
def coB (c : Co) : Bool := (decide (ab c.1.1 ≤ 100000) && decide (ab c.1.2 ≤ 100000)) && (decide (ab c.2.1 ≤ 1000) && decide (ab c.2.2 ≤ 1000))
def S_is_course (g : List PV → R PV) : Prop := ∀ c : Co, g [encC c] = .ok (.bl (coB c))
theorem max_le (x y m : Int) : (decide ((if y > x then y else x) ≤ m)) = (decide (x ≤ m) && decide (y ≤ m)) := by
  rw [Bool.eq_iff_iff]
  simp only [Bool.and_eq_true, decide_eq_true_eq]
  split <;> omega
theorem sp_is_course (F : Nat → List PV → R PV) : S_is_course fun us => outR (b_is_course F (startE 6 us)) := by
  intro c
  obtain ⟨⟨x, y⟩, v, u⟩ := c
  have e1 : lcL (tN 5) cYes (b_is_course_0 F) [some (encC ((x, y), v, u)), none, none, none, none, none] [.int x, .int y, .int v, .int u] = .ok [.bl true, .bl true, .bl true, .bl true] := by
    have := lcL_map (t := tN 5) (e := b_is_course_0 F) (ρ := [some (encC ((x, y), v, u)), none, none, none, none, none]) PV.int (fun _ => PV.bl true) [x, y, v, u] fun x _ => ⟨_, rfl, by simp -implicitDefEqProofs [b_is_course_0]⟩
    exact this
  have e2 : inB (.bl false) (.lst [.bl true, .bl true, .bl true, .bl true]) = some false := rfl
  have e3 : itemsP (encC ((x, y), v, u)) = .ok [.int x, .int y, .int v, .int u] := rfl
  have e4 : isaP [encC ((x, y), v, u), .ty "tuple"] = some (.bl true) := by unfold encC; rw [isa_S, tyName_t]; simp
  have e5 : lenP [encC ((x, y), v, u)] = some (.int 4) := rfl
  have e6 : tT [tN 1, tN 2, tN 3, tN 4] (encC ((x, y), v, u)) = some [(1, .int x), (2, .int y), (3, .int v), (4, .int u)] := rfl
  unfold coB
  simp only
  have q1 := max_le (ab x) (ab y) 100000
  have q2 := max_le (ab v) (ab u) 1000
  rw [← q1, ← q2]
  generalize hA : (if ab y > ab x then ab y else ab x) = A at *
  generalize hB : (if ab u > ab v then ab u else ab v) = B at *
  have f1 : maxP [.int (ab x), .int (ab y)] = some (.int A) := by rw [maxP_i, hA]
  have f2 : maxP [.int (ab v), .int (ab u)] = some (.int B) := by rw [maxP_i, hB]
  by_cases k : A ≤ 100000
  · simp -implicitDefEqProofs [b_is_course, e1, e2, e3, e4, e5, e6, szl, absP_ab, -absP_i, -isa_S, f1, f2, -maxP_i, c_MOST_PLACE, c_MOST_SPEED, k]
  · simp -implicitDefEqProofs [b_is_course, e1, e2, e3, e4, e5, e6, szl, absP_ab, -absP_i, -isa_S, f1, f2, -maxP_i, c_MOST_PLACE, c_MOST_SPEED, k]
def bco : List (Str × PV) := [("label", .str "BadCourse")]
theorem mk_bco : mkFs 0 sp_BadCourse [] = some bco := by
  unfold mkFs
  rw [if_pos ⟨rfl, by decide⟩]
  rfl
def S_check_course (g : List PV → R PV) : Prop := ∀ c : Co, g [encC c] = if coB c = true then .ok .non else .exc 1 bco
theorem sp_check_course {F : Nat → List PV → R PV} (h1 : S_is_course (F 355)) : S_check_course fun us => outR (b_check_course F (startE 1 us)) := by
  intro c
  cases k : coB c <;> simp -implicitDefEqProofs [b_check_course, h1 c, k, mk_bco]
def S_place_by (g : List PV → R PV) : Prop := ∀ (c : Co) (t : Int), -1000000000000 < t → t < 1000000000000 → g [encC c, .int t] = .ok (encD (c.1.1 + c.2.1 * t, c.1.2 + c.2.2 * t))
theorem sp_place_by (F : Nat → List PV → R PV) : S_place_by fun us => outR (b_place_by F (startE 2 us)) := by
  intro c t h0 h1
  have m1 : ∀ x, mulOk x t = true := fun x => mulOk_r ⟨by omega, by omega⟩
  have e0 : ixP (encC c) (.int 0) = some (.int c.1.1) := rfl
  have e1 : ixP (encC c) (.int 1) = some (.int c.1.2) := rfl
  have e2 : ixP (encC c) (.int 2) = some (.int c.2.1) := rfl
  have e3 : ixP (encC c) (.int 3) = some (.int c.2.2) := rfl
  simp -implicitDefEqProofs [b_place_by, e0, e1, e2, e3, m1, szl]
  rfl
theorem slC_to (c : Co) : slP (encC c) none (some 2) = some (encD c.1) := rfl
theorem slC_from (c : Co) : slP (encC c) (some 2) none = some (encD c.2) := rfl
/-! the law's ships -/
def S_lship (g : List PV → R PV) : Prop := ∀ (c : Int) (w : Nat), w ≤ 100000 → ∃ d : Dr, g [.int c, .int (w : Int)] = .ok (encD d) ∧ (-(w : Int) ≤ d.1 ∧ d.1 ≤ w) ∧ (-(w : Int) ≤ d.2 ∧ d.2 ≤ w)
theorem sp_lship {F : Nat → List PV → R PV} (h1 : S_draw (F 22)) : S_lship fun us => outR (b__law_ship F (startE 3 us)) := by
  intro c w hw
  have l0 : ∀ i, i < 2 → nth [2 * (w : Int) + 1, 2 * (w : Int) + 1] i = 2 * (w : Int) + 1 := by
    intro i hi
    rcases i with _ | _ | i
    · rfl
    · rfl
    · omega
  obtain ⟨row, e, hlen, hb⟩ := h1 c [2 * (w : Int) + 1, 2 * (w : Int) + 1] (by simp) (by
    intro i hi
    rw [l0 i (by simpa using hi)]
    omega)
  match row, hlen with
  | [x, y], _ =>
    have b0 := hb 0 (by simp)
    have b1 := hb 1 (by simp)
    rw [l0 0 (by omega)] at b0
    rw [l0 1 (by omega)] at b1
    simp only [nth, List.getD_cons_zero, List.getD_cons_succ] at b0 b1
    have m1 : mulOk 2 (w : Int) = true := mulOk_r ⟨by omega, by omega⟩
    simp only [List.map_cons, List.map_nil] at e
    refine ⟨(x - w, y - w), ?_, ⟨?_, ?_⟩, ?_, ?_⟩
    · simp -implicitDefEqProofs [b__law_ship, m1, e, szl]
      rfl
    all_goals (simp only; omega)
def S_lcourse (g : List PV → R PV) : Prop := ∀ (c : Int) (w f : Nat), w ≤ 100000 → f ≤ 100000 → ∃ d : Co, g [.int c, .int (w : Int), .int (f : Int)] = .ok (encC d) ∧ ((-(w : Int) ≤ d.1.1 ∧ d.1.1 ≤ w) ∧ (-(w : Int) ≤ d.1.2 ∧ d.1.2 ≤ w)) ∧ (-(f : Int) ≤ d.2.1 ∧ d.2.1 ≤ f) ∧ (-(f : Int) ≤ d.2.2 ∧ d.2.2 ≤ f)
theorem sp_lcourse {F : Nat → List PV → R PV} (h1 : S_draw (F 22)) : S_lcourse fun us => outR (b__law_course F (startE 4 us)) := by
  intro c w f hw hf
  obtain ⟨row, e, hlen, hb⟩ := h1 c [2 * (w : Int) + 1, 2 * (w : Int) + 1, 2 * (f : Int) + 1, 2 * (f : Int) + 1] (by simp) (by
    intro i hi
    simp at hi
    rcases i with _ | _ | _ | _ | i
    · simp only [nth, List.getD_cons_zero, List.getD_cons_succ]; omega
    · simp only [nth, List.getD_cons_zero, List.getD_cons_succ]; omega
    · simp only [nth, List.getD_cons_zero, List.getD_cons_succ]; omega
    · simp only [nth, List.getD_cons_zero, List.getD_cons_succ]; omega
    · omega)
  match row, hlen with
  | [x, y, u, v], _ =>
    have b0 := hb 0 (by simp)
    have b1 := hb 1 (by simp)
    have b2 := hb 2 (by simp)
    have b3 := hb 3 (by simp)
    simp only [nth, List.getD_cons_zero, List.getD_cons_succ] at b0 b1 b2 b3
    have m1 : mulOk 2 (w : Int) = true := mulOk_r ⟨by omega, by omega⟩
    have m2 : mulOk 2 (f : Int) = true := mulOk_r ⟨by omega, by omega⟩
    simp only [List.map_cons, List.map_nil] at e
    refine ⟨((x - w, y - w), u - f, v - f), ?_, ⟨⟨?_, ?_⟩, ?_, ?_⟩, ⟨?_, ?_⟩, ?_, ?_⟩
    · simp -implicitDefEqProofs [b__law_course, m1, m2, e, szl]
      rfl
    all_goals (simp only; omega)
/-! lowest terms of the law, of any sign -/
theorem low_loop0 {F : Nat → List PV → R PV} {x0 y0 : Nat} (hB : y0 * y0 < 2 ^ 399) (t bt : Sl) :
    ∃ s4 s5, forL (tN 4) (b__law_lowest_v0_0 F) (rangeP 0 400) [t, bt, .fz (.int (x0 : Int)), .fz (.int (y0 : Int)), .no, .no] = .next [t, bt, .fz (.int (Nat.gcd x0 y0 : Int)), .fz (.int 0), s4, s5] := low_loop (F := F) (body := b__law_lowest_v0_0 F) rfl hB t bt
def llowV (t b : Int) : PV := if b < 0 then .tup [.int ((-t) / (Nat.gcd t.natAbs b.natAbs : Int)), .int ((-b) / (Nat.gcd t.natAbs b.natAbs : Int))] else .tup [.int (t / (Nat.gcd t.natAbs b.natAbs : Int)), .int (b / (Nat.gcd t.natAbs b.natAbs : Int))]
def S_llow (g : List PV → R PV) : Prop := ∀ t b : Int, b ≠ 0 → b.natAbs < 100000000000000000000000000000000000000000000000000 → g [.int t, .int b] = .ok (llowV t b)
theorem sp_llow (F : Nat → List PV → R PV) : S_llow fun us => outR (b__law_lowest_v0 F (startE 6 us)) := by
  intro t b hb hB
  have hg := Nat.gcd_pos_of_pos_right t.natAbs (show 0 < b.natAbs by omega)
  have hle := Nat.gcd_le_right t.natAbs (show 0 < b.natAbs by omega)
  have hbig := big50 (Nat.lt_of_le_of_lt hle hB)
  have h2 : b.natAbs * b.natAbs < 2 ^ 399 := Nat.lt_of_le_of_lt (Nat.mul_le_mul (Nat.le_of_lt hB) (Nat.le_of_lt hB)) (by decide +kernel)
  obtain ⟨s4, s5, e⟩ := low_loop0 (F := F) (x0 := t.natAbs) h2 (.fz (.int t)) (.fz (.int b))
  have hg' : (0 : Int) < (Nat.gcd t.natAbs b.natAbs : Int) := by omega
  unfold llowV
  generalize Nat.gcd t.natAbs b.natAbs = G at *
  have r4 : rg1 400 = .ok (rangeP 0 400) := rg1_nat (n := 400) (by decide)
  by_cases hn : b < 0
  · rw [if_pos hn]
    have n1 : ¬ (0 : Int) < -(G : Int) := by omega
    have n2 : -(G : Int) < 0 := by omega
    have n3 : -bigI < -(G : Int) := by omega
    have n4 : - -(G : Int) = (G : Int) := by omega
    have n5 : ¬ (G : Int) < 0 := by omega
    have n6 : (G : Int) ≠ 0 := by omega
    simp -implicitDefEqProofs [b__law_lowest_v0, absP_ab, -absP_i, ab_nat, e, r4, hn, n1, n2, n3, n4, n5, n6, hbig, hg, hg', szl]
  · rw [if_neg hn]
    simp -implicitDefEqProofs [b__law_lowest_v0, absP_ab, -absP_i, ab_nat, e, r4, hn, hbig, hg, hg', szl]
theorem low_nn {t : Int} {b : Nat} : llowV t (b : Int) = lowT t b := by
  unfold llowV lowT
  rw [if_neg (by omega)]
  rfl
theorem low_neg {t b : Int} (hb : b < 0) : llowV t b = llowV (-t) (-b) := by
  unfold llowV
  rw [if_pos hb, if_neg (by omega), Int.natAbs_neg, Int.natAbs_neg]
theorem low_zero {b : Int} (hb : b ≠ 0) : llowV 0 b = .tup [.int 0, .int 1] := by
  unfold llowV
  have e : Nat.gcd (0 : Int).natAbs b.natAbs = b.natAbs := by simp
  rw [e]
  split
  · have : (-b) / (b.natAbs : Int) = 1 := by
      rw [show (b.natAbs : Int) = -b by omega]
      exact Int.ediv_self (by omega)
    rw [this]
    simp
  · have : b / (b.natAbs : Int) = 1 := by
      rw [show (b.natAbs : Int) = b by omega]
      exact Int.ediv_self (by omega)
    rw [this]
    simp
end WY
namespace WY
open PySem PySem.Spec PyProof.Rows L2 VL PF PH
variable {F : Nat → List PV → R PV}
/-- a line of the law, and a ship -/
structure Ln (f r : Dr) : Prop where
  ne : f ≠ r
  pf : plB f = true
  pr : plB r = true
  nf : Nr f
  nr : Nr r
theorem Ln.look {f r : Dr} (h : Ln f r) : Sx (sub r f) ∧ sub r f ≠ (0, 0) := ⟨h.nr.sub h.nf, fun z => h.ne (by
  obtain ⟨f1, f2⟩ := f
  obtain ⟨r1, r2⟩ := r
  simp only [sub, Prod.mk.injEq] at z ⊢
  omega)⟩
structure Sh (s : Dr) : Prop where
  ps : plB s = true
  ns : Nr s
structure OffLine (g : List PV → R PV) : Prop where
  ok : ∀ f r s : Dr, Ln f r → Sh s → g [encD f, encD r, encD s] = .ok (offV f (sub r f) s)
  same : ∀ f s : Dr, g [encD f, encD f, encD s] = .exc 20 smp
  far : ∀ f r s : Dr, f ≠ r → inPl f.1 = false → g [encD f, encD r, encD s] = .exc 17 (oor f.1)
theorem sp_off_line (h1 : S_check_ship (F 248)) (h2 : S_way_between (F 445)) (h3 : S_off_by (F 480)) : OffLine fun us => outR (b_off_line F (startE 3 us)) := by
  refine ⟨fun f r s hl hs => ?_, fun f s => ?_, fun f r s n hf => ?_⟩
  · obtain ⟨l1, l2⟩ := hl.look
    simp -implicitDefEqProofs [b_off_line, h1.ok f r s hl.ne hl.pf hl.pr hs.ps, wb h2, h3 f (sub r f) s hl.nf hs.ns l1 l2]
  · simp -implicitDefEqProofs [b_off_line, h1.same f s]
  · simp -implicitDefEqProofs [b_off_line, h1.far f r s n hf]
def openS (x : Int) : Str := if x = 0 then "in line" else if x < 0 then "front left" else "front right"
def S_opens (g : List PV → R PV) : Prop := ∀ f r s : Dr, Ln f r → Sh s → g [encD f, encD r, encD s] = .ok (.str (openS (crs (sub r f) (sub s f))))
theorem opens_eq (f r s : Dr) : crs (sub r s) (sub f s) = -crs (sub r f) (sub s f) := by unfold crs sub; simp only; grind
theorem sp_opens (h1 : S_check_ship (F 248)) (h2 : S_way_between (F 646)) (h3 : S_cross (F 285)) : S_opens fun us => outR (b_opens F (startE 4 us)) := by
  intro f r s hl hs
  have e := h3 (sub r s) (sub f s) (hl.nf.sub hs.ns).sm
  rw [opens_eq] at e
  unfold openS
  generalize crs (sub r f) (sub s f) = x at *
  by_cases c : x = 0
  · simp -implicitDefEqProofs [b_opens, h1.ok f r s hl.ne hl.pf hl.pr hs.ps, wb h2, e, c]
  · by_cases c2 : x < 0 <;> simp -implicitDefEqProofs [b_opens, h1.ok f r s hl.ne hl.pf hl.pr hs.ps, wb h2, e, c, c2]
def aheadB (f r s : Dr) : Bool := decide (dt (sub r f) (sub s f) < 0)
def S_is_ahead (g : List PV → R PV) : Prop := ∀ f r s : Dr, Nr f → Nr s → g [encD f, encD r, encD s] = .ok (.bl (aheadB f r s))
theorem sp_is_ahead (h1 : S_way_between (F 646)) (h2 : S_way_between (F 445)) (h3 : S_dot (F 296)) : S_is_ahead fun us => outR (b_is_ahead F (startE 3 us)) := by
  intro f r s hf hs
  unfold aheadB
  simp -implicitDefEqProofs [b_is_ahead, wb h1, wb h2, h3 (sub r f) (sub s f) (hs.sub hf).sm]
def S_ahead (g : List PV → R PV) : Prop := ∀ f r s : Dr, Ln f r → Sh s → g [encD f, encD r, encD s] = .ok (.bl (aheadB f r s))
theorem sp_ahead (h1 : S_check_ship (F 248)) (h2 : S_is_ahead (F 346)) : S_ahead fun us => outR (b_ahead_of F (startE 3 us)) := by
  intro f r s hl hs
  simp -implicitDefEqProofs [b_ahead_of, h1.ok f r s hl.ne hl.pf hl.pr hs.ps, h2 f r s hl.nf hs.ns]
/-! crossing the line -/
def crossV (b s : Int) : PV := if b = 0 ∧ s = 0 then .tup [.int 0, .int 1] else if s ≠ 0 ∧ 0 ≤ -b * s then llowV (-b) s else .non
structure Crosses (g : List PV → R PV) : Prop where
  ok : ∀ (c : Co) (f r : Dr), Ln f r → coB c = true → Nr c.1 → Nr c.2 → g [encC c, encD f, encD r] = .ok (crossV (crs (sub r f) (sub c.1 f)) (crs (sub r f) c.2))
  bad : ∀ (c : Co) (f r : Dr), Ln f r → coB c = false → g [encC c, encD f, encD r] = .exc 1 bco
theorem Nr.sx {d : Dr} (h : Nr d) : Sx d := by
  obtain ⟨⟨a, b⟩, c, e⟩ := h
  exact ⟨⟨by omega, by omega⟩, by omega, by omega⟩
theorem low_abs {b s : Int} (hs : s ≠ 0) (hb : b ≠ 0) (h : 0 ≤ -b * s) : llowV (-b) s = lowT (ab b) (ab s).toNat := by
  have key : ∀ b s : Int, 0 < s → b < 0 → llowV (-b) s = lowT (ab b) (ab s).toNat := fun b s h1 h2 => by
    have e1 : ab b = -b := by unfold ab; rw [if_pos h2]
    have e2 : ab s = s := by unfold ab; rw [if_neg (by omega)]
    rw [e1, e2, ← low_nn, Int.toNat_of_nonneg (by omega)]
  rcases Int.lt_trichotomy s 0 with h1 | h1 | h1
  · have hb' : 0 < b := by
      rcases Int.lt_trichotomy b 0 with h2 | h2 | h2
      · have := Int.mul_pos_of_neg_of_neg h2 h1
        rw [Int.neg_mul] at h
        omega
      · omega
      · exact h2
    rw [low_neg h1]
    have := key (-b) (-s) (by omega) (by omega)
    have e1 : ab (-b) = ab b := by unfold ab; rw [if_pos (by omega), if_neg (by omega)]; omega
    have e2 : ab (-s) = ab s := by unfold ab; rw [if_neg (by omega), if_pos (by omega)]
    rw [e1, e2] at this
    exact this
  · exact absurd h1 hs
  · have hb' : b < 0 := by
      rcases Int.lt_trichotomy b 0 with h2 | h2 | h2
      · exact h2
      · omega
      · have := Int.mul_pos h2 h1
        rw [Int.neg_mul] at h
        omega
    exact key b s h1 hb'
theorem sp_crosses (h1 : S_check_line (F 233)) (h2 : S_check_course (F 225)) (h3 : S_side_of' (F 577)) (h4 : S_way_between (F 445)) (h5 : S_cross (F 285)) (h6 : S_lowest (F 453)) : Crosses fun us => outR (b_crosses_line F (startE 5 us)) := by
  refine ⟨fun c f r hl hc n1 n2 => ?_, fun c f r hl hc => ?_⟩
  · have e2 := h2 c
    rw [hc, if_pos rfl] at e2
    have e3 := h3 f r c.1 hl.nf n1
    have e5 := h5 (sub r f) c.2 n2.sx.sm
    have b1 := hl.look.1.crs (n1.sub hl.nf)
    have b2 := hl.look.1.crs n2.sx
    unfold crossV
    generalize crs (sub r f) (sub c.1 f) = b at *
    generalize crs (sub r f) c.2 = s at *
    by_cases k : b = 0
    · subst k
      have : (if (0 : Int) = 0 ∧ s = 0 then PV.tup [.int 0, .int 1] else if s ≠ 0 ∧ (0 : Int) ≤ -0 * s then llowV (-0) s else .non) = .tup [.int 0, .int 1] := by
        by_cases k2 : s = 0
        · rw [if_pos ⟨rfl, k2⟩]
        · rw [if_neg (fun z => k2 z.2), if_pos ⟨k2, by simp⟩]
          exact low_zero k2
      rw [this]
      simp -implicitDefEqProofs [b_crosses_line, h1.ok f r hl.ne hl.pf hl.pr, e2, slC_to, slC_from, e3, wb h4, e5, szl]
    · rw [if_neg (fun z => k z.1)]
      by_cases k2 : s = 0
      · rw [if_neg (fun z => z.1 k2)]
        simp -implicitDefEqProofs [b_crosses_line, h1.ok f r hl.ne hl.pf hl.pr, e2, slC_to, slC_from, e3, wb h4, e5, szl, k, k2]
      · by_cases k3 : (0 < b) = (0 < s)
        · have : ¬ (0 : Int) ≤ -b * s := by
            intro z
            rw [Int.neg_mul] at z
            rcases Int.lt_trichotomy b 0 with h2 | h2 | h2
            · have h3 : s < 0 := by
                rcases Int.lt_trichotomy s 0 with q | q | q
                · exact q
                · exact absurd q k2
                · have := k3.symm.mp q; omega
              have := Int.mul_pos_of_neg_of_neg h2 h3
              omega
            · exact k h2
            · have := Int.mul_pos h2 (k3.mp h2)
              omega
          rw [if_neg (fun z => this z.2)]
          simp -implicitDefEqProofs [b_crosses_line, h1.ok f r hl.ne hl.pf hl.pr, e2, slC_to, slC_from, e3, wb h4, e5, szl, k, k2, k3]
        · have k3' : ¬ ((0 < b) ↔ (0 < s)) := fun z => k3 (propext z)
          have k4 : (0 : Int) ≤ -b * s := by
            rw [Int.neg_mul]
            rcases Int.lt_trichotomy b 0 with h2 | h2 | h2
            · have : 0 < s := by
                rcases Int.lt_trichotomy s 0 with q | q | q
                · exact absurd ⟨fun z => by omega, fun z => by omega⟩ k3'
                · exact absurd q k2
                · exact q
              have := Int.mul_neg_of_neg_of_pos h2 this
              omega
            · exact absurd h2 k
            · have : s < 0 := by
                rcases Int.lt_trichotomy s 0 with q | q | q
                · exact q
                · exact absurd q k2
                · exact absurd ⟨fun _ => q, fun _ => h2⟩ k3'
              have := Int.mul_neg_of_pos_of_neg h2 this
              omega
          rw [if_pos ⟨k2, k4⟩, low_abs k2 k k4]
          have e6 := h6 (ab b) (ab s).toNat (by unfold ab; split <;> omega) (by unfold ab; split <;> omega)
          rw [Int.toNat_of_nonneg (ab_nn s)] at e6
          simp -implicitDefEqProofs [b_crosses_line, h1.ok f r hl.ne hl.pf hl.pr, e2, slC_to, slC_from, e3, wb h4, e5, szl, k, k2, k3', absP_ab, -absP_i, e6]
  · have e2 := h2 c
    rw [hc] at e2
    simp only [Bool.false_eq_true, if_false] at e2
    simp -implicitDefEqProofs [b_crosses_line, h1.ok f r hl.ne hl.pf hl.pr, e2]
def S_keeps (g : List PV → R PV) : Prop := ∀ (c : Co) (f r : Dr), Ln f r → coB c = true → Nr c.1 → Nr c.2 → g [encC c, encD f, encD r] = .ok (.bl ((decide (crs (sub r f) (sub c.1 f) = 0) && decide (crs (sub r f) c.2 = 0)) && aheadB f r c.1))
theorem sp_keeps (h1 : S_check_line (F 233)) (h2 : S_check_course (F 225)) (h3 : S_side_of' (F 577)) (h4 : S_way_between (F 445)) (h5 : S_cross (F 285)) (h6 : S_is_ahead (F 346)) (h7 : S_place_by (F 503)) : S_keeps fun us => outR (b_keeps_line F (startE 4 us)) := by
  intro c f r hl hc n1 n2
  have e2 := h2 c
  rw [hc, if_pos rfl] at e2
  have e3 := h3 f r c.1 hl.nf n1
  have e5 := h5 (sub r f) c.2 n2.sx.sm
  have e7 := h7 c 0 (by decide) (by decide)
  simp only [Int.mul_zero, Int.add_zero] at e7
  have e6 := h6 f r (c.1.1, c.1.2) hl.nf n1
  have e8 : ((c.1.1, c.1.2) : Dr) = c.1 := rfl
  rw [e8] at e6 e7
  by_cases k : crs (sub r f) (sub c.1 f) = 0
  · by_cases k2 : crs (sub r f) c.2 = 0
    · simp -implicitDefEqProofs [b_keeps_line, h1.ok f r hl.ne hl.pf hl.pr, e2, slC_to, slC_from, e3, wb h4, e5, k, k2, e7, e6]
    · simp -implicitDefEqProofs [b_keeps_line, h1.ok f r hl.ne hl.pf hl.pr, e2, slC_to, slC_from, e3, wb h4, e5, k, k2]
  · simp -implicitDefEqProofs [b_keeps_line, h1.ok f r hl.ne hl.pf hl.pr, e2, slC_to, slC_from, e3, wb h4, e5, k]
/-! speeds on the line -/
/-- the whole numbers from -4 to 4, and their pairs -/
def span (m : Nat) : List Int := (List.range (2 * m + 1)).map fun (i : Nat) => -(m : Int) + ((i : Nat) : Int)
theorem rg2_span {m : Nat} (h : m ≤ 1000) : rg2 (-(m : Int)) ((m : Int) + 1) = .ok ((span m).map .int) := by
  unfold rg2
  rw [if_pos ⟨by omega, by omega, by omega, by omega⟩]
  unfold span rangeP
  rw [List.map_map]
  have : ((m : Int) + 1 - -(m : Int)).toNat = 2 * m + 1 := by omega
  rw [this]
  rfl
theorem span_mem {m : Nat} {x : Int} (h : x ∈ span m) : -(m : Int) ≤ x ∧ x ≤ m := by
  unfold span at h
  obtain ⟨i, hi, rfl⟩ := List.mem_map.mp h
  have : i < 2 * m + 1 := by simpa using hi
  omega
theorem span_len (m : Nat) : (span m).length = 2 * m + 1 := by simp [span]
def onB (w v : Dr) : Bool := decide (crs w v = 0) && decide (0 < dt w v)
def rowOf (p : Dr → Bool) (m : Nat) (x : Int) : List Dr := ((span m).filter fun y => p (x, y)).map fun y => (x, y)
def speedsOf (p : Dr → Bool) (m : Nat) : List Dr := (span m).flatMap (rowOf p m)
theorem row_len (p m x) : (rowOf p m x).length ≤ 2 * m + 1 := by
  unfold rowOf
  rw [List.length_map, ← span_len m]
  exact List.length_filter_le _ _
structure SpeedsOn (g : List PV → R PV) : Prop where
  ok : ∀ f r s : Dr, Ln f r → Sh s → crs (sub r f) (sub s f) = 0 → g [encD f, encD r, encD s, .int 4] = .ok (encDs (speedsOf (onB (sub f s)) 4))
  far : ∀ f r s : Dr, Ln f r → Sh s → g [encD f, encD r, encD s, .int 0] = .exc 17 (oor 0)
theorem foldl_flat {α β : Type} (f : α → List β) (xs : List α) (acc : List β) : xs.foldl (fun a x => a ++ f x) acc = acc ++ xs.flatMap f := by
  induction xs generalizing acc with
  | nil => simp
  | cons x xs ih => rw [List.foldl_cons, ih, List.flatMap_cons, List.append_assoc]
theorem flat_len {α β : Type} {f : α → List β} {k : Nat} (h : ∀ x, (f x).length ≤ k) (xs : List α) : (xs.flatMap f).length ≤ k * xs.length := by
  induction xs with
  | nil => simp
  | cons x xs ih =>
    rw [List.flatMap_cons, List.length_append, List.length_cons, Nat.mul_add]
    have := h x
    omega
theorem filter_fold (p : Dr → Bool) (x : Int) (ys : List Int) (acc : List Dr) : ys.foldl (fun a y => if p (x, y) = true then a ++ [(x, y)] else a) acc = acc ++ (ys.filter fun y => p (x, y)).map fun y => (x, y) := by
  induction ys generalizing acc with
  | nil => simp
  | cons y ys ih =>
    rw [List.foldl_cons, ih, List.filter_cons]
    split <;> simp
theorem span_sx {m : Nat} (hm : m ≤ 1000) {x y : Int} (hx : x ∈ span m) (hy : y ∈ span m) : Sx (x, y) := by
  have := span_mem hx
  have := span_mem hy
  exact ⟨⟨by simp only; omega, by simp only; omega⟩, by simp only; omega, by simp only; omega⟩
theorem eD (x y : Int) : PV.tup [.int x, .int y] = encD (x, y) := rfl
theorem sp_speeds (h1 : S_check_ship (F 248)) (h2 : ∀ x : Int, F 222 [.int x, .int 1, .int 100] = if x < 1 ∨ 100 < x then .exc 17 (oor x) else .ok .non) (h3 : S_way_between (F 646)) (h4 : S_side_of' (F 577)) (h5 : S_cross (F 285)) (h6 : S_dot (F 296)) : SpeedsOn fun us => outR (b_speeds_on F (startE 8 us)) := by
  refine ⟨fun f r s hl hs hz => ?_, fun f r s hl hs => ?_⟩
  · have e2 := h2 4
    rw [if_neg (by decide)] at e2
    have e4 := h4 f r s hl.nf hs.ns
    rw [hz] at e4
    have hrg : rg2 (-4) (4 + 1) = .ok ((span 4).map .int) := rg2_span (m := 4) (by decide)
    have hrg5 : rg2 (-4) 5 = .ok ((span 4).map .int) := hrg
    have inner : ∀ (x : Int) (acc : List Dr) (s7 : Sl), x ∈ span 4 → acc.length ≤ 100 → ∃ s7', b_speeds_on_1 F [.fz (encD f), .fz (encD r), .fz (encD s), .fz (.int 4), .fz (encD (sub f s)), .own (acc.map encD), .fz (.int x), s7] =
        .next [.fz (encD f), .fz (encD r), .fz (encD s), .fz (.int 4), .fz (encD (sub f s)), .own ((acc ++ rowOf (onB (sub f s)) 4 x).map encD), .fz (.int x), s7'] := by
      intro x acc s7 hx hacc
      obtain ⟨r', e, s7', rfl⟩ := forL_fold (t := tN 7) (s := b_speeds_on_0 F) (enc := PV.int) (f := fun (a : List Dr) (y : Int) => if onB (sub f s) (x, y) = true then a ++ [(x, y)] else a) (xs := span 4) (g0 := acc)
        (r0 := [.fz (encD f), .fz (encD r), .fz (encD s), .fz (.int 4), .fz (encD (sub f s)), .own (acc.map encD), .fz (.int x), s7])
        (fun a rr => ∃ s7, rr = [.fz (encD f), .fz (encD r), .fz (encD s), .fz (.int 4), .fz (encD (sub f s)), .own (a.map encD), .fz (.int x), s7]) ⟨_, rfl⟩ (fun i y a rr hy ha ⟨s7, er⟩ => by
          subst er
          have hym : y ∈ span 4 := List.mem_of_getElem? hy
          have hal : a.length ≤ 200 := by
            rw [ha, filter_fold, List.length_append, List.length_map]
            have h1 := List.length_filter_le (fun y => onB (sub f s) (x, y)) ((span 4).take i)
            have h2 : ((span 4).take i).length ≤ 9 := by rw [List.length_take, span_len]; omega
            omega
          have q1 := h5 (sub f s) (x, y) (span_sx (by decide) hx hym).sm
          have q2 := h6 (sub f s) (x, y) (span_sx (by decide) hx hym).sm
          refine ⟨_, [.fz (encD f), .fz (encD r), .fz (encD s), .fz (.int 4), .fz (encD (sub f s)), .own ((if onB (sub f s) (x, y) = true then a ++ [(x, y)] else a).map encD), .fz (.int x), .fz (.int y)], rfl, .inl ?_, _, rfl⟩
          have hsz : a.length < 16777216 := by omega
          unfold onB
          by_cases k1 : crs (sub f s) (x, y) = 0
          · by_cases k2 : 0 < dt (sub f s) (x, y) <;> simp -implicitDefEqProofs [b_speeds_on_0, eD, q1, q2, k1, k2, szl, hsz, nol_D]
          · simp -implicitDefEqProofs [b_speeds_on_0, eD, q1, k1, szl])
      rw [filter_fold] at e
      refine ⟨s7', ?_⟩
      have ng : negP (.int 4) = some (.int (-4)) := rfl
      simp -implicitDefEqProofs [b_speeds_on_1, hrg, -List.map_append]
      exact e
    obtain ⟨r', e, s6, s7, rfl⟩ := forL_fold (t := tN 6) (s := b_speeds_on_1 F) (enc := PV.int) (f := fun (a : List Dr) (x : Int) => a ++ rowOf (onB (sub f s)) 4 x) (xs := span 4) (g0 := [])
      (r0 := [.fz (encD f), .fz (encD r), .fz (encD s), .fz (.int 4), .fz (encD (sub f s)), .own [], .no, .no])
      (fun a rr => ∃ s6 s7, rr = [.fz (encD f), .fz (encD r), .fz (encD s), .fz (.int 4), .fz (encD (sub f s)), .own (a.map encD), s6, s7]) ⟨_, _, rfl⟩ (fun i x a rr hx ha ⟨s6, s7, er⟩ => by
        subst er
        have hxm : x ∈ span 4 := List.mem_of_getElem? hx
        have hal : a.length ≤ 100 := by
          rw [ha, foldl_flat, List.nil_append]
          have h1 := flat_len (row_len (onB (sub f s)) 4) ((span 4).take i)
          have h2 : ((span 4).take i).length ≤ 9 := by rw [List.length_take, span_len]; omega
          omega
        obtain ⟨s7', e⟩ := inner x a s7 hxm hal
        exact ⟨_, _, rfl, .inl e, _, _, rfl⟩)
    rw [foldl_flat, List.nil_append] at e
    simp -implicitDefEqProofs [b_speeds_on, h1.ok f r s hl.ne hl.pf hl.pr hs.ps, e2, e4, wb h3, hrg5, e, szl, c_MOST_PART]
    rfl
  · have e2 := h2 0
    rw [if_pos (by decide)] at e2
    simp -implicitDefEqProofs [b_speeds_on, h1.ok f r s hl.ne hl.pf hl.pr hs.ps, e2, c_MOST_PART]
theorem sp_check_between (F : Nat → List PV → R PV) (x a b : Int) : outR (b_check_between F (startE 3 [.int x, .int a, .int b])) = if x < a ∨ b < x then .exc 17 (oor x) else .ok .non := by
  by_cases c : x < a
  · simp -implicitDefEqProofs [b_check_between, c, mk_oor]
  · by_cases c2 : b < x <;> simp -implicitDefEqProofs [b_check_between, c, c2, mk_oor]
/-! rocks -/
def sideW (ks : List Int) : Str :=
  if (0 : Int) ∈ ks then "none" else if (∃ k ∈ ks, 0 < k) then (if ∃ k ∈ ks, k < 0 then "none" else "right") else (if ∃ k ∈ ks, k < 0 then "left" else "both")
structure SafeSide (g : List PV → R PV) : Prop where
  ok : ∀ (f r : Dr) (ks : List Dr), Ln f r → (∀ k ∈ ks, Sh k) → ks.length ≤ 1000 → g [encD f, encD r, encDs ks] = .ok (.str (sideW (ks.map fun k => crs (sub r f) (sub k f))))
  same : ∀ f : Dr, g [encD f, encD f, .lst []] = .exc 20 smp
theorem word_on (x : Int) : wordS x = "on" ↔ x = 0 := by
  unfold wordS
  split
  · rename_i h; simp [h]
  · rename_i h
    split
    · exact ⟨fun z => absurd z (by decide +kernel), fun z => absurd z h⟩
    · exact ⟨fun z => absurd z (by decide +kernel), fun z => absurd z h⟩
theorem word_left (x : Int) : wordS x = "left" ↔ 0 < x := by
  unfold wordS
  split
  · rename_i h; exact ⟨fun z => absurd z (by decide +kernel), fun z => by omega⟩
  · split
    · rename_i h; simp [h]
    · rename_i h; exact ⟨fun z => absurd z (by decide +kernel), fun z => absurd z h⟩
theorem word_right (x : Int) : wordS x = "right" ↔ x < 0 := by
  unfold wordS
  split
  · rename_i h; exact ⟨fun z => absurd z (by decide +kernel), fun z => by omega⟩
  · split
    · rename_i h; exact ⟨fun z => absurd z (by decide +kernel), fun z => by omega⟩
    · rename_i h; exact ⟨fun _ => by omega, fun _ => rfl⟩
theorem sp_safe (h1 : S_check_line (F 233)) (h2 : S_place_ck (F 242)) (h3 : S_side_of' (F 577)) (h4 : S_word_of (F 659)) : SafeSide fun us => outR (b_safe_side F (startE 5 us)) := by
  refine ⟨fun f r ks hl hk hn => ?_, fun f => ?_⟩
  · obtain ⟨r', e, s3, rfl⟩ := forL_fold (t := tN 3) (s := b_safe_side_0 F) (enc := encD) (f := fun (_ : Unit) (_ : Dr) => ()) (xs := ks) (g0 := ()) (r0 := [.fz (encD f), .fz (encD r), .fz (encDs ks), .no, .no])
      (fun _ rr => ∃ s3, rr = [.fz (encD f), .fz (encD r), .fz (encDs ks), s3, .no]) ⟨_, rfl⟩ (fun i k a rr hx ha ⟨s3, er⟩ => by
        subst er
        have hkm := hk k (List.mem_of_getElem? hx)
        exact ⟨_, [.fz (encD f), .fz (encD r), .fz (encDs ks), .fz (encD k), .no], rfl, .inl (by simp -implicitDefEqProofs [b_safe_side_0, pl_ok h2 hkm.ps]), _, rfl⟩)
    have e2 : itemsP (encDs ks) = .ok (ks.map encD) := rfl
    have e3 : lcL (tN 3) cYes (b_safe_side_1 F) [some (encD f), some (encD r), some (encDs ks), none, none] (ks.map encD) = .ok ((ks.map fun k => wordS (crs (sub r f) (sub k f))).map .str) := by
      rw [lcL_map (h := fun k => PV.str (wordS (crs (sub r f) (sub k f)))) encD ks fun k hkm => ⟨_, rfl, by simp -implicitDefEqProofs [b_safe_side_1, h3 f r k hl.nf (hk k hkm).ns, h4 (crs (sub r f) (sub k f))]⟩, List.map_map]
      rfl
    have hlen : (ks.map fun k => wordS (crs (sub r f) (sub k f))).length = ks.length := by simp
    have hmap : (ks.map fun k => wordS (crs (sub r f) (sub k f))) = (ks.map fun k => crs (sub r f) (sub k f)).map wordS := by rw [List.map_map]; rfl
    have hl2 : (ks.map fun k => crs (sub r f) (sub k f)).length = ks.length := by simp
    rw [hmap] at e3 hlen
    generalize (ks.map fun k => crs (sub r f) (sub k f)) = xs at *
    have m1 : (("on" : Str) ∈ xs.map wordS) ↔ (0 : Int) ∈ xs := by
      rw [List.mem_map]
      exact ⟨fun ⟨a, b, c⟩ => by rw [word_on] at c; rw [← c]; exact b, fun h => ⟨0, h, (word_on 0).mpr rfl⟩⟩
    have m2 : (("left" : Str) ∈ xs.map wordS) ↔ ∃ k ∈ xs, 0 < k := by
      rw [List.mem_map]
      exact ⟨fun ⟨a, b, c⟩ => ⟨a, b, (word_left a).mp c⟩, fun ⟨a, b, c⟩ => ⟨a, b, (word_left a).mpr c⟩⟩
    have m3 : (("right" : Str) ∈ xs.map wordS) ↔ ∃ k ∈ xs, k < 0 := by
      rw [List.mem_map]
      exact ⟨fun ⟨a, b, c⟩ => ⟨a, b, (word_right a).mp c⟩, fun ⟨a, b, c⟩ => ⟨a, b, (word_right a).mpr c⟩⟩
    have i1 := inB_strs "on" (xs.map wordS)
    have i2 := inB_strs "left" (xs.map wordS)
    have i3 := inB_strs "right" (xs.map wordS)
    have lP : lenP [.lst ((xs.map wordS).map .str)] = some (.int (xs.length : Int)) := by rw [lenP_map, List.length_map]
    have hsz : ((xs.map wordS).map PV.str).length ≤ 16777216 := by rw [List.length_map]; omega
    have empt : xs.length = 0 ↔ ¬ (0 : Int) ∈ xs ∧ ¬ (∃ k ∈ xs, 0 < k) ∧ ¬ (∃ k ∈ xs, k < 0) := by
      cases xs with
      | nil => simp
      | cons x xs =>
        simp only [List.length_cons, Nat.succ_ne_zero, false_iff, List.mem_cons]
        rintro ⟨a, b, c⟩
        rcases Int.lt_trichotomy x 0 with h | h | h
        · exact c ⟨x, .inl rfl, h⟩
        · exact a (.inl h.symm)
        · exact b ⟨x, .inl rfl, h⟩
    unfold sideW
    generalize (xs.map wordS).map PV.str = L at *
    have l2 : (xs.map wordS).length = xs.length := by simp
    have c1 := h1.ok f r hl.ne hl.pf hl.pr
    by_cases k1 : (0 : Int) ∈ xs
    · rw [if_pos k1]
      rw [decide_eq_true (m1.mpr k1)] at i1
      simp -implicitDefEqProofs [b_safe_side, c1, e, e2, e3, i1, szl, hsz, hn, lP]
    · rw [if_neg k1]
      rw [decide_eq_false (fun z => k1 (m1.mp z))] at i1
      by_cases k2 : ∃ k ∈ xs, 0 < k
      · rw [if_pos k2]
        rw [decide_eq_true (m2.mpr k2)] at i2
        by_cases k3 : ∃ k ∈ xs, k < 0
        · rw [if_pos k3]
          rw [decide_eq_true (m3.mpr k3)] at i3
          simp -implicitDefEqProofs [b_safe_side, c1, e, e2, e3, i1, i2, i3, szl, hsz, hn, lP]
        · rw [if_neg k3]
          rw [decide_eq_false (fun z => k3 (m3.mp z))] at i3
          have k4 : ¬ xs = [] := fun z => by rw [z] at k2; simp at k2
          simp -implicitDefEqProofs [b_safe_side, c1, e, e2, e3, i1, i2, i3, szl, hsz, hn, lP, k4]
      · rw [if_neg k2]
        rw [decide_eq_false (fun z => k2 (m2.mp z))] at i2
        by_cases k3 : ∃ k ∈ xs, k < 0
        · rw [if_pos k3]
          have k4 : ¬ xs = [] := fun z => by rw [z] at k3; simp at k3
          simp -implicitDefEqProofs [b_safe_side, c1, e, e2, e3, i1, i2, szl, hsz, hn, lP, k4]
        · rw [if_neg k3]
          have k4 : xs.length = 0 := empt.mpr ⟨k1, k2, k3⟩
          simp -implicitDefEqProofs [b_safe_side, c1, e, e2, e3, i1, i2, szl, hsz, hn, lP, k4]
  · simp -implicitDefEqProofs [b_safe_side, h1.same f]
end WY
namespace WY
open PySem PySem.Spec PyProof.Rows L2 VL PF PH
/-! ### told values -/
def vV (x : PV) : PV := .tup [.str "value", x]
theorem vV_S (x : PV) : PV.tup [.str "value", x] = vV x := rfl
theorem vV_0 (x : PV) : ixP (vV x) (.int 0) = some (.str "value") := rfl
theorem vV_1 (x : PV) : ixP (vV x) (.int 1) = some x := rfl
theorem tmV {x : PV} (h : PV.tm 63 x = true) : PV.tm 64 (vV x) = true := by
  unfold vV
  rw [tm_t, tms_S, tms_S, tms_0, tm_s, h]
  decide +kernel
theorem ok_of {x : PV} (h : PV.tm 63 x = true) : eqB (vV x) (vV x) = some true := eqB_self (tmV h)
theorem ok_b (b : Bool) : eqB (vV (.bl b)) (vV (.bl b)) = some true := ok_of (tm_b _ _)
theorem ok_st {b : Str} (h : okS b = true) : eqB (vV (.str b)) (vV (.str b)) = some true := ok_of (by rw [tm_s]; exact h)
theorem eqD : EqF encD (fun _ => True) 62 := ⟨fun a _ => tm_D 61 a, eqv_D⟩
theorem ok_Ds (ws : List Dr) : eqB (vV (encDs ws)) (vV (encDs ws)) = some true := ok_of (eqD.lst (xs := ws) fun _ _ => trivial)
theorem tm_low (n : Nat) (t : Int) (b : Nat) : PV.tm (n + 1) (lowT t b) = true := by unfold lowT; rw [tm_t, tms_S, tms_S, tms_0, tm_i, tm_i]; rfl
theorem tm_llow (n : Nat) (t b : Int) : PV.tm (n + 1) (llowV t b) = true := by unfold llowV; split <;> (rw [tm_t, tms_S, tms_S, tms_0, tm_i, tm_i]; rfl)
/-- a word and a number -/
def wi (w : Str) (k : Int) : PV := .tup [.str w, .int k]
theorem wi_S (w : Str) (k : Int) : PV.tup [.str w, .int k] = wi w k := rfl
theorem ok_wi {w : Str} (h : okS w = true) (k : Int) : eqB (wi w k) (wi w k) = some true := eqB_self (by unfold wi; rw [tm_t, tms_S, tms_S, tms_0, tm_s, tm_i, h]; rfl)
theorem lk_v (k : Int) : lkF "value" (oor k) = some (.int k) := by unfold oor lkF; rw [if_pos rfl]
end WY
namespace L23
open PySem PySem.Spec PyProof.Rows L2 VL PF
/-! the plain functions of this law alone -/
def mt_BadCourse : Nat → Option Bool := fun k => ([none, some true, none, none, none, none, none, none, none, none, none, none, none, none, none, none, none, some false, none, none, some false, none, none, none, none, none, none] : List (Option Bool)).getD k none
def mt_LightError : Nat → Option Bool := fun k => ([none, some true, none, none, none, none, none, none, none, none, none, none, none, none, none, none, none, some true, none, none, some true, none, none, none, none, none, none] : List (Option Bool)).getD k none
def mt_OutOfRange : Nat → Option Bool := fun k => ([none, some false, none, none, none, none, none, none, none, none, none, none, none, none, none, none, none, some true, none, none, some false, none, none, none, none, none, none] : List (Option Bool)).getD k none
def mt_SamePlace : Nat → Option Bool := fun k => ([none, some false, none, none, none, none, none, none, none, none, none, none, none, none, none, none, none, some false, none, none, some true, none, none, none, none, none, none] : List (Option Bool)).getD k none
/-- _law_told (148): 0 way, 1 a, 2 b, 3 c, 4 d, 5 e -/
noncomputable def b__law_told_v17 (F : Nat → List PV → R PV) : VL.Env → Out := sTry (sSeq (sIf [] (eTst (e2 eqP (eVar 0) (eC (.int 0)))) (sRet [] (eArgs gTupV [eC (.str "value"), eArgs (gN 3 (F 481)) [eVar 1, eVar 2, eVar 3]])) (sPass)) (sSeq (sIf [] (eTst (e2 eqP (eVar 0) (eC (.int 1)))) (sRet [] (eArgs gTupV [eC (.str "value"), eArgs (gN 3 (F 483)) [eVar 1, eVar 2, eVar 3]])) (sPass)) (sSeq (sIf [] (eTst (e2 eqP (eVar 0) (eC (.int 2)))) (sRet [] (eArgs gTupV [eC (.str "value"), eArgs (gN 3 (F 176)) [eVar 1, eVar 2, eVar 3]])) (sPass)) (sSeq (sIf [] (eTst (e2 eqP (eVar 0) (eC (.int 3)))) (sRet [] (eArgs gTupV [eC (.str "value"), eArgs (gN 3 (F 286)) [eVar 1, eVar 2, eVar 3]])) (sPass)) (sSeq (sIf [] (eTst (e2 eqP (eVar 0) (eC (.int 4)))) (sRet [] (eArgs gTupV [eC (.str "value"), eArgs (gN 4 (F 582)) [eVar 1, eVar 2, eVar 3, eVar 4]])) (sPass)) (sSeq (sIf [] (eTst (e2 eqP (eVar 0) (eC (.int 5)))) (sRet [] (eArgs gTupV [eC (.str "value"), eArgs (gN 3 (F 533)) [eVar 1, eVar 2, eVar 3]])) (sPass)) (sRet [] (eArgs gTupV [eC (.str "value"), eArgs (gN 3 (F 387)) [eVar 1, eVar 2, eVar 3]])))))))) [.un mt_SamePlace (sRet [] (eArgs gTupV [eC (.str "same"), eC (.int 0)])), .un mt_BadCourse (sRet [] (eArgs gTupV [eC (.str "course"), eC (.int 0)])), .nm mt_OutOfRange 5 (xTup (xCons (xC (.str "range")) (xCons (xF 17 "value") (xNil)))), .un mt_LightError (sRet [] (eArgs gTupV [eC (.str "other"), eC (.int 0)]))]
noncomputable def tabL (F : Nat → List PV → R PV) : List (Nat × (List PV → R PV)) := [(222, fun us => outR (b_check_between F (startE 3 us))),
  (330, fun us => outR (b_gcd_of F (startE 2 us))),
  (453, fun us => outR (b_lowest F (startE 3 us))),
  (242, fun us => outR (b_check_place F (startE 2 us))),
  (285, fun us => outR (b_cross F (startE 2 us))),
  (296, fun us => outR (b_dot F (startE 2 us))),
  (646, fun us => outR (b_way_between F (startE 2 us))),
  (355, fun us => outR (b_is_course F (startE 6 us))),
  (225, fun us => outR (b_check_course F (startE 1 us))),
  (503, fun us => outR (b_place_by F (startE 2 us))),
  (233, fun us => outR (b_check_line F (startE 2 us))),
  (445, fun us => outR (b_line_way F (startE 2 us))),
  (577, fun us => outR (b_side_of F (startE 3 us))),
  (659, fun us => outR (b_word_of_v1 F (startE 1 us))),
  (480, fun us => outR (b_off_by F (startE 4 us))),
  (248, fun us => outR (b_check_ship F (startE 3 us))),
  (481, fun us => outR (b_off_line F (startE 3 us))),
  (483, fun us => outR (b_opens F (startE 4 us))),
  (346, fun us => outR (b_is_ahead F (startE 3 us))),
  (176, fun us => outR (b_ahead_of F (startE 3 us))),
  (286, fun us => outR (b_crosses_line F (startE 5 us))),
  (387, fun us => outR (b_keeps_line F (startE 4 us))),
  (582, fun us => outR (b_speeds_on F (startE 8 us))),
  (533, fun us => outR (b_safe_side F (startE 5 us))),
  (13, fun us => outR (b__law_cell F (startE 2 us))),
  (22, fun us => outR (b__law_draw F (startE 7 us))),
  (163, fun us => outR (b__law_turn_of F (startE 2 us))),
  (105, fun us => outR (b__law_ship F (startE 3 us))),
  (18, fun us => outR (b__law_course F (startE 4 us))),
  (55, fun us => outR (b__law_lowest_v0 F (startE 6 us))),
  (148, fun us => outR (b__law_told_v17 F (startE 6 us))),
  (19, fun us => outR (b__law_cross F (startE 4 us))),
  (87, fun us => outR (b__law_rocks F (startE 11 us))),
  (413, fun us => outR (b_law_v15 F (startE 20 us)))]
noncomputable def step (F : Nat → List PV → R PV) : Nat → List PV → R PV := look (tabL F)
noncomputable def FT : Nat → Nat → List PV → R PV
  | 0 => fun _ _ => .stuck
  | d + 1 => step (FT d)
/-! the text -/
def topS (i : Nat) : Stmt := PySem.Challenge.pw_lightbook_k23_leading_lines.main.body.getD i (.Pass ⟨0, 0, 0, 0⟩)
theorem sc_0 : FnScope ["value", "least", "most"] ["value", "least", "most"] (defScope (topS 6)) := ⟨rfl, rfl, rfl, by decide +kernel, rfl, by decide +kernel, by decide +kernel⟩
theorem sc_1 : FnScope ["a", "b"] ["a", "b"] (defScope (topS 7)) := ⟨rfl, rfl, rfl, by decide +kernel, rfl, by decide +kernel, by decide +kernel⟩
theorem sc_2 : FnScope ["top", "bottom", "common"] ["top", "bottom"] (defScope (topS 9)) := ⟨rfl, rfl, rfl, by decide +kernel, rfl, by decide +kernel, by decide +kernel⟩
theorem sc_3 : FnScope ["place", "part"] ["place"] (defScope (topS 12)) := ⟨rfl, rfl, rfl, by decide +kernel, rfl, by decide +kernel, by decide +kernel⟩
theorem sc_4 : FnScope ["a", "b"] ["a", "b"] (defScope (topS 13)) := ⟨rfl, rfl, rfl, by decide +kernel, rfl, by decide +kernel, by decide +kernel⟩
theorem sc_5 : FnScope ["a", "b"] ["a", "b"] (defScope (topS 14)) := ⟨rfl, rfl, rfl, by decide +kernel, rfl, by decide +kernel, by decide +kernel⟩
theorem sc_6 : FnScope ["one", "other"] ["one", "other"] (defScope (topS 15)) := ⟨rfl, rfl, rfl, by decide +kernel, rfl, by decide +kernel, by decide +kernel⟩
theorem sc_7 : FnScope ["course", "x", "y", "over", "up", "part"] ["course"] (defScope (topS 18)) := ⟨rfl, rfl, rfl, by decide +kernel, rfl, by decide +kernel, by decide +kernel⟩
theorem sc_8 : FnScope ["course"] ["course"] (defScope (topS 19)) := ⟨rfl, rfl, rfl, by decide +kernel, rfl, by decide +kernel, by decide +kernel⟩
theorem sc_9 : FnScope ["course", "t"] ["course", "t"] (defScope (topS 20)) := ⟨rfl, rfl, rfl, by decide +kernel, rfl, by decide +kernel, by decide +kernel⟩
theorem sc_10 : FnScope ["front", "rear"] ["front", "rear"] (defScope (topS 23)) := ⟨rfl, rfl, rfl, by decide +kernel, rfl, by decide +kernel, by decide +kernel⟩
theorem sc_11 : FnScope ["front", "rear"] ["front", "rear"] (defScope (topS 24)) := ⟨rfl, rfl, rfl, by decide +kernel, rfl, by decide +kernel, by decide +kernel⟩
theorem sc_12 : FnScope ["front", "rear", "ship"] ["front", "rear", "ship"] (defScope (topS 25)) := ⟨rfl, rfl, rfl, by decide +kernel, rfl, by decide +kernel, by decide +kernel⟩
theorem sc_13 : FnScope ["side"] ["side"] (defScope (topS 26)) := ⟨rfl, rfl, rfl, by decide +kernel, rfl, by decide +kernel, by decide +kernel⟩
theorem sc_14 : FnScope ["place", "way", "ship", "side"] ["place", "way", "ship"] (defScope (topS 27)) := ⟨rfl, rfl, rfl, by decide +kernel, rfl, by decide +kernel, by decide +kernel⟩
theorem sc_15 : FnScope ["front", "rear", "ship"] ["front", "rear", "ship"] (defScope (topS 28)) := ⟨rfl, rfl, rfl, by decide +kernel, rfl, by decide +kernel, by decide +kernel⟩
theorem sc_16 : FnScope ["front", "rear", "ship"] ["front", "rear", "ship"] (defScope (topS 29)) := ⟨rfl, rfl, rfl, by decide +kernel, rfl, by decide +kernel, by decide +kernel⟩
theorem sc_17 : FnScope ["front", "rear", "ship", "side"] ["front", "rear", "ship"] (defScope (topS 30)) := ⟨rfl, rfl, rfl, by decide +kernel, rfl, by decide +kernel, by decide +kernel⟩
theorem sc_18 : FnScope ["front", "rear", "ship"] ["front", "rear", "ship"] (defScope (topS 31)) := ⟨rfl, rfl, rfl, by decide +kernel, rfl, by decide +kernel, by decide +kernel⟩
theorem sc_19 : FnScope ["front", "rear", "ship"] ["front", "rear", "ship"] (defScope (topS 32)) := ⟨rfl, rfl, rfl, by decide +kernel, rfl, by decide +kernel, by decide +kernel⟩
theorem sc_20 : FnScope ["course", "front", "rear", "start", "speed"] ["course", "front", "rear"] (defScope (topS 33)) := ⟨rfl, rfl, rfl, by decide +kernel, rfl, by decide +kernel, by decide +kernel⟩
theorem sc_21 : FnScope ["course", "front", "rear", "on_line"] ["course", "front", "rear"] (defScope (topS 34)) := ⟨rfl, rfl, rfl, by decide +kernel, rfl, by decide +kernel, by decide +kernel⟩
theorem sc_22 : FnScope ["front", "rear", "ship", "most", "way", "found", "over", "up"] ["front", "rear", "ship", "most"] (defScope (topS 35)) := ⟨rfl, rfl, rfl, by decide +kernel, rfl, by decide +kernel, by decide +kernel⟩
theorem sc_23 : FnScope ["front", "rear", "rocks", "rock", "sides"] ["front", "rear", "rocks"] (defScope (topS 36)) := ⟨rfl, rfl, rfl, by decide +kernel, rfl, by decide +kernel, by decide +kernel⟩
theorem sc_24 : FnScope ["script", "k"] ["script", "k"] (defScope (topS 38)) := ⟨rfl, rfl, rfl, by decide +kernel, rfl, by decide +kernel, by decide +kernel⟩
theorem sc_25 : FnScope ["cell", "limits", "row", "rest", "great", "k", "mixed"] ["cell", "limits"] (defScope (topS 39)) := ⟨rfl, rfl, rfl, by decide +kernel, rfl, by decide +kernel, by decide +kernel⟩
theorem sc_26 : FnScope ["a", "b"] ["a", "b"] (defScope (topS 40)) := ⟨rfl, rfl, rfl, by decide +kernel, rfl, by decide +kernel, by decide +kernel⟩
theorem sc_27 : FnScope ["cell", "wide", "d"] ["cell", "wide"] (defScope (topS 41)) := ⟨rfl, rfl, rfl, by decide +kernel, rfl, by decide +kernel, by decide +kernel⟩
theorem sc_28 : FnScope ["cell", "wide", "fast", "d"] ["cell", "wide", "fast"] (defScope (topS 42)) := ⟨rfl, rfl, rfl, by decide +kernel, rfl, by decide +kernel, by decide +kernel⟩
theorem sc_29 : FnScope ["top", "bottom", "a", "b", "k", "rest"] ["top", "bottom"] (defScope (topS 43)) := ⟨rfl, rfl, rfl, by decide +kernel, rfl, by decide +kernel, by decide +kernel⟩
theorem sc_30 : FnScope ["way", "a", "b", "c", "d", "e"] ["way", "a", "b", "c", "d"] (defScope (topS 44)) := ⟨rfl, rfl, rfl, by decide +kernel, rfl, by decide +kernel, by decide +kernel⟩
theorem sc_31 : FnScope ["front", "rear", "ship", "look"] ["front", "rear", "ship"] (defScope (topS 45)) := ⟨rfl, rfl, rfl, by decide +kernel, rfl, by decide +kernel, by decide +kernel⟩
theorem sc_32 : FnScope ["front", "rear", "script", "rocks", "sides", "left", "right", "word", "k", "rock", "side"] ["front", "rear", "script"] (defScope (topS 46)) := ⟨rfl, rfl, rfl, by decide +kernel, rfl, by decide +kernel, by decide +kernel⟩
theorem sc_33 : FnScope ["script", "front", "rear", "look", "ship", "k", "cross_v", "both", "due", "beyond", "off", "told", "word", "course", "begin", "speed", "speeds", "vx", "speed_of", "vy"] ["script"] (defScope (topS 47)) := ⟨rfl, rfl, rfl, by decide +kernel, rfl, by decide +kernel, by decide +kernel⟩
structure Tx (P : Program) (w : World) (K : PySem.W.Frag) (mg : Str → Option Value) (base : Heap) (cl : Nat → Addr) : Prop where
  z_abs : mg "abs" = none
  z_bool : mg "bool" = none
  z_int : mg "int" = none
  z_isinstance : mg "isinstance" = none
  z_len : mg "len" = none
  z_list : mg "list" = none
  z_max : mg "max" = none
  z_range : mg "range" = none
  z_tuple : mg "tuple" = none
  c_MOST_PART : GlobV K cl mg "MOST_PART" c_MOST_PART
  c_MOST_PLACE : GlobV K cl mg "MOST_PLACE" c_MOST_PLACE
  c_MOST_SPEED : GlobV K cl mg "MOST_SPEED" c_MOST_SPEED
  x_OutOfRange : ExcAt P w K mg base cl 1 "OutOfRange" 17 1 sp_OutOfRange
  x_BadCourse : ExcAt P w K mg base cl 1 "BadCourse" 1 0 sp_BadCourse
  x_SamePlace : ExcAt P w K mg base cl 1 "SamePlace" 20 0 sp_SamePlace
  m_BadCourse : ExmAt K mg cl "BadCourse" mt_BadCourse
  m_LightError : ExmAt K mg cl "LightError" mt_LightError
  m_OutOfRange : ExmAt K mg cl "OutOfRange" mt_OutOfRange
  m_SamePlace : ExmAt K mg cl "SamePlace" mt_SamePlace
  f_OutOfRange_value : FldAt K cl 17 "value"
structure TxD (P : Program) (w : World) (K : PySem.W.Frag) (mg : Str → Option Value) (base : Heap) (cl : Nat → Addr) (d : Nat) : Prop where
  d_check_between : DefAt P w K mg base cl (d + 2) "check_between" 3 (FT d 222)
  d_gcd_of : DefAt P w K mg base cl (d + 2) "gcd_of" 2 (FT d 330)
  d_lowest : DefAt P w K mg base cl (d + 2) "lowest" 2 (FT d 453)
  d_check_place : DefAt P w K mg base cl (d + 2) "check_place" 1 (FT d 242)
  d_cross : DefAt P w K mg base cl (d + 2) "cross" 2 (FT d 285)
  d_dot : DefAt P w K mg base cl (d + 2) "dot" 2 (FT d 296)
  d_way_between : DefAt P w K mg base cl (d + 2) "way_between" 2 (FT d 646)
  d_is_course : DefAt P w K mg base cl (d + 2) "is_course" 1 (FT d 355)
  d_check_course : DefAt P w K mg base cl (d + 2) "check_course" 1 (FT d 225)
  d_place_by : DefAt P w K mg base cl (d + 2) "place_by" 2 (FT d 503)
  d_check_line : DefAt P w K mg base cl (d + 2) "check_line" 2 (FT d 233)
  d_line_way : DefAt P w K mg base cl (d + 2) "line_way" 2 (FT d 445)
  d_side_of : DefAt P w K mg base cl (d + 2) "side_of" 3 (FT d 577)
  d_word_of : DefAt P w K mg base cl (d + 2) "word_of" 1 (FT d 659)
  d_off_by : DefAt P w K mg base cl (d + 2) "off_by" 3 (FT d 480)
  d_check_ship : DefAt P w K mg base cl (d + 2) "check_ship" 3 (FT d 248)
  d_off_line : DefAt P w K mg base cl (d + 2) "off_line" 3 (FT d 481)
  d_opens : DefAt P w K mg base cl (d + 2) "opens" 3 (FT d 483)
  d_is_ahead : DefAt P w K mg base cl (d + 2) "is_ahead" 3 (FT d 346)
  d_ahead_of : DefAt P w K mg base cl (d + 2) "ahead_of" 3 (FT d 176)
  d_crosses_line : DefAt P w K mg base cl (d + 2) "crosses_line" 3 (FT d 286)
  d_keeps_line : DefAt P w K mg base cl (d + 2) "keeps_line" 3 (FT d 387)
  d_speeds_on : DefAt P w K mg base cl (d + 2) "speeds_on" 4 (FT d 582)
  d_safe_side : DefAt P w K mg base cl (d + 2) "safe_side" 3 (FT d 533)
  d__law_cell : DefAt P w K mg base cl (d + 2) "_law_cell" 2 (FT d 13)
  d__law_draw : DefAt P w K mg base cl (d + 2) "_law_draw" 2 (FT d 22)
  d__law_turn_of : DefAt P w K mg base cl (d + 2) "_law_turn_of" 2 (FT d 163)
  d__law_ship : DefAt P w K mg base cl (d + 2) "_law_ship" 2 (FT d 105)
  d__law_course : DefAt P w K mg base cl (d + 2) "_law_course" 3 (FT d 18)
  d__law_lowest : DefAt P w K mg base cl (d + 2) "_law_lowest" 2 (FT d 55)
  d__law_told : DefAt P w K mg base cl (d + 2) "_law_told" 5 (FT d 148)
  d__law_cross : DefAt P w K mg base cl (d + 2) "_law_cross" 3 (FT d 19)
  d__law_rocks : DefAt P w K mg base cl (d + 2) "_law_rocks" 3 (FT d 87)
  d_law : DefAt P w K mg base cl (d + 2) "law" 1 (FT d 413)
structure Txt (K : PySem.W.Frag) (mg : Str → Option Value) : Prop where
  g_check_between : ∃ f fd, Fun K "check_between" "check_between" (topS 6) f fd ∧ mg "check_between" = some (.ref f)
  g_gcd_of : ∃ f fd, Fun K "gcd_of" "gcd_of" (topS 7) f fd ∧ mg "gcd_of" = some (.ref f)
  g_lowest : ∃ f fd, Fun K "lowest" "lowest" (topS 9) f fd ∧ mg "lowest" = some (.ref f)
  g_check_place : ∃ f fd, Fun K "check_place" "check_place" (topS 12) f fd ∧ mg "check_place" = some (.ref f)
  g_cross : ∃ f fd, Fun K "cross" "cross" (topS 13) f fd ∧ mg "cross" = some (.ref f)
  g_dot : ∃ f fd, Fun K "dot" "dot" (topS 14) f fd ∧ mg "dot" = some (.ref f)
  g_way_between : ∃ f fd, Fun K "way_between" "way_between" (topS 15) f fd ∧ mg "way_between" = some (.ref f)
  g_is_course : ∃ f fd, Fun K "is_course" "is_course" (topS 18) f fd ∧ mg "is_course" = some (.ref f)
  g_check_course : ∃ f fd, Fun K "check_course" "check_course" (topS 19) f fd ∧ mg "check_course" = some (.ref f)
  g_place_by : ∃ f fd, Fun K "place_by" "place_by" (topS 20) f fd ∧ mg "place_by" = some (.ref f)
  g_check_line : ∃ f fd, Fun K "check_line" "check_line" (topS 23) f fd ∧ mg "check_line" = some (.ref f)
  g_line_way : ∃ f fd, Fun K "line_way" "line_way" (topS 24) f fd ∧ mg "line_way" = some (.ref f)
  g_side_of : ∃ f fd, Fun K "side_of" "side_of" (topS 25) f fd ∧ mg "side_of" = some (.ref f)
  g_word_of : ∃ f fd, Fun K "word_of" "word_of" (topS 26) f fd ∧ mg "word_of" = some (.ref f)
  g_off_by : ∃ f fd, Fun K "off_by" "off_by" (topS 27) f fd ∧ mg "off_by" = some (.ref f)
  g_check_ship : ∃ f fd, Fun K "check_ship" "check_ship" (topS 28) f fd ∧ mg "check_ship" = some (.ref f)
  g_off_line : ∃ f fd, Fun K "off_line" "off_line" (topS 29) f fd ∧ mg "off_line" = some (.ref f)
  g_opens : ∃ f fd, Fun K "opens" "opens" (topS 30) f fd ∧ mg "opens" = some (.ref f)
  g_is_ahead : ∃ f fd, Fun K "is_ahead" "is_ahead" (topS 31) f fd ∧ mg "is_ahead" = some (.ref f)
  g_ahead_of : ∃ f fd, Fun K "ahead_of" "ahead_of" (topS 32) f fd ∧ mg "ahead_of" = some (.ref f)
  g_crosses_line : ∃ f fd, Fun K "crosses_line" "crosses_line" (topS 33) f fd ∧ mg "crosses_line" = some (.ref f)
  g_keeps_line : ∃ f fd, Fun K "keeps_line" "keeps_line" (topS 34) f fd ∧ mg "keeps_line" = some (.ref f)
  g_speeds_on : ∃ f fd, Fun K "speeds_on" "speeds_on" (topS 35) f fd ∧ mg "speeds_on" = some (.ref f)
  g_safe_side : ∃ f fd, Fun K "safe_side" "safe_side" (topS 36) f fd ∧ mg "safe_side" = some (.ref f)
  g__law_cell : ∃ f fd, Fun K "_law_cell" "_law_cell" (topS 38) f fd ∧ mg "_law_cell" = some (.ref f)
  g__law_draw : ∃ f fd, Fun K "_law_draw" "_law_draw" (topS 39) f fd ∧ mg "_law_draw" = some (.ref f)
  g__law_turn_of : ∃ f fd, Fun K "_law_turn_of" "_law_turn_of" (topS 40) f fd ∧ mg "_law_turn_of" = some (.ref f)
  g__law_ship : ∃ f fd, Fun K "_law_ship" "_law_ship" (topS 41) f fd ∧ mg "_law_ship" = some (.ref f)
  g__law_course : ∃ f fd, Fun K "_law_course" "_law_course" (topS 42) f fd ∧ mg "_law_course" = some (.ref f)
  g__law_lowest : ∃ f fd, Fun K "_law_lowest" "_law_lowest" (topS 43) f fd ∧ mg "_law_lowest" = some (.ref f)
  g__law_told : ∃ f fd, Fun K "_law_told" "_law_told" (topS 44) f fd ∧ mg "_law_told" = some (.ref f)
  g__law_cross : ∃ f fd, Fun K "_law_cross" "_law_cross" (topS 45) f fd ∧ mg "_law_cross" = some (.ref f)
  g__law_rocks : ∃ f fd, Fun K "_law_rocks" "_law_rocks" (topS 46) f fd ∧ mg "_law_rocks" = some (.ref f)
  g_law : ∃ f fd, Fun K "law" "law" (topS 47) f fd ∧ mg "law" = some (.ref f)
section
variable {P : Program} {w : World} {K : PySem.W.Frag} {mg : Str → Option Value} {base : Heap} {cl : Nat → Addr} {d : Nat}
theorem bd_0 {f : Addr} {fd : FuncData} (F : Fun K "check_between" "check_between" (topS 6) f fd) : Binds K fd ["value", "least", "most"] [] := F.binds fun _ _ _ _ _ _ us hl => match us, hl with | [_, _, _], _ => rfl
theorem bd_1 {f : Addr} {fd : FuncData} (F : Fun K "gcd_of" "gcd_of" (topS 7) f fd) : Binds K fd ["a", "b"] [] := F.binds fun _ _ _ _ _ _ us hl => match us, hl with | [_, _], _ => rfl
theorem bd_2 {f : Addr} {fd : FuncData} (F : Fun K "lowest" "lowest" (topS 9) f fd) : Binds K fd ["top", "bottom"] [] := F.binds fun _ _ _ _ _ _ us hl => match us, hl with | [_, _], _ => rfl
theorem bd_3 {f : Addr} {fd : FuncData} (F : Fun K "check_place" "check_place" (topS 12) f fd) : Binds K fd ["place"] [] := F.binds fun _ _ _ _ _ _ us hl => match us, hl with | [_], _ => rfl
theorem bd_4 {f : Addr} {fd : FuncData} (F : Fun K "cross" "cross" (topS 13) f fd) : Binds K fd ["a", "b"] [] := F.binds fun _ _ _ _ _ _ us hl => match us, hl with | [_, _], _ => rfl
theorem bd_5 {f : Addr} {fd : FuncData} (F : Fun K "dot" "dot" (topS 14) f fd) : Binds K fd ["a", "b"] [] := F.binds fun _ _ _ _ _ _ us hl => match us, hl with | [_, _], _ => rfl
theorem bd_6 {f : Addr} {fd : FuncData} (F : Fun K "way_between" "way_between" (topS 15) f fd) : Binds K fd ["one", "other"] [] := F.binds fun _ _ _ _ _ _ us hl => match us, hl with | [_, _], _ => rfl
theorem bd_7 {f : Addr} {fd : FuncData} (F : Fun K "is_course" "is_course" (topS 18) f fd) : Binds K fd ["course"] [] := F.binds fun _ _ _ _ _ _ us hl => match us, hl with | [_], _ => rfl
theorem bd_8 {f : Addr} {fd : FuncData} (F : Fun K "check_course" "check_course" (topS 19) f fd) : Binds K fd ["course"] [] := F.binds fun _ _ _ _ _ _ us hl => match us, hl with | [_], _ => rfl
theorem bd_9 {f : Addr} {fd : FuncData} (F : Fun K "place_by" "place_by" (topS 20) f fd) : Binds K fd ["course", "t"] [] := F.binds fun _ _ _ _ _ _ us hl => match us, hl with | [_, _], _ => rfl
theorem bd_10 {f : Addr} {fd : FuncData} (F : Fun K "check_line" "check_line" (topS 23) f fd) : Binds K fd ["front", "rear"] [] := F.binds fun _ _ _ _ _ _ us hl => match us, hl with | [_, _], _ => rfl
theorem bd_11 {f : Addr} {fd : FuncData} (F : Fun K "line_way" "line_way" (topS 24) f fd) : Binds K fd ["front", "rear"] [] := F.binds fun _ _ _ _ _ _ us hl => match us, hl with | [_, _], _ => rfl
theorem bd_12 {f : Addr} {fd : FuncData} (F : Fun K "side_of" "side_of" (topS 25) f fd) : Binds K fd ["front", "rear", "ship"] [] := F.binds fun _ _ _ _ _ _ us hl => match us, hl with | [_, _, _], _ => rfl
theorem bd_13 {f : Addr} {fd : FuncData} (F : Fun K "word_of" "word_of" (topS 26) f fd) : Binds K fd ["side"] [] := F.binds fun _ _ _ _ _ _ us hl => match us, hl with | [_], _ => rfl
theorem bd_14 {f : Addr} {fd : FuncData} (F : Fun K "off_by" "off_by" (topS 27) f fd) : Binds K fd ["place", "way", "ship"] [] := F.binds fun _ _ _ _ _ _ us hl => match us, hl with | [_, _, _], _ => rfl
theorem bd_15 {f : Addr} {fd : FuncData} (F : Fun K "check_ship" "check_ship" (topS 28) f fd) : Binds K fd ["front", "rear", "ship"] [] := F.binds fun _ _ _ _ _ _ us hl => match us, hl with | [_, _, _], _ => rfl
theorem bd_16 {f : Addr} {fd : FuncData} (F : Fun K "off_line" "off_line" (topS 29) f fd) : Binds K fd ["front", "rear", "ship"] [] := F.binds fun _ _ _ _ _ _ us hl => match us, hl with | [_, _, _], _ => rfl
theorem bd_17 {f : Addr} {fd : FuncData} (F : Fun K "opens" "opens" (topS 30) f fd) : Binds K fd ["front", "rear", "ship"] [] := F.binds fun _ _ _ _ _ _ us hl => match us, hl with | [_, _, _], _ => rfl
theorem bd_18 {f : Addr} {fd : FuncData} (F : Fun K "is_ahead" "is_ahead" (topS 31) f fd) : Binds K fd ["front", "rear", "ship"] [] := F.binds fun _ _ _ _ _ _ us hl => match us, hl with | [_, _, _], _ => rfl
theorem bd_19 {f : Addr} {fd : FuncData} (F : Fun K "ahead_of" "ahead_of" (topS 32) f fd) : Binds K fd ["front", "rear", "ship"] [] := F.binds fun _ _ _ _ _ _ us hl => match us, hl with | [_, _, _], _ => rfl
theorem bd_20 {f : Addr} {fd : FuncData} (F : Fun K "crosses_line" "crosses_line" (topS 33) f fd) : Binds K fd ["course", "front", "rear"] [] := F.binds fun _ _ _ _ _ _ us hl => match us, hl with | [_, _, _], _ => rfl
theorem bd_21 {f : Addr} {fd : FuncData} (F : Fun K "keeps_line" "keeps_line" (topS 34) f fd) : Binds K fd ["course", "front", "rear"] [] := F.binds fun _ _ _ _ _ _ us hl => match us, hl with | [_, _, _], _ => rfl
theorem bd_22 {f : Addr} {fd : FuncData} (F : Fun K "speeds_on" "speeds_on" (topS 35) f fd) : Binds K fd ["front", "rear", "ship", "most"] [] := F.binds fun _ _ _ _ _ _ us hl => match us, hl with | [_, _, _, _], _ => rfl
theorem bd_23 {f : Addr} {fd : FuncData} (F : Fun K "safe_side" "safe_side" (topS 36) f fd) : Binds K fd ["front", "rear", "rocks"] [] := F.binds fun _ _ _ _ _ _ us hl => match us, hl with | [_, _, _], _ => rfl
theorem bd_24 {f : Addr} {fd : FuncData} (F : Fun K "_law_cell" "_law_cell" (topS 38) f fd) : Binds K fd ["script", "k"] [] := F.binds fun _ _ _ _ _ _ us hl => match us, hl with | [_, _], _ => rfl
theorem bd_25 {f : Addr} {fd : FuncData} (F : Fun K "_law_draw" "_law_draw" (topS 39) f fd) : Binds K fd ["cell", "limits"] [] := F.binds fun _ _ _ _ _ _ us hl => match us, hl with | [_, _], _ => rfl
theorem bd_26 {f : Addr} {fd : FuncData} (F : Fun K "_law_turn_of" "_law_turn_of" (topS 40) f fd) : Binds K fd ["a", "b"] [] := F.binds fun _ _ _ _ _ _ us hl => match us, hl with | [_, _], _ => rfl
theorem bd_27 {f : Addr} {fd : FuncData} (F : Fun K "_law_ship" "_law_ship" (topS 41) f fd) : Binds K fd ["cell", "wide"] [] := F.binds fun _ _ _ _ _ _ us hl => match us, hl with | [_, _], _ => rfl
theorem bd_28 {f : Addr} {fd : FuncData} (F : Fun K "_law_course" "_law_course" (topS 42) f fd) : Binds K fd ["cell", "wide", "fast"] [] := F.binds fun _ _ _ _ _ _ us hl => match us, hl with | [_, _, _], _ => rfl
theorem bd_29 {f : Addr} {fd : FuncData} (F : Fun K "_law_lowest" "_law_lowest" (topS 43) f fd) : Binds K fd ["top", "bottom"] [] := F.binds fun _ _ _ _ _ _ us hl => match us, hl with | [_, _], _ => rfl
theorem bd_30 {f : Addr} {fd : FuncData} (F : Fun K "_law_told" "_law_told" (topS 44) f fd) : Binds K fd ["way", "a", "b", "c", "d"] [] := F.binds fun _ _ _ _ _ _ us hl => match us, hl with | [_, _, _, _, _], _ => rfl
theorem bd_31 {f : Addr} {fd : FuncData} (F : Fun K "_law_cross" "_law_cross" (topS 45) f fd) : Binds K fd ["front", "rear", "ship"] [] := F.binds fun _ _ _ _ _ _ us hl => match us, hl with | [_, _, _], _ => rfl
theorem bd_32 {f : Addr} {fd : FuncData} (F : Fun K "_law_rocks" "_law_rocks" (topS 46) f fd) : Binds K fd ["front", "rear", "script"] [] := F.binds fun _ _ _ _ _ _ us hl => match us, hl with | [_, _, _], _ => rfl
theorem bd_33 {f : Addr} {fd : FuncData} (F : Fun K "law" "law" (topS 47) f fd) : Binds K fd ["script"] [] := F.binds fun _ _ _ _ _ _ us hl => match us, hl with | [_], _ => rfl
theorem ok_0 (T : Tx P w K mg base cl) (TD : TxD P w K mg base cl d) {f : Addr} {cdv : Value} {A : Around} {outer : List PySem.Env} {s : Shared} {H : Hp} {E : XK} {He : Hp} (hr : Room (d + 2) (A.deeper (envOfC "check_between" (defScope (topS 6)) s.heap.objs.size f cdv))) :
    PVs (cxOf (L2.CX P w) P w K mg base ["value", "least", "most"] "check_between" (defScope (topS 6)) f cdv A outer s H E) cl (fun c d _ H => E c d H) He H (defBody (topS 6)) (b_check_between (FT d)) := by
  have tk : Takes (cxOf (L2.CX P w) P w K mg base ["value", "least", "most"] "check_between" (defScope (topS 6)) f cdv A outer s H E) (fun c d _ H => E c d H) := takes_of rfl rfl rfl rfl
  exact vs_one (vs_if (PW.pt (vw_or (vt_cmp (or_lt (room0 hr)) ov_lt (ve_var 0) (ve_var 1)) (vw_or1 (vt_cmp op_gt ov_gt (ve_var 0) (ve_var 2))))) (vs_one (vr T.x_OutOfRange (room2 hr) rfl tk (va_cons (ve_var 0) (va_nil)))) (vs_nil))
theorem ok_1 (T : Tx P w K mg base cl) (TD : TxD P w K mg base cl d) {f : Addr} {cdv : Value} {A : Around} {outer : List PySem.Env} {s : Shared} {H : Hp} {E : XK} {He : Hp} (hr : Room (d + 2) (A.deeper (envOfC "gcd_of" (defScope (topS 7)) s.heap.objs.size f cdv))) :
    PVs (cxOf (L2.CX P w) P w K mg base ["a", "b"] "gcd_of" (defScope (topS 7)) f cdv A outer s H E) cl (fun c d _ H => E c d H) He H (defBody (topS 7)) (b_gcd_of (FT d)) := by
  have tk : Takes (cxOf (L2.CX P w) P w K mg base ["a", "b"] "gcd_of" (defScope (topS 7)) f cdv A outer s H E) (fun c d _ H => E c d H) := takes_of rfl rfl rfl rfl
  have hp := passes_of (X := cxOf (L2.CX P w) P w K mg base ["a", "b"] "gcd_of" (defScope (topS 7)) f cdv A outer s H E) rfl
  exact vs_cons (vs_while hp (vt_cmp op_gt ov_gt (ve_var 1) (ve_int)) (vs_one (vs_par (i := 0) (j := 1) rfl sc_1.nd (va_cons (ve_var 1) (va_cons (ve_bin op_mod ov_mod (ve_var 0) (ve_var 1)) (va_nil)))))) (vs_one (vs_ret (ve_var 0)))
theorem ok_2 (T : Tx P w K mg base cl) (TD : TxD P w K mg base cl d) {f : Addr} {cdv : Value} {A : Around} {outer : List PySem.Env} {s : Shared} {H : Hp} {E : XK} {He : Hp} (hr : Room (d + 2) (A.deeper (envOfC "lowest" (defScope (topS 9)) s.heap.objs.size f cdv))) :
    PVs (cxOf (L2.CX P w) P w K mg base ["top", "bottom", "common"] "lowest" (defScope (topS 9)) f cdv A outer s H E) cl (fun c d _ H => E c d H) He H (defBody (topS 9)) (b_lowest (FT d)) := by
  have tk : Takes (cxOf (L2.CX P w) P w K mg base ["top", "bottom", "common"] "lowest" (defScope (topS 9)) f cdv A outer s H E) (fun c d _ H => E c d H) := takes_of rfl rfl rfl rfl
  exact vs_cons (vs_set sc_2.nd (vc (TD.d_gcd_of) hr tk (va_cons (ve_callB call_abs cv_abs T.z_abs boot_abs (va_cons (ve_var 0) (va_nil))) (va_cons (ve_var 1) (va_nil))))) (vs_one (vs_ret (ve_tup (va_cons (ve_bin op_fdivS ov_div (ve_var 0) (ve_var 2)) (va_cons (ve_bin op_fdivS ov_div (ve_var 1) (ve_var 2)) (va_nil))))))
theorem ok_3 (T : Tx P w K mg base cl) (TD : TxD P w K mg base cl d) {f : Addr} {cdv : Value} {A : Around} {outer : List PySem.Env} {s : Shared} {H : Hp} {E : XK} {He : Hp} (hr : Room (d + 2) (A.deeper (envOfC "check_place" (defScope (topS 12)) s.heap.objs.size f cdv))) :
    PVs (cxOf (L2.CX P w) P w K mg base ["place", "part"] "check_place" (defScope (topS 12)) f cdv A outer s H E) cl (fun c d _ H => E c d H) He H (defBody (topS 12)) (b_check_place (FT d)) := by
  have tk : Takes (cxOf (L2.CX P w) P w K mg base ["place", "part"] "check_place" (defScope (topS 12)) f cdv A outer s H E) (fun c d _ H => E c d H) := takes_of rfl rfl rfl rfl
  have hp := passes_of (X := cxOf (L2.CX P w) P w K mg base ["place", "part"] "check_place" (defScope (topS 12)) f cdv A outer s H E) rfl
  exact vs_one (vs_for hp rfl bears_wk wk_of (vi_seq (ve_var 0)) (pg_name (i := 1) sc_3.nd rfl (by first | exact Or.inl rfl | exact Or.inr rfl)) (tg_name 1) (vs_one (vs_if (vt_not (vt_chain or_le or_le ov_le ov_le (ve_neg (ve_glob T.c_MOST_PLACE)) (ve_var 1) (ve_glob T.c_MOST_PLACE))) (vs_one (vr T.x_OutOfRange (room2 hr) rfl tk (va_cons (ve_var 1) (va_nil)))) (vs_nil))))
theorem ok_4 (T : Tx P w K mg base cl) (TD : TxD P w K mg base cl d) {f : Addr} {cdv : Value} {A : Around} {outer : List PySem.Env} {s : Shared} {H : Hp} {E : XK} {He : Hp} (hr : Room (d + 2) (A.deeper (envOfC "cross" (defScope (topS 13)) s.heap.objs.size f cdv))) :
    PVs (cxOf (L2.CX P w) P w K mg base ["a", "b"] "cross" (defScope (topS 13)) f cdv A outer s H E) cl (fun c d _ H => E c d H) He H (defBody (topS 13)) (b_cross (FT d)) := by
  have tk : Takes (cxOf (L2.CX P w) P w K mg base ["a", "b"] "cross" (defScope (topS 13)) f cdv A outer s H E) (fun c d _ H => E c d H) := takes_of rfl rfl rfl rfl
  exact vs_one (vs_ret (ve_bin op_sub ov_sub (ve_bin or_mul ov_mul (ve_ix (ve_var 0) (ve_int)) (ve_ix (ve_var 1) (ve_int))) (ve_bin or_mul ov_mul (ve_ix (ve_var 0) (ve_int)) (ve_ix (ve_var 1) (ve_int)))))
theorem ok_5 (T : Tx P w K mg base cl) (TD : TxD P w K mg base cl d) {f : Addr} {cdv : Value} {A : Around} {outer : List PySem.Env} {s : Shared} {H : Hp} {E : XK} {He : Hp} (hr : Room (d + 2) (A.deeper (envOfC "dot" (defScope (topS 14)) s.heap.objs.size f cdv))) :
    PVs (cxOf (L2.CX P w) P w K mg base ["a", "b"] "dot" (defScope (topS 14)) f cdv A outer s H E) cl (fun c d _ H => E c d H) He H (defBody (topS 14)) (b_dot (FT d)) := by
  have tk : Takes (cxOf (L2.CX P w) P w K mg base ["a", "b"] "dot" (defScope (topS 14)) f cdv A outer s H E) (fun c d _ H => E c d H) := takes_of rfl rfl rfl rfl
  exact vs_one (vs_ret (ve_bin or_add ov_add (ve_bin or_mul ov_mul (ve_ix (ve_var 0) (ve_int)) (ve_ix (ve_var 1) (ve_int))) (ve_bin or_mul ov_mul (ve_ix (ve_var 0) (ve_int)) (ve_ix (ve_var 1) (ve_int)))))
theorem ok_6 (T : Tx P w K mg base cl) (TD : TxD P w K mg base cl d) {f : Addr} {cdv : Value} {A : Around} {outer : List PySem.Env} {s : Shared} {H : Hp} {E : XK} {He : Hp} (hr : Room (d + 2) (A.deeper (envOfC "way_between" (defScope (topS 15)) s.heap.objs.size f cdv))) :
    PVs (cxOf (L2.CX P w) P w K mg base ["one", "other"] "way_between" (defScope (topS 15)) f cdv A outer s H E) cl (fun c d _ H => E c d H) He H (defBody (topS 15)) (b_way_between (FT d)) := by
  have tk : Takes (cxOf (L2.CX P w) P w K mg base ["one", "other"] "way_between" (defScope (topS 15)) f cdv A outer s H E) (fun c d _ H => E c d H) := takes_of rfl rfl rfl rfl
  exact vs_one (vs_ret (ve_tup (va_cons (ve_bin op_sub ov_sub (ve_ix (ve_var 1) (ve_int)) (ve_ix (ve_var 0) (ve_int))) (va_cons (ve_bin op_sub ov_sub (ve_ix (ve_var 1) (ve_int)) (ve_ix (ve_var 0) (ve_int))) (va_nil)))))
theorem ok_7 (T : Tx P w K mg base cl) (TD : TxD P w K mg base cl d) {f : Addr} {cdv : Value} {A : Around} {outer : List PySem.Env} {s : Shared} {H : Hp} {E : XK} {He : Hp} (hr : Room (d + 2) (A.deeper (envOfC "is_course" (defScope (topS 18)) s.heap.objs.size f cdv))) :
    PVs (cxOf (L2.CX P w) P w K mg base ["course", "x", "y", "over", "up", "part"] "is_course" (defScope (topS 18)) f cdv A outer s H E) cl (fun c d _ H => E c d H) He H (defBody (topS 18)) (b_is_course (FT d)) := by
  have tk : Takes (cxOf (L2.CX P w) P w K mg base ["course", "x", "y", "over", "up", "part"] "is_course" (defScope (topS 18)) f cdv A outer s H E) (fun c d _ H => E c d H) := takes_of rfl rfl rfl rfl
  exact vs_cons (vs_if (PW.pt (vw_or (vt_not (vt_tru (ve_callB call_isi cv_isa T.z_isinstance boot_isinstance (va_cons (ve_var 0) (va_cons ((ve_ty T.z_tuple boot_tuple)) (va_nil)))))) (vw_or (vt_cmp (or_ne (room64 hr)) ov_ne (ve_callB call_len cv_len T.z_len boot_len (va_cons (ve_var 0) (va_nil))) (ve_int)) (vw_or1 (vt_cmp (or_in (room65 hr)) ov_in (ve_bl) (ve_ofO (vo_lc (own := [(("part" : Str), 5)]) rfl sc_7.nd (vi_seq (ve_var 0)) wk_of (blk_of (by rfl)) (tg_name 5) (mem_tn rfl) (fun _ _ _ _ _ => pg_name (i := 5) sc_7.nd rfl (by first | exact Or.inl rfl | exact Or.inr rfl)) (fun _ _ _ _ _ => vts_nil) (fun _ _ _ _ _ => ve_callB call_isi cv_isa T.z_isinstance boot_isinstance (va_cons (ve_var 5) (va_cons ((ve_ty T.z_int boot_int)) (va_nil))))))))))) (vs_one (vs_ret (ve_bl))) (vs_nil)) (vs_cons (vs_tg (ve_var 0) (pg_tup rfl (pgs_cons (pg_name (i := 1) sc_7.nd rfl (by first | exact Or.inl rfl | exact Or.inr rfl)) (pgs_cons (pg_name (i := 2) sc_7.nd rfl (by first | exact Or.inl rfl | exact Or.inr rfl)) (pgs_cons (pg_name (i := 3) sc_7.nd rfl (by first | exact Or.inl rfl | exact Or.inr rfl)) (pgs_cons (pg_name (i := 4) sc_7.nd rfl (by first | exact Or.inl rfl | exact Or.inr rfl)) (pgs_nil)))))) (tg_tup (tgs_cons (tg_name 1) (tgs_cons (tg_name 2) (tgs_cons (tg_name 3) (tgs_cons (tg_name 4) (tgs_nil))))))) (vs_one (vs_ret (ve_and (ve_cmp or_le ov_le (ve_callB (cr_max2 rfl) cv_max T.z_max boot_max (va_cons (ve_callB call_abs cv_abs T.z_abs boot_abs (va_cons (ve_var 1) (va_nil))) (va_cons (ve_callB call_abs cv_abs T.z_abs boot_abs (va_cons (ve_var 2) (va_nil))) (va_nil)))) (ve_glob T.c_MOST_PLACE)) (ve_one (ve_cmp or_le ov_le (ve_callB (cr_max2 rfl) cv_max T.z_max boot_max (va_cons (ve_callB call_abs cv_abs T.z_abs boot_abs (va_cons (ve_var 3) (va_nil))) (va_cons (ve_callB call_abs cv_abs T.z_abs boot_abs (va_cons (ve_var 4) (va_nil))) (va_nil)))) (ve_glob T.c_MOST_SPEED)))))))
theorem ok_8 (T : Tx P w K mg base cl) (TD : TxD P w K mg base cl d) {f : Addr} {cdv : Value} {A : Around} {outer : List PySem.Env} {s : Shared} {H : Hp} {E : XK} {He : Hp} (hr : Room (d + 2) (A.deeper (envOfC "check_course" (defScope (topS 19)) s.heap.objs.size f cdv))) :
    PVs (cxOf (L2.CX P w) P w K mg base ["course"] "check_course" (defScope (topS 19)) f cdv A outer s H E) cl (fun c d _ H => E c d H) He H (defBody (topS 19)) (b_check_course (FT d)) := by
  have tk : Takes (cxOf (L2.CX P w) P w K mg base ["course"] "check_course" (defScope (topS 19)) f cdv A outer s H E) (fun c d _ H => E c d H) := takes_of rfl rfl rfl rfl
  exact vs_one (vs_if (vt_not (vt_tru (vc (TD.d_is_course) hr tk (va_cons (ve_var 0) (va_nil))))) (vs_one (vr0 T.x_BadCourse (room2 hr) rfl tk)) (vs_nil))
theorem ok_9 (T : Tx P w K mg base cl) (TD : TxD P w K mg base cl d) {f : Addr} {cdv : Value} {A : Around} {outer : List PySem.Env} {s : Shared} {H : Hp} {E : XK} {He : Hp} (hr : Room (d + 2) (A.deeper (envOfC "place_by" (defScope (topS 20)) s.heap.objs.size f cdv))) :
    PVs (cxOf (L2.CX P w) P w K mg base ["course", "t"] "place_by" (defScope (topS 20)) f cdv A outer s H E) cl (fun c d _ H => E c d H) He H (defBody (topS 20)) (b_place_by (FT d)) := by
  have tk : Takes (cxOf (L2.CX P w) P w K mg base ["course", "t"] "place_by" (defScope (topS 20)) f cdv A outer s H E) (fun c d _ H => E c d H) := takes_of rfl rfl rfl rfl
  exact vs_one (vs_ret (ve_tup (va_cons (ve_bin or_add ov_add (ve_ix (ve_var 0) (ve_int)) (ve_bin or_mul ov_mul (ve_ix (ve_var 0) (ve_int)) (ve_var 1))) (va_cons (ve_bin or_add ov_add (ve_ix (ve_var 0) (ve_int)) (ve_bin or_mul ov_mul (ve_ix (ve_var 0) (ve_int)) (ve_var 1))) (va_nil)))))
theorem ok_10 (T : Tx P w K mg base cl) (TD : TxD P w K mg base cl d) {f : Addr} {cdv : Value} {A : Around} {outer : List PySem.Env} {s : Shared} {H : Hp} {E : XK} {He : Hp} (hr : Room (d + 2) (A.deeper (envOfC "check_line" (defScope (topS 23)) s.heap.objs.size f cdv))) :
    PVs (cxOf (L2.CX P w) P w K mg base ["front", "rear"] "check_line" (defScope (topS 23)) f cdv A outer s H E) cl (fun c d _ H => E c d H) He H (defBody (topS 23)) (b_check_line (FT d)) := by
  have tk : Takes (cxOf (L2.CX P w) P w K mg base ["front", "rear"] "check_line" (defScope (topS 23)) f cdv A outer s H E) (fun c d _ H => E c d H) := takes_of rfl rfl rfl rfl
  exact vs_cons (vs_if (vt_cmp (or_eq (room64 hr)) ov_eq (ve_var 0) (ve_var 1)) (vs_one (vr0 T.x_SamePlace (room2 hr) rfl tk)) (vs_nil)) (vs_cons (vs_expr (vc (TD.d_check_place) hr tk (va_cons (ve_var 0) (va_nil)))) (vs_one (vs_expr (vc (TD.d_check_place) hr tk (va_cons (ve_var 1) (va_nil))))))
theorem ok_11 (T : Tx P w K mg base cl) (TD : TxD P w K mg base cl d) {f : Addr} {cdv : Value} {A : Around} {outer : List PySem.Env} {s : Shared} {H : Hp} {E : XK} {He : Hp} (hr : Room (d + 2) (A.deeper (envOfC "line_way" (defScope (topS 24)) s.heap.objs.size f cdv))) :
    PVs (cxOf (L2.CX P w) P w K mg base ["front", "rear"] "line_way" (defScope (topS 24)) f cdv A outer s H E) cl (fun c d _ H => E c d H) He H (defBody (topS 24)) (b_line_way (FT d)) := by
  have tk : Takes (cxOf (L2.CX P w) P w K mg base ["front", "rear"] "line_way" (defScope (topS 24)) f cdv A outer s H E) (fun c d _ H => E c d H) := takes_of rfl rfl rfl rfl
  exact vs_one (vs_ret (vc (TD.d_way_between) hr tk (va_cons (ve_var 0) (va_cons (ve_var 1) (va_nil)))))
theorem ok_12 (T : Tx P w K mg base cl) (TD : TxD P w K mg base cl d) {f : Addr} {cdv : Value} {A : Around} {outer : List PySem.Env} {s : Shared} {H : Hp} {E : XK} {He : Hp} (hr : Room (d + 2) (A.deeper (envOfC "side_of" (defScope (topS 25)) s.heap.objs.size f cdv))) :
    PVs (cxOf (L2.CX P w) P w K mg base ["front", "rear", "ship"] "side_of" (defScope (topS 25)) f cdv A outer s H E) cl (fun c d _ H => E c d H) He H (defBody (topS 25)) (b_side_of (FT d)) := by
  have tk : Takes (cxOf (L2.CX P w) P w K mg base ["front", "rear", "ship"] "side_of" (defScope (topS 25)) f cdv A outer s H E) (fun c d _ H => E c d H) := takes_of rfl rfl rfl rfl
  exact vs_one (vs_ret (vc (TD.d_cross) hr tk (va_cons (vc (TD.d_line_way) hr tk (va_cons (ve_var 0) (va_cons (ve_var 1) (va_nil)))) (va_cons (vc (TD.d_way_between) hr tk (va_cons (ve_var 0) (va_cons (ve_var 2) (va_nil)))) (va_nil)))))
theorem ok_13 (T : Tx P w K mg base cl) (TD : TxD P w K mg base cl d) {f : Addr} {cdv : Value} {A : Around} {outer : List PySem.Env} {s : Shared} {H : Hp} {E : XK} {He : Hp} (hr : Room (d + 2) (A.deeper (envOfC "word_of" (defScope (topS 26)) s.heap.objs.size f cdv))) :
    PVs (cxOf (L2.CX P w) P w K mg base ["side"] "word_of" (defScope (topS 26)) f cdv A outer s H E) cl (fun c d _ H => E c d H) He H (defBody (topS 26)) (b_word_of_v1 (FT d)) := by
  have tk : Takes (cxOf (L2.CX P w) P w K mg base ["side"] "word_of" (defScope (topS 26)) f cdv A outer s H E) (fun c d _ H => E c d H) := takes_of rfl rfl rfl rfl
  exact vs_cons (vs_if (vt_cmp (or_eq (room64 hr)) ov_eq (ve_var 0) (ve_int)) (vs_one (vs_ret (ve_str))) (vs_nil)) (vs_one (vs_ret (ve_if (vt_cmp op_gt ov_gt (ve_var 0) (ve_int)) (ve_str) (ve_str))))
theorem ok_14 (T : Tx P w K mg base cl) (TD : TxD P w K mg base cl d) {f : Addr} {cdv : Value} {A : Around} {outer : List PySem.Env} {s : Shared} {H : Hp} {E : XK} {He : Hp} (hr : Room (d + 2) (A.deeper (envOfC "off_by" (defScope (topS 27)) s.heap.objs.size f cdv))) :
    PVs (cxOf (L2.CX P w) P w K mg base ["place", "way", "ship", "side"] "off_by" (defScope (topS 27)) f cdv A outer s H E) cl (fun c d _ H => E c d H) He H (defBody (topS 27)) (b_off_by (FT d)) := by
  have tk : Takes (cxOf (L2.CX P w) P w K mg base ["place", "way", "ship", "side"] "off_by" (defScope (topS 27)) f cdv A outer s H E) (fun c d _ H => E c d H) := takes_of rfl rfl rfl rfl
  exact vs_cons (vs_set sc_14.nd (vc (TD.d_cross) hr tk (va_cons (ve_var 1) (va_cons (vc (TD.d_way_between) hr tk (va_cons (ve_var 0) (va_cons (ve_var 2) (va_nil)))) (va_nil))))) (vs_one (vs_ret (ve_tup (va_cons (vc (TD.d_word_of) hr tk (va_cons (ve_var 3) (va_nil))) (va_cons (vc (TD.d_lowest) hr tk (va_cons (ve_bin or_mul ov_mul (ve_var 3) (ve_var 3)) (va_cons (vc (TD.d_dot) hr tk (va_cons (ve_var 1) (va_cons (ve_var 1) (va_nil)))) (va_nil)))) (va_nil))))))
theorem ok_15 (T : Tx P w K mg base cl) (TD : TxD P w K mg base cl d) {f : Addr} {cdv : Value} {A : Around} {outer : List PySem.Env} {s : Shared} {H : Hp} {E : XK} {He : Hp} (hr : Room (d + 2) (A.deeper (envOfC "check_ship" (defScope (topS 28)) s.heap.objs.size f cdv))) :
    PVs (cxOf (L2.CX P w) P w K mg base ["front", "rear", "ship"] "check_ship" (defScope (topS 28)) f cdv A outer s H E) cl (fun c d _ H => E c d H) He H (defBody (topS 28)) (b_check_ship (FT d)) := by
  have tk : Takes (cxOf (L2.CX P w) P w K mg base ["front", "rear", "ship"] "check_ship" (defScope (topS 28)) f cdv A outer s H E) (fun c d _ H => E c d H) := takes_of rfl rfl rfl rfl
  exact vs_cons (vs_expr (vc (TD.d_check_line) hr tk (va_cons (ve_var 0) (va_cons (ve_var 1) (va_nil))))) (vs_one (vs_expr (vc (TD.d_check_place) hr tk (va_cons (ve_var 2) (va_nil)))))
theorem ok_16 (T : Tx P w K mg base cl) (TD : TxD P w K mg base cl d) {f : Addr} {cdv : Value} {A : Around} {outer : List PySem.Env} {s : Shared} {H : Hp} {E : XK} {He : Hp} (hr : Room (d + 2) (A.deeper (envOfC "off_line" (defScope (topS 29)) s.heap.objs.size f cdv))) :
    PVs (cxOf (L2.CX P w) P w K mg base ["front", "rear", "ship"] "off_line" (defScope (topS 29)) f cdv A outer s H E) cl (fun c d _ H => E c d H) He H (defBody (topS 29)) (b_off_line (FT d)) := by
  have tk : Takes (cxOf (L2.CX P w) P w K mg base ["front", "rear", "ship"] "off_line" (defScope (topS 29)) f cdv A outer s H E) (fun c d _ H => E c d H) := takes_of rfl rfl rfl rfl
  exact vs_cons (vs_expr (vc (TD.d_check_ship) hr tk (va_cons (ve_var 0) (va_cons (ve_var 1) (va_cons (ve_var 2) (va_nil)))))) (vs_one (vs_ret (vc (TD.d_off_by) hr tk (va_cons (ve_var 0) (va_cons (vc (TD.d_line_way) hr tk (va_cons (ve_var 0) (va_cons (ve_var 1) (va_nil)))) (va_cons (ve_var 2) (va_nil)))))))
theorem ok_17 (T : Tx P w K mg base cl) (TD : TxD P w K mg base cl d) {f : Addr} {cdv : Value} {A : Around} {outer : List PySem.Env} {s : Shared} {H : Hp} {E : XK} {He : Hp} (hr : Room (d + 2) (A.deeper (envOfC "opens" (defScope (topS 30)) s.heap.objs.size f cdv))) :
    PVs (cxOf (L2.CX P w) P w K mg base ["front", "rear", "ship", "side"] "opens" (defScope (topS 30)) f cdv A outer s H E) cl (fun c d _ H => E c d H) He H (defBody (topS 30)) (b_opens (FT d)) := by
  have tk : Takes (cxOf (L2.CX P w) P w K mg base ["front", "rear", "ship", "side"] "opens" (defScope (topS 30)) f cdv A outer s H E) (fun c d _ H => E c d H) := takes_of rfl rfl rfl rfl
  exact vs_cons (vs_expr (vc (TD.d_check_ship) hr tk (va_cons (ve_var 0) (va_cons (ve_var 1) (va_cons (ve_var 2) (va_nil)))))) (vs_cons (vs_set sc_17.nd (vc (TD.d_cross) hr tk (va_cons (vc (TD.d_way_between) hr tk (va_cons (ve_var 2) (va_cons (ve_var 1) (va_nil)))) (va_cons (vc (TD.d_way_between) hr tk (va_cons (ve_var 2) (va_cons (ve_var 0) (va_nil)))) (va_nil))))) (vs_cons (vs_if (vt_cmp (or_eq (room64 hr)) ov_eq (ve_var 3) (ve_int)) (vs_one (vs_ret (ve_str))) (vs_nil)) (vs_one (vs_ret (ve_if (vt_cmp op_gt ov_gt (ve_var 3) (ve_int)) (ve_str) (ve_str))))))
theorem ok_18 (T : Tx P w K mg base cl) (TD : TxD P w K mg base cl d) {f : Addr} {cdv : Value} {A : Around} {outer : List PySem.Env} {s : Shared} {H : Hp} {E : XK} {He : Hp} (hr : Room (d + 2) (A.deeper (envOfC "is_ahead" (defScope (topS 31)) s.heap.objs.size f cdv))) :
    PVs (cxOf (L2.CX P w) P w K mg base ["front", "rear", "ship"] "is_ahead" (defScope (topS 31)) f cdv A outer s H E) cl (fun c d _ H => E c d H) He H (defBody (topS 31)) (b_is_ahead (FT d)) := by
  have tk : Takes (cxOf (L2.CX P w) P w K mg base ["front", "rear", "ship"] "is_ahead" (defScope (topS 31)) f cdv A outer s H E) (fun c d _ H => E c d H) := takes_of rfl rfl rfl rfl
  exact vs_one (vs_ret (ve_cmp (or_lt (room0 hr)) ov_lt (vc (TD.d_dot) hr tk (va_cons (vc (TD.d_line_way) hr tk (va_cons (ve_var 0) (va_cons (ve_var 1) (va_nil)))) (va_cons (vc (TD.d_way_between) hr tk (va_cons (ve_var 0) (va_cons (ve_var 2) (va_nil)))) (va_nil)))) (ve_int)))
theorem ok_19 (T : Tx P w K mg base cl) (TD : TxD P w K mg base cl d) {f : Addr} {cdv : Value} {A : Around} {outer : List PySem.Env} {s : Shared} {H : Hp} {E : XK} {He : Hp} (hr : Room (d + 2) (A.deeper (envOfC "ahead_of" (defScope (topS 32)) s.heap.objs.size f cdv))) :
    PVs (cxOf (L2.CX P w) P w K mg base ["front", "rear", "ship"] "ahead_of" (defScope (topS 32)) f cdv A outer s H E) cl (fun c d _ H => E c d H) He H (defBody (topS 32)) (b_ahead_of (FT d)) := by
  have tk : Takes (cxOf (L2.CX P w) P w K mg base ["front", "rear", "ship"] "ahead_of" (defScope (topS 32)) f cdv A outer s H E) (fun c d _ H => E c d H) := takes_of rfl rfl rfl rfl
  exact vs_cons (vs_expr (vc (TD.d_check_ship) hr tk (va_cons (ve_var 0) (va_cons (ve_var 1) (va_cons (ve_var 2) (va_nil)))))) (vs_one (vs_ret (vc (TD.d_is_ahead) hr tk (va_cons (ve_var 0) (va_cons (ve_var 1) (va_cons (ve_var 2) (va_nil)))))))
theorem ok_20 (T : Tx P w K mg base cl) (TD : TxD P w K mg base cl d) {f : Addr} {cdv : Value} {A : Around} {outer : List PySem.Env} {s : Shared} {H : Hp} {E : XK} {He : Hp} (hr : Room (d + 2) (A.deeper (envOfC "crosses_line" (defScope (topS 33)) s.heap.objs.size f cdv))) :
    PVs (cxOf (L2.CX P w) P w K mg base ["course", "front", "rear", "start", "speed"] "crosses_line" (defScope (topS 33)) f cdv A outer s H E) cl (fun c d _ H => E c d H) He H (defBody (topS 33)) (b_crosses_line (FT d)) := by
  have tk : Takes (cxOf (L2.CX P w) P w K mg base ["course", "front", "rear", "start", "speed"] "crosses_line" (defScope (topS 33)) f cdv A outer s H E) (fun c d _ H => E c d H) := takes_of rfl rfl rfl rfl
  exact vs_cons (vs_expr (vc (TD.d_check_line) hr tk (va_cons (ve_var 1) (va_cons (ve_var 2) (va_nil))))) (vs_cons (vs_expr (vc (TD.d_check_course) hr tk (va_cons (ve_var 0) (va_nil)))) (vs_cons (vs_set sc_20.nd (vc (TD.d_side_of) hr tk (va_cons (ve_var 1) (va_cons (ve_var 2) (va_cons (ve_slice (ve_var 0) (vo_none) (vo_some (ve_int))) (va_nil)))))) (vs_cons (vs_set sc_20.nd (vc (TD.d_cross) hr tk (va_cons (vc (TD.d_line_way) hr tk (va_cons (ve_var 1) (va_cons (ve_var 2) (va_nil)))) (va_cons (ve_slice (ve_var 0) (vo_some (ve_int)) (vo_none)) (va_nil))))) (vs_cons (vs_if (vt_cmp (or_eq (room64 hr)) ov_eq (ve_var 3) (ve_int)) (vs_one (vs_ret (ve_tup (va_cons (ve_int) (va_cons (ve_int) (va_nil)))))) (vs_nil)) (vs_cons (vs_if (PW.pt (vw_or (vt_cmp (or_eq (room64 hr)) ov_eq (ve_var 4) (ve_int)) (vw_or1 (vt_cmp (or_eq (room64 hr)) ov_eq (ve_cmp op_gt ov_gt (ve_var 3) (ve_int)) (ve_cmp op_gt ov_gt (ve_var 4) (ve_int)))))) (vs_one (vs_ret (ve_non))) (vs_nil)) (vs_one (vs_ret (vc (TD.d_lowest) hr tk (va_cons (ve_callB call_abs cv_abs T.z_abs boot_abs (va_cons (ve_var 3) (va_nil))) (va_cons (ve_callB call_abs cv_abs T.z_abs boot_abs (va_cons (ve_var 4) (va_nil))) (va_nil)))))))))))
theorem ok_21 (T : Tx P w K mg base cl) (TD : TxD P w K mg base cl d) {f : Addr} {cdv : Value} {A : Around} {outer : List PySem.Env} {s : Shared} {H : Hp} {E : XK} {He : Hp} (hr : Room (d + 2) (A.deeper (envOfC "keeps_line" (defScope (topS 34)) s.heap.objs.size f cdv))) :
    PVs (cxOf (L2.CX P w) P w K mg base ["course", "front", "rear", "on_line"] "keeps_line" (defScope (topS 34)) f cdv A outer s H E) cl (fun c d _ H => E c d H) He H (defBody (topS 34)) (b_keeps_line (FT d)) := by
  have tk : Takes (cxOf (L2.CX P w) P w K mg base ["course", "front", "rear", "on_line"] "keeps_line" (defScope (topS 34)) f cdv A outer s H E) (fun c d _ H => E c d H) := takes_of rfl rfl rfl rfl
  exact vs_cons (vs_expr (vc (TD.d_check_line) hr tk (va_cons (ve_var 1) (va_cons (ve_var 2) (va_nil))))) (vs_cons (vs_expr (vc (TD.d_check_course) hr tk (va_cons (ve_var 0) (va_nil)))) (vs_cons (vs_set sc_21.nd (ve_and (ve_cmp (or_eq (room64 hr)) ov_eq (vc (TD.d_side_of) hr tk (va_cons (ve_var 1) (va_cons (ve_var 2) (va_cons (ve_slice (ve_var 0) (vo_none) (vo_some (ve_int))) (va_nil))))) (ve_int)) (ve_one (ve_cmp (or_eq (room64 hr)) ov_eq (vc (TD.d_cross) hr tk (va_cons (vc (TD.d_line_way) hr tk (va_cons (ve_var 1) (va_cons (ve_var 2) (va_nil)))) (va_cons (ve_slice (ve_var 0) (vo_some (ve_int)) (vo_none)) (va_nil)))) (ve_int))))) (vs_one (vs_ret (ve_and (ve_var 3) (ve_one (vc (TD.d_is_ahead) hr tk (va_cons (ve_var 1) (va_cons (ve_var 2) (va_cons (vc (TD.d_place_by) hr tk (va_cons (ve_var 0) (va_cons (ve_int) (va_nil)))) (va_nil)))))))))))
theorem ok_22 (T : Tx P w K mg base cl) (TD : TxD P w K mg base cl d) {f : Addr} {cdv : Value} {A : Around} {outer : List PySem.Env} {s : Shared} {H : Hp} {E : XK} {He : Hp} (hr : Room (d + 2) (A.deeper (envOfC "speeds_on" (defScope (topS 35)) s.heap.objs.size f cdv))) :
    PVs (cxOf (L2.CX P w) P w K mg base ["front", "rear", "ship", "most", "way", "found", "over", "up"] "speeds_on" (defScope (topS 35)) f cdv A outer s H E) cl (fun c d _ H => E c d H) He H (defBody (topS 35)) (b_speeds_on (FT d)) := by
  have tk : Takes (cxOf (L2.CX P w) P w K mg base ["front", "rear", "ship", "most", "way", "found", "over", "up"] "speeds_on" (defScope (topS 35)) f cdv A outer s H E) (fun c d _ H => E c d H) := takes_of rfl rfl rfl rfl
  have hp := passes_of (X := cxOf (L2.CX P w) P w K mg base ["front", "rear", "ship", "most", "way", "found", "over", "up"] "speeds_on" (defScope (topS 35)) f cdv A outer s H E) rfl
  exact vs_cons (vs_expr (vc (TD.d_check_ship) hr tk (va_cons (ve_var 0) (va_cons (ve_var 1) (va_cons (ve_var 2) (va_nil)))))) (vs_cons (vs_expr (vc (TD.d_check_between) hr tk (va_cons (ve_var 3) (va_cons (ve_int) (va_cons (ve_glob T.c_MOST_PART) (va_nil)))))) (vs_cons (vs_set sc_22.nd (vc (TD.d_way_between) hr tk (va_cons (ve_var 2) (va_cons (ve_var 0) (va_nil))))) (vs_cons (vs_if (vt_cmp (or_ne (room64 hr)) ov_ne (vc (TD.d_side_of) hr tk (va_cons (ve_var 0) (va_cons (ve_var 1) (va_cons (ve_var 2) (va_nil))))) (ve_int)) (vs_one (vs_ret (ve_lst (va_nil)))) (vs_nil)) (vs_cons (vs_own sc_22.nd (vo_lst (va_nil))) (vs_cons (vs_for hp rfl bears_wkA wkA_of (vi_r2 (ve_neg (ve_var 3)) (ve_bin or_add ov_add (ve_var 3) (ve_int)) T.z_range) (pg_name (i := 6) sc_22.nd rfl (by first | exact Or.inl rfl | exact Or.inr rfl)) (tg_name 6) (vs_one (vs_for hp rfl bears_wkA wkA_of (vi_r2 (ve_neg (ve_var 3)) (ve_bin or_add ov_add (ve_var 3) (ve_int)) T.z_range) (pg_name (i := 7) sc_22.nd rfl (by first | exact Or.inl rfl | exact Or.inr rfl)) (tg_name 7) (vs_one (vs_if (PW.pt (vw_and (vt_cmp (or_eq (room64 hr)) ov_eq (vc (TD.d_cross) hr tk (va_cons (ve_var 4) (va_cons (ve_tup (va_cons (ve_var 6) (va_cons (ve_var 7) (va_nil)))) (va_nil)))) (ve_int)) (vw_and1 (vt_cmp op_gt ov_gt (vc (TD.d_dot) hr tk (va_cons (ve_var 4) (va_cons (ve_tup (va_cons (ve_var 6) (va_cons (ve_var 7) (va_nil)))) (va_nil)))) (ve_int))))) (vs_one (vs_met PySem.F.slot_list_append PySem.F.type_list_append mt_append met_app (va_cons (ve_tup (va_cons (ve_var 6) (va_cons (ve_var 7) (va_nil)))) (va_nil)))) (vs_nil)))))) (vs_one (vs_ret (ve_var 5))))))))
theorem ok_23 (T : Tx P w K mg base cl) (TD : TxD P w K mg base cl d) {f : Addr} {cdv : Value} {A : Around} {outer : List PySem.Env} {s : Shared} {H : Hp} {E : XK} {He : Hp} (hr : Room (d + 2) (A.deeper (envOfC "safe_side" (defScope (topS 36)) s.heap.objs.size f cdv))) :
    PVs (cxOf (L2.CX P w) P w K mg base ["front", "rear", "rocks", "rock", "sides"] "safe_side" (defScope (topS 36)) f cdv A outer s H E) cl (fun c d _ H => E c d H) He H (defBody (topS 36)) (b_safe_side (FT d)) := by
  have tk : Takes (cxOf (L2.CX P w) P w K mg base ["front", "rear", "rocks", "rock", "sides"] "safe_side" (defScope (topS 36)) f cdv A outer s H E) (fun c d _ H => E c d H) := takes_of rfl rfl rfl rfl
  have hp := passes_of (X := cxOf (L2.CX P w) P w K mg base ["front", "rear", "rocks", "rock", "sides"] "safe_side" (defScope (topS 36)) f cdv A outer s H E) rfl
  exact vs_cons (vs_expr (vc (TD.d_check_line) hr tk (va_cons (ve_var 0) (va_cons (ve_var 1) (va_nil))))) (vs_cons (vs_for hp rfl bears_wk wk_of (vi_seq (ve_var 2)) (pg_name (i := 3) sc_23.nd rfl (by first | exact Or.inl rfl | exact Or.inr rfl)) (tg_name 3) (vs_one (vs_expr (vc (TD.d_check_place) hr tk (va_cons (ve_var 3) (va_nil)))))) (vs_cons (vs_setLc (own := [(("rock" : Str), 3)]) rfl sc_23.nd (vi_seq (ve_var 2)) wk_of (blk_of (by rfl)) (tg_name 3) (mem_tn rfl) (fun _ _ _ _ _ => pg_name (i := 3) sc_23.nd rfl (by first | exact Or.inl rfl | exact Or.inr rfl)) (fun _ _ _ _ _ => vts_nil) (fun _ _ _ _ _ => vc (TD.d_word_of) hr takes_none5 (va_cons (vc (TD.d_side_of) hr takes_none5 (va_cons (ve_var 0) (va_cons (ve_var 1) (va_cons (ve_var 3) (va_nil))))) (va_nil)))) (vs_cons (vs_if (PW.pt (vw_or (vt_cmp (or_in (room65 hr)) ov_in (ve_str) (ve_var 4)) (vw_or1 (PW.pt (vw_and (vt_cmp (or_in (room65 hr)) ov_in (ve_str) (ve_var 4)) (vw_and1 (vt_cmp (or_in (room65 hr)) ov_in (ve_str) (ve_var 4)))))))) (vs_one (vs_ret (ve_str))) (vs_nil)) (vs_cons (vs_if (vt_cmp (or_eq (room64 hr)) ov_eq (ve_callB call_len cv_len T.z_len boot_len (va_cons (ve_var 4) (va_nil))) (ve_int)) (vs_one (vs_ret (ve_str))) (vs_nil)) (vs_one (vs_ret (ve_if (vt_cmp (or_in (room65 hr)) ov_in (ve_str) (ve_var 4)) (ve_str) (ve_str))))))))
theorem ok_24 (T : Tx P w K mg base cl) (TD : TxD P w K mg base cl d) {f : Addr} {cdv : Value} {A : Around} {outer : List PySem.Env} {s : Shared} {H : Hp} {E : XK} {He : Hp} (hr : Room (d + 2) (A.deeper (envOfC "_law_cell" (defScope (topS 38)) s.heap.objs.size f cdv))) :
    PVs (cxOf (L2.CX P w) P w K mg base ["script", "k"] "_law_cell" (defScope (topS 38)) f cdv A outer s H E) cl (fun c d _ H => E c d H) He H (defBody (topS 38)) (b__law_cell (FT d)) := by
  have tk : Takes (cxOf (L2.CX P w) P w K mg base ["script", "k"] "_law_cell" (defScope (topS 38)) f cdv A outer s H E) (fun c d _ H => E c d H) := takes_of rfl rfl rfl rfl
  exact vs_cons (vs_if (vt_cmp (or_lt (room0 hr)) ov_lt (ve_var 1) (ve_callB call_len cv_len T.z_len boot_len (va_cons (ve_var 0) (va_nil)))) (vs_one (vs_ret (ve_ix (ve_var 0) (ve_var 1)))) (vs_nil)) (vs_one (vs_ret (ve_int)))
theorem ok_25 (T : Tx P w K mg base cl) (TD : TxD P w K mg base cl d) {f : Addr} {cdv : Value} {A : Around} {outer : List PySem.Env} {s : Shared} {H : Hp} {E : XK} {He : Hp} (hr : Room (d + 2) (A.deeper (envOfC "_law_draw" (defScope (topS 39)) s.heap.objs.size f cdv))) :
    PVs (cxOf (L2.CX P w) P w K mg base ["cell", "limits", "row", "rest", "great", "k", "mixed"] "_law_draw" (defScope (topS 39)) f cdv A outer s H E) cl (fun c d _ H => E c d H) He H (defBody (topS 39)) (b__law_draw (FT d)) := by
  have tk : Takes (cxOf (L2.CX P w) P w K mg base ["cell", "limits", "row", "rest", "great", "k", "mixed"] "_law_draw" (defScope (topS 39)) f cdv A outer s H E) (fun c d _ H => E c d H) := takes_of rfl rfl rfl rfl
  have hp := passes_of (X := cxOf (L2.CX P w) P w K mg base ["cell", "limits", "row", "rest", "great", "k", "mixed"] "_law_draw" (defScope (topS 39)) f cdv A outer s H E) rfl
  exact vs_cons (vs_own sc_25.nd (vo_lst (va_nil))) (vs_cons (vs_set sc_25.nd (ve_callB call_abs cv_abs T.z_abs boot_abs (va_cons (ve_var 0) (va_nil)))) (vs_cons (vs_set sc_25.nd (ve_cmp op_ge ov_ge (ve_var 3) (ve_int))) (vs_cons (vs_for hp rfl bears_wkA wkA_of (vi_r1 (ve_callB call_len cv_len T.z_len boot_len (va_cons (ve_var 1) (va_nil))) T.z_range) (pg_name (i := 5) sc_25.nd rfl (by first | exact Or.inl rfl | exact Or.inr rfl)) (tg_name 5) (vs_one (vs_if (PW.pt (vw_and (vt_tru (ve_var 4)) (vw_and1 (vt_cmp op_ge ov_ge (ve_var 3) (ve_ix (ve_var 1) (ve_var 5)))))) (vs_cons (vs_met PySem.F.slot_list_append PySem.F.type_list_append mt_append met_app (va_cons (ve_bin op_mod ov_mod (ve_callTy call_int1 cv_int T.z_int boot_int (va_cons (ve_var 3) (va_nil))) (ve_ix (ve_var 1) (ve_var 5))) (va_nil))) (vs_one (vs_set sc_25.nd (ve_bin op_fdivS ov_div (ve_var 3) (ve_ix (ve_var 1) (ve_var 5)))))) (vs_cons (vs_set sc_25.nd (ve_bin op_mod ov_mod (ve_callTy call_int1 cv_int T.z_int boot_int (va_cons (ve_bin or_add ov_add (ve_bin or_mul ov_mul (ve_callB call_abs cv_abs T.z_abs boot_abs (va_cons (ve_var 0) (va_nil))) (ve_int)) (ve_bin or_mul ov_mul (ve_bin or_add ov_add (ve_var 5) (ve_int)) (ve_int))) (va_nil))) (ve_int))) (vs_cons (vs_set sc_25.nd (ve_bin op_mod ov_mod (ve_callTy call_int1 cv_int T.z_int boot_int (va_cons (ve_bin or_add ov_add (ve_bin or_mul ov_mul (ve_var 6) (ve_int)) (ve_bin or_mul ov_mul (ve_bin or_add ov_add (ve_var 5) (ve_int)) (ve_int))) (va_nil))) (ve_int))) (vs_one (vs_met PySem.F.slot_list_append PySem.F.type_list_append mt_append met_app (va_cons (ve_bin op_mod ov_mod (ve_callTy call_int1 cv_int T.z_int boot_int (va_cons (ve_var 6) (va_nil))) (ve_ix (ve_var 1) (ve_var 5))) (va_nil))))))))) (vs_one (vs_ret (ve_var 2))))))
theorem ok_26 (T : Tx P w K mg base cl) (TD : TxD P w K mg base cl d) {f : Addr} {cdv : Value} {A : Around} {outer : List PySem.Env} {s : Shared} {H : Hp} {E : XK} {He : Hp} (hr : Room (d + 2) (A.deeper (envOfC "_law_turn_of" (defScope (topS 40)) s.heap.objs.size f cdv))) :
    PVs (cxOf (L2.CX P w) P w K mg base ["a", "b"] "_law_turn_of" (defScope (topS 40)) f cdv A outer s H E) cl (fun c d _ H => E c d H) He H (defBody (topS 40)) (b__law_turn_of (FT d)) := by
  have tk : Takes (cxOf (L2.CX P w) P w K mg base ["a", "b"] "_law_turn_of" (defScope (topS 40)) f cdv A outer s H E) (fun c d _ H => E c d H) := takes_of rfl rfl rfl rfl
  exact vs_one (vs_ret (ve_bin op_sub ov_sub (ve_bin or_mul ov_mul (ve_ix (ve_var 0) (ve_int)) (ve_ix (ve_var 1) (ve_int))) (ve_bin or_mul ov_mul (ve_ix (ve_var 0) (ve_int)) (ve_ix (ve_var 1) (ve_int)))))
theorem ok_27 (T : Tx P w K mg base cl) (TD : TxD P w K mg base cl d) {f : Addr} {cdv : Value} {A : Around} {outer : List PySem.Env} {s : Shared} {H : Hp} {E : XK} {He : Hp} (hr : Room (d + 2) (A.deeper (envOfC "_law_ship" (defScope (topS 41)) s.heap.objs.size f cdv))) :
    PVs (cxOf (L2.CX P w) P w K mg base ["cell", "wide", "d"] "_law_ship" (defScope (topS 41)) f cdv A outer s H E) cl (fun c d _ H => E c d H) He H (defBody (topS 41)) (b__law_ship (FT d)) := by
  have tk : Takes (cxOf (L2.CX P w) P w K mg base ["cell", "wide", "d"] "_law_ship" (defScope (topS 41)) f cdv A outer s H E) (fun c d _ H => E c d H) := takes_of rfl rfl rfl rfl
  exact vs_cons (vs_set sc_27.nd (vc (TD.d__law_draw) hr tk (va_cons (ve_var 0) (va_cons (ve_lst (va_cons (ve_bin or_add ov_add (ve_bin or_mul ov_mul (ve_int) (ve_var 1)) (ve_int)) (va_cons (ve_bin or_add ov_add (ve_bin or_mul ov_mul (ve_int) (ve_var 1)) (ve_int)) (va_nil)))) (va_nil))))) (vs_one (vs_ret (ve_tup (va_cons (ve_bin op_sub ov_sub (ve_ix (ve_var 2) (ve_int)) (ve_var 1)) (va_cons (ve_bin op_sub ov_sub (ve_ix (ve_var 2) (ve_int)) (ve_var 1)) (va_nil))))))
theorem ok_28 (T : Tx P w K mg base cl) (TD : TxD P w K mg base cl d) {f : Addr} {cdv : Value} {A : Around} {outer : List PySem.Env} {s : Shared} {H : Hp} {E : XK} {He : Hp} (hr : Room (d + 2) (A.deeper (envOfC "_law_course" (defScope (topS 42)) s.heap.objs.size f cdv))) :
    PVs (cxOf (L2.CX P w) P w K mg base ["cell", "wide", "fast", "d"] "_law_course" (defScope (topS 42)) f cdv A outer s H E) cl (fun c d _ H => E c d H) He H (defBody (topS 42)) (b__law_course (FT d)) := by
  have tk : Takes (cxOf (L2.CX P w) P w K mg base ["cell", "wide", "fast", "d"] "_law_course" (defScope (topS 42)) f cdv A outer s H E) (fun c d _ H => E c d H) := takes_of rfl rfl rfl rfl
  exact vs_cons (vs_set sc_28.nd (vc (TD.d__law_draw) hr tk (va_cons (ve_var 0) (va_cons (ve_lst (va_cons (ve_bin or_add ov_add (ve_bin or_mul ov_mul (ve_int) (ve_var 1)) (ve_int)) (va_cons (ve_bin or_add ov_add (ve_bin or_mul ov_mul (ve_int) (ve_var 1)) (ve_int)) (va_cons (ve_bin or_add ov_add (ve_bin or_mul ov_mul (ve_int) (ve_var 2)) (ve_int)) (va_cons (ve_bin or_add ov_add (ve_bin or_mul ov_mul (ve_int) (ve_var 2)) (ve_int)) (va_nil)))))) (va_nil))))) (vs_one (vs_ret (ve_tup (va_cons (ve_bin op_sub ov_sub (ve_ix (ve_var 3) (ve_int)) (ve_var 1)) (va_cons (ve_bin op_sub ov_sub (ve_ix (ve_var 3) (ve_int)) (ve_var 1)) (va_cons (ve_bin op_sub ov_sub (ve_ix (ve_var 3) (ve_int)) (ve_var 2)) (va_cons (ve_bin op_sub ov_sub (ve_ix (ve_var 3) (ve_int)) (ve_var 2)) (va_nil))))))))
theorem ok_29 (T : Tx P w K mg base cl) (TD : TxD P w K mg base cl d) {f : Addr} {cdv : Value} {A : Around} {outer : List PySem.Env} {s : Shared} {H : Hp} {E : XK} {He : Hp} (hr : Room (d + 2) (A.deeper (envOfC "_law_lowest" (defScope (topS 43)) s.heap.objs.size f cdv))) :
    PVs (cxOf (L2.CX P w) P w K mg base ["top", "bottom", "a", "b", "k", "rest"] "_law_lowest" (defScope (topS 43)) f cdv A outer s H E) cl (fun c d _ H => E c d H) He H (defBody (topS 43)) (b__law_lowest_v0 (FT d)) := by
  have tk : Takes (cxOf (L2.CX P w) P w K mg base ["top", "bottom", "a", "b", "k", "rest"] "_law_lowest" (defScope (topS 43)) f cdv A outer s H E) (fun c d _ H => E c d H) := takes_of rfl rfl rfl rfl
  have hp := passes_of (X := cxOf (L2.CX P w) P w K mg base ["top", "bottom", "a", "b", "k", "rest"] "_law_lowest" (defScope (topS 43)) f cdv A outer s H E) rfl
  exact vs_cons (vs_set sc_29.nd (ve_callB call_abs cv_abs T.z_abs boot_abs (va_cons (ve_var 0) (va_nil)))) (vs_cons (vs_set sc_29.nd (ve_callB call_abs cv_abs T.z_abs boot_abs (va_cons (ve_var 1) (va_nil)))) (vs_cons (vs_for hp rfl bears_wkA wkA_of (vi_r1 (ve_int) T.z_range) (pg_name (i := 4) sc_29.nd rfl (by first | exact Or.inl rfl | exact Or.inr rfl)) (tg_name 4) (vs_cons (vs_if (vt_cmp (or_eq (room64 hr)) ov_eq (ve_var 3) (ve_int)) (vs_one (vs_break)) (vs_nil)) (vs_cons (vs_set sc_29.nd (ve_bin op_mod ov_mod (ve_callTy call_int1 cv_int T.z_int boot_int (va_cons (ve_var 2) (va_nil))) (ve_var 3))) (vs_cons (vs_set sc_29.nd (ve_var 3)) (vs_one (vs_set sc_29.nd (ve_var 5))))))) (vs_cons (vs_if (vt_cmp (or_lt (room0 hr)) ov_lt (ve_var 1) (ve_int)) (vs_one (vs_set sc_29.nd (ve_neg (ve_var 2)))) (vs_nil)) (vs_one (vs_ret (ve_tup (va_cons (ve_bin op_fdivS ov_div (ve_var 0) (ve_var 2)) (va_cons (ve_bin op_fdivS ov_div (ve_var 1) (ve_var 2)) (va_nil)))))))))
theorem ok_30 (T : Tx P w K mg base cl) (TD : TxD P w K mg base cl d) {f : Addr} {cdv : Value} {A : Around} {outer : List PySem.Env} {s : Shared} {H : Hp} {E : XK} {He : Hp} (hr : Room (d + 2) (A.deeper (envOfC "_law_told" (defScope (topS 44)) s.heap.objs.size f cdv))) :
    PVs (cxOf (L2.CX P w) P w K mg base ["way", "a", "b", "c", "d", "e"] "_law_told" (defScope (topS 44)) f cdv A outer s H E) cl (fun c d _ H => E c d H) He H (defBody (topS 44)) (b__law_told_v17 (FT d)) := by
  have tk : Takes (cxOf (L2.CX P w) P w K mg base ["way", "a", "b", "c", "d", "e"] "_law_told" (defScope (topS 44)) f cdv A outer s H E) (fun c d _ H => E c d H) := takes_of rfl rfl rfl rfl
  have hp := passes_of (X := cxOf (L2.CX P w) P w K mg base ["way", "a", "b", "c", "d", "e"] "_law_told" (defScope (topS 44)) f cdv A outer s H E) rfl
  exact vs_one (vs_tr tk (fun W' pn' xe' tk' hp' => vs_cons (vs_if (vt_cmp (or_eq (room64 hr)) ov_eq (ve_var 0) (ve_int)) (vs_one (vs_ret (ve_tup (va_cons (ve_str) (va_cons (vc (TD.d_off_line) hr tk' (va_cons (ve_var 1) (va_cons (ve_var 2) (va_cons (ve_var 3) (va_nil))))) (va_nil)))))) (vs_nil)) (vs_cons (vs_if (vt_cmp (or_eq (room64 hr)) ov_eq (ve_var 0) (ve_int)) (vs_one (vs_ret (ve_tup (va_cons (ve_str) (va_cons (vc (TD.d_opens) hr tk' (va_cons (ve_var 1) (va_cons (ve_var 2) (va_cons (ve_var 3) (va_nil))))) (va_nil)))))) (vs_nil)) (vs_cons (vs_if (vt_cmp (or_eq (room64 hr)) ov_eq (ve_var 0) (ve_int)) (vs_one (vs_ret (ve_tup (va_cons (ve_str) (va_cons (vc (TD.d_ahead_of) hr tk' (va_cons (ve_var 1) (va_cons (ve_var 2) (va_cons (ve_var 3) (va_nil))))) (va_nil)))))) (vs_nil)) (vs_cons (vs_if (vt_cmp (or_eq (room64 hr)) ov_eq (ve_var 0) (ve_int)) (vs_one (vs_ret (ve_tup (va_cons (ve_str) (va_cons (vc (TD.d_crosses_line) hr tk' (va_cons (ve_var 1) (va_cons (ve_var 2) (va_cons (ve_var 3) (va_nil))))) (va_nil)))))) (vs_nil)) (vs_cons (vs_if (vt_cmp (or_eq (room64 hr)) ov_eq (ve_var 0) (ve_int)) (vs_one (vs_ret (ve_tup (va_cons (ve_str) (va_cons (vc (TD.d_speeds_on) hr tk' (va_cons (ve_var 1) (va_cons (ve_var 2) (va_cons (ve_var 3) (va_cons (ve_var 4) (va_nil)))))) (va_nil)))))) (vs_nil)) (vs_cons (vs_if (vt_cmp (or_eq (room64 hr)) ov_eq (ve_var 0) (ve_int)) (vs_one (vs_ret (ve_tup (va_cons (ve_str) (va_cons (vc (TD.d_safe_side) hr tk' (va_cons (ve_var 1) (va_cons (ve_var 2) (va_cons (ve_var 3) (va_nil))))) (va_nil)))))) (vs_nil)) (vs_one (vs_ret (ve_tup (va_cons (ve_str) (va_cons (vc (TD.d_keeps_line) hr tk' (va_cons (ve_var 1) (va_cons (ve_var 2) (va_cons (ve_var 3) (va_nil))))) (va_nil)))))))))))) (hd_un T.m_SamePlace (fun _ _ _ _ => vs_one (vs_ret (ve_tup (va_cons (ve_str) (va_cons (ve_int) (va_nil)))))) (hd_un T.m_BadCourse (fun _ _ _ _ => vs_one (vs_ret (ve_tup (va_cons (ve_str) (va_cons (ve_int) (va_nil)))))) (hd_nm (i := 5) T.m_OutOfRange sc_30.nd (fun _ _ _ _ _ hz hf => sx_ret (xx_tup (xa_cons (xx_str) (xa_cons (xx_f T.f_OutOfRange_value hz hf) (xa_nil))))) (hd_un T.m_LightError (fun _ _ _ _ => vs_one (vs_ret (ve_tup (va_cons (ve_str) (va_cons (ve_int) (va_nil)))))) (hd_nil))))))
theorem ok_31 (T : Tx P w K mg base cl) (TD : TxD P w K mg base cl d) {f : Addr} {cdv : Value} {A : Around} {outer : List PySem.Env} {s : Shared} {H : Hp} {E : XK} {He : Hp} (hr : Room (d + 2) (A.deeper (envOfC "_law_cross" (defScope (topS 45)) s.heap.objs.size f cdv))) :
    PVs (cxOf (L2.CX P w) P w K mg base ["front", "rear", "ship", "look"] "_law_cross" (defScope (topS 45)) f cdv A outer s H E) cl (fun c d _ H => E c d H) He H (defBody (topS 45)) (b__law_cross (FT d)) := by
  have tk : Takes (cxOf (L2.CX P w) P w K mg base ["front", "rear", "ship", "look"] "_law_cross" (defScope (topS 45)) f cdv A outer s H E) (fun c d _ H => E c d H) := takes_of rfl rfl rfl rfl
  exact vs_cons (vs_set sc_31.nd (ve_tup (va_cons (ve_bin op_sub ov_sub (ve_ix (ve_var 1) (ve_int)) (ve_ix (ve_var 0) (ve_int))) (va_cons (ve_bin op_sub ov_sub (ve_ix (ve_var 1) (ve_int)) (ve_ix (ve_var 0) (ve_int))) (va_nil))))) (vs_one (vs_ret (vc (TD.d__law_turn_of) hr tk (va_cons (ve_var 3) (va_cons (ve_tup (va_cons (ve_bin op_sub ov_sub (ve_ix (ve_var 2) (ve_int)) (ve_ix (ve_var 0) (ve_int))) (va_cons (ve_bin op_sub ov_sub (ve_ix (ve_var 2) (ve_int)) (ve_ix (ve_var 0) (ve_int))) (va_nil)))) (va_nil))))))
theorem ok_32 (T : Tx P w K mg base cl) (TD : TxD P w K mg base cl d) {f : Addr} {cdv : Value} {A : Around} {outer : List PySem.Env} {s : Shared} {H : Hp} {E : XK} {He : Hp} (hr : Room (d + 2) (A.deeper (envOfC "_law_rocks" (defScope (topS 46)) s.heap.objs.size f cdv))) :
    PVs (cxOf (L2.CX P w) P w K mg base ["front", "rear", "script", "rocks", "sides", "left", "right", "word", "k", "rock", "side"] "_law_rocks" (defScope (topS 46)) f cdv A outer s H E) cl (fun c d _ H => E c d H) He H (defBody (topS 46)) (b__law_rocks (FT d)) := by
  have tk : Takes (cxOf (L2.CX P w) P w K mg base ["front", "rear", "script", "rocks", "sides", "left", "right", "word", "k", "rock", "side"] "_law_rocks" (defScope (topS 46)) f cdv A outer s H E) (fun c d _ H => E c d H) := takes_of rfl rfl rfl rfl
  exact vs_cons (vs_setLc (own := [(("k" : Str), 8)]) rfl sc_32.nd (vi_r1 (ve_bin op_mod ov_mod (ve_callTy call_int1 cv_int T.z_int boot_int (va_cons (vc (TD.d__law_cell) hr tk (va_cons (ve_var 2) (va_cons (ve_int) (va_nil)))) (va_nil))) (ve_int)) T.z_range) wkA_of (blk_of (by rfl)) (tg_name 8) (mem_tn rfl) (fun _ _ _ _ _ => pg_name (i := 8) sc_32.nd rfl (by first | exact Or.inl rfl | exact Or.inr rfl)) (fun _ _ _ _ _ => vts_nil) (fun _ _ _ _ _ => vc (TD.d__law_ship) hr takes_none5 (va_cons (ve_bin or_add ov_add (ve_callB call_abs cv_abs T.z_abs boot_abs (va_cons (vc (TD.d__law_cell) hr takes_none5 (va_cons (ve_var 2) (va_cons (ve_int) (va_nil)))) (va_nil))) (ve_bin or_mul ov_mul (ve_int) (ve_var 8))) (va_cons (ve_int) (va_nil))))) (vs_cons (vs_setLc (own := [(("rock" : Str), 9)]) rfl sc_32.nd (vi_seq (ve_var 3)) wk_of (blk_of (by rfl)) (tg_name 9) (mem_tn rfl) (fun _ _ _ _ _ => pg_name (i := 9) sc_32.nd rfl (by first | exact Or.inl rfl | exact Or.inr rfl)) (fun _ _ _ _ _ => vts_nil) (fun _ _ _ _ _ => vc (TD.d__law_cross) hr takes_none5 (va_cons (ve_var 0) (va_cons (ve_var 1) (va_cons (ve_var 9) (va_nil)))))) (vs_cons (vs_set sc_32.nd (ve_cmp (or_eq (room64 hr)) ov_eq (ve_callB call_len cv_len T.z_len boot_len (va_cons (ve_ofO (vo_lc (own := [(("side" : Str), 10)]) rfl sc_32.nd (vi_seq (ve_var 4)) wk_of (blk_of (by rfl)) (tg_name 10) (mem_tn rfl) (fun _ _ _ _ _ => pg_name (i := 10) sc_32.nd rfl (by first | exact Or.inl rfl | exact Or.inr rfl)) (fun _ _ _ _ _ => vts_one (vt_cmp op_gt ov_gt (ve_var 10) (ve_int))) (fun _ _ _ _ _ => ve_var 10))) (va_nil))) (ve_int))) (vs_cons (vs_set sc_32.nd (ve_cmp (or_eq (room64 hr)) ov_eq (ve_callB call_len cv_len T.z_len boot_len (va_cons (ve_ofO (vo_lc (own := [(("side" : Str), 10)]) rfl sc_32.nd (vi_seq (ve_var 4)) wk_of (blk_of (by rfl)) (tg_name 10) (mem_tn rfl) (fun _ _ _ _ _ => pg_name (i := 10) sc_32.nd rfl (by first | exact Or.inl rfl | exact Or.inr rfl)) (fun _ _ _ _ _ => vts_one (vt_cmp (or_lt (room0 hr)) ov_lt (ve_var 10) (ve_int))) (fun _ _ _ _ _ => ve_var 10))) (va_nil))) (ve_int))) (vs_cons (vs_set sc_32.nd (ve_str)) (vs_cons (vs_if (vt_cmp (or_nin (room65 hr)) ov_nin (ve_int) (ve_var 4)) (vs_one (vs_if (PW.pt (vw_and (vt_tru (ve_var 5)) (vw_and1 (vt_tru (ve_var 6))))) (vs_one (vs_set sc_32.nd (ve_str))) (vs_one (vs_if (vt_tru (ve_var 5)) (vs_one (vs_set sc_32.nd (ve_str))) (vs_one (vs_if (vt_tru (ve_var 6)) (vs_one (vs_set sc_32.nd (ve_str))) (vs_nil))))))) (vs_nil)) (vs_one (vs_ret (ve_cmp (or_eq (room64 hr)) ov_eq (vc (TD.d__law_told) hr tk (va_cons (ve_int) (va_cons (ve_var 0) (va_cons (ve_var 1) (va_cons (ve_callTy call_list_of cv_list T.z_list boot_list (va_cons (ve_var 3) (va_nil))) (va_cons (ve_int) (va_nil))))))) (ve_tup (va_cons (ve_str) (va_cons (ve_var 7) (va_nil))))))))))))
theorem ok_33 (T : Tx P w K mg base cl) (TD : TxD P w K mg base cl d) {f : Addr} {cdv : Value} {A : Around} {outer : List PySem.Env} {s : Shared} {H : Hp} {E : XK} {He : Hp} (hr : Room (d + 2) (A.deeper (envOfC "law" (defScope (topS 47)) s.heap.objs.size f cdv))) :
    PVs (cxOf (L2.CX P w) P w K mg base ["script", "front", "rear", "look", "ship", "k", "cross_v", "both", "due", "beyond", "off", "told", "word", "course", "begin", "speed", "speeds", "vx", "speed_of", "vy"] "law" (defScope (topS 47)) f cdv A outer s H E) cl (fun c d _ H => E c d H) He H (defBody (topS 47)) (b_law_v15 (FT d)) := by
  have tk : Takes (cxOf (L2.CX P w) P w K mg base ["script", "front", "rear", "look", "ship", "k", "cross_v", "both", "due", "beyond", "off", "told", "word", "course", "begin", "speed", "speeds", "vx", "speed_of", "vy"] "law" (defScope (topS 47)) f cdv A outer s H E) (fun c d _ H => E c d H) := takes_of rfl rfl rfl rfl
  have hp := passes_of (X := cxOf (L2.CX P w) P w K mg base ["script", "front", "rear", "look", "ship", "k", "cross_v", "both", "due", "beyond", "off", "told", "word", "course", "begin", "speed", "speeds", "vx", "speed_of", "vy"] "law" (defScope (topS 47)) f cdv A outer s H E) rfl
  exact vs_cons (vs_set sc_33.nd (vc (TD.d__law_ship) hr tk (va_cons (ve_callB call_abs cv_abs T.z_abs boot_abs (va_cons (vc (TD.d__law_cell) hr tk (va_cons (ve_var 0) (va_cons (ve_int) (va_nil)))) (va_nil))) (va_cons (ve_int) (va_nil))))) (vs_cons (vs_set sc_33.nd (vc (TD.d__law_ship) hr tk (va_cons (ve_callB call_abs cv_abs T.z_abs boot_abs (va_cons (vc (TD.d__law_cell) hr tk (va_cons (ve_var 0) (va_cons (ve_int) (va_nil)))) (va_nil))) (va_cons (ve_int) (va_nil))))) (vs_cons (vs_if (vt_cmp (or_eq (room64 hr)) ov_eq (ve_var 1) (ve_var 2)) (vs_one (vs_set sc_33.nd (ve_tup (va_cons (ve_bin or_add ov_add (ve_ix (ve_var 1) (ve_int)) (ve_int)) (va_cons (ve_bin or_add ov_add (ve_ix (ve_var 1) (ve_int)) (ve_int)) (va_nil)))))) (vs_nil)) (vs_cons (vs_set sc_33.nd (ve_tup (va_cons (ve_bin op_sub ov_sub (ve_ix (ve_var 2) (ve_int)) (ve_ix (ve_var 1) (ve_int))) (va_cons (ve_bin op_sub ov_sub (ve_ix (ve_var 2) (ve_int)) (ve_ix (ve_var 1) (ve_int))) (va_nil))))) (vs_cons (vs_set sc_33.nd (vc (TD.d__law_ship) hr tk (va_cons (ve_callB call_abs cv_abs T.z_abs boot_abs (va_cons (vc (TD.d__law_cell) hr tk (va_cons (ve_var 0) (va_cons (ve_int) (va_nil)))) (va_nil))) (va_cons (ve_int) (va_nil))))) (vs_cons (vs_if (vt_cmp (or_eq (room64 hr)) ov_eq (ve_bin op_mod ov_mod (ve_callTy call_int1 cv_int T.z_int boot_int (va_cons (vc (TD.d__law_cell) hr tk (va_cons (ve_var 0) (va_cons (ve_int) (va_nil)))) (va_nil))) (ve_int)) (ve_int)) (vs_cons (vs_set sc_33.nd (ve_bin op_sub ov_sub (ve_bin op_mod ov_mod (ve_bin op_fdivS ov_div (ve_callTy call_int1 cv_int T.z_int boot_int (va_cons (vc (TD.d__law_cell) hr tk (va_cons (ve_var 0) (va_cons (ve_int) (va_nil)))) (va_nil))) (ve_int)) (ve_int)) (ve_int))) (vs_one (vs_set sc_33.nd (ve_tup (va_cons (ve_bin op_sub ov_sub (ve_ix (ve_var 1) (ve_int)) (ve_bin or_mul ov_mul (ve_var 5) (ve_ix (ve_var 3) (ve_int)))) (va_cons (ve_bin op_sub ov_sub (ve_ix (ve_var 1) (ve_int)) (ve_bin or_mul ov_mul (ve_var 5) (ve_ix (ve_var 3) (ve_int)))) (va_nil))))))) (vs_nil)) (vs_cons (vs_set sc_33.nd (vc (TD.d__law_cross) hr tk (va_cons (ve_var 1) (va_cons (ve_var 2) (va_cons (ve_var 4) (va_nil)))))) (vs_cons (vs_set sc_33.nd (ve_bin or_add ov_add (ve_bin or_mul ov_mul (ve_ix (ve_var 3) (ve_int)) (ve_ix (ve_var 3) (ve_int))) (ve_bin or_mul ov_mul (ve_ix (ve_var 3) (ve_int)) (ve_ix (ve_var 3) (ve_int))))) (vs_cons (vs_set sc_33.nd (ve_tup (va_cons (ve_str) (va_cons (ve_tup (va_cons (ve_int) (va_cons (ve_int) (va_nil)))) (va_nil))))) (vs_cons (vs_if (vt_cmp (or_ne (room64 hr)) ov_ne (ve_var 6) (ve_int)) (vs_one (vs_set sc_33.nd (ve_tup (va_cons (ve_ix (ve_lst (va_cons (ve_str) (va_cons (ve_str) (va_nil)))) (ve_callTy call_int1 cv_int T.z_int boot_int (va_cons (ve_cmp op_gt ov_gt (ve_var 6) (ve_int)) (va_nil)))) (va_cons (vc (TD.d__law_lowest) hr tk (va_cons (ve_bin or_mul ov_mul (ve_var 6) (ve_var 6)) (va_cons (ve_var 7) (va_nil)))) (va_nil)))))) (vs_nil)) (vs_cons (vs_set sc_33.nd (ve_cmp (or_lt (room0 hr)) ov_lt (ve_bin or_add ov_add (ve_bin or_mul ov_mul (ve_bin op_sub ov_sub (ve_ix (ve_var 4) (ve_int)) (ve_ix (ve_var 1) (ve_int))) (ve_ix (ve_var 3) (ve_int))) (ve_bin or_mul ov_mul (ve_bin op_sub ov_sub (ve_ix (ve_var 4) (ve_int)) (ve_ix (ve_var 1) (ve_int))) (ve_ix (ve_var 3) (ve_int)))) (ve_int))) (vs_cons (vs_set sc_33.nd (vc (TD.d__law_told) hr tk (va_cons (ve_int) (va_cons (ve_var 1) (va_cons (ve_var 2) (va_cons (ve_var 4) (va_cons (ve_int) (va_nil)))))))) (vs_cons (vs_if (PW.pt (vw_or (vt_cmp (or_ne (room64 hr)) ov_ne (ve_ix (ve_var 10) (ve_int)) (ve_str)) (vw_or (vt_cmp (or_ne (room64 hr)) ov_ne (ve_ix (ve_ix (ve_var 10) (ve_int)) (ve_int)) (ve_ix (ve_var 8) (ve_int))) (vw_or1 (PW.pt (vw_and (PW.pt (vw_or (vt_tru (ve_var 9)) (vw_or1 (vt_cmp (or_eq (room64 hr)) ov_eq (ve_var 6) (ve_int))))) (vw_and1 (vt_cmp (or_ne (room64 hr)) ov_ne (ve_var 10) (ve_tup (va_cons (ve_str) (va_cons (ve_var 8) (va_nil)))))))))))) (vs_one (vs_ret (ve_bl))) (vs_nil)) (vs_cons (vs_set sc_33.nd (vc (TD.d__law_told) hr tk (va_cons (ve_int) (va_cons (ve_var 1) (va_cons (ve_var 2) (va_cons (ve_var 4) (va_cons (ve_int) (va_nil)))))))) (vs_cons (vs_if (PW.pt (vw_or (vt_cmp (or_ne (room64 hr)) ov_ne (ve_var 11) (ve_tup (va_cons (ve_str) (va_cons (ve_var 9) (va_nil))))) (vw_or1 (vt_not (vt_tru (ve_callB call_isi cv_isa T.z_isinstance boot_isinstance (va_cons (ve_ix (ve_var 11) (ve_int)) (va_cons ((ve_ty T.z_bool boot_bool)) (va_nil))))))))) (vs_one (vs_ret (ve_bl))) (vs_nil)) (vs_cons (vs_if (vt_tru (ve_var 9)) (vs_cons (vs_set sc_33.nd (ve_str)) (vs_cons (vs_if (vt_cmp op_gt ov_gt (ve_var 6) (ve_int)) (vs_one (vs_set sc_33.nd (ve_str))) (vs_nil)) (vs_cons (vs_if (vt_cmp (or_lt (room0 hr)) ov_lt (ve_var 6) (ve_int)) (vs_one (vs_set sc_33.nd (ve_str))) (vs_nil)) (vs_one (vs_if (vt_cmp (or_ne (room64 hr)) ov_ne (vc (TD.d__law_told) hr tk (va_cons (ve_int) (va_cons (ve_var 1) (va_cons (ve_var 2) (va_cons (ve_var 4) (va_cons (ve_int) (va_nil))))))) (ve_tup (va_cons (ve_str) (va_cons (ve_var 12) (va_nil))))) (vs_one (vs_ret (ve_bl))) (vs_nil)))))) (vs_nil)) (vs_cons (vs_set sc_33.nd (vc (TD.d__law_course) hr tk (va_cons (ve_callB call_abs cv_abs T.z_abs boot_abs (va_cons (vc (TD.d__law_cell) hr tk (va_cons (ve_var 0) (va_cons (ve_int) (va_nil)))) (va_nil))) (va_cons (ve_int) (va_cons (ve_int) (va_nil)))))) (vs_cons (vs_set sc_33.nd (vc (TD.d__law_cross) hr tk (va_cons (ve_var 1) (va_cons (ve_var 2) (va_cons (ve_slice (ve_var 13) (vo_none) (vo_some (ve_int))) (va_nil)))))) (vs_cons (vs_set sc_33.nd (vc (TD.d__law_turn_of) hr tk (va_cons (ve_var 3) (va_cons (ve_slice (ve_var 13) (vo_some (ve_int)) (vo_none)) (va_nil))))) (vs_cons (vs_set sc_33.nd (ve_non)) (vs_cons (vs_if (PW.pt (vw_and (vt_cmp (or_eq (room64 hr)) ov_eq (ve_var 14) (ve_int)) (vw_and1 (vt_cmp (or_eq (room64 hr)) ov_eq (ve_var 15) (ve_int))))) (vs_one (vs_set sc_33.nd (ve_tup (va_cons (ve_int) (va_cons (ve_int) (va_nil)))))) (vs_one (vs_if (PW.pt (vw_and (vt_cmp (or_ne (room64 hr)) ov_ne (ve_var 15) (ve_int)) (vw_and1 (vt_cmp op_ge ov_ge (ve_bin or_mul ov_mul (ve_neg (ve_var 14)) (ve_var 15)) (ve_int))))) (vs_one (vs_set sc_33.nd (vc (TD.d__law_lowest) hr tk (va_cons (ve_neg (ve_var 14)) (va_cons (ve_var 15) (va_nil)))))) (vs_nil)))) (vs_cons (vs_if (vt_cmp (or_ne (room64 hr)) ov_ne (vc (TD.d__law_told) hr tk (va_cons (ve_int) (va_cons (ve_var 13) (va_cons (ve_var 1) (va_cons (ve_var 2) (va_cons (ve_int) (va_nil))))))) (ve_tup (va_cons (ve_str) (va_cons (ve_var 8) (va_nil))))) (vs_one (vs_ret (ve_bl))) (vs_nil)) (vs_cons (vs_if (PW.pt (vw_and (vt_cmp (or_eq (room64 hr)) ov_eq (ve_var 6) (ve_int)) (vw_and1 (vt_tru (ve_var 9))))) (vs_cons (vs_set sc_33.nd (ve_lst (va_nil))) (vs_cons (vs_for hp rfl bears_wkA wkA_of (vi_r2 (ve_neg (ve_int)) (ve_int) T.z_range) (pg_name (i := 17) sc_33.nd rfl (by first | exact Or.inl rfl | exact Or.inr rfl)) (tg_name 17) (vs_one (vs_set sc_33.nd (ve_bin or_add ov_add (ve_var 16) (ve_ofO (vo_lc (own := [(("vy" : Str), 19)]) rfl sc_33.nd (vi_r2 (ve_neg (ve_int)) (ve_int) T.z_range) wkA_of (blk_of (by rfl)) (tg_name 19) (mem_tn rfl) (fun _ _ _ _ _ => pg_name (i := 19) sc_33.nd rfl (by first | exact Or.inl rfl | exact Or.inr rfl)) (fun _ _ _ _ _ => vts_one (PW.pt (vw_and (vt_cmp (or_eq (room64 hr)) ov_eq (vc (TD.d__law_turn_of) hr takes_none5 (va_cons (ve_var 3) (va_cons (ve_tup (va_cons (ve_var 17) (va_cons (ve_var 19) (va_nil)))) (va_nil)))) (ve_int)) (vw_and1 (vt_cmp op_gt ov_gt (ve_bin or_add ov_add (ve_bin or_mul ov_mul (ve_var 17) (ve_ix (ve_var 3) (ve_int))) (ve_bin or_mul ov_mul (ve_var 19) (ve_ix (ve_var 3) (ve_int)))) (ve_int)))))) (fun _ _ _ _ _ => ve_tup (va_cons (ve_var 17) (va_cons (ve_var 19) (va_nil)))))))))) (vs_cons (vs_if (vt_cmp (or_ne (room64 hr)) ov_ne (vc (TD.d__law_told) hr tk (va_cons (ve_int) (va_cons (ve_var 1) (va_cons (ve_var 2) (va_cons (ve_var 4) (va_cons (ve_int) (va_nil))))))) (ve_tup (va_cons (ve_str) (va_cons (ve_var 16) (va_nil))))) (vs_one (vs_ret (ve_bl))) (vs_nil)) (vs_cons (vs_if (vt_cmp (or_ne (room64 hr)) ov_ne (vc (TD.d__law_told) hr tk (va_cons (ve_int) (va_cons (ve_tup (va_cons (ve_ix (ve_var 4) (ve_int)) (va_cons (ve_ix (ve_var 4) (ve_int)) (va_cons (ve_ix (ve_var 3) (ve_int)) (va_cons (ve_neg (ve_ix (ve_var 3) (ve_int))) (va_nil)))))) (va_cons (ve_var 1) (va_cons (ve_var 2) (va_cons (ve_int) (va_nil))))))) (ve_tup (va_cons (ve_str) (va_cons (ve_bl) (va_nil))))) (vs_one (vs_ret (ve_bl))) (vs_nil)) (vs_one (vs_for hp rfl bears_wk wk_of (vi_seq (ve_slice (ve_var 16) (vo_none) (vo_some (ve_int)))) (pg_name (i := 18) sc_33.nd rfl (by first | exact Or.inl rfl | exact Or.inr rfl)) (tg_name 18) (vs_one (vs_if (vt_cmp (or_ne (room64 hr)) ov_ne (vc (TD.d__law_told) hr tk (va_cons (ve_int) (va_cons (ve_tup (va_cons (ve_ix (ve_var 4) (ve_int)) (va_cons (ve_ix (ve_var 4) (ve_int)) (va_cons (ve_ix (ve_var 18) (ve_int)) (va_cons (ve_ix (ve_var 18) (ve_int)) (va_nil)))))) (va_cons (ve_var 1) (va_cons (ve_var 2) (va_cons (ve_int) (va_nil))))))) (ve_tup (va_cons (ve_str) (va_cons (ve_bl) (va_nil))))) (vs_one (vs_ret (ve_bl))) (vs_nil))))))))) (vs_nil)) (vs_cons (vs_if (PW.pt (vw_and (vt_cmp (or_ne (room64 hr)) ov_ne (ve_var 6) (ve_int)) (vw_and1 (vt_cmp (or_ne (room64 hr)) ov_ne (vc (TD.d__law_told) hr tk (va_cons (ve_int) (va_cons (ve_tup (va_cons (ve_ix (ve_var 4) (ve_int)) (va_cons (ve_ix (ve_var 4) (ve_int)) (va_cons (ve_int) (va_cons (ve_int) (va_nil)))))) (va_cons (ve_var 1) (va_cons (ve_var 2) (va_cons (ve_int) (va_nil))))))) (ve_tup (va_cons (ve_str) (va_cons (ve_bl) (va_nil)))))))) (vs_one (vs_ret (ve_bl))) (vs_nil)) (vs_cons (vs_if (vt_not (vt_tru (vc (TD.d__law_rocks) hr tk (va_cons (ve_var 1) (va_cons (ve_var 2) (va_cons (ve_var 0) (va_nil))))))) (vs_one (vs_ret (ve_bl))) (vs_nil)) (vs_cons (vs_if (PW.pt (vw_or (vt_cmp (or_ne (room64 hr)) ov_ne (vc (TD.d__law_told) hr tk (va_cons (ve_int) (va_cons (ve_var 1) (va_cons (ve_var 1) (va_cons (ve_var 4) (va_cons (ve_int) (va_nil))))))) (ve_tup (va_cons (ve_str) (va_cons (ve_int) (va_nil))))) (vw_or (vt_cmp (or_ne (room64 hr)) ov_ne (vc (TD.d__law_told) hr tk (va_cons (ve_int) (va_cons (ve_tup (va_cons (ve_int) (va_cons (ve_int) (va_nil)))) (va_cons (ve_var 2) (va_cons (ve_var 4) (va_cons (ve_int) (va_nil))))))) (ve_tup (va_cons (ve_str) (va_cons (ve_int) (va_nil))))) (vw_or1 (vt_cmp (or_ne (room64 hr)) ov_ne (vc (TD.d__law_told) hr tk (va_cons (ve_int) (va_cons (ve_tup (va_cons (ve_int) (va_cons (ve_int) (va_cons (ve_int) (va_cons (ve_int) (va_nil)))))) (va_cons (ve_var 1) (va_cons (ve_var 2) (va_cons (ve_int) (va_nil))))))) (ve_tup (va_cons (ve_str) (va_cons (ve_int) (va_nil))))))))) (vs_one (vs_ret (ve_bl))) (vs_nil)) (vs_one (vs_ret (ve_and (ve_cmp (or_eq (room64 hr)) ov_eq (vc (TD.d__law_told) hr tk (va_cons (ve_int) (va_cons (ve_var 1) (va_cons (ve_var 1) (va_cons (ve_lst (va_nil)) (va_cons (ve_int) (va_nil))))))) (ve_tup (va_cons (ve_str) (va_cons (ve_int) (va_nil))))) (ve_one (ve_or (ve_cmp (or_ne (room64 hr)) ov_ne (ve_var 6) (ve_int)) (ve_one (ve_cmp (or_eq (room64 hr)) ov_eq (vc (TD.d__law_told) hr tk (va_cons (ve_int) (va_cons (ve_var 1) (va_cons (ve_var 2) (va_cons (ve_var 4) (va_cons (ve_int) (va_nil))))))) (ve_tup (va_cons (ve_str) (va_cons (ve_int) (va_nil))))))))))))))))))))))))))))))))))))
theorem all_ok (T : Tx P w K mg base cl) (X : Txt K mg) : ∀ d, TxD P w K mg base cl d := by
  intro d
  induction d with
  | zero => exact ⟨nun X.g_check_between bd_0, nun X.g_gcd_of bd_1, nun X.g_lowest bd_2, nun X.g_check_place bd_3, nun X.g_cross bd_4, nun X.g_dot bd_5, nun X.g_way_between bd_6, nun X.g_is_course bd_7, nun X.g_check_course bd_8, nun X.g_place_by bd_9, nun X.g_check_line bd_10, nun X.g_line_way bd_11, nun X.g_side_of bd_12, nun X.g_word_of bd_13, nun X.g_off_by bd_14, nun X.g_check_ship bd_15, nun X.g_off_line bd_16, nun X.g_opens bd_17, nun X.g_is_ahead bd_18, nun X.g_ahead_of bd_19, nun X.g_crosses_line bd_20, nun X.g_keeps_line bd_21, nun X.g_speeds_on bd_22, nun X.g_safe_side bd_23, nun X.g__law_cell bd_24, nun X.g__law_draw bd_25, nun X.g__law_turn_of bd_26, nun X.g__law_ship bd_27, nun X.g__law_course bd_28, nun X.g__law_lowest bd_29, nun X.g__law_told bd_30, nun X.g__law_cross bd_31, nun X.g__law_rocks bd_32, nun X.g_law bd_33⟩
  | succ d ih => exact ⟨dun X.g_check_between sc_0 bd_0 fun _ _ _ _ _ _ _ _ hr => ok_0 T ih hr, dun X.g_gcd_of sc_1 bd_1 fun _ _ _ _ _ _ _ _ hr => ok_1 T ih hr, dun X.g_lowest sc_2 bd_2 fun _ _ _ _ _ _ _ _ hr => ok_2 T ih hr, dun X.g_check_place sc_3 bd_3 fun _ _ _ _ _ _ _ _ hr => ok_3 T ih hr, dun X.g_cross sc_4 bd_4 fun _ _ _ _ _ _ _ _ hr => ok_4 T ih hr, dun X.g_dot sc_5 bd_5 fun _ _ _ _ _ _ _ _ hr => ok_5 T ih hr, dun X.g_way_between sc_6 bd_6 fun _ _ _ _ _ _ _ _ hr => ok_6 T ih hr, dun X.g_is_course sc_7 bd_7 fun _ _ _ _ _ _ _ _ hr => ok_7 T ih hr, dun X.g_check_course sc_8 bd_8 fun _ _ _ _ _ _ _ _ hr => ok_8 T ih hr, dun X.g_place_by sc_9 bd_9 fun _ _ _ _ _ _ _ _ hr => ok_9 T ih hr, dun X.g_check_line sc_10 bd_10 fun _ _ _ _ _ _ _ _ hr => ok_10 T ih hr, dun X.g_line_way sc_11 bd_11 fun _ _ _ _ _ _ _ _ hr => ok_11 T ih hr, dun X.g_side_of sc_12 bd_12 fun _ _ _ _ _ _ _ _ hr => ok_12 T ih hr, dun X.g_word_of sc_13 bd_13 fun _ _ _ _ _ _ _ _ hr => ok_13 T ih hr, dun X.g_off_by sc_14 bd_14 fun _ _ _ _ _ _ _ _ hr => ok_14 T ih hr, dun X.g_check_ship sc_15 bd_15 fun _ _ _ _ _ _ _ _ hr => ok_15 T ih hr, dun X.g_off_line sc_16 bd_16 fun _ _ _ _ _ _ _ _ hr => ok_16 T ih hr, dun X.g_opens sc_17 bd_17 fun _ _ _ _ _ _ _ _ hr => ok_17 T ih hr, dun X.g_is_ahead sc_18 bd_18 fun _ _ _ _ _ _ _ _ hr => ok_18 T ih hr, dun X.g_ahead_of sc_19 bd_19 fun _ _ _ _ _ _ _ _ hr => ok_19 T ih hr, dun X.g_crosses_line sc_20 bd_20 fun _ _ _ _ _ _ _ _ hr => ok_20 T ih hr, dun X.g_keeps_line sc_21 bd_21 fun _ _ _ _ _ _ _ _ hr => ok_21 T ih hr, dun X.g_speeds_on sc_22 bd_22 fun _ _ _ _ _ _ _ _ hr => ok_22 T ih hr, dun X.g_safe_side sc_23 bd_23 fun _ _ _ _ _ _ _ _ hr => ok_23 T ih hr, dun X.g__law_cell sc_24 bd_24 fun _ _ _ _ _ _ _ _ hr => ok_24 T ih hr, dun X.g__law_draw sc_25 bd_25 fun _ _ _ _ _ _ _ _ hr => ok_25 T ih hr, dun X.g__law_turn_of sc_26 bd_26 fun _ _ _ _ _ _ _ _ hr => ok_26 T ih hr, dun X.g__law_ship sc_27 bd_27 fun _ _ _ _ _ _ _ _ hr => ok_27 T ih hr, dun X.g__law_course sc_28 bd_28 fun _ _ _ _ _ _ _ _ hr => ok_28 T ih hr, dun X.g__law_lowest sc_29 bd_29 fun _ _ _ _ _ _ _ _ hr => ok_29 T ih hr, dun X.g__law_told sc_30 bd_30 fun _ _ _ _ _ _ _ _ hr => ok_30 T ih hr, dun X.g__law_cross sc_31 bd_31 fun _ _ _ _ _ _ _ _ hr => ok_31 T ih hr, dun X.g__law_rocks sc_32 bd_32 fun _ _ _ _ _ _ _ _ hr => ok_32 T ih hr, dun X.g_law sc_33 bd_33 fun _ _ _ _ _ _ _ _ hr => ok_33 T ih hr⟩
end
def sI_OutOfRange : Stmt := inClass (topS 2) 0
theorem scI_OutOfRange : ExScope ["self", "value"] (defScope sI_OutOfRange) := exSc_of (by decide +kernel) (by rfl)
theorem ini_OutOfRange {w : World} {K : PySem.W.Frag} {mg : Str → Option Value} {base : Heap} {C fI cc cda : Addr} (T : ExC K PySem.Challenge.pw_lightbook_k23_leading_lines C fI cc cda "OutOfRange.__init__" sI_OutOfRange) (hmg : mg "super" = none) (n_label : PySem.W.findIn K (.ref C) "label" = some none) (n_value : PySem.W.findIn K (.ref C) "value" = some none)
    {fd : FuncData} {oc : Value} {od : Option Addr} {osl : Array (Option Value)} (lk : K.lookup fI = some ⟨oc, od, .func fd, osl⟩) : FnOk PySem.Challenge.pw_lightbook_k23_leading_lines w K mg base (L2.CX PySem.Challenge.pw_lightbook_k23_leading_lines w) 1 fI fd ["self", "value"] (spI C 1 sp_OutOfRange) :=
  init_ok (k := 0) T scI_OutOfRange rfl rfl rfl rfl hmg rfl (fun _ => rfl) (fun _ => ⟨_, rfl⟩) (fun _ => rfl) (fun p hp => by
    simp only [sp_OutOfRange, List.mem_cons, List.not_mem_nil, or_false] at hp
    rcases hp with rfl | rfl
    · exact n_label
    · exact n_value) (by decide) (fun X hN hS => ⟨_, pe_str, fun _ _ _ _ => rfl⟩) (fun X hN hS => pss_cons (ps_ost (pe_var (i := 0) (by rw [hN]; rfl) (by rw [hS]; exact .inl rfl) (by decide) (by decide)) (pe_str)) (pss_cons (ps_ost (pe_var (i := 0) (by rw [hN]; rfl) (by rw [hS]; exact .inl rfl) (by decide) (by decide)) (pe_var (i := 1) (by rw [hN]; rfl) (by rw [hS]; exact .inl rfl) (by decide) (by decide))) (pss_nil))) lk
def sI_BadCourse : Stmt := inClass (topS 3) 0
theorem scI_BadCourse : ExScope ["self"] (defScope sI_BadCourse) := exSc_of (by decide +kernel) (by rfl)
theorem ini_BadCourse {w : World} {K : PySem.W.Frag} {mg : Str → Option Value} {base : Heap} {C fI cc cda : Addr} (T : ExC K PySem.Challenge.pw_lightbook_k23_leading_lines C fI cc cda "BadCourse.__init__" sI_BadCourse) (hmg : mg "super" = none) (n_label : PySem.W.findIn K (.ref C) "label" = some none)
    {fd : FuncData} {oc : Value} {od : Option Addr} {osl : Array (Option Value)} (lk : K.lookup fI = some ⟨oc, od, .func fd, osl⟩) : FnOk PySem.Challenge.pw_lightbook_k23_leading_lines w K mg base (L2.CX PySem.Challenge.pw_lightbook_k23_leading_lines w) 1 fI fd ["self"] (spI C 0 sp_BadCourse) :=
  init_ok (k := 0) T scI_BadCourse rfl rfl rfl rfl hmg rfl (fun _ => rfl) (fun _ => ⟨_, rfl⟩) (fun _ => rfl) (fun p hp => by
    simp only [sp_BadCourse, List.mem_cons, List.not_mem_nil, or_false] at hp
    subst hp
    exact n_label) (by decide) (fun X hN hS => ⟨_, pe_str, fun _ _ _ _ => rfl⟩) (fun X hN hS => pss_cons (ps_ost (pe_var (i := 0) (by rw [hN]; rfl) (by rw [hS]; exact .inl rfl) (by decide) (by decide)) (pe_str)) (pss_nil)) lk
def sI_SamePlace : Stmt := inClass (topS 4) 0
theorem scI_SamePlace : ExScope ["self"] (defScope sI_SamePlace) := exSc_of (by decide +kernel) (by rfl)
theorem ini_SamePlace {w : World} {K : PySem.W.Frag} {mg : Str → Option Value} {base : Heap} {C fI cc cda : Addr} (T : ExC K PySem.Challenge.pw_lightbook_k23_leading_lines C fI cc cda "SamePlace.__init__" sI_SamePlace) (hmg : mg "super" = none) (n_label : PySem.W.findIn K (.ref C) "label" = some none)
    {fd : FuncData} {oc : Value} {od : Option Addr} {osl : Array (Option Value)} (lk : K.lookup fI = some ⟨oc, od, .func fd, osl⟩) : FnOk PySem.Challenge.pw_lightbook_k23_leading_lines w K mg base (L2.CX PySem.Challenge.pw_lightbook_k23_leading_lines w) 1 fI fd ["self"] (spI C 0 sp_SamePlace) :=
  init_ok (k := 0) T scI_SamePlace rfl rfl rfl rfl hmg rfl (fun _ => rfl) (fun _ => ⟨_, rfl⟩) (fun _ => rfl) (fun p hp => by
    simp only [sp_SamePlace, List.mem_cons, List.not_mem_nil, or_false] at hp
    subst hp
    exact n_label) (by decide) (fun X hN hS => ⟨_, pe_str, fun _ _ _ _ => rfl⟩) (fun X hN hS => pss_cons (ps_ost (pe_var (i := 0) (by rw [hN]; rfl) (by rw [hS]; exact .inl rfl) (by decide) (by decide)) (pe_str)) (pss_nil)) lk
theorem all_mk {w : World} {K : PySem.W.Frag} {h : Heap} {mg : Str → Option Value} {fa C_OutOfRange f_OutOfRange cc_OutOfRange cda_OutOfRange C_BadCourse f_BadCourse cc_BadCourse cda_BadCourse C_SamePlace f_SamePlace cc_SamePlace cda_SamePlace C_LightError : Addr} (X : K.In h) (G : h.Ns mainGlobals mg) (hfa : mg "law" = some (.ref fa))
    (a_OutOfRange : PySem.W.nsIn K mainGlobals "OutOfRange" = some (some (.ref C_OutOfRange)))
    (T_OutOfRange : ExC K PySem.Challenge.pw_lightbook_k23_leading_lines C_OutOfRange f_OutOfRange cc_OutOfRange cda_OutOfRange "OutOfRange.__init__" sI_OutOfRange)
    (n_OutOfRange_label : PySem.W.findIn K (.ref C_OutOfRange) "label" = some none)
    (n_OutOfRange_value : PySem.W.findIn K (.ref C_OutOfRange) "value" = some none)
    (a_BadCourse : PySem.W.nsIn K mainGlobals "BadCourse" = some (some (.ref C_BadCourse)))
    (T_BadCourse : ExC K PySem.Challenge.pw_lightbook_k23_leading_lines C_BadCourse f_BadCourse cc_BadCourse cda_BadCourse "BadCourse.__init__" sI_BadCourse)
    (n_BadCourse_label : PySem.W.findIn K (.ref C_BadCourse) "label" = some none)
    (a_SamePlace : PySem.W.nsIn K mainGlobals "SamePlace" = some (some (.ref C_SamePlace)))
    (T_SamePlace : ExC K PySem.Challenge.pw_lightbook_k23_leading_lines C_SamePlace f_SamePlace cc_SamePlace cda_SamePlace "SamePlace.__init__" sI_SamePlace)
    (n_SamePlace_label : PySem.W.findIn K (.ref C_SamePlace) "label" = some none)
    (a_LightError : PySem.W.nsIn K mainGlobals "LightError" = some (some (.ref C_LightError)))
    (e_BadCourse : PySem.W.subIn K (.ref C_BadCourse) (.type "BaseException") = some true)
    (i_BadCourse : PySem.W.isClsIn K C_BadCourse = true)
    (t_BadCourse : PySem.W.typeIn K (.ref C_BadCourse) = some (.type "type"))
    (s_OutOfRange_BadCourse : PySem.W.subIn K (.ref C_OutOfRange) (.ref C_BadCourse) = some false)
    (s_BadCourse_BadCourse : PySem.W.subIn K (.ref C_BadCourse) (.ref C_BadCourse) = some true)
    (s_SamePlace_BadCourse : PySem.W.subIn K (.ref C_SamePlace) (.ref C_BadCourse) = some false)
    (e_LightError : PySem.W.subIn K (.ref C_LightError) (.type "BaseException") = some true)
    (i_LightError : PySem.W.isClsIn K C_LightError = true)
    (t_LightError : PySem.W.typeIn K (.ref C_LightError) = some (.type "type"))
    (s_OutOfRange_LightError : PySem.W.subIn K (.ref C_OutOfRange) (.ref C_LightError) = some true)
    (s_BadCourse_LightError : PySem.W.subIn K (.ref C_BadCourse) (.ref C_LightError) = some true)
    (s_SamePlace_LightError : PySem.W.subIn K (.ref C_SamePlace) (.ref C_LightError) = some true)
    (e_OutOfRange : PySem.W.subIn K (.ref C_OutOfRange) (.type "BaseException") = some true)
    (i_OutOfRange : PySem.W.isClsIn K C_OutOfRange = true)
    (t_OutOfRange : PySem.W.typeIn K (.ref C_OutOfRange) = some (.type "type"))
    (s_OutOfRange_OutOfRange : PySem.W.subIn K (.ref C_OutOfRange) (.ref C_OutOfRange) = some true)
    (s_BadCourse_OutOfRange : PySem.W.subIn K (.ref C_BadCourse) (.ref C_OutOfRange) = some false)
    (s_SamePlace_OutOfRange : PySem.W.subIn K (.ref C_SamePlace) (.ref C_OutOfRange) = some false)
    (e_SamePlace : PySem.W.subIn K (.ref C_SamePlace) (.type "BaseException") = some true)
    (i_SamePlace : PySem.W.isClsIn K C_SamePlace = true)
    (t_SamePlace : PySem.W.typeIn K (.ref C_SamePlace) = some (.type "type"))
    (s_OutOfRange_SamePlace : PySem.W.subIn K (.ref C_OutOfRange) (.ref C_SamePlace) = some false)
    (s_BadCourse_SamePlace : PySem.W.subIn K (.ref C_BadCourse) (.ref C_SamePlace) = some false)
    (s_SamePlace_SamePlace : PySem.W.subIn K (.ref C_SamePlace) (.ref C_SamePlace) = some true)
    (ga_OutOfRange : PySem.W.findIn K (.ref C_OutOfRange) "__getattribute__" = some (some (.builtin "BaseException.__getattribute__")))
    (gg_OutOfRange : PySem.W.findIn K (.ref C_OutOfRange) "__getattr__" = some none)
    (ge_OutOfRange : PySem.W.subIn K (.ref C_OutOfRange) (.type "BaseException") = some true)
    (gh_OutOfRange : PySem.W.hasDictIn K C_OutOfRange = true)
    (z_abs : mg "abs" = none)
    (z_bool : mg "bool" = none)
    (z_int : mg "int" = none)
    (z_isinstance : mg "isinstance" = none)
    (z_len : mg "len" = none)
    (z_list : mg "list" = none)
    (z_max : mg "max" = none)
    (z_range : mg "range" = none)
    (z_super : mg "super" = none)
    (z_tuple : mg "tuple" = none)
    (c_MOST_PART' : ∀ cl, GlobV K cl mg "MOST_PART" c_MOST_PART)
    (c_MOST_PLACE' : ∀ cl, GlobV K cl mg "MOST_PLACE" c_MOST_PLACE)
    (c_MOST_SPEED' : ∀ cl, GlobV K cl mg "MOST_SPEED" c_MOST_SPEED)
    (g_check_between : ∃ f fd, Fun K "check_between" "check_between" (topS 6) f fd ∧ mg "check_between" = some (.ref f))
    (g_gcd_of : ∃ f fd, Fun K "gcd_of" "gcd_of" (topS 7) f fd ∧ mg "gcd_of" = some (.ref f))
    (g_lowest : ∃ f fd, Fun K "lowest" "lowest" (topS 9) f fd ∧ mg "lowest" = some (.ref f))
    (g_check_place : ∃ f fd, Fun K "check_place" "check_place" (topS 12) f fd ∧ mg "check_place" = some (.ref f))
    (g_cross : ∃ f fd, Fun K "cross" "cross" (topS 13) f fd ∧ mg "cross" = some (.ref f))
    (g_dot : ∃ f fd, Fun K "dot" "dot" (topS 14) f fd ∧ mg "dot" = some (.ref f))
    (g_way_between : ∃ f fd, Fun K "way_between" "way_between" (topS 15) f fd ∧ mg "way_between" = some (.ref f))
    (g_is_course : ∃ f fd, Fun K "is_course" "is_course" (topS 18) f fd ∧ mg "is_course" = some (.ref f))
    (g_check_course : ∃ f fd, Fun K "check_course" "check_course" (topS 19) f fd ∧ mg "check_course" = some (.ref f))
    (g_place_by : ∃ f fd, Fun K "place_by" "place_by" (topS 20) f fd ∧ mg "place_by" = some (.ref f))
    (g_check_line : ∃ f fd, Fun K "check_line" "check_line" (topS 23) f fd ∧ mg "check_line" = some (.ref f))
    (g_line_way : ∃ f fd, Fun K "line_way" "line_way" (topS 24) f fd ∧ mg "line_way" = some (.ref f))
    (g_side_of : ∃ f fd, Fun K "side_of" "side_of" (topS 25) f fd ∧ mg "side_of" = some (.ref f))
    (g_word_of : ∃ f fd, Fun K "word_of" "word_of" (topS 26) f fd ∧ mg "word_of" = some (.ref f))
    (g_off_by : ∃ f fd, Fun K "off_by" "off_by" (topS 27) f fd ∧ mg "off_by" = some (.ref f))
    (g_check_ship : ∃ f fd, Fun K "check_ship" "check_ship" (topS 28) f fd ∧ mg "check_ship" = some (.ref f))
    (g_off_line : ∃ f fd, Fun K "off_line" "off_line" (topS 29) f fd ∧ mg "off_line" = some (.ref f))
    (g_opens : ∃ f fd, Fun K "opens" "opens" (topS 30) f fd ∧ mg "opens" = some (.ref f))
    (g_is_ahead : ∃ f fd, Fun K "is_ahead" "is_ahead" (topS 31) f fd ∧ mg "is_ahead" = some (.ref f))
    (g_ahead_of : ∃ f fd, Fun K "ahead_of" "ahead_of" (topS 32) f fd ∧ mg "ahead_of" = some (.ref f))
    (g_crosses_line : ∃ f fd, Fun K "crosses_line" "crosses_line" (topS 33) f fd ∧ mg "crosses_line" = some (.ref f))
    (g_keeps_line : ∃ f fd, Fun K "keeps_line" "keeps_line" (topS 34) f fd ∧ mg "keeps_line" = some (.ref f))
    (g_speeds_on : ∃ f fd, Fun K "speeds_on" "speeds_on" (topS 35) f fd ∧ mg "speeds_on" = some (.ref f))
    (g_safe_side : ∃ f fd, Fun K "safe_side" "safe_side" (topS 36) f fd ∧ mg "safe_side" = some (.ref f))
    (g__law_cell : ∃ f fd, Fun K "_law_cell" "_law_cell" (topS 38) f fd ∧ mg "_law_cell" = some (.ref f))
    (g__law_draw : ∃ f fd, Fun K "_law_draw" "_law_draw" (topS 39) f fd ∧ mg "_law_draw" = some (.ref f))
    (g__law_turn_of : ∃ f fd, Fun K "_law_turn_of" "_law_turn_of" (topS 40) f fd ∧ mg "_law_turn_of" = some (.ref f))
    (g__law_ship : ∃ f fd, Fun K "_law_ship" "_law_ship" (topS 41) f fd ∧ mg "_law_ship" = some (.ref f))
    (g__law_course : ∃ f fd, Fun K "_law_course" "_law_course" (topS 42) f fd ∧ mg "_law_course" = some (.ref f))
    (g__law_lowest : ∃ f fd, Fun K "_law_lowest" "_law_lowest" (topS 43) f fd ∧ mg "_law_lowest" = some (.ref f))
    (g__law_told : ∃ f fd, Fun K "_law_told" "_law_told" (topS 44) f fd ∧ mg "_law_told" = some (.ref f))
    (g__law_cross : ∃ f fd, Fun K "_law_cross" "_law_cross" (topS 45) f fd ∧ mg "_law_cross" = some (.ref f))
    (g__law_rocks : ∃ f fd, Fun K "_law_rocks" "_law_rocks" (topS 46) f fd ∧ mg "_law_rocks" = some (.ref f))
    (g_law : ∃ f fd, Fun K "law" "law" (topS 47) f fd ∧ mg "law" = some (.ref f))
    (hp : ∀ ns : List Int, ns.length ≤ 63 → (∀ z ∈ ns, Builtin.Int.intBits z ≤ 1048576) → FT (23 + 1) 413 [.src (ns.map .int)] = .ok (.bl true))
    : ∃ fd : FuncData, (∀ (s : Shared) (v : Value), BindsTo s fd ⟨[v], []⟩ [("script", v)]) ∧ ∀ base : Heap, K.In base → base.Ns mainGlobals mg → FnOk PySem.Challenge.pw_lightbook_k23_leading_lines w K mg base (L2.CX PySem.Challenge.pw_lightbook_k23_leading_lines w) 26 fa fd ["script"] (VL.spLaw K) := by
  let cl : Nat → Addr := fun k => ([0, C_BadCourse, 0, 0, 0, 0, 0, 0, 0, 0, 0, 0, 0, 0, 0, 0, 0, C_OutOfRange, 0, 0, C_SamePlace, 0, 0, 0, 0, 0, 0] : List Addr).getD k 0
  have X0 : Txt K mg := ⟨g_check_between, g_gcd_of, g_lowest, g_check_place, g_cross, g_dot, g_way_between, g_is_course, g_check_course, g_place_by, g_check_line, g_line_way, g_side_of, g_word_of, g_off_by, g_check_ship, g_off_line, g_opens, g_is_ahead, g_ahead_of, g_crosses_line, g_keeps_line, g_speeds_on, g_safe_side, g__law_cell, g__law_draw, g__law_turn_of, g__law_ship, g__law_course, g__law_lowest, g__law_told, g__law_cross, g__law_rocks, g_law⟩
  obtain ⟨f0, fd0, F0, hm0⟩ := g_law
  have e0 := hfa.symm.trans hm0
  cases e0
  have F1 := F0
  obtain ⟨oc, od, kV, doc, pm, an, cdv, ct, osl, rfl, lk, hcd⟩ := F1.ex
  refine ⟨PySem.W.fnOf "law" "law" (defArgs (topS 47)) (defBody (topS 47)) (defScope (topS 47)) .none kV doc pm an cdv ct, fun s v => .of_eq rfl, fun base _ _ => ?_⟩
  have T : Tx PySem.Challenge.pw_lightbook_k23_leading_lines w K mg base cl :=
    { z_abs := z_abs,
      z_bool := z_bool,
      z_int := z_int,
      z_isinstance := z_isinstance,
      z_len := z_len,
      z_list := z_list,
      z_max := z_max,
      z_range := z_range,
      z_tuple := z_tuple,
      c_MOST_PART := c_MOST_PART' cl,
      c_MOST_PLACE := c_MOST_PLACE' cl,
      c_MOST_SPEED := c_MOST_SPEED' cl,
      x_OutOfRange := exc_at (ps := ["self", "value"]) X G a_OutOfRange T_OutOfRange (fun lk => ini_OutOfRange T_OutOfRange z_super n_OutOfRange_label n_OutOfRange_value lk) (fun _ _ _ _ _ us hl => match us, hl with | [_, _], _ => rfl) rfl,
      x_BadCourse := exc_at (ps := ["self"]) X G a_BadCourse T_BadCourse (fun lk => ini_BadCourse T_BadCourse z_super n_BadCourse_label lk) (fun _ _ _ _ _ us hl => match us, hl with | [_], _ => rfl) rfl,
      x_SamePlace := exc_at (ps := ["self"]) X G a_SamePlace T_SamePlace (fun lk => ini_SamePlace T_SamePlace z_super n_SamePlace_label lk) (fun _ _ _ _ _ us hl => match us, hl with | [_], _ => rfl) rfl,
      m_BadCourse := exm_at X G a_BadCourse (by
        intro k b e
        match k, e with
        | 0, e => cases e
        | 1, e => cases e; exact exm_of e_BadCourse i_BadCourse t_BadCourse s_BadCourse_BadCourse
        | 2, e => cases e
        | 3, e => cases e
        | 4, e => cases e
        | 5, e => cases e
        | 6, e => cases e
        | 7, e => cases e
        | 8, e => cases e
        | 9, e => cases e
        | 10, e => cases e
        | 11, e => cases e
        | 12, e => cases e
        | 13, e => cases e
        | 14, e => cases e
        | 15, e => cases e
        | 16, e => cases e
        | 17, e => cases e; exact exm_of e_BadCourse i_BadCourse t_BadCourse s_OutOfRange_BadCourse
        | 18, e => cases e
        | 19, e => cases e
        | 20, e => cases e; exact exm_of e_BadCourse i_BadCourse t_BadCourse s_SamePlace_BadCourse
        | 21, e => cases e
        | 22, e => cases e
        | 23, e => cases e
        | 24, e => cases e
        | 25, e => cases e
        | 26, e => cases e
        | k + 27, e => cases e),
      m_LightError := exm_at X G a_LightError (by
        intro k b e
        match k, e with
        | 0, e => cases e
        | 1, e => cases e; exact exm_of e_LightError i_LightError t_LightError s_BadCourse_LightError
        | 2, e => cases e
        | 3, e => cases e
        | 4, e => cases e
        | 5, e => cases e
        | 6, e => cases e
        | 7, e => cases e
        | 8, e => cases e
        | 9, e => cases e
        | 10, e => cases e
        | 11, e => cases e
        | 12, e => cases e
        | 13, e => cases e
        | 14, e => cases e
        | 15, e => cases e
        | 16, e => cases e
        | 17, e => cases e; exact exm_of e_LightError i_LightError t_LightError s_OutOfRange_LightError
        | 18, e => cases e
        | 19, e => cases e
        | 20, e => cases e; exact exm_of e_LightError i_LightError t_LightError s_SamePlace_LightError
        | 21, e => cases e
        | 22, e => cases e
        | 23, e => cases e
        | 24, e => cases e
        | 25, e => cases e
        | 26, e => cases e
        | k + 27, e => cases e),
      m_OutOfRange := exm_at X G a_OutOfRange (by
        intro k b e
        match k, e with
        | 0, e => cases e
        | 1, e => cases e; exact exm_of e_OutOfRange i_OutOfRange t_OutOfRange s_BadCourse_OutOfRange
        | 2, e => cases e
        | 3, e => cases e
        | 4, e => cases e
        | 5, e => cases e
        | 6, e => cases e
        | 7, e => cases e
        | 8, e => cases e
        | 9, e => cases e
        | 10, e => cases e
        | 11, e => cases e
        | 12, e => cases e
        | 13, e => cases e
        | 14, e => cases e
        | 15, e => cases e
        | 16, e => cases e
        | 17, e => cases e; exact exm_of e_OutOfRange i_OutOfRange t_OutOfRange s_OutOfRange_OutOfRange
        | 18, e => cases e
        | 19, e => cases e
        | 20, e => cases e; exact exm_of e_OutOfRange i_OutOfRange t_OutOfRange s_SamePlace_OutOfRange
        | 21, e => cases e
        | 22, e => cases e
        | 23, e => cases e
        | 24, e => cases e
        | 25, e => cases e
        | 26, e => cases e
        | k + 27, e => cases e),
      m_SamePlace := exm_at X G a_SamePlace (by
        intro k b e
        match k, e with
        | 0, e => cases e
        | 1, e => cases e; exact exm_of e_SamePlace i_SamePlace t_SamePlace s_BadCourse_SamePlace
        | 2, e => cases e
        | 3, e => cases e
        | 4, e => cases e
        | 5, e => cases e
        | 6, e => cases e
        | 7, e => cases e
        | 8, e => cases e
        | 9, e => cases e
        | 10, e => cases e
        | 11, e => cases e
        | 12, e => cases e
        | 13, e => cases e
        | 14, e => cases e
        | 15, e => cases e
        | 16, e => cases e
        | 17, e => cases e; exact exm_of e_SamePlace i_SamePlace t_SamePlace s_OutOfRange_SamePlace
        | 18, e => cases e
        | 19, e => cases e
        | 20, e => cases e; exact exm_of e_SamePlace i_SamePlace t_SamePlace s_SamePlace_SamePlace
        | 21, e => cases e
        | 22, e => cases e
        | 23, e => cases e
        | 24, e => cases e
        | 25, e => cases e
        | 26, e => cases e
        | k + 27, e => cases e),
      f_OutOfRange_value := ⟨⟨ga_OutOfRange, gg_OutOfRange, ge_OutOfRange, gh_OutOfRange⟩, n_OutOfRange_value⟩ }
  have TD := all_ok T X0 23
  exact (def_ok (k := 25) F0 sc_33 fun _ _ _ _ _ _ _ hr => ok_33 T TD hr).imp (law_imp (g := fun us => FT (23 + 1) 413 us) hp)
end L23
namespace L23
open PySem PySem.Spec PyProof.Rows L2 VL PF PH WY
structure Told (g : List PV → R PV) : Prop where
  v0 : ∀ f r s : Dr, Ln f r → Sh s → g [.int 0, encD f, encD r, encD s, .int 0] = .ok (vV (offV f (sub r f) s))
  v1 : ∀ f r s : Dr, Ln f r → Sh s → g [.int 1, encD f, encD r, encD s, .int 0] = .ok (vV (.str (openS (crs (sub r f) (sub s f)))))
  v2 : ∀ f r s : Dr, Ln f r → Sh s → g [.int 2, encD f, encD r, encD s, .int 0] = .ok (vV (.bl (aheadB f r s)))
  v3 : ∀ (c : Co) (f r : Dr), Ln f r → coB c = true → Nr c.1 → Nr c.2 → g [.int 3, encC c, encD f, encD r, .int 0] = .ok (vV (crossV (crs (sub r f) (sub c.1 f)) (crs (sub r f) c.2)))
  v4 : ∀ f r s : Dr, Ln f r → Sh s → crs (sub r f) (sub s f) = 0 → g [.int 4, encD f, encD r, encD s, .int 4] = .ok (vV (encDs (speedsOf (onB (sub f s)) 4)))
  v5 : ∀ (f r : Dr) (ks : List Dr), Ln f r → (∀ k ∈ ks, Sh k) → ks.length ≤ 1000 → g [.int 5, encD f, encD r, encDs ks, .int 0] = .ok (vV (.str (sideW (ks.map fun k => crs (sub r f) (sub k f)))))
  v6 : ∀ (c : Co) (f r : Dr), Ln f r → coB c = true → Nr c.1 → Nr c.2 → g [.int 6, encC c, encD f, encD r, .int 0] = .ok (vV (.bl ((decide (crs (sub r f) (sub c.1 f) = 0) && decide (crs (sub r f) c.2 = 0)) && aheadB f r c.1)))
  x0 : ∀ f s : Dr, g [.int 0, encD f, encD f, encD s, .int 0] = .ok (wi "same" 0)
  x0r : ∀ f r s : Dr, f ≠ r → inPl f.1 = false → g [.int 0, encD f, encD r, encD s, .int 0] = .ok (wi "range" f.1)
  x3 : ∀ (c : Co) (f r : Dr), Ln f r → coB c = false → g [.int 3, encC c, encD f, encD r, .int 0] = .ok (wi "course" 0)
  x4 : ∀ f r s : Dr, Ln f r → Sh s → g [.int 4, encD f, encD r, encD s, .int 0] = .ok (wi "range" 0)
  x5 : ∀ f : Dr, g [.int 5, encD f, encD f, .lst [], .int 0] = .ok (wi "same" 0)
theorem sp_told {F : Nat → List PV → R PV} (h481 : OffLine (F 481)) (h483 : S_opens (F 483)) (h176 : S_ahead (F 176)) (h286 : Crosses (F 286)) (h582 : SpeedsOn (F 582)) (h533 : SafeSide (F 533)) (h387 : S_keeps (F 387)) :
    Told fun us => outR (b__law_told_v17 F (startE 6 us)) := by
  have m1 : mt_SamePlace 20 = some true := rfl
  have m2 : mt_SamePlace 17 = some false := rfl
  have m3 : mt_SamePlace 1 = some false := rfl
  have m4 : mt_BadCourse 1 = some true := rfl
  have m5 : mt_BadCourse 17 = some false := rfl
  have m6 : mt_OutOfRange 17 = some true := rfl
  refine ⟨fun f r s hl hs => ?_, fun f r s hl hs => ?_, fun f r s hl hs => ?_, fun c f r hl hc n1 n2 => ?_, fun f r s hl hs hz => ?_, fun f r ks hl hk hn => ?_, fun c f r hl hc n1 n2 => ?_, fun f s => ?_, fun f r s n hf => ?_, fun c f r hl hc => ?_, fun f r s hl hs => ?_, fun f => ?_⟩
  · simp -implicitDefEqProofs [b__law_told_v17, h481.ok f r s hl hs, szl, vV]
  · simp -implicitDefEqProofs [b__law_told_v17, h483 f r s hl hs, szl, vV]
  · simp -implicitDefEqProofs [b__law_told_v17, h176 f r s hl hs, szl, vV]
  · simp -implicitDefEqProofs [b__law_told_v17, h286.ok c f r hl hc n1 n2, szl, vV]
  · simp -implicitDefEqProofs [b__law_told_v17, h582.ok f r s hl hs hz, szl, vV]
  · simp -implicitDefEqProofs [b__law_told_v17, h533.ok f r ks hl hk hn, szl, vV]
  · have := h387 c f r hl hc n1 n2
    generalize ((decide (crs (sub r f) (sub c.1 f) = 0) && decide (crs (sub r f) c.2 = 0)) && aheadB f r c.1) = b at *
    simp -implicitDefEqProofs [b__law_told_v17, this, szl, vV]
  · simp -implicitDefEqProofs [b__law_told_v17, h481.same f s, m1, szl, wi]
  · simp -implicitDefEqProofs [b__law_told_v17, h481.far f r s n hf, m2, m5, m6, lk_v, szl, wi]
  · simp -implicitDefEqProofs [b__law_told_v17, h286.bad c f r hl hc, m3, m4, szl, wi]
  · simp -implicitDefEqProofs [b__law_told_v17, h582.far f r s hl hs, m2, m5, m6, lk_v, szl, wi]
  · simp -implicitDefEqProofs [b__law_told_v17, h533.same f, m1, szl, wi]
/-! the law's own words -/
def S_lcross (g : List PV → R PV) : Prop := ∀ f r s : Dr, Sm (sub s f) → g [encD f, encD r, encD s] = .ok (.int (crs (sub r f) (sub s f)))
theorem sp_lcross {F : Nat → List PV → R PV} (h : S_cross (F 163)) : S_lcross fun us => outR (b__law_cross F (startE 4 us)) := by
  intro f r s hs
  have e : F 163 [encD (r.1 - f.1, r.2 - f.2), encD (s.1 - f.1, s.2 - f.2)] = .ok (.int (crs (sub r f) (sub s f))) := h (sub r f) (sub s f) hs
  simp -implicitDefEqProofs [b__law_cross, encD_0, encD_1, eD, e, szl]
theorem filt_empty {xs : List Int} {p : Int → Bool} : ((xs.filter p).length = 0) ↔ ¬ ∃ k ∈ xs, p k = true := by
  rw [List.length_eq_zero_iff, List.filter_eq_nil_iff]
  simp
def S_lrocks (g : List PV → R PV) : Prop := ∀ (f r : Dr) (ns : List Int), Ln f r → g [encD f, encD r, .src (ns.map .int)] = .ok (.bl true)
theorem okS_side (xs : List Int) : okS (sideW xs) = true := by
  unfold sideW
  (repeat' split) <;> decide +kernel
theorem sp_lrocks {F : Nat → List PV → R PV} (h13 : S_cell (F 13)) (h105 : S_lship (F 105)) (h19 : S_lcross (F 19)) (h148 : Told (F 148)) : S_lrocks fun us => outR (b__law_rocks F (startE 11 us)) := by
  intro f r ns hl
  have c5 := h13 ns 5
  simp only [Int.cast_ofNat_Int] at c5
  obtain ⟨n, hn⟩ : ∃ n : Nat, cell ns 5 % 7 = (n : Int) := ⟨(cell ns 5 % 7).toNat, by omega⟩
  have hn9 : n ≤ 6 := by omega
  obtain ⟨ks, l1, l2, l3⟩ : ∃ ks : List Dr, lcL (tN 8) cYes (b__law_rocks_0 F) [some (encD f), some (encD r), some (.src (ns.map .int)), none, none, none, none, none, none, none, none] (rangeP 0 n) = .ok (ks.map encD) ∧ ks.length = n ∧ ∀ x ∈ ks, Sh x := by
    rw [rangeP_map]
    obtain ⟨ds, e1, e2, e3⟩ := lcL_ex (t := tN 8) (e := b__law_rocks_0 F) (ρ := [some (encD f), some (encD r), some (.src (ns.map .int)), none, none, none, none, none, none, none, none]) (fun (i : Nat) => PV.int ((i : Nat) : Int)) encD Sh (List.range n) fun i hi => by
      obtain ⟨dd, e1, e2, e3⟩ := h105 (ab (cell ns 5) + 13 * (i : Int)) 40 (by decide)
      have hi1 : i < n := by simpa using hi
      have m1 : mulOk 13 (i : Int) = true := mulOk_r ⟨by omega, by omega⟩
      simp only [Int.cast_ofNat_Int] at e1
      refine ⟨_, dd, rfl, ?_, ⟨?_, ⟨by omega, by omega⟩, by omega, by omega⟩⟩
      · simp -implicitDefEqProofs [b__law_rocks_0, c5, absP_ab, -absP_i, m1, e1, szl]
      · unfold plB inPl
        simp only [Bool.and_eq_true, decide_eq_true_eq]
        omega
    exact ⟨ds, e1, by rw [e2, List.length_range], e3⟩
  have hrg : rg1 (n : Int) = .ok (rangeP 0 n) := rg1_nat (by omega)
  have e3 : ∀ (x4 x5 x6 x7 x8 x10 : Option PV), lcL (tN 9) cYes (b__law_rocks_1 F) [some (encD f), some (encD r), some (.src (ns.map .int)), some (encDs ks), x4, x5, x6, x7, x8, none, x10] (ks.map encD) = .ok ((ks.map fun k => crs (sub r f) (sub k f)).map .int) := by
    intro x4 x5 x6 x7 x8 x10
    rw [lcL_map (h := fun k => PV.int (crs (sub r f) (sub k f))) encD ks fun k hkm => ⟨_, rfl, by simp -implicitDefEqProofs [b__law_rocks_1, h19 f r k ((l3 k hkm).ns.sub hl.nf).sm]⟩, List.map_map]
    rfl
  have k5 := h148.v5 f r ks hl l3 (by omega)
  have lp : listP [encDs ks] = some (encDs ks) := rfl
  have hlx : (ks.map fun k => crs (sub r f) (sub k f)).length = n := by simp [l2]
  have eks : PV.lst (ks.map encD) = encDs ks := rfl
  have itk : itemsP (encDs ks) = .ok (ks.map encD) := rfl
  generalize (ks.map fun k => crs (sub r f) (sub k f)) = xs at *
  have f1 : ∀ (x5 x6 x7 x8 x9 : Option PV), lcL (tN 10) (b__law_rocks_3 F) (b__law_rocks_2 F) [some (encD f), some (encD r), some (.src (ns.map .int)), some (encDs ks), some (.lst (xs.map .int)), x5, x6, x7, x8, x9, none] (xs.map .int) = .ok ((xs.filter fun k => decide (0 < k)).map .int) := by
    intro x5 x6 x7 x8 x9
    exact lcL_filter PV.int PV.int (fun k => decide (0 < k)) xs fun k hkm => ⟨_, rfl, by simp -implicitDefEqProofs [b__law_rocks_3], fun _ => by simp -implicitDefEqProofs [b__law_rocks_2]⟩
  have f2 : ∀ (x5 x6 x7 x8 x9 : Option PV), lcL (tN 10) (b__law_rocks_5 F) (b__law_rocks_4 F) [some (encD f), some (encD r), some (.src (ns.map .int)), some (encDs ks), some (.lst (xs.map .int)), x5, x6, x7, x8, x9, none] (xs.map .int) = .ok ((xs.filter fun k => decide (k < 0)).map .int) := by
    intro x5 x6 x7 x8 x9
    exact lcL_filter PV.int PV.int (fun k => decide (k < 0)) xs fun k hkm => ⟨_, rfl, by simp -implicitDefEqProofs [b__law_rocks_5], fun _ => by simp -implicitDefEqProofs [b__law_rocks_4]⟩
  have z1 : ((xs.filter fun k => decide (0 < k)).length = 0) ↔ ¬ ∃ k ∈ xs, 0 < k := by rw [filt_empty]; simp
  have z2 : ((xs.filter fun k => decide (k < 0)).length = 0) ↔ ¬ ∃ k ∈ xs, k < 0 := by rw [filt_empty]; simp
  have y1 := List.length_filter_le (fun k => decide (0 < k)) xs
  have y2 := List.length_filter_le (fun k => decide (k < 0)) xs
  have L1 : lenP [.lst ((xs.filter fun k => decide (0 < k)).map .int)] = some (.int ((xs.filter fun k => decide (0 < k)).length : Int)) := lenP_map _ _
  have L2' : lenP [.lst ((xs.filter fun k => decide (k < 0)).map .int)] = some (.int ((xs.filter fun k => decide (k < 0)).length : Int)) := lenP_map _ _
  have q1 : ((xs.filter fun k => decide (0 < k)).map PV.int).length ≤ 16777216 := by rw [List.length_map]; omega
  have q2 : ((xs.filter fun k => decide (k < 0)).map PV.int).length ≤ 16777216 := by rw [List.length_map]; omega
  have q3 : (xs.map PV.int).length ≤ 16777216 := by rw [List.length_map]; omega
  have i0 := inB_ints 0 xs
  have itx : itemsP (.lst (xs.map .int)) = .ok (xs.map .int) := rfl
  have okw := ok_st (okS_side xs)
  have n1 : n ≤ 16777216 := by omega
  generalize (xs.filter fun k => decide (0 < k)) = A at *
  generalize (xs.filter fun k => decide (k < 0)) = B at *
  generalize hAm : A.map PV.int = AM at *
  generalize hBm : B.map PV.int = BM at *
  generalize hXm : xs.map PV.int = XM at *
  unfold sideW at okw k5
  by_cases a1 : (0 : Int) ∈ xs
  · rw [if_pos a1] at okw k5
    rw [decide_eq_true a1] at i0
    simp -implicitDefEqProofs [b__law_rocks, c5, hn, hrg, l1, l2, n1, szl, eks, itk, e3, q3, f1, f2, q1, q2, L1, L2', i0, lp, k5, vV_S, okw, -lenP_l]
  · rw [if_neg a1] at okw k5
    rw [decide_eq_false a1] at i0
    by_cases a2 : ∃ k ∈ xs, 0 < k
    · have w1 : ¬ A.length = 0 := fun z => z1.mp z a2
      have w1' : ¬ (A.length : Int) = 0 := by omega
      rw [if_pos a2] at okw k5
      by_cases a3 : ∃ k ∈ xs, k < 0
      · have w2 : ¬ B.length = 0 := fun z => z2.mp z a3
        have w2' : ¬ (B.length : Int) = 0 := by omega
        rw [if_pos a3] at okw k5
        simp -implicitDefEqProofs [b__law_rocks, c5, hn, hrg, l1, l2, n1, szl, eks, itk, e3, q3, f1, f2, q1, q2, L1, L2', i0, lp, k5, vV_S, okw, -lenP_l, w1', w2', -Int.natCast_eq_zero]
      · have w2 : B.length = 0 := z2.mpr a3
        rw [if_neg a3] at okw k5
        simp -implicitDefEqProofs [b__law_rocks, c5, hn, hrg, l1, l2, n1, szl, eks, itk, e3, q3, f1, f2, q1, q2, L1, L2', i0, lp, k5, vV_S, okw, -lenP_l, w1', w2, -Int.natCast_eq_zero]
    · have w1 : A.length = 0 := z1.mpr a2
      rw [if_neg a2] at okw k5
      by_cases a3 : ∃ k ∈ xs, k < 0
      · have w2 : ¬ B.length = 0 := fun z => z2.mp z a3
        have w2' : ¬ (B.length : Int) = 0 := by omega
        rw [if_pos a3] at okw k5
        simp -implicitDefEqProofs [b__law_rocks, c5, hn, hrg, l1, l2, n1, szl, eks, itk, e3, q3, f1, f2, q1, q2, L1, L2', i0, lp, k5, vV_S, okw, -lenP_l, w1, w2', -Int.natCast_eq_zero]
      · have w2 : B.length = 0 := z2.mpr a3
        rw [if_neg a3] at okw k5
        simp -implicitDefEqProofs [b__law_rocks, c5, hn, hrg, l1, l2, n1, szl, eks, itk, e3, q3, f1, f2, q1, q2, L1, L2', i0, lp, k5, vV_S, okw, -lenP_l, w1, w2, -Int.natCast_eq_zero]
end L23
namespace L23
open PySem PySem.Spec PyProof.Rows L2 VL PF PH WY
variable {F : Nat → List PV → R PV}
theorem oks : okS ("same" : Str) = true ∧ okS ("range" : Str) = true ∧ okS ("course" : Str) = true := by decide +kernel
theorem coB_of {c : Co} (h : (-100000 ≤ c.1.1 ∧ c.1.1 ≤ 100000) ∧ (-100000 ≤ c.1.2 ∧ c.1.2 ≤ 100000)) (h2 : (-1000 ≤ c.2.1 ∧ c.2.1 ≤ 1000) ∧ (-1000 ≤ c.2.2 ∧ c.2.2 ≤ 1000)) : coB c = true := by
  unfold coB ab
  simp only [Bool.and_eq_true, decide_eq_true_eq]
  refine ⟨⟨?_, ?_⟩, ?_, ?_⟩ <;> split <;> omega
theorem e24 (h148 : Told (F 148)) (h87 : S_lrocks (F 87)) {f r s : Dr} {ns : List Int} {c : Int} (hl : Ln f r) (hs : Sh s) (nr : (100001, 0) ≠ r) (hc : c = crs (sub r f) (sub s f)) (x3 x5 x7 x8 x9 x10 x11 x12 x13 x14 x15 x16 x17 x18 x19 : Sl) :
    b_law_v15_t24 F [.fz (.src (ns.map .int)), .fz (encD f), .fz (encD r), x3, .fz (encD s), x5, .fz (.int c), x7, x8, x9, x10, x11, x12, x13, x14, x15, x16, x17, x18, x19] = .ret (.bl true) := by
  have k1 := h148.x0 f s
  have k2 := h148.x0r (100001, 0) r s nr (by decide)
  have k3 := h148.x3 ((0, 0), 1001, 0) f r hl (by decide)
  have k4 := h148.x4 f r s hl hs
  have k5 := h148.x5 f
  have k6 := h87 f r ns hl
  obtain ⟨o1, o2, o3⟩ := oks
  have ec : PV.tup [.int 0, .int 0, .int 1001, .int 0] = encC ((0, 0), 1001, 0) := rfl
  by_cases h0 : c = 0
  · simp -implicitDefEqProofs [b_law_v15_t24, b_law_v15_t25, b_law_v15_t26, k1, k2, k3, k4, k5, k6, szl, eD, ec, wi_S, ok_wi o1, ok_wi o2, ok_wi o3, h0]
  · simp -implicitDefEqProofs [b_law_v15_t24, b_law_v15_t25, b_law_v15_t26, k1, k2, k3, k4, k5, k6, szl, eD, ec, wi_S, ok_wi o1, ok_wi o2, ok_wi o3, h0]
theorem e23 (h148 : Told (F 148)) (h87 : S_lrocks (F 87)) {f r s : Dr} {ns : List Int} {c : Int} (hl : Ln f r) (hs : Sh s) (nr : (100001, 0) ≠ r) (hc : c = crs (sub r f) (sub s f)) (hsc : coB (s, 1, 0) = true) (x3 x5 x7 x8 x9 x10 x11 x12 x13 x14 x15 x16 x17 x18 x19 : Sl) :
    b_law_v15_t23 F [.fz (.src (ns.map .int)), .fz (encD f), .fz (encD r), x3, .fz (encD s), x5, .fz (.int c), x7, x8, x9, x10, x11, x12, x13, x14, x15, x16, x17, x18, x19] = .ret (.bl true) := by
  have k := e24 h148 h87 hl hs nr hc (ns := ns)
  have k6 := h148.v6 (s, 1, 0) f r hl hsc hs.ns ⟨by simp, by simp⟩
  simp only at k6
  rw [← hc] at k6
  have ec : PV.tup [.int s.1, .int s.2, .int 1, .int 0] = encC (s, 1, 0) := rfl
  by_cases h0 : c = 0
  · simp -implicitDefEqProofs [b_law_v15_t23, h0]
    rw [h0] at k
    exact k _ _ _ _ _ _ _ _ _ _ _ _ _ _ _
  · rw [decide_eq_false h0] at k6
    simp only [Bool.false_and] at k6
    simp -implicitDefEqProofs [b_law_v15_t23, h0, encD_0, encD_1, szl, ec, k6, vV_S, ok_b]
    exact k _ _ _ _ _ _ _ _ _ _ _ _ _ _ _
/-- the two ways of asking for a speed -/
theorem on_eq {f r s : Dr} (hl : Ln f r) (hz : crs (sub r f) (sub s f) = 0) (hb : dt (sub r f) (sub s f) < 0) (v : Dr) : onB (sub f s) v = (decide (crs (sub r f) v = 0) && decide (0 < dt v (sub r f))) := by
  have hq := nz_sq hl.look.2
  have i1 : crs (sub f s) v * dt (sub r f) (sub r f) = dt (sub f s) (sub r f) * crs (sub r f) v - crs (sub r f) (sub f s) * dt (sub r f) v := by unfold crs dt sub; simp only; grind
  have i2 : dt (sub f s) v * dt (sub r f) (sub r f) = dt (sub f s) (sub r f) * dt v (sub r f) + crs (sub r f) (sub f s) * crs (sub r f) v := by unfold crs dt sub; simp only; grind
  have i3 : crs (sub r f) (sub f s) = 0 := by
    have : crs (sub r f) (sub f s) = -crs (sub r f) (sub s f) := by unfold crs sub; simp only; grind
    rw [this, hz]; rfl
  have i4 : 0 < dt (sub f s) (sub r f) := by
    have : dt (sub f s) (sub r f) = -dt (sub r f) (sub s f) := by unfold dt sub; simp only; grind
    omega
  rw [i3] at i1 i2
  simp only [Int.zero_mul, Int.sub_zero, Int.add_zero] at i1 i2
  have hq' : 0 < dt (sub r f) (sub r f) := hq
  unfold onB
  generalize dt (sub r f) (sub r f) = Q at *
  generalize dt (sub f s) (sub r f) = M at *
  rw [Bool.eq_iff_iff]
  simp only [Bool.and_eq_true, decide_eq_true_eq]
  constructor
  · rintro ⟨a, b⟩
    rw [a, Int.zero_mul] at i1
    have h1 : crs (sub r f) v = 0 := by
      rcases Int.mul_eq_zero.mp i1.symm with z | z
      · omega
      · exact z
    refine ⟨h1, ?_⟩
    have := Int.mul_pos b hq'
    rw [i2] at this
    rcases Int.lt_trichotomy (dt v (sub r f)) 0 with z | z | z
    · have := Int.mul_neg_of_pos_of_neg i4 z; omega
    · rw [z] at this; simp at this
    · exact z
  · rintro ⟨a, b⟩
    rw [a, Int.mul_zero] at i1
    have h1 : crs (sub f s) v = 0 := by
      rcases Int.mul_eq_zero.mp i1 with z | z
      · exact z
      · omega
    refine ⟨h1, ?_⟩
    have := Int.mul_pos i4 b
    rw [← i2] at this
    rcases Int.lt_trichotomy (dt (sub f s) v) 0 with z | z | z
    · have := Int.mul_neg_of_neg_of_pos z hq'; omega
    · rw [z] at this; simp at this
    · exact z
theorem speeds_congr {p q : Dr → Bool} (h : ∀ v, p v = q v) (m : Nat) : speedsOf p m = speedsOf q m := by
  have : p = q := funext h
  rw [this]
theorem speeds_mem {p : Dr → Bool} {m : Nat} {v : Dr} (h : v ∈ speedsOf p m) : p v = true ∧ -(m : Int) ≤ v.1 ∧ v.1 ≤ m ∧ -(m : Int) ≤ v.2 ∧ v.2 ≤ m := by
  unfold speedsOf rowOf at h
  rw [List.mem_flatMap] at h
  obtain ⟨x, hx, hv⟩ := h
  obtain ⟨y, hy, rfl⟩ := List.mem_map.mp hv
  rw [List.mem_filter] at hy
  have h1 := span_mem hx
  have h2 := span_mem hy.1
  exact ⟨hy.2, h1.1, h1.2, h2.1, h2.2⟩
theorem law_speeds (h163 : S_cross (F 163)) {look : Dr} (x0 x1 x2 x4 x5 x6 x7 x8 x9 x10 x11 x12 x13 x14 x15 x18 x19 : Sl) (n0 : ∀ xs, x0 ≠ .own xs) (x17 : Sl) :
    ∃ y17, forL (tN 17) (b_law_v15_2 F) ((span 4).map .int) [x0, x1, x2, .fz (encD look), x4, x5, x6, x7, x8, x9, x10, x11, x12, x13, x14, x15, .fz (.lst []), x17, x18, x19] =
      .next [x0, x1, x2, .fz (encD look), x4, x5, x6, x7, x8, x9, x10, x11, x12, x13, x14, x15, .fz (encDs (speedsOf (fun v => decide (crs look v = 0) && decide (0 < dt v look)) 4)), y17, x18, x19] := by
  have q : ∀ x : Int, x ∈ span 4 → ∀ (a0 a1 a2 a4 a5 a6 a7 a8 a9 a10 a11 a12 a13 a14 a15 a16 a18 : Option PV), lcL (tN 19) (b_law_v15_1 F) (b_law_v15_0 F) [a0, a1, a2, some (encD look), a4, a5, a6, a7, a8, a9, a10, a11, a12, a13, a14, a15, a16, some (.int x), a18, none] ((span 4).map .int) = .ok ((rowOf (fun v => decide (crs look v = 0) && decide (0 < dt v look)) 4 x).map encD) := by
    intro x hx a0 a1 a2 a4 a5 a6 a7 a8 a9 a10 a11 a12 a13 a14 a15 a16 a18
    unfold rowOf
    rw [List.map_map]
    refine lcL_filter PV.int (encD ∘ fun y => (x, y)) (fun y => decide (crs look (x, y) = 0) && decide (0 < dt (x, y) look)) (span 4) fun y hy => ⟨_, rfl, ?_, fun _ => ?_⟩
    · have h1 := h163 look (x, y) (span_sx (by decide) hx hy).sm
      have b1 := span_mem hx
      have b2 := span_mem hy
      have m1 : mulOk x look.1 = true := mulOk_l ⟨by omega, by omega⟩
      have m2 : mulOk y look.2 = true := mulOk_l ⟨by omega, by omega⟩
      have ed : x * look.1 + y * look.2 = dt (x, y) look := rfl
      by_cases k : crs look (x, y) = 0 <;> simp -implicitDefEqProofs [b_law_v15_1, eD, h1, k, encD_0, encD_1, m1, m2, ed, szl]
    · simp -implicitDefEqProofs [b_law_v15_0, szl]
      rfl
  obtain ⟨r', e, y17, rfl⟩ := forL_fold (t := tN 17) (s := b_law_v15_2 F) (enc := PV.int) (f := fun (a : List Dr) (x : Int) => a ++ rowOf (fun v => decide (crs look v = 0) && decide (0 < dt v look)) 4 x) (xs := span 4) (g0 := [])
    (r0 := [x0, x1, x2, .fz (encD look), x4, x5, x6, x7, x8, x9, x10, x11, x12, x13, x14, x15, .fz (.lst []), x17, x18, x19])
    (fun a rr => ∃ y17, rr = [x0, x1, x2, .fz (encD look), x4, x5, x6, x7, x8, x9, x10, x11, x12, x13, x14, x15, .fz (.lst (a.map encD)), y17, x18, x19]) ⟨_, rfl⟩ (fun i x a rr hx ha ⟨y17, er⟩ => by
      subst er
      have hxm : x ∈ span 4 := List.mem_of_getElem? hx
      have hal : a.length ≤ 100 := by
        rw [ha, foldl_flat, List.nil_append]
        have h1 := flat_len (row_len (fun v => decide (crs look v = 0) && decide (0 < dt v look)) 4) ((span 4).take i)
        have h2 : ((span 4).take i).length ≤ 9 := by rw [List.length_take, span_len]; omega
        omega
      have hrow := row_len (fun v => decide (crs look v = 0) && decide (0 < dt v look)) 4 x
      have hrg : rg2 (-4) 5 = .ok ((span 4).map .int) := rg2_span (m := 4) (by decide)
      have qq := q x hxm
      generalize rowOf (fun v => decide (crs look v = 0) && decide (0 < dt v look)) 4 x = R at *
      have ad : addP (.lst (a.map encD)) (.lst (R.map encD)) = some (.lst ((a ++ R).map encD)) := addP_map (by omega)
      have hR : R.length ≤ 16777216 := by omega
      exact ⟨_, [x0, x1, x2, .fz (encD look), x4, x5, x6, x7, x8, x9, x10, x11, x12, x13, x14, x15, .fz (.lst ((a ++ R).map encD)), .fz (.int x), x18, x19], rfl, .inl (by simp -implicitDefEqProofs [b_law_v15_2, hrg, qq, szl, hR, ad, -addP_l, -List.map_append]), _, rfl⟩)
  rw [foldl_flat, List.nil_append] at e
  exact ⟨y17, e⟩
theorem e22 (h148 : Told (F 148)) (h87 : S_lrocks (F 87)) (h163 : S_cross (F 163)) {f r s : Dr} {ns : List Int} {c : Int} {by_ : Bool} (hl : Ln f r) (hs : Sh s) (nr : (100001, 0) ≠ r) (hc : c = crs (sub r f) (sub s f)) (hsc : ∀ v : Dr, (-1000 ≤ v.1 ∧ v.1 ≤ 1000) ∧ (-1000 ≤ v.2 ∧ v.2 ≤ 1000) → coB (s, v) = true)
    (hlk : (-1000 ≤ (sub r f).1 ∧ (sub r f).1 ≤ 1000) ∧ (-1000 ≤ (sub r f).2 ∧ (sub r f).2 ≤ 1000)) (hb : by_ = decide (dt (sub r f) (sub s f) < 0)) (x5 x7 x8 x10 x11 x12 x13 x14 x15 x16 x17 x18 x19 : Sl) :
    b_law_v15_t22 F [.fz (.src (ns.map .int)), .fz (encD f), .fz (encD r), .fz (encD (sub r f)), .fz (encD s), x5, .fz (.int c), x7, x8, .fz (.bl by_), x10, x11, x12, x13, x14, x15, x16, x17, x18, x19] = .ret (.bl true) := by
  have k := e23 h148 h87 hl hs nr hc (ns := ns) (hsc (1, 0) ⟨by decide, by decide⟩)
  by_cases h0 : c = 0
  · cases hbb : by_ with
    | false =>
      simp -implicitDefEqProofs [b_law_v15_t22, h0]
      rw [h0] at k
      exact k _ _ _ _ _ _ _ _ _ _ _ _ _ _ _
    | true =>
      have hbt : dt (sub r f) (sub s f) < 0 := by rw [hbb] at hb; simpa using hb.symm
      have hz : crs (sub r f) (sub s f) = 0 := by rw [← hc]; exact h0
      have v4 := h148.v4 f r s hl hs hz
      rw [speeds_congr (on_eq hl hz hbt)] at v4
      obtain ⟨y17, L⟩ := law_speeds (F := F) h163 (look := sub r f) (.fz (.src (ns.map .int))) (.fz (encD f)) (.fz (encD r)) (.fz (encD s)) x5 (.fz (.int 0)) x7 x8 (.fz (.bl true)) x10 x11 x12 x13 x14 x15 x18 x19 (fun xs => by simp) x17
      have v6 := h148.v6 (s, (sub r f).2, -(sub r f).1) f r hl (hsc _ (by simp only; omega)) hs.ns ⟨by simp only; omega, by simp only; omega⟩
      have nq : ¬ crs (sub r f) ((sub r f).2, -(sub r f).1) = 0 := by
        have := nz_sq hl.look.2
        have e : crs (sub r f) ((sub r f).2, -(sub r f).1) = -((sub r f).1 * (sub r f).1 + (sub r f).2 * (sub r f).2) := by unfold crs; simp only; grind
        omega
      simp only at v6
      rw [decide_eq_false nq, Bool.and_false, Bool.false_and] at v6
      have hmem : ∀ v ∈ speedsOf (fun v => decide (crs (sub r f) v = 0) && decide (0 < dt v (sub r f))) 4, F 148 [.int 6, encC (s, v), encD f, encD r, .int 0] = .ok (vV (.bl true)) := fun v hv => by
        obtain ⟨a, b⟩ := speeds_mem hv
        have v6 := h148.v6 (s, v) f r hl (hsc _ (by omega)) hs.ns ⟨by simp only; omega, by simp only; omega⟩
        simp only [Bool.and_eq_true, decide_eq_true_eq] at a
        simp only [hz, a.1, decide_true, Bool.and_self, Bool.true_and] at v6
        unfold aheadB at v6
        rw [decide_eq_true hbt] at v6
        exact v6
      generalize speedsOf (fun v => decide (crs (sub r f) v = 0) && decide (0 < dt v (sub r f))) 4 = SP at *
      obtain ⟨r', e, y18, rfl⟩ := forL_fold (t := tN 18) (s := b_law_v15_3 F) (enc := encD) (f := fun (_ : Unit) (_ : Dr) => ()) (xs := SP.take 2) (g0 := ()) (r0 := [.fz (.src (ns.map .int)), .fz (encD f), .fz (encD r), .fz (encD (sub r f)), .fz (encD s), x5, .fz (.int 0), x7, x8, .fz (.bl true), x10, x11, x12, x13, x14, x15, .fz (encDs SP), y17, x18, x19])
        (fun _ rr => ∃ y18, rr = [.fz (.src (ns.map .int)), .fz (encD f), .fz (encD r), .fz (encD (sub r f)), .fz (encD s), x5, .fz (.int 0), x7, x8, .fz (.bl true), x10, x11, x12, x13, x14, x15, .fz (encDs SP), y17, y18, x19]) ⟨_, rfl⟩ (fun i v a rr hx ha ⟨y18, er⟩ => by
          subst er
          have hv := hmem v (List.mem_of_mem_take (List.mem_of_getElem? hx))
          have ec : PV.tup [.int s.1, .int s.2, .int v.1, .int v.2] = encC (s, v) := rfl
          exact ⟨_, [.fz (.src (ns.map .int)), .fz (encD f), .fz (encD r), .fz (encD (sub r f)), .fz (encD s), x5, .fz (.int 0), x7, x8, .fz (.bl true), x10, x11, x12, x13, x14, x15, .fz (encDs SP), y17, .fz (encD v), x19], rfl, .inl (by simp -implicitDefEqProofs [b_law_v15_3, encD_0, encD_1, ec, hv, szl, vV_S, ok_b]), _, rfl⟩)
      have ec : PV.tup [.int s.1, .int s.2, .int (sub r f).2, .int (-(sub r f).1)] = encC (s, (sub r f).2, -(sub r f).1) := rfl
      have hrg : rg2 (-4) 5 = .ok ((span 4).map .int) := rg2_span (m := 4) (by decide)
      have sl : slP (encDs SP) none (some 2) = some (.lst ((SP.take 2).map encD)) := by
        show slP (.lst (SP.map encD)) none (some ((2 : Nat) : Int)) = _
        rw [slP_map, cut_to]
      rw [h0] at k
      simp -implicitDefEqProofs [b_law_v15_t22, h0, hrg, L, v4, vV_S, ok_Ds, encD_0, encD_1, ec, v6, ok_b, sl, szl, e, -List.map_take]
      exact k _ _ _ _ _ _ _ _ _ _ _ _ _ _ _
  · simp -implicitDefEqProofs [b_law_v15_t22, h0]
    exact k _ _ _ _ _ _ _ _ _ _ _ _ _ _ _
end L23
namespace L23
open PySem PySem.Spec PyProof.Rows L2 VL PF PH WY
variable {F : Nat → List PV → R PV}
/-- what the law knows of its line and ship -/
structure Kn (f r s : Dr) (c : Int) : Prop where
  hl : Ln f r
  hs : Sh s
  nr : (100001, 0) ≠ r
  hc : c = crs (sub r f) (sub s f)
  hsc : ∀ v : Dr, (-1000 ≤ v.1 ∧ v.1 ≤ 1000) ∧ (-1000 ≤ v.2 ∧ v.2 ≤ 1000) → coB (s, v) = true
  hlk : (-1000 ≤ (sub r f).1 ∧ (sub r f).1 ≤ 1000) ∧ (-1000 ≤ (sub r f).2 ∧ (sub r f).2 ≤ 1000)
theorem tm_cross (b s : Int) : PV.tm 63 (crossV b s) = true := by
  unfold crossV
  split
  · rw [tm_t, tms_S, tms_S, tms_0, tm_i, tm_i]; rfl
  · split
    · exact tm_llow 62 _ _
    · exact tm_n _
theorem e16 (h13 : S_cell (F 13)) (h148 : Told (F 148)) (h87 : S_lrocks (F 87)) (h163 : S_cross (F 163)) (h18 : S_lcourse (F 18)) (h19 : S_lcross (F 19)) (h55 : S_llow (F 55)) {f r s : Dr} {ns : List Int} {c : Int} {by_ : Bool} (K : Kn f r s c) (hb : by_ = decide (dt (sub r f) (sub s f) < 0)) (x5 x7 x8 x10 x11 x12 x13 x14 x15 x16 x17 x18 x19 : Sl) :
    b_law_v15_t16 F [.fz (.src (ns.map .int)), .fz (encD f), .fz (encD r), .fz (encD (sub r f)), .fz (encD s), x5, .fz (.int c), x7, x8, .fz (.bl by_), x10, x11, x12, x13, x14, x15, x16, x17, x18, x19] = .ret (.bl true) := by
  have c4 := h13 ns 4
  simp only [Int.cast_ofNat_Int] at c4
  obtain ⟨co, e18, b1, b2⟩ := h18 (ab (cell ns 4)) 40 4 (by decide) (by decide)
  simp only [Int.cast_ofNat_Int] at e18 b1 b2
  have n1 : Nr co.1 := ⟨by omega, by omega⟩
  have n2 : Nr co.2 := ⟨by omega, by omega⟩
  have hco : coB co = true := coB_of (by omega) (by omega)
  have e19 := h19 f r co.1 (n1.sub K.hl.nf).sm
  have e163 := h163 (sub r f) co.2 n2.sx.sm
  have v3 := h148.v3 co f r K.hl hco n1 n2
  have g1 := K.hl.look.1.crs (n1.sub K.hl.nf)
  have g2 := K.hl.look.1.crs n2.sx
  have ok := ok_of (tm_cross (crs (sub r f) (sub co.1 f)) (crs (sub r f) co.2))
  have k := e22 h148 h87 h163 K.hl K.hs K.nr K.hc K.hsc K.hlk hb (ns := ns)
  unfold crossV at ok v3
  generalize crs (sub r f) (sub co.1 f) = b at *
  generalize crs (sub r f) co.2 = t at *
  have m1 : mulOk (-b) t = true := mulOk_l ⟨by omega, by omega⟩
  have e01 : PV.tup [.int 0, .int 1] = PV.tup [.int 0, .int 1] := rfl
  by_cases k1 : b = 0
  · by_cases k2 : t = 0
    · rw [if_pos ⟨k1, k2⟩] at ok v3
      simp -implicitDefEqProofs [b_law_v15_t16, b_law_v15_t17, b_law_v15_t18, b_law_v15_t19, b_law_v15_t20, b_law_v15_t21, c4, absP_ab, -absP_i, e18, slC_to, slC_from, e19, e163, k1, k2, szl, v3, vV_S, ok]
      exact k _ _ _ _ _ _ _ _ _ _ _ _ _
    · rw [if_neg (fun z => k2 z.2)] at ok v3
      have k3 : (0 : Int) ≤ -b * t := by rw [k1]; simp
      rw [if_pos ⟨k2, k3⟩] at ok v3
      have e55 := h55 (-b) t k2 (by omega)
      rw [k1] at ok v3 e55 e19 m1
      simp only [Int.neg_zero] at ok v3 e55 m1
      simp -implicitDefEqProofs [b_law_v15_t16, b_law_v15_t17, b_law_v15_t18, b_law_v15_t19, b_law_v15_t20, b_law_v15_t21, c4, absP_ab, -absP_i, e18, slC_to, slC_from, e19, e163, k1, k2, szl, v3, vV_S, ok, e55, m1]
      exact k _ _ _ _ _ _ _ _ _ _ _ _ _
  · rw [if_neg (fun z => k1 z.1)] at ok v3
    by_cases k2 : t = 0
    · rw [if_neg (fun z => z.1 k2)] at ok v3
      simp -implicitDefEqProofs [b_law_v15_t16, b_law_v15_t17, b_law_v15_t18, b_law_v15_t19, b_law_v15_t20, b_law_v15_t21, c4, absP_ab, -absP_i, e18, slC_to, slC_from, e19, e163, k1, k2, szl, v3, vV_S, ok]
      exact k _ _ _ _ _ _ _ _ _ _ _ _ _
    · by_cases k3 : (0 : Int) ≤ -b * t
      · rw [if_pos ⟨k2, k3⟩] at ok v3
        have e55 := h55 (-b) t k2 (by omega)
        simp -implicitDefEqProofs [b_law_v15_t16, b_law_v15_t17, b_law_v15_t18, b_law_v15_t19, b_law_v15_t20, b_law_v15_t21, c4, absP_ab, -absP_i, e18, slC_to, slC_from, e19, e163, k1, k2, k3, szl, v3, vV_S, ok, e55, m1, -Int.neg_mul]
        exact k _ _ _ _ _ _ _ _ _ _ _ _ _
      · rw [if_neg (fun z => k3 z.2)] at ok v3
        simp -implicitDefEqProofs [b_law_v15_t16, b_law_v15_t17, b_law_v15_t18, b_law_v15_t19, b_law_v15_t20, b_law_v15_t21, c4, absP_ab, -absP_i, e18, slC_to, slC_from, e19, e163, k1, k2, k3, szl, v3, vV_S, ok, m1, -Int.neg_mul]
        exact k _ _ _ _ _ _ _ _ _ _ _ _ _
theorem okS_open (x : Int) : okS (openS x) = true := by
  unfold openS
  (repeat' split) <;> decide +kernel
theorem e13 (h13 : S_cell (F 13)) (h148 : Told (F 148)) (h87 : S_lrocks (F 87)) (h163 : S_cross (F 163)) (h18 : S_lcourse (F 18)) (h19 : S_lcross (F 19)) (h55 : S_llow (F 55)) {f r s : Dr} {ns : List Int} {c : Int} {by_ : Bool} (K : Kn f r s c) (hb : by_ = decide (dt (sub r f) (sub s f) < 0)) (x5 x7 x8 x10 x11 x12 x13 x14 x15 x16 x17 x18 x19 : Sl) :
    b_law_v15_t13 F [.fz (.src (ns.map .int)), .fz (encD f), .fz (encD r), .fz (encD (sub r f)), .fz (encD s), x5, .fz (.int c), x7, x8, .fz (.bl by_), x10, x11, x12, x13, x14, x15, x16, x17, x18, x19] = .ret (.bl true) := by
  have k := e16 h13 h148 h87 h163 h18 h19 h55 K hb (ns := ns)
  have v2 := h148.v2 f r s K.hl K.hs
  unfold aheadB at v2
  rw [← hb] at v2
  have v1 := h148.v1 f r s K.hl K.hs
  rw [← K.hc] at v1
  have ok := ok_st (okS_open c)
  unfold openS at v1 ok
  cases by_ with
  | false =>
    simp -implicitDefEqProofs [b_law_v15_t13, b_law_v15_t14, b_law_v15_t15, v2, vV_S, vV_1, ok_b, szl]
    exact k _ _ _ _ _ _ _ _ _ _ _ _ _
  | true =>
    rcases Int.lt_trichotomy c 0 with h | h | h
    · rw [if_neg (by omega), if_pos h] at v1 ok
      have h2 : ¬ 0 < c := by omega
      simp -implicitDefEqProofs [b_law_v15_t13, b_law_v15_t14, b_law_v15_t15, v2, vV_S, vV_1, ok_b, szl, h, h2, v1, ok]
      exact k _ _ _ _ _ _ _ _ _ _ _ _ _
    · rw [if_pos h] at v1 ok
      subst h
      simp -implicitDefEqProofs [b_law_v15_t13, b_law_v15_t14, b_law_v15_t15, v2, vV_S, vV_1, ok_b, szl, v1, ok]
      exact k _ _ _ _ _ _ _ _ _ _ _ _ _
    · rw [if_neg (by omega), if_neg (by omega)] at v1 ok
      have h2 : ¬ c < 0 := by omega
      simp -implicitDefEqProofs [b_law_v15_t13, b_law_v15_t14, b_law_v15_t15, v2, vV_S, vV_1, ok_b, szl, h, h2, v1, ok]
      exact k _ _ _ _ _ _ _ _ _ _ _ _ _
theorem okS_word (x : Int) : okS (wordS x) = true := by
  unfold wordS
  (repeat' split) <;> decide +kernel
theorem tm_off (n : Nat) (p w s : Dr) : PV.tm (n + 2) (offV p w s) = true := by
  unfold offV
  rw [tm_t, tms_S, tms_S, tms_0, tm_s, okS_word, tm_low]
  rfl
theorem e6 (h13 : S_cell (F 13)) (h148 : Told (F 148)) (h87 : S_lrocks (F 87)) (h163 : S_cross (F 163)) (h18 : S_lcourse (F 18)) (h19 : S_lcross (F 19)) (h55 : S_llow (F 55)) {f r s : Dr} {ns : List Int} {c : Int} (K : Kn f r s c) (x5 x6 x7 x8 x9 x10 x11 x12 x13 x14 x15 x16 x17 x18 x19 : Sl) :
    b_law_v15_t6 F [.fz (.src (ns.map .int)), .fz (encD f), .fz (encD r), .fz (encD (sub r f)), .fz (encD s), x5, x6, x7, x8, x9, x10, x11, x12, x13, x14, x15, x16, x17, x18, x19] = .ret (.bl true) := by
  have e19 := h19 f r s (K.hs.ns.sub K.hl.nf).sm
  rw [← K.hc] at e19
  have v0 := h148.v0 f r s K.hl K.hs
  have okv := ok_of (tm_off 61 f (sub r f) s)
  have okl := tm_low 63 (c * c) (dt (sub r f) (sub r f)).toNat
  have okl2 := eqB_self okl
  obtain ⟨l1, l2⟩ := K.hl.look
  have d1 := dt_self l1 l2
  have g1 := l1.crs (K.hs.ns.sub K.hl.nf)
  have m1 : mulOk c c = true := mulOk_l ⟨by rw [K.hc]; omega, by rw [K.hc]; omega⟩
  have ma : ∀ x, mulOk x (sub r f).1 = true := fun x => mk1 l1.sm x
  have mb : ∀ x, mulOk x (sub r f).2 = true := fun x => mk2 l1.sm x
  have e55 := h55 (c * c) (dt (sub r f) (sub r f)) (by omega) (by omega)
  have e55' : llowV (c * c) (dt (sub r f) (sub r f)) = lowT (c * c) (dt (sub r f) (sub r f)).toNat := by
    rw [← low_nn, Int.toNat_of_nonneg (by omega)]
  rw [e55'] at e55
  have eLL : (sub r f).1 * (sub r f).1 + (sub r f).2 * (sub r f).2 = dt (sub r f) (sub r f) := rfl
  have eB : (s.1 - f.1) * (sub r f).1 + (s.2 - f.2) * (sub r f).2 = dt (sub r f) (sub s f) := by unfold dt sub; simp only; grind
  unfold offV at v0 okv
  rw [← K.hc] at v0 okv
  have i0 : ∀ a b, ixP (PV.tup [a, b]) (.int 1) = some b := fun _ _ => rfl
  have kk : ∀ b : Bool, b = decide (dt (sub r f) (sub s f) < 0) → _ := fun b hb => e13 h13 h148 h87 h163 h18 h19 h55 K hb (ns := ns)
  rcases Classical.em (dt (sub r f) (sub s f) < 0) with hd | hd
  · have k := kk true (by simp [hd])
    clear kk
    rcases Int.lt_trichotomy c 0 with h | h | h
    · have hw : wordS c = "right" := by unfold wordS; rw [if_neg (by omega), if_neg (by omega)]
      have h1 : ¬ c = 0 := by omega
      have h2 : ¬ 0 < c := by omega
      rw [hw] at v0 okv
      simp -implicitDefEqProofs [b_law_v15_t6, b_law_v15_t7, b_law_v15_t8, b_law_v15_t9, b_law_v15_t10, b_law_v15_t11, b_law_v15_t12, e19, encD_0, encD_1, ma, mb, eLL, szl, eB, v0, vV_0, vV_1, vV_S, okl2, okv, hd, h1, h2, m1, e55]
      exact k _ _ _ _ _ _ _ _ _ _ _ _ _
    · have hw : wordS c = "on" := by unfold wordS; rw [if_pos h]
      have hz : lowT (c * c) (dt (sub r f) (sub r f)).toNat = .tup [.int 0, .int 1] := by
        rw [h, ← low_nn]
        exact low_zero (by omega)
      rw [hw, hz] at v0 okv
      rw [hz] at okl2
      subst h
      simp -implicitDefEqProofs [b_law_v15_t6, b_law_v15_t7, b_law_v15_t8, b_law_v15_t9, b_law_v15_t10, b_law_v15_t11, b_law_v15_t12, e19, encD_0, encD_1, ma, mb, eLL, szl, eB, v0, vV_0, vV_1, vV_S, okl2, okv, hd]
      exact k _ _ _ _ _ _ _ _ _ _ _ _ _
    · have hw : wordS c = "left" := by unfold wordS; rw [if_neg (by omega), if_pos h]
      have h1 : ¬ c = 0 := by omega
      rw [hw] at v0 okv
      simp -implicitDefEqProofs [b_law_v15_t6, b_law_v15_t7, b_law_v15_t8, b_law_v15_t9, b_law_v15_t10, b_law_v15_t11, b_law_v15_t12, e19, encD_0, encD_1, ma, mb, eLL, szl, eB, v0, vV_0, vV_1, vV_S, okl2, okv, hd, h1, h, m1, e55]
      exact k _ _ _ _ _ _ _ _ _ _ _ _ _
  · have k := kk false (by simp [hd])
    clear kk
    rcases Int.lt_trichotomy c 0 with h | h | h
    · have hw : wordS c = "right" := by unfold wordS; rw [if_neg (by omega), if_neg (by omega)]
      have h1 : ¬ c = 0 := by omega
      have h2 : ¬ 0 < c := by omega
      rw [hw] at v0 okv
      simp -implicitDefEqProofs [b_law_v15_t6, b_law_v15_t7, b_law_v15_t8, b_law_v15_t9, b_law_v15_t10, b_law_v15_t11, b_law_v15_t12, e19, encD_0, encD_1, ma, mb, eLL, szl, eB, v0, vV_0, vV_1, vV_S, okl2, okv, hd, h1, h2, m1, e55]
      exact k _ _ _ _ _ _ _ _ _ _ _ _ _
    · have hw : wordS c = "on" := by unfold wordS; rw [if_pos h]
      have hz : lowT (c * c) (dt (sub r f) (sub r f)).toNat = .tup [.int 0, .int 1] := by
        rw [h, ← low_nn]
        exact low_zero (by omega)
      rw [hw, hz] at v0 okv
      rw [hz] at okl2
      subst h
      simp -implicitDefEqProofs [b_law_v15_t6, b_law_v15_t7, b_law_v15_t8, b_law_v15_t9, b_law_v15_t10, b_law_v15_t11, b_law_v15_t12, e19, encD_0, encD_1, ma, mb, eLL, szl, eB, v0, vV_0, vV_1, vV_S, okl2, okv, hd]
      exact k _ _ _ _ _ _ _ _ _ _ _ _ _
    · have hw : wordS c = "left" := by unfold wordS; rw [if_neg (by omega), if_pos h]
      have h1 : ¬ c = 0 := by omega
      rw [hw] at v0 okv
      simp -implicitDefEqProofs [b_law_v15_t6, b_law_v15_t7, b_law_v15_t8, b_law_v15_t9, b_law_v15_t10, b_law_v15_t11, b_law_v15_t12, e19, encD_0, encD_1, ma, mb, eLL, szl, eB, v0, vV_0, vV_1, vV_S, okl2, okv, hd, h1, h, m1, e55]
      exact k _ _ _ _ _ _ _ _ _ _ _ _ _
end L23
namespace L23
open PySem PySem.Spec PyProof.Rows L2 VL PF PH WY
variable {F : Nat → List PV → R PV}
def Bd (n : Int) (d : Dr) : Prop := (-n ≤ d.1 ∧ d.1 ≤ n) ∧ (-n ≤ d.2 ∧ d.2 ≤ n)
theorem Bd.pl {n : Int} {d : Dr} (h : Bd n d) (hn : n ≤ 1000) : plB d = true := by
  obtain ⟨⟨a, b⟩, c, e⟩ := h
  unfold plB inPl
  simp only [Bool.and_eq_true, decide_eq_true_eq]
  omega
theorem Bd.nr {n : Int} {d : Dr} (h : Bd n d) (hn : n ≤ 1000) : Nr d := by
  obtain ⟨⟨a, b⟩, c, e⟩ := h
  exact ⟨⟨by omega, by omega⟩, by omega, by omega⟩
theorem mk_kn {f r s : Dr} (hf : Bd 20 f) (hr : Bd 22 r) (hs : Bd 400 s) (n : f ≠ r) : Kn f r s (crs (sub r f) (sub s f)) := by
  refine ⟨⟨n, hf.pl (by decide), hr.pl (by decide), hf.nr (by decide), hr.nr (by decide)⟩, ⟨hs.pl (by decide), hs.nr (by decide)⟩, ?_, rfl, fun v hv => coB_of ?_ hv, ?_⟩
  · intro z
    rw [← z] at hr
    have := hr.1.2
    simp at this
  · obtain ⟨⟨a, b⟩, c, e⟩ := hs
    simp only
    omega
  · obtain ⟨⟨a, b⟩, c, e⟩ := hf
    obtain ⟨⟨a', b'⟩, c', e'⟩ := hr
    simp only [sub]
    omega
theorem law_eval (h13 : S_cell (F 13)) (h105 : S_lship (F 105)) (h148 : Told (F 148)) (h87 : S_lrocks (F 87)) (h163 : S_cross (F 163)) (h18 : S_lcourse (F 18)) (h19 : S_lcross (F 19)) (h55 : S_llow (F 55)) (ns : List Int) :
    outR (b_law_v15 F (startE 20 [.src (ns.map .int)])) = .ok (.bl true) := by
  have c0 := h13 ns 0
  have c1 := h13 ns 1
  have c2 := h13 ns 2
  have c3 := h13 ns 3
  simp only [Int.natCast_zero, Int.natCast_one, Int.cast_ofNat_Int] at c0 c1 c2 c3
  obtain ⟨f, ef, bf⟩ := h105 (ab (cell ns 0)) 20 (by decide)
  obtain ⟨r0, er, br⟩ := h105 (ab (cell ns 1)) 20 (by decide)
  obtain ⟨s0, es, bs⟩ := h105 (ab (cell ns 2)) 40 (by decide)
  simp only [Int.cast_ofNat_Int] at ef er es bf br bs
  obtain ⟨r, hr⟩ : ∃ r : Dr, r = if f = r0 then (f.1 + 1, f.2 + 2) else r0 := ⟨_, rfl⟩
  have nr : f ≠ r := by
    rw [hr]
    split
    · intro z
      have := congrArg Prod.fst z
      simp only at this
      omega
    · assumption
  have bR : Bd 22 r := by
    rw [hr]
    unfold Bd
    split
    · simp only; omega
    · omega
  have bF : Bd 20 f := bf
  obtain ⟨k, hk⟩ : ∃ k : Int, k = cell ns 3 / 2 % 5 - 1 := ⟨_, rfl⟩
  have hk5 : -1 ≤ k ∧ k ≤ 3 := by omega
  have kb : ∀ x : Int, -42 ≤ x → x ≤ 42 → -126 ≤ k * x ∧ k * x ≤ 126 := by
    intro x h1 h2
    have : k = -1 ∨ k = 0 ∨ k = 1 ∨ k = 2 ∨ k = 3 := by omega
    rcases this with h | h | h | h | h <;> subst h <;> omega
  have K1 := mk_kn bF bR (s := (f.1 - k * (sub r f).1, f.2 - k * (sub r f).2)) (by
    obtain ⟨⟨a, b⟩, c, e⟩ := bF
    obtain ⟨⟨a', b'⟩, c', e'⟩ := bR
    have q1 := kb (sub r f).1 (by simp only [sub]; omega) (by simp only [sub]; omega)
    have q2 := kb (sub r f).2 (by simp only [sub]; omega) (by simp only [sub]; omega)
    unfold Bd
    simp only
    omega) nr
  have K2 := mk_kn bF bR (s := s0) (by unfold Bd; omega) nr
  have E1 := e6 h13 h148 h87 h163 h18 h19 h55 K1 (ns := ns)
  have E2 := e6 h13 h148 h87 h163 h18 h19 h55 K2 (ns := ns)
  have two : (2 : Int) < bigI := bigI_of (by decide)
  have mk : ∀ x, mulOk k x = true := fun x => mulOk_l ⟨by omega, by omega⟩
  have e2 : b_law_v15_t2 F [.fz (.src (ns.map .int)), .fz (encD f), .fz (encD r0), .no, .no, .no, .no, .no, .no, .no, .no, .no, .no, .no, .no, .no, .no, .no, .no, .no] =
      b_law_v15_t3 F [.fz (.src (ns.map .int)), .fz (encD f), .fz (encD r), .no, .no, .no, .no, .no, .no, .no, .no, .no, .no, .no, .no, .no, .no, .no, .no, .no] := by
    by_cases h : f = r0
    · rw [if_pos h] at hr
      rw [hr, ← h]
      simp -implicitDefEqProofs [b_law_v15_t2, eqB_D, encD_0, encD_1, szl, eD]
    · rw [if_neg h] at hr
      rw [hr]
      simp -implicitDefEqProofs [b_law_v15_t2, eqB_D, h]
  have el : PV.tup [.int (r.1 - f.1), .int (r.2 - f.2)] = encD (sub r f) := rfl
  by_cases h3 : cell ns 3 % 2 = 1
  · simp -implicitDefEqProofs [b_law_v15, b_law_v15_t1, c0, c1, absP_ab, -absP_i, ef, er, e2]
    simp -implicitDefEqProofs [b_law_v15_t3, b_law_v15_t4, b_law_v15_t5, c2, c3, absP_ab, -absP_i, encD_0, encD_1, el, szl, es, h3, two, ← hk, mk, eD, E1]
  · simp -implicitDefEqProofs [b_law_v15, b_law_v15_t1, c0, c1, absP_ab, -absP_i, ef, er, e2]
    simp -implicitDefEqProofs [b_law_v15_t3, b_law_v15_t4, b_law_v15_t5, c2, c3, absP_ab, -absP_i, encD_0, encD_1, el, szl, es, h3, E2]
variable (d : Nat)
theorem t13 : S_cell (FT (d + 1) 13) := sp_cell (FT d)
theorem t22 : S_draw (FT (d + 1) 22) := sp_draw (FT d)
theorem t105 : S_lship (FT (d + 2) 105) := sp_lship (F := FT (d + 1)) (t22 d)
theorem t18 : S_lcourse (FT (d + 2) 18) := sp_lcourse (F := FT (d + 1)) (t22 d)
theorem t163 : S_cross (FT (d + 1) 163) := sp_cross_l (FT d)
theorem t285 : S_cross (FT (d + 1) 285) := sp_cross (FT d)
theorem t296 : S_dot (FT (d + 1) 296) := sp_dot (FT d)
theorem t330 : S_gcd (FT (d + 1) 330) := sp_gcd (FT d)
theorem t453 : S_lowest (FT (d + 2) 453) := sp_lowest (F := FT (d + 1)) (t330 d)
theorem t55 : S_llow (FT (d + 1) 55) := sp_llow (FT d)
theorem t242 : S_place_ck (FT (d + 1) 242) := sp_place_ck (FT d)
theorem t646 : S_way_between (FT (d + 1) 646) := sp_way_between (FT d)
theorem t445 : S_way_between (FT (d + 2) 445) := sp_line_way (F := FT (d + 1)) (t646 d)
theorem t577 : S_side_of' (FT (d + 3) 577) := sp_side_of (F := FT (d + 2)) (t646 (d + 1)) (t445 d) (t285 (d + 1))
theorem t659 : S_word_of (FT (d + 1) 659) := sp_word_of (FT d)
theorem t480 : S_off_by (FT (d + 3) 480) := sp_off_by (F := FT (d + 2)) (t646 (d + 1)) (t285 (d + 1)) (t659 (d + 1)) (t453 d) (t296 (d + 1))
theorem t233 : S_check_line (FT (d + 2) 233) := sp_check_line (F := FT (d + 1)) (t242 d)
theorem t248 : S_check_ship (FT (d + 3) 248) := sp_check_ship (F := FT (d + 2)) (t242 (d + 1)) (t233 d)
theorem t355 : S_is_course (FT (d + 1) 355) := sp_is_course (FT d)
theorem t225 : S_check_course (FT (d + 2) 225) := sp_check_course (F := FT (d + 1)) (t355 d)
theorem t503 : S_place_by (FT (d + 1) 503) := sp_place_by (FT d)
theorem t346 : S_is_ahead (FT (d + 3) 346) := sp_is_ahead (F := FT (d + 2)) (t646 (d + 1)) (t445 d) (t296 (d + 1))
theorem t481 : OffLine (FT (d + 4) 481) := sp_off_line (F := FT (d + 3)) (t248 d) (t445 (d + 1)) (t480 d)
theorem t483 : S_opens (FT (d + 4) 483) := sp_opens (F := FT (d + 3)) (t248 d) (t646 (d + 2)) (t285 (d + 2))
theorem t176 : S_ahead (FT (d + 4) 176) := sp_ahead (F := FT (d + 3)) (t248 d) (t346 d)
theorem t286 : Crosses (FT (d + 4) 286) := sp_crosses (F := FT (d + 3)) (t233 (d + 1)) (t225 (d + 1)) (t577 d) (t445 (d + 1)) (t285 (d + 2)) (t453 (d + 1))
theorem t582 : SpeedsOn (FT (d + 4) 582) := sp_speeds (F := FT (d + 3)) (t248 d) (fun x => sp_check_between (FT (d + 2)) x 1 100) (t646 (d + 2)) (t577 d) (t285 (d + 2)) (t296 (d + 2))
theorem t533 : SafeSide (FT (d + 4) 533) := sp_safe (F := FT (d + 3)) (t233 (d + 1)) (t242 (d + 2)) (t577 d) (t659 (d + 2))
theorem t387 : S_keeps (FT (d + 4) 387) := sp_keeps (F := FT (d + 3)) (t233 (d + 1)) (t225 (d + 1)) (t577 d) (t445 (d + 1)) (t285 (d + 2)) (t346 d) (t503 (d + 2))
theorem t148 : Told (FT (d + 5) 148) := sp_told (F := FT (d + 4)) (t481 d) (t483 d) (t176 d) (t286 d) (t582 d) (t533 d) (t387 d)
theorem t19 : S_lcross (FT (d + 2) 19) := sp_lcross (F := FT (d + 1)) (t163 d)
theorem t87 : S_lrocks (FT (d + 6) 87) := sp_lrocks (F := FT (d + 5)) (t13 (d + 4)) (t105 (d + 3)) (t19 (d + 3)) (t148 d)
theorem law_pure (ns : List Int) (h1 : ns.length ≤ 63) (h2 : ∀ z ∈ ns, Builtin.Int.intBits z ≤ 1048576) : FT (23 + 1) 413 [.src (ns.map .int)] = .ok (.bl true) :=
  law_eval (F := FT 23) (t13 22) (t105 21) (t148 18) (t87 17) (t163 22) (t18 21) (t19 21) (t55 22) ns
end L23
open PySem PySem.W PyProof.Rows in
set_option maxRecDepth 100000 in
set_option maxHeartbeats 0 in
theorem PySem.Challenge.cw_lightbook_k23_leading_lines_holds : PySem.Challenge.rw_lightbook_k23_leading_lines.Holds := by
  w_on; o_law; k_head; (case hw => w_witness2)
  k_fill
  refine L2.walk_ofB (l := PySem.Challenge.rw_lightbook_k23_leading_lines) (n := 63) (k := 26) (x := "script") (CX := fun w => L2.CX PySem.Challenge.rw_lightbook_k23_leading_lines.prog w) (sp := fun w => VL.spLaw _) rfl (by decide) rfl ⟨rfl, by decide, by decide⟩ (fun w h Y => PySem.W.kIn_of Y) ?F (fun _ _ a ns hl hb _ hS => ⟨a, ns, rfl, hS, hl, hb, fun _ => rfl⟩) VL.cx_no
  case F =>
    intro w mg fa h KX G hmg
    refine' L23.all_mk KX G hmg ?a_OutOfRange ?T_OutOfRange ?n_OutOfRange_label ?n_OutOfRange_value ?a_BadCourse ?T_BadCourse ?n_BadCourse_label ?a_SamePlace ?T_SamePlace ?n_SamePlace_label ?a_LightError ?e_BadCourse ?i_BadCourse ?t_BadCourse ?s_OutOfRange_BadCourse ?s_BadCourse_BadCourse ?s_SamePlace_BadCourse ?e_LightError ?i_LightError ?t_LightError ?s_OutOfRange_LightError ?s_BadCourse_LightError ?s_SamePlace_LightError ?e_OutOfRange ?i_OutOfRange ?t_OutOfRange ?s_OutOfRange_OutOfRange ?s_BadCourse_OutOfRange ?s_SamePlace_OutOfRange ?e_SamePlace ?i_SamePlace ?t_SamePlace ?s_OutOfRange_SamePlace ?s_BadCourse_SamePlace ?s_SamePlace_SamePlace ?ga_OutOfRange ?gg_OutOfRange ?ge_OutOfRange ?gh_OutOfRange ?z_abs ?z_bool ?z_int ?z_isinstance ?z_len ?z_list ?z_max ?z_range ?z_super ?z_tuple ?c_MOST_PARTv ?c_MOST_PLACEv ?c_MOST_SPEEDv ?g_check_between ?g_gcd_of ?g_lowest ?g_check_place ?g_cross ?g_dot ?g_way_between ?g_is_course ?g_check_course ?g_place_by ?g_check_line ?g_line_way ?g_side_of ?g_word_of ?g_off_by ?g_check_ship ?g_off_line ?g_opens ?g_is_ahead ?g_ahead_of ?g_crosses_line ?g_keeps_line ?g_speeds_on ?g_safe_side ?g__law_cell ?g__law_draw ?g__law_turn_of ?g__law_ship ?g__law_course ?g__law_lowest ?g__law_told ?g__law_cross ?g__law_rocks ?g_law L23.law_pure
    (case a_OutOfRange => k_is)
    (case T_OutOfRange => (refine' VL.exc_facts ?q2_lC ?q2_hbm ?q2_sa ?q2_exC ?q2_tyC ?q2_kC ?q2_ini ?q2_tyI ?q2_lI ?q2_code ?q2_lF ?q2_h2 ?q2_hfile ?q2_lc ?q2_sup ?q2_self ?q2_ve ?q2_noS ?q2_third; (case q2_lC => k_is); (case q2_sa => k_is); (case q2_exC => k_is); (case q2_tyC => k_is); (case q2_kC => k_is); (case q2_ini => k_is); (case q2_tyI => k_is); (case q2_lI => k_is); (case q2_code => k_is); (case q2_lF => k_is); (case q2_h2 => rfl); (case q2_hfile => rfl); (case q2_hbm => rfl); (case q2_lc => k_is); (case q2_sup => (refine' VL.sup_of ?q2_lC2 ?q2_lL ?q2_e ?q2_f; (case q2_lC2 => k_is); (case q2_e => rfl); (case q2_lL => k_is); (case q2_f => k_is))); (case q2_self => k_is); (case q2_ve => k_is); (case q2_noS => k_is); (case q2_third => k_is)))
    (case n_OutOfRange_label => k_is)
    (case n_OutOfRange_value => k_is)
    (case a_BadCourse => k_is)
    (case T_BadCourse => (refine' VL.exc_facts ?q6_lC ?q6_hbm ?q6_sa ?q6_exC ?q6_tyC ?q6_kC ?q6_ini ?q6_tyI ?q6_lI ?q6_code ?q6_lF ?q6_h2 ?q6_hfile ?q6_lc ?q6_sup ?q6_self ?q6_ve ?q6_noS ?q6_third; (case q6_lC => k_is); (case q6_sa => k_is); (case q6_exC => k_is); (case q6_tyC => k_is); (case q6_kC => k_is); (case q6_ini => k_is); (case q6_tyI => k_is); (case q6_lI => k_is); (case q6_code => k_is); (case q6_lF => k_is); (case q6_h2 => rfl); (case q6_hfile => rfl); (case q6_hbm => rfl); (case q6_lc => k_is); (case q6_sup => (refine' VL.sup_of ?q6_lC2 ?q6_lL ?q6_e ?q6_f; (case q6_lC2 => k_is); (case q6_e => rfl); (case q6_lL => k_is); (case q6_f => k_is))); (case q6_self => k_is); (case q6_ve => k_is); (case q6_noS => k_is); (case q6_third => k_is)))
    (case n_BadCourse_label => k_is)
    (case a_SamePlace => k_is)
    (case T_SamePlace => (refine' VL.exc_facts ?q9_lC ?q9_hbm ?q9_sa ?q9_exC ?q9_tyC ?q9_kC ?q9_ini ?q9_tyI ?q9_lI ?q9_code ?q9_lF ?q9_h2 ?q9_hfile ?q9_lc ?q9_sup ?q9_self ?q9_ve ?q9_noS ?q9_third; (case q9_lC => k_is); (case q9_sa => k_is); (case q9_exC => k_is); (case q9_tyC => k_is); (case q9_kC => k_is); (case q9_ini => k_is); (case q9_tyI => k_is); (case q9_lI => k_is); (case q9_code => k_is); (case q9_lF => k_is); (case q9_h2 => rfl); (case q9_hfile => rfl); (case q9_hbm => rfl); (case q9_lc => k_is); (case q9_sup => (refine' VL.sup_of ?q9_lC2 ?q9_lL ?q9_e ?q9_f; (case q9_lC2 => k_is); (case q9_e => rfl); (case q9_lL => k_is); (case q9_f => k_is))); (case q9_self => k_is); (case q9_ve => k_is); (case q9_noS => k_is); (case q9_third => k_is)))
    (case n_SamePlace_label => k_is)
    (case a_LightError => k_is)
    (case e_BadCourse => k_is)
    (case i_BadCourse => k_is)
    (case t_BadCourse => k_is)
    (case s_OutOfRange_BadCourse => first | k_is | rfl)
    (case s_BadCourse_BadCourse => first | k_is | rfl)
    (case s_SamePlace_BadCourse => first | k_is | rfl)
    (case e_LightError => k_is)
    (case i_LightError => k_is)
    (case t_LightError => k_is)
    (case s_OutOfRange_LightError => first | k_is | rfl)
    (case s_BadCourse_LightError => first | k_is | rfl)
    (case s_SamePlace_LightError => first | k_is | rfl)
    (case e_OutOfRange => k_is)
    (case i_OutOfRange => k_is)
    (case t_OutOfRange => k_is)
    (case s_OutOfRange_OutOfRange => first | k_is | rfl)
    (case s_BadCourse_OutOfRange => first | k_is | rfl)
    (case s_SamePlace_OutOfRange => first | k_is | rfl)
    (case e_SamePlace => k_is)
    (case i_SamePlace => k_is)
    (case t_SamePlace => k_is)
    (case s_OutOfRange_SamePlace => first | k_is | rfl)
    (case s_BadCourse_SamePlace => first | k_is | rfl)
    (case s_SamePlace_SamePlace => first | k_is | rfl)
    (case ga_OutOfRange => k_is)
    (case gg_OutOfRange => k_is)
    (case ge_OutOfRange => k_is)
    (case gh_OutOfRange => k_is)
    (case z_abs => (refine' VL.none_at KX G ?q40_a; k_is))
    (case z_bool => (refine' VL.none_at KX G ?q41_a; k_is))
    (case z_int => (refine' VL.none_at KX G ?q42_a; k_is))
    (case z_isinstance => (refine' VL.none_at KX G ?q43_a; k_is))
    (case z_len => (refine' VL.none_at KX G ?q44_a; k_is))
    (case z_list => (refine' VL.none_at KX G ?q45_a; k_is))
    (case z_max => (refine' VL.none_at KX G ?q46_a; k_is))
    (case z_range => (refine' VL.none_at KX G ?q47_a; k_is))
    (case z_super => (refine' VL.none_at KX G ?q48_a; k_is))
    (case z_tuple => (refine' VL.none_at KX G ?q49_a; k_is))
    (case c_MOST_PARTv => (intro cl; refine' VL.val_at KX G ?q50_a ?q50_w; (case q50_a => k_is); (case q50_w => exact .int _ _)))
    (case c_MOST_PLACEv => (intro cl; refine' VL.val_at KX G ?q51_a ?q51_w; (case q51_a => k_is); (case q51_w => exact .int _ _)))
    (case c_MOST_SPEEDv => (intro cl; refine' VL.val_at KX G ?q52_a ?q52_w; (case q52_a => k_is); (case q52_w => exact .int _ _)))
    (case g_check_between => (refine' VL.fun_at KX G ?q53_a ?q53_l ?q53_c ?q53_k; (case q53_a => k_is); (case q53_l => k_is); (case q53_c => k_is); (case q53_k => k_is)))
    (case g_gcd_of => (refine' VL.fun_at KX G ?q54_a ?q54_l ?q54_c ?q54_k; (case q54_a => k_is); (case q54_l => k_is); (case q54_c => k_is); (case q54_k => k_is)))
    (case g_lowest => (refine' VL.fun_at KX G ?q55_a ?q55_l ?q55_c ?q55_k; (case q55_a => k_is); (case q55_l => k_is); (case q55_c => k_is); (case q55_k => k_is)))
    (case g_check_place => (refine' VL.fun_at KX G ?q56_a ?q56_l ?q56_c ?q56_k; (case q56_a => k_is); (case q56_l => k_is); (case q56_c => k_is); (case q56_k => k_is)))
    (case g_cross => (refine' VL.fun_at KX G ?q57_a ?q57_l ?q57_c ?q57_k; (case q57_a => k_is); (case q57_l => k_is); (case q57_c => k_is); (case q57_k => k_is)))
    (case g_dot => (refine' VL.fun_at KX G ?q58_a ?q58_l ?q58_c ?q58_k; (case q58_a => k_is); (case q58_l => k_is); (case q58_c => k_is); (case q58_k => k_is)))
    (case g_way_between => (refine' VL.fun_at KX G ?q59_a ?q59_l ?q59_c ?q59_k; (case q59_a => k_is); (case q59_l => k_is); (case q59_c => k_is); (case q59_k => k_is)))
    (case g_is_course => (refine' VL.fun_at KX G ?q60_a ?q60_l ?q60_c ?q60_k; (case q60_a => k_is); (case q60_l => k_is); (case q60_c => k_is); (case q60_k => k_is)))
    (case g_check_course => (refine' VL.fun_at KX G ?q61_a ?q61_l ?q61_c ?q61_k; (case q61_a => k_is); (case q61_l => k_is); (case q61_c => k_is); (case q61_k => k_is)))
    (case g_place_by => (refine' VL.fun_at KX G ?q62_a ?q62_l ?q62_c ?q62_k; (case q62_a => k_is); (case q62_l => k_is); (case q62_c => k_is); (case q62_k => k_is)))
    (case g_check_line => (refine' VL.fun_at KX G ?q63_a ?q63_l ?q63_c ?q63_k; (case q63_a => k_is); (case q63_l => k_is); (case q63_c => k_is); (case q63_k => k_is)))
    (case g_line_way => (refine' VL.fun_at KX G ?q64_a ?q64_l ?q64_c ?q64_k; (case q64_a => k_is); (case q64_l => k_is); (case q64_c => k_is); (case q64_k => k_is)))
    (case g_side_of => (refine' VL.fun_at KX G ?q65_a ?q65_l ?q65_c ?q65_k; (case q65_a => k_is); (case q65_l => k_is); (case q65_c => k_is); (case q65_k => k_is)))
    (case g_word_of => (refine' VL.fun_at KX G ?q66_a ?q66_l ?q66_c ?q66_k; (case q66_a => k_is); (case q66_l => k_is); (case q66_c => k_is); (case q66_k => k_is)))
    (case g_off_by => (refine' VL.fun_at KX G ?q67_a ?q67_l ?q67_c ?q67_k; (case q67_a => k_is); (case q67_l => k_is); (case q67_c => k_is); (case q67_k => k_is)))
    (case g_check_ship => (refine' VL.fun_at KX G ?q68_a ?q68_l ?q68_c ?q68_k; (case q68_a => k_is); (case q68_l => k_is); (case q68_c => k_is); (case q68_k => k_is)))
    (case g_off_line => (refine' VL.fun_at KX G ?q69_a ?q69_l ?q69_c ?q69_k; (case q69_a => k_is); (case q69_l => k_is); (case q69_c => k_is); (case q69_k => k_is)))
    (case g_opens => (refine' VL.fun_at KX G ?q70_a ?q70_l ?q70_c ?q70_k; (case q70_a => k_is); (case q70_l => k_is); (case q70_c => k_is); (case q70_k => k_is)))
    (case g_is_ahead => (refine' VL.fun_at KX G ?q71_a ?q71_l ?q71_c ?q71_k; (case q71_a => k_is); (case q71_l => k_is); (case q71_c => k_is); (case q71_k => k_is)))
    (case g_ahead_of => (refine' VL.fun_at KX G ?q72_a ?q72_l ?q72_c ?q72_k; (case q72_a => k_is); (case q72_l => k_is); (case q72_c => k_is); (case q72_k => k_is)))
    (case g_crosses_line => (refine' VL.fun_at KX G ?q73_a ?q73_l ?q73_c ?q73_k; (case q73_a => k_is); (case q73_l => k_is); (case q73_c => k_is); (case q73_k => k_is)))
    (case g_keeps_line => (refine' VL.fun_at KX G ?q74_a ?q74_l ?q74_c ?q74_k; (case q74_a => k_is); (case q74_l => k_is); (case q74_c => k_is); (case q74_k => k_is)))
    (case g_speeds_on => (refine' VL.fun_at KX G ?q75_a ?q75_l ?q75_c ?q75_k; (case q75_a => k_is); (case q75_l => k_is); (case q75_c => k_is); (case q75_k => k_is)))
    (case g_safe_side => (refine' VL.fun_at KX G ?q76_a ?q76_l ?q76_c ?q76_k; (case q76_a => k_is); (case q76_l => k_is); (case q76_c => k_is); (case q76_k => k_is)))
    (case g__law_cell => (refine' VL.fun_at KX G ?q77_a ?q77_l ?q77_c ?q77_k; (case q77_a => k_is); (case q77_l => k_is); (case q77_c => k_is); (case q77_k => k_is)))
    (case g__law_draw => (refine' VL.fun_at KX G ?q78_a ?q78_l ?q78_c ?q78_k; (case q78_a => k_is); (case q78_l => k_is); (case q78_c => k_is); (case q78_k => k_is)))
    (case g__law_turn_of => (refine' VL.fun_at KX G ?q79_a ?q79_l ?q79_c ?q79_k; (case q79_a => k_is); (case q79_l => k_is); (case q79_c => k_is); (case q79_k => k_is)))
    (case g__law_ship => (refine' VL.fun_at KX G ?q80_a ?q80_l ?q80_c ?q80_k; (case q80_a => k_is); (case q80_l => k_is); (case q80_c => k_is); (case q80_k => k_is)))
    (case g__law_course => (refine' VL.fun_at KX G ?q81_a ?q81_l ?q81_c ?q81_k; (case q81_a => k_is); (case q81_l => k_is); (case q81_c => k_is); (case q81_k => k_is)))
    (case g__law_lowest => (refine' VL.fun_at KX G ?q82_a ?q82_l ?q82_c ?q82_k; (case q82_a => k_is); (case q82_l => k_is); (case q82_c => k_is); (case q82_k => k_is)))
    (case g__law_told => (refine' VL.fun_at KX G ?q83_a ?q83_l ?q83_c ?q83_k; (case q83_a => k_is); (case q83_l => k_is); (case q83_c => k_is); (case q83_k => k_is)))
    (case g__law_cross => (refine' VL.fun_at KX G ?q84_a ?q84_l ?q84_c ?q84_k; (case q84_a => k_is); (case q84_l => k_is); (case q84_c => k_is); (case q84_k => k_is)))
    (case g__law_rocks => (refine' VL.fun_at KX G ?q85_a ?q85_l ?q85_c ?q85_k; (case q85_a => k_is); (case q85_l => k_is); (case q85_c => k_is); (case q85_k => k_is)))
    (case g_law => (refine' VL.fun_at KX G ?q86_a ?q86_l ?q86_c ?q86_k; (case q86_a => k_is); (case q86_l => k_is); (case q86_c => k_is); (case q86_k => k_is)))
