import PyProof.Rows.All
import Wide.All
import OpenK.AllK
import Wide.FinOn
import PySem.Challenge.RW_turnsonce_k86_deeds_lines
import HandS.ForMost
import HandS.ForExc
import HandS.Lambda
import HandS.EndTab
import HandS.ExcCtx
import HandS.ExcInit
import HandS.ExcInitHot
import HandS.Hot
import HandS.HotCalls
import HandS.Star
import HandS.FStr
import HandS.IsInst
import HandS.ExcIs
import HandS.ExcField
import HandS.WrittenGet
import HandS.CallSlots
import HandS.TupAny
import HandS.TupMul
import HandS.Wide
import HandS.WideMore
import HandS.Conv
import HandS.Deep
import HandS.Style
import HandS.Small
import HandS.RaiseMore
import HandS.Iter
import HandS.NoneIn
import KE.KExcIs
import KE.IntTextText
set_option Elab.async false
set_option linter.all false
section
set_option maxRecDepth 100000
set_option maxHeartbeats 4000000
open PySem PySem.Spec PyProof.Rows L2
open_top hd86 for PySem.Challenge.rw_turnsonce_k86_deeds_lines
end
section -- DL1
set_option maxRecDepth 100000
set_option maxHeartbeats 1000000
/-! DL1: values as data: what a value stands for in the abstract heap, and the state of a def's names. -/
namespace DL
open PySem PySem.Spec PyProof.Rows L2

abbrev D := PyData

/-! ### a value that stands for data; the addresses that A names are met nowhere in it -/
section
variable (K : PySem.W.Frag) (A : Addr → Prop) (H : Hp)
mutual
inductive RD : V → D → Prop
  | non : RD .non .none
  | bl (b : Bool) : RD (.bl b) (.bool b)
  | int (i : Int) : RD (.int i) (.int i)
  | str (x : Str) : RD (.str x) (.str x)
  | lst {a : Addr} {xs : List V} {ds : List D} : Rd H a (.lst xs) → ¬ A a → RDs xs ds → RD (.ref a) (.list ds)
  | tup {a : Addr} {xs : List V} {ds : List D} : SqT K H a xs → ¬ A a → RDs xs ds → RD (.ref a) (.tuple ds)
inductive RDs : List V → List D → Prop
  | nil : RDs [] []
  | cons {v : V} {vs : List V} {d : D} {ds : List D} : RD v d → RDs vs ds → RDs (v :: vs) (d :: ds)
end
end

def NT (o : HO) : Prop := ∀ ps, o ≠ .tbl ps
/-- all that is tracked stays, but what A names and the tables -/
def Ext (A : Addr → Prop) (H H' : Hp) : Prop := ∀ b o, H b = some o → ¬ A b → NT o → H' b = some o
section
variable {K : PySem.W.Frag} {A A' : Addr → Prop} {H H1 H' : Hp}
theorem nt_lst {xs : List V} : NT (.lst xs) := fun _ z => nomatch z
theorem nt_tup {xs : List V} : NT (.tup xs) := fun _ z => nomatch z
theorem nt_frz {o : Obj} {u : HO} : NT (.frz o u) := fun _ z => nomatch z
theorem nt_xd {fs : List (Str × V)} : NT (.xd fs) := fun _ z => nomatch z
theorem Ext.refl : Ext A H H := fun _ _ e _ _ => e
theorem Ext.trans (a : Ext A H H1) (b : Ext A H1 H') : Ext A H H' := fun c o e n t => b c o (a c o e n t) n t
theorem Ext.weak (a : Ext A H H') (h : ∀ b, A b → A' b) : Ext A' H H' := fun c o e n t => a c o e (fun z => n (h _ z)) t
theorem Ext.upd {p : Addr} {o : HO} (h : H p = none) : Ext A H (upd H p o) := fun b u e _ _ => by
  rw [upd_ne (ne_of_none e h)]; exact e
theorem Ext.updA {p : Addr} {o : HO} (h : A p) : Ext A H (L2.upd H p o) := fun b u e n _ => by
  rw [upd_ne (fun z => n (by rw [z]; exact h))]; exact e
theorem Ext.same (h : Same H H') : Ext A H H' := fun b o e _ _ => h b o e
theorem Ext.extN (h : LamX.ExtN H H') : Ext A H H' := fun b o e _ n => h b o e n
theorem Ext.seqL {a : Addr} {xs : List V} (e : Ext A H H') (n : ¬ A a) (h : Rd H a (.lst xs)) : Rd H' a (.lst xs) := by
  rcases h with h | ⟨o, h⟩
  · exact .inl (e _ _ h n nt_lst)
  · exact .inr ⟨o, e _ _ h n nt_frz⟩
theorem Ext.seqT {a : Addr} {xs : List V} (e : Ext A H H') (n : ¬ A a) (h : SqT K H a xs) : SqT K H' a xs := by
  rcases h with (h | ⟨o, h⟩) | h
  · exact .inl (.inl (e _ _ h n nt_tup))
  · exact .inl (.inr ⟨o, e _ _ h n nt_frz⟩)
  · exact .inr h
mutual
theorem RD.ext (e : Ext A H H') : ∀ {v : V} {d : D}, RD K A H v d → RD K A H' v d
  | _, _, .non => .non
  | _, _, .bl b => .bl b
  | _, _, .int i => .int i
  | _, _, .str x => .str x
  | _, _, .lst q n r => .lst (e.seqL n q) n (RDs.ext e r)
  | _, _, .tup q n r => .tup (e.seqT n q) n (RDs.ext e r)
theorem RDs.ext (e : Ext A H H') : ∀ {vs : List V} {ds : List D}, RDs K A H vs ds → RDs K A H' vs ds
  | _, _, .nil => .nil
  | _, _, .cons a b => .cons (RD.ext e a) (RDs.ext e b)
end
/-- known somewhere: tracked, or of the written part -/
def Known (K : PySem.W.Frag) (H : Hp) (a : Addr) : Prop := (∃ o, H a = some o ∧ NT o) ∨ ∃ o, K.lookup a = some o
theorem knownL {a : Addr} {xs : List V} (h : Rd H a (.lst xs)) : Known K H a := by
  rcases h with h | ⟨o, h⟩
  · exact .inl ⟨_, h, nt_lst⟩
  · exact .inl ⟨_, h, nt_frz⟩
theorem knownT {a : Addr} {xs : List V} (h : SqT K H a xs) : Known K H a := by
  rcases h with (h | ⟨o, h⟩) | ⟨o, _, _, h, _⟩
  · exact .inl ⟨_, h, nt_tup⟩
  · exact .inl ⟨_, h, nt_frz⟩
  · exact .inr ⟨o, h⟩
mutual
theorem RD.avoid (e : ∀ a, Known K H a → A' a → A a) : ∀ {v : V} {d : D}, RD K A H v d → RD K A' H v d
  | _, _, .non => .non
  | _, _, .bl b => .bl b
  | _, _, .int i => .int i
  | _, _, .str x => .str x
  | _, _, .lst q n r => .lst q (fun z => n (e _ (knownL q) z)) (RDs.avoid e r)
  | _, _, .tup q n r => .tup q (fun z => n (e _ (knownT q) z)) (RDs.avoid e r)
theorem RDs.avoid (e : ∀ a, Known K H a → A' a → A a) : ∀ {vs : List V} {ds : List D}, RDs K A H vs ds → RDs K A' H vs ds
  | _, _, .nil => .nil
  | _, _, .cons a b => .cons (RD.avoid e a) (RDs.avoid e b)
end
mutual
theorem RD.dp : ∀ {v : V} {d : D}, RD K A H v d → Dp K H v d
  | _, _, .non => .non
  | _, _, .bl b => .bl b
  | _, _, .int i => .int i
  | _, _, .str x => .str x
  | _, _, .lst q _ r => .lst (.inl q) (RDs.dp r)
  | _, _, .tup q _ r => .tup q (RDs.dp r)
theorem RDs.dp : ∀ {vs : List V} {ds : List D}, RDs K A H vs ds → DpAll K H vs ds
  | _, _, .nil => .nil
  | _, _, .cons a b => .cons (RD.dp a) (RDs.dp b)
end
theorem RDs.length : ∀ {vs : List V} {ds : List D}, RDs K A H vs ds → vs.length = ds.length
  | _, _, .nil => rfl
  | _, _, .cons _ b => congrArg (· + 1) (RDs.length b)
theorem RDs.get : ∀ {vs : List V} {ds : List D} {i : Nat} {d : D}, RDs K A H vs ds → ds[i]? = some d → ∃ v, vs[i]? = some v ∧ RD K A H v d
  | _, _, _, _, .nil, e => by simp at e
  | _, _, 0, _, .cons a b, e => by
    simp at e; subst e; exact ⟨_, rfl, a⟩
  | _, _, i + 1, d, .cons a b, e => by
    obtain ⟨v, h1, h2⟩ := RDs.get (i := i) (d := d) b (by simpa using e)
    exact ⟨v, by simpa using h1, h2⟩
theorem RDs.got : ∀ {vs : List V} {ds : List D} {i : Nat} {v : V}, RDs K A H vs ds → vs[i]? = some v → ∃ d, ds[i]? = some d ∧ RD K A H v d
  | _, _, _, _, .nil, e => by simp at e
  | _, _, 0, _, .cons a b, e => by
    simp at e; subst e; exact ⟨_, rfl, a⟩
  | _, _, i + 1, v, .cons a b, e => by
    obtain ⟨d, h1, h2⟩ := RDs.got (i := i) (v := v) b (by simpa using e)
    exact ⟨d, by simpa using h1, h2⟩
theorem RDs.append : ∀ {vs ws : List V} {ds es : List D}, RDs K A H vs ds → RDs K A H ws es → RDs K A H (vs ++ ws) (ds ++ es)
  | _, _, _, _, .nil, s => s
  | _, _, _, _, .cons a b, s => .cons a (RDs.append b s)
theorem RDs.take : ∀ {vs : List V} {ds : List D} (n : Nat), RDs K A H vs ds → RDs K A H (vs.take n) (ds.take n)
  | _, _, 0, _ => .nil
  | _, _, _ + 1, .nil => .nil
  | _, _, n + 1, .cons a b => .cons a (RDs.take n b)
theorem RDs.drop : ∀ {vs : List V} {ds : List D} (n : Nat), RDs K A H vs ds → RDs K A H (vs.drop n) (ds.drop n)
  | _, _, 0, r => r
  | _, _, _ + 1, .nil => .nil
  | _, _, n + 1, .cons _ b => RDs.drop n b
theorem RDs.set {v : V} {d : D} (r : RD K A H v d) : ∀ {vs : List V} {ds : List D} (i : Nat), RDs K A H vs ds → RDs K A H (vs.set i v) (ds.set i d)
  | _, _, _, .nil => .nil
  | _, _, 0, .cons _ b => .cons r b
  | _, _, i + 1, .cons a b => .cons a (RDs.set r i b)
theorem RDs.rep {vs : List V} {ds : List D} (h : RDs K A H vs ds) : ∀ k : Nat, RDs K A H (List.replicate k vs).flatten (List.replicate k ds).flatten
  | 0 => .nil
  | k + 1 => by
    simp only [List.replicate_succ, List.flatten_cons]
    exact RDs.append h (RDs.rep h k)
theorem RDs.ints : ∀ {ns : List Int}, RDs K A H (ns.map V.int) (ns.map PyData.int)
  | [] => .nil
  | _ :: r => .cons (.int _) (RDs.ints (ns := r))
theorem RDs.strs : ∀ {ns : List Str}, RDs K A H (ns.map V.str) (ns.map PyData.str)
  | [] => .nil
  | _ :: r => .cons (.str _) (RDs.strs (ns := r))
theorem RDs.of_ints : ∀ {ns : List Int} {vs : List V}, RDs K A H vs (ns.map PyData.int) → vs = ns.map V.int
  | [], _, h => by cases h; rfl
  | n :: r, _, h => by
    cases h with
    | cons a b => cases a; rw [RDs.of_ints b]; rfl
theorem RDs.of_strs : ∀ {ns : List Str} {vs : List V}, RDs K A H vs (ns.map PyData.str) → vs = ns.map V.str
  | [], _, h => by cases h; rfl
  | n :: r, _, h => by
    cases h with
    | cons a b => cases a; rw [RDs.of_strs b]; rfl
theorem RDs.of_bls : ∀ {ns : List Bool} {vs : List V}, RDs K A H vs (ns.map PyData.bool) → vs = ns.map V.bl
  | [], _, h => by cases h; rfl
  | n :: r, _, h => by
    cases h with
    | cons a b => cases a; rw [RDs.of_bls b]; rfl
end

/-! ### the state of a def's names -/
/-- an object that one name holds, and nothing else -/
inductive OO where
  | lst (ds : List D)
inductive Sl where
  | un | val (d : D) | own (o : OO)
abbrev Sta := List Sl

def RO (K : PySem.W.Frag) (A : Addr → Prop) (H : Hp) (p : Addr) : OO → Prop
  | .lst ds => ∃ vs, H p = some (.lst vs) ∧ RDs K A H vs ds

/-- what stays through a def's run: the written part, the heap at the entry, the tables, the objects that parameters hold, the callers' own objects, the errors' classes -/
structure Fr where
  K : PySem.W.Frag
  H0 : Hp
  T : List (Addr × Str)
  par : Nat → Option Addr
  amb : Addr → Prop
  ex : Str → Option Addr
  raw : Nat → Option V

/-- a slot that one may store into -/
def Fr.fre (F : Fr) (i : Nat) : Prop := F.par i = none ∧ F.raw i = none
abbrev Ow := Nat → Option Addr
def Fr.A (F : Fr) (B : Addr → Prop) (ow : Ow) (a : Addr) : Prop := F.amb a ∨ B a ∨ ∃ i, ow i = some a
def NoB : Addr → Prop := fun _ => False

/-- new at H: not tracked there, but for a table -/
def Nw (H : Hp) (p : Addr) : Prop := ∀ o, H p = some o → ¬ NT o
theorem Nw.of {H : Hp} {p : Addr} (h : H p = none) : Nw H p := fun o e => by rw [h] at e; cases e

def SlOk (F : Fr) (B : Addr → Prop) (ow : Ow) (σ : L2.St) (H : Hp) (i : Nat) : Sl → Prop
  | .un => ow i = none
  | .val d => ow i = none ∧ ∃ v, σ[i]? = some (some v) ∧ RD F.K (F.A B ow) H v d
  | .own o => ∃ p, ow i = some p ∧ σ[i]? = some (some (.ref p)) ∧ RO F.K (F.A B ow) H p o

def KF (K : PySem.W.Frag) (H : Hp) : Prop := ∀ a o, K.lookup a = some o → H a = none

structure Rel (F : Fr) (B : Addr → Prop) (ow : Ow) (δ : Sta) (σ : L2.St) (H : Hp) : Prop where
  len : σ.length = δ.length
  slot : ∀ i s, δ[i]? = some s → SlOk F B ow σ H i s
  out : ∀ i, δ.length ≤ i → ow i = none
  inj : ∀ i j a, ow i = some a → ow j = some a → i = j
  frame : ∀ b o, F.H0 b = some o → (∀ i, F.par i ≠ some b) → NT o → H b = some o
  fresh : ∀ i a, ow i = some a → (F.par i = some a ∨ Nw F.H0 a) ∧ ¬ F.amb a ∧ ¬ B a
  par : ∀ i a, F.par i = some a → ow i = some a
  amb : ∀ a, F.amb a → (∃ o, F.H0 a = some o ∧ NT o) ∧ ∀ i, F.par i ≠ some a
  bk : ∀ a, B a → ∃ o, H a = some o ∧ NT o
  kf : KF F.K H
  tabs : LamX.Tabs F.T H
  raw : ∀ i v, F.raw i = some v → σ[i]? = some (some v)

section
variable {F : Fr} {B B' : Addr → Prop} {ow ow' : Ow} {δ δ' : Sta} {σ σ' : L2.St} {H H' H1 : Hp} {v : V} {d : D}
theorem Rel.tracked (R : Rel F B ow δ σ H) {a : Addr} (h : F.A B ow a) : ∃ o, H a = some o ∧ NT o := by
  rcases h with h | h | ⟨i, h⟩
  · obtain ⟨⟨o, e, n⟩, np⟩ := R.amb a h
    exact ⟨o, R.frame a o e np n, n⟩
  · exact R.bk a h
  · by_cases hi : i < δ.length
    · have q := R.slot i δ[i] (by simp [hi])
      cases hs : δ[i] with
      | un => rw [hs] at q; rw [show ow i = none from q] at h; cases h
      | val d => rw [hs] at q; rw [q.1] at h; cases h
      | own o =>
        rw [hs] at q
        obtain ⟨p, e1, _, r⟩ := q
        rw [h] at e1; cases e1
        cases o with
        | lst ds =>
          obtain ⟨vs, e, _⟩ := r
          exact ⟨_, e, nt_lst⟩
    · rw [R.out i (by omega)] at h; cases h
/-- what is known at H is not what is new there -/
theorem known_ne {K : PySem.W.Frag} {p a : Addr} (h : Known K H a) (n : Nw H p) (k : K.lookup p = none) : a ≠ p := by
  rintro rfl
  rcases h with ⟨o, e, t⟩ | ⟨o, e⟩
  · exact n o e t
  · rw [k] at e; cases e
theorem kf_none {K : PySem.W.Frag} {p : Addr} {o : HO} (k : KF K H) (h : H p = some o) : K.lookup p = none := by
  cases e : K.lookup p with
  | none => rfl
  | some u => rw [k p u e] at h; cases h
theorem RO.ext {K : PySem.W.Frag} {A : Addr → Prop} {p : Addr} {o : OO} (e : Ext A H H') (h : H' p = H p) (r : RO K A H p o) : RO K A H' p o := by
  cases o with
  | lst ds =>
    obtain ⟨vs, e1, r⟩ := r
    exact ⟨vs, h.trans e1, r.ext e⟩
theorem RO.avoid {K : PySem.W.Frag} {A A' : Addr → Prop} {p : Addr} {o : OO} (e : ∀ a, Known K H a → A' a → A a) (r : RO K A H p o) : RO K A' H p o := by
  cases o with
  | lst ds =>
    obtain ⟨vs, e1, r⟩ := r
    exact ⟨vs, e1, r.avoid e⟩
theorem SlOk.ext {i : Nat} {s : Sl} (e : Ext (F.A B ow) H H') (h : ∀ i a, ow i = some a → H' a = H a) (r : SlOk F B ow σ H i s) : SlOk F B ow σ H' i s := by
  cases s with
  | un => exact r
  | val d => obtain ⟨r1, v, r2, r3⟩ := r; exact ⟨r1, v, r2, r3.ext e⟩
  | own o => obtain ⟨p, r1, r2, r3⟩ := r; exact ⟨p, r1, r2, r3.ext e (h _ _ r1)⟩
/-- the heap goes on, the own objects as they were -/
theorem Rel.go (R : Rel F B ow δ σ H) (e : Ext (F.A B ow) H H') (h : ∀ a, F.A B ow a → H' a = H a) (kf : KF F.K H') (tb : LamX.Tabs F.T H') : Rel F B ow δ σ H' where
  len := R.len
  slot := fun i s q => (R.slot i s q).ext e fun i a z => h a (.inr (.inr ⟨i, z⟩))
  out := R.out
  inj := R.inj
  frame := fun b o q n t => by
    have z := R.frame b o q n t
    by_cases ha : F.A B ow b
    · rw [h b ha]; exact z
    · exact e b o z ha t
  fresh := R.fresh
  par := R.par
  amb := R.amb
  bk := fun a q => by
    obtain ⟨o, e1, t⟩ := R.bk a q
    exact ⟨o, (h a (.inr (.inl q))).trans e1, t⟩
  kf := kf
  tabs := tb
  raw := R.raw
theorem tabs_upd {T : List (Addr × Str)} {p : Addr} {o : HO} (t : LamX.Tabs T H) (h : H p = none) : LamX.Tabs T (upd H p o) :=
  t.ext fun b u e => by rw [upd_ne (ne_of_none e h)]; exact e
/-- a new object -/
theorem Rel.alloc {p : Addr} {o : HO} (R : Rel F B ow δ σ H) (h : H p = none) (kf : KF F.K (upd H p o)) : Rel F B ow δ σ (upd H p o) :=
  R.go (Ext.upd h) (fun a q => by
    obtain ⟨u, e, _⟩ := R.tracked q
    exact upd_ne (ne_of_none e h)) kf (tabs_upd R.tabs h)
/-- .. and it is reserved -/
theorem Rel.reserve {p : Addr} {o : HO} (R : Rel F NoB ow δ σ H) (h : H p = none) (t : NT o) (kf : KF F.K (upd H p o)) : Rel F (· = p) ow δ σ (upd H p o) := by
  have R' := R.alloc (o := o) h kf
  have kp : F.K.lookup p = none := kf_none kf (upd_same (H := H) (a := p) (o := o))
  have av : ∀ a, Known F.K H a → F.A (· = p) ow a → F.A NoB ow a := fun a k q => by
    rcases q with q | q | q
    · exact .inl q
    · exact absurd q (known_ne k (Nw.of h) kp)
    · exact .inr (.inr q)
  have np : ∀ a, F.A NoB ow a → a ≠ p := fun a q z => by
    obtain ⟨u, e, _⟩ := R.tracked q
    rw [z, h] at e; cases e
  refine ⟨R.len, fun i s q => ?_, R.out, R.inj, R'.frame, fun i a q => ⟨(R.fresh i a q).1, (R.fresh i a q).2.1, np a (.inr (.inr ⟨i, q⟩))⟩, R.par, R.amb, fun a q => ⟨o, by rw [q, upd_same], t⟩, kf, R'.tabs, R.raw⟩
  have z := R.slot i s q
  cases s with
  | un => exact z
  | val d =>
    obtain ⟨z1, v, z2, z3⟩ := z
    exact ⟨z1, v, z2, (z3.avoid av).ext (Ext.upd h)⟩
  | own u =>
    obtain ⟨a, z1, z2, z3⟩ := z
    exact ⟨a, z1, z2, (z3.avoid av).ext (Ext.upd h) (upd_ne (np a (.inr (.inr ⟨i, z1⟩))))⟩
/-- nothing is reserved any more -/
theorem Rel.unB (R : Rel F B ow δ σ H) : Rel F NoB ow δ σ H := by
  have av : ∀ a, F.A NoB ow a → F.A B ow a := fun a q => by
    rcases q with q | q | q
    · exact .inl q
    · exact q.elim
    · exact .inr (.inr q)
  refine ⟨R.len, fun i s q => ?_, R.out, R.inj, R.frame, fun i a q => ⟨(R.fresh i a q).1, (R.fresh i a q).2.1, fun z => z⟩, R.par, R.amb, fun a q => q.elim, R.kf, R.tabs, R.raw⟩
  have z := R.slot i s q
  cases s with
  | un => exact z
  | val d =>
    obtain ⟨z1, v, z2, z3⟩ := z
    exact ⟨z1, v, z2, z3.avoid fun a _ => av a⟩
  | own u =>
    obtain ⟨a, z1, z2, z3⟩ := z
    exact ⟨a, z1, z2, z3.avoid fun a _ => av a⟩
/-- the list that the name i holds is written -/
theorem Rel.write {i : Nat} {p : Addr} {o : OO} {vs : List V} {ds : List D} (R : Rel F B ow δ σ H) (hi : δ[i]? = some (.own o)) (hp : ow i = some p) (r : RDs F.K (F.A B ow) H vs ds) :
    Rel F B ow (δ.set i (.own (.lst ds))) σ (upd H p (.lst vs)) := by
  have Ap : F.A B ow p := .inr (.inr ⟨i, hp⟩)
  have e : Ext (F.A B ow) H (upd H p (.lst vs)) := Ext.updA Ap
  obtain ⟨u, hu, _⟩ := R.tracked Ap
  have nb : ¬ B p := (R.fresh i p hp).2.2
  refine ⟨by rw [List.length_set]; exact R.len, fun j s q => ?_, fun j hj => R.out j (by rw [List.length_set] at hj; exact hj), R.inj, fun b o' q n t => ?_, R.fresh, R.par, R.amb, fun a q => ?_, fun a o' q => ?_, fun P hP => ?_, R.raw⟩
  · by_cases hj : j = i
    · subst hj
      have hlt : j < δ.length := by
        rcases Nat.lt_or_ge j δ.length with z | z
        · exact z
        · rw [List.getElem?_eq_none z] at hi; cases hi
      rw [List.getElem?_set_self hlt] at q
      cases q
      have z := R.slot j _ hi
      obtain ⟨p', z1, z2, _⟩ := z
      rw [hp] at z1; cases z1
      exact ⟨p, hp, z2, vs, upd_same, r.ext e⟩
    · rw [List.getElem?_set_ne (fun z => hj z.symm)] at q
      have z := R.slot j s q
      cases s with
      | un => exact z
      | val d => obtain ⟨z1, v, z2, z3⟩ := z; exact ⟨z1, v, z2, z3.ext e⟩
      | own u =>
        obtain ⟨a, z1, z2, z3⟩ := z
        exact ⟨a, z1, z2, z3.ext e (upd_ne fun z => hj (R.inj j i p (by rw [z1, z]) hp))⟩
  · have z := R.frame b o' q n t
    have ne : b ≠ p := fun z2 => by
      rcases (R.fresh i p hp).1 with w | w
      · exact n i (by rw [w, z2])
      · rw [z2] at q; exact w o' q t
    rw [upd_ne ne]; exact z
  · have ne : a ≠ p := fun z => nb (z ▸ q)
    rw [upd_ne ne]; exact R.bk a q
  · have ne : a ≠ p := fun z => by rw [z, kf_none R.kf hu] at q; cases q
    rw [upd_ne ne]; exact R.kf a o' q
  · obtain ⟨ps, h1, h2, h3⟩ := R.tabs P hP
    have tp : ∃ vs', H p = some (.lst vs') := by
      have z := R.slot i _ hi
      obtain ⟨p', z1, _, z3⟩ := z
      rw [hp] at z1; cases z1
      cases o with
      | lst ds => obtain ⟨vs', e, _⟩ := z3; exact ⟨vs', e⟩
    obtain ⟨vs', hl⟩ := tp
    refine ⟨ps, by rw [upd_ne (ne_of h1 hl (by intro z; cases z))]; exact h1, h2, fun pos cv hc => ?_⟩
    obtain ⟨c, e1, e2⟩ := h3 pos cv hc
    exact ⟨c, e1, by rw [upd_ne (ne_of e2 hl (by intro z; unfold LamX.CodeO at z; cases z))]; exact e2⟩
/-- a name is stored: data -/
theorem Rel.setVal {i : Nat} (R : Rel F B ow δ σ H) (hi : i < δ.length) (np : F.fre i) (r : RD F.K (F.A B ow) H v d) :
    Rel F B (fun j => if j = i then none else ow j) (δ.set i (.val d)) (σ.set i (some v)) H := by
  have sub : ∀ {j a}, (if j = i then none else ow j) = some a → j ≠ i ∧ ow j = some a := fun {j a} q => by
    by_cases h : j = i
    · rw [if_pos h] at q; cases q
    · rw [if_neg h] at q; exact ⟨h, q⟩
  have av : ∀ a, F.A B (fun j => if j = i then none else ow j) a → F.A B ow a := fun a q => by
    rcases q with q | q | ⟨j, q⟩
    · exact .inl q
    · exact .inr (.inl q)
    · exact .inr (.inr ⟨j, (sub q).2⟩)
  refine ⟨by rw [List.length_set, List.length_set]; exact R.len, fun j s q => ?_, fun j hj => ?_, fun j k a q1 q2 => R.inj j k a (sub q1).2 (sub q2).2, R.frame, fun j a q => R.fresh j a (sub q).2, fun j a q => ?_, R.amb, R.bk, R.kf, R.tabs, fun j v q => by
    have h : j ≠ i := fun z => by rw [z, np.2] at q; cases q
    rw [List.getElem?_set_ne (fun z => h z.symm)]; exact R.raw j v q⟩
  · by_cases hj : j = i
    · subst hj
      rw [List.getElem?_set_self hi] at q
      cases q
      exact ⟨if_pos rfl, v, List.getElem?_set_self (by rw [R.len]; exact hi), r.avoid fun a _ => av a⟩
    · rw [List.getElem?_set_ne (fun z => hj z.symm)] at q
      have z := R.slot j s q
      have e1 : (if j = i then none else ow j) = ow j := if_neg hj
      have e2 : (σ.set i (some v))[j]? = σ[j]? := List.getElem?_set_ne (fun z => hj z.symm)
      cases s with
      | un => exact e1.trans z
      | val d => obtain ⟨z1, w, z2, z3⟩ := z; exact ⟨e1.trans z1, w, e2.trans z2, z3.avoid fun a _ => av a⟩
      | own u => obtain ⟨a, z1, z2, z3⟩ := z; exact ⟨a, e1.trans z1, e2.trans z2, z3.avoid fun a _ => av a⟩
  · rw [List.length_set] at hj
    by_cases h : j = i
    · exact if_pos h
    · rw [if_neg h]; exact R.out j hj
  · have h : j ≠ i := fun z => by rw [z, np.1] at q; cases q
    rw [if_neg h]; exact R.par j a q
/-- a name is stored: a new list, its own from now on -/
theorem Rel.setOwn {i : Nat} {p : Addr} {vs : List V} {ds : List D} (R : Rel F (· = p) ow δ σ H) (hi : i < δ.length) (np : F.fre i) (e : H p = some (.lst vs)) (r : RDs F.K (F.A (· = p) ow) H vs ds) (n0 : Nw F.H0 p) (na : ¬ F.amb p) :
    Rel F NoB (fun j => if j = i then some p else ow j) (δ.set i (.own (.lst ds))) (σ.set i (some (.ref p))) H := by
  have sub : ∀ {j a}, j ≠ i → (if j = i then some p else ow j) = some a → ow j = some a := fun {j a} h q => by
    rw [if_neg h] at q; exact q
  have npw : ∀ j, ow j ≠ some p := fun j q => (R.fresh j p q).2.2 rfl
  have av : ∀ a, F.A NoB (fun j => if j = i then some p else ow j) a → F.A (· = p) ow a := fun a q => by
    rcases q with q | q | ⟨j, q⟩
    · exact .inl q
    · exact q.elim
    · have q : (if j = i then some p else ow j) = some a := q
      by_cases h : j = i
      · rw [if_pos h] at q; cases q; exact .inr (.inl rfl)
      · exact .inr (.inr ⟨j, sub h q⟩)
  refine ⟨by rw [List.length_set, List.length_set]; exact R.len, fun j s q => ?_, fun j hj => ?_, fun j k a q1 q2 => ?_, R.frame, fun j a q => ?_, fun j a q => ?_, R.amb, fun a q => q.elim, R.kf, R.tabs, fun j v q => by
    have h : j ≠ i := fun z => by rw [z, np.2] at q; cases q
    rw [List.getElem?_set_ne (fun z => h z.symm)]; exact R.raw j v q⟩
  · by_cases hj : j = i
    · subst hj
      rw [List.getElem?_set_self hi] at q
      cases q
      exact ⟨p, if_pos rfl, List.getElem?_set_self (by rw [R.len]; exact hi), vs, e, r.avoid fun a _ => av a⟩
    · rw [List.getElem?_set_ne (fun z => hj z.symm)] at q
      have z := R.slot j s q
      have e1 : (if j = i then some p else ow j) = ow j := if_neg hj
      have e2 : (σ.set i (some (.ref p)))[j]? = σ[j]? := List.getElem?_set_ne (fun z => hj z.symm)
      cases s with
      | un => exact e1.trans z
      | val d => obtain ⟨z1, w, z2, z3⟩ := z; exact ⟨e1.trans z1, w, e2.trans z2, z3.avoid fun a _ => av a⟩
      | own u => obtain ⟨a, z1, z2, z3⟩ := z; exact ⟨a, e1.trans z1, e2.trans z2, z3.avoid fun a _ => av a⟩
  · rw [List.length_set] at hj
    by_cases h : j = i
    · omega
    · rw [if_neg h]; exact R.out j hj
  · by_cases h : j = i
    · by_cases h' : k = i
      · rw [h, h']
      · rw [if_pos h] at q1; cases q1
        exact absurd (sub h' q2) (npw k)
    · by_cases h' : k = i
      · rw [if_pos h'] at q2; cases q2
        exact absurd (sub h q1) (npw j)
      · exact R.inj j k a (sub h q1) (sub h' q2)
  · by_cases h : j = i
    · rw [if_pos h] at q; cases q
      exact ⟨.inr n0, na, fun z => z⟩
    · have z := R.fresh j a (sub h q)
      exact ⟨z.1, z.2.1, fun z => z⟩
  · have h : j ≠ i := fun z => by rw [z, np.1] at q; cases q
    rw [if_neg h]; exact R.par j a q
end
end DL
end
section -- DL2
set_option maxRecDepth 100000
set_option maxHeartbeats 1000000
/-! DL2: what an expression tells and does, by data; how two rules in a row are read. -/
namespace DL
open PySem PySem.Spec PyProof.Rows L2

inductive Rs (α : Type) where
  | ok (a : α) (δ : Sta)
  | exc (c : Str) (w : D) (δ : Sta)
  | stuck
def Rs.bind {α β : Type} (r : Rs α) (k : α → Sta → Rs β) : Rs β := match r with
  | .ok a δ => k a δ
  | .exc c w δ => .exc c w δ
  | .stuck => .stuck
@[simp] theorem Rs.bind_ok {α β : Type} (a : α) (δ : Sta) (k : α → Sta → Rs β) : (Rs.ok a δ).bind k = k a δ := rfl
@[simp] theorem Rs.bind_exc {α β : Type} (c : Str) (w : D) (δ : Sta) (k : α → Sta → Rs β) : (Rs.exc c w δ : Rs α).bind k = .exc c w δ := rfl
@[simp] theorem Rs.bind_stuck {α β : Type} (k : α → Sta → Rs β) : (Rs.stuck : Rs α).bind k = .stuck := rfl
/-- a value, and whether it is a list that nobody else holds -/
abbrev EV := D × Bool
abbrev Den := Sta → Rs EV
abbrev TDen := Sta → Rs Bool
/-- a value that is read later: by the state as it is then -/
abbrev RV := Sta → Option D
abbrev RDen := Sta → Rs RV
abbrev LDen := Sta → Rs (List D)

/-- the error that a def lets out -/
def XR (F : Fr) (A : Addr → Prop) (c : Str) (w : D) (cls : Value) (dd : Option Addr) (H : Hp) : Prop :=
  ∃ C dx v, F.ex c = some C ∧ cls = .ref C ∧ dd = some dx ∧ H dx = some (.xd [(("what" : Str), v)]) ∧ ¬ A dx ∧ RD F.K A H v w
/-- a list that nobody else holds -/
def Lone (F : Fr) (ow : Ow) (δ : Sta) (σ : L2.St) (Hs H : Hp) (v : V) (d : D) : Prop :=
  ∃ p vs ds, v = .ref p ∧ d = .list ds ∧ Rel F (· = p) ow δ σ H ∧ H p = some (.lst vs) ∧ RDs F.K (F.A (· = p) ow) H vs ds ∧ Nw Hs p ∧ ¬ F.amb p
/-- read as it is now: data, or an own list -/
def RW (F : Fr) (ow : Ow) (H : Hp) (v : V) (d : D) : Prop :=
  RD F.K (F.A NoB ow) H v d ∨ ∃ p vs ds, v = .ref p ∧ d = .list ds ∧ H p = some (.lst vs) ∧ RDs F.K (F.A NoB ow) H vs ds

section
variable (W : WX) (F : Fr)
def PostX (ow : Ow) (σ : L2.St) (H : Hp) (c : Str) (w : D) (δ' : Sta) : Prop :=
  ∀ cls dd H', Rel F NoB ow δ' σ H' → Ext (F.A NoB ow) H H' → XR F (F.A NoB ow) c w cls dd H' → W cls dd σ H'
def PostE (ow : Ow) (σ : L2.St) (H : Hp) (Q : VK) : Rs EV → Prop
  | .ok a δ' => ∀ v H', Rel F NoB ow δ' σ H' → Ext (F.A NoB ow) H H' → RD F.K (F.A NoB ow) H' v a.1 → (a.2 = true → Lone F ow δ' σ H H' v a.1) → Q v H'
  | .exc c w δ' => PostX W F ow σ H c w δ'
  | .stuck => False
def PostT (ow : Ow) (σ : L2.St) (H : Hp) (Q : Bool → Hp → Prop) : Rs Bool → Prop
  | .ok a δ' => ∀ H', Rel F NoB ow δ' σ H' → Ext (F.A NoB ow) H H' → Q a H'
  | .exc c w δ' => PostX W F ow σ H c w δ'
  | .stuck => False
def PostR (ow : Ow) (σ : L2.St) (H : Hp) (Q : VK) : Rs RV → Prop
  | .ok r δ' => ∀ v H', Rel F NoB ow δ' σ H' → Ext (F.A NoB ow) H H' → (∀ δ2 H2 d, Rel F NoB ow δ2 σ H2 → Ext (F.A NoB ow) H' H2 → r δ2 = some d → RW F ow H2 v d) → Q v H'
  | .exc c w δ' => PostX W F ow σ H c w δ'
  | .stuck => False
def PostL (ow : Ow) (σ : L2.St) (H : Hp) (Q : List V → Hp → Prop) : Rs (List D) → Prop
  | .ok ds δ' => ∀ vs H', Rel F NoB ow δ' σ H' → Ext (F.A NoB ow) H H' → RDs F.K (F.A NoB ow) H' vs ds → Q vs H'
  | .exc c w δ' => PostX W F ow σ H c w δ'
  | .stuck => False
def tD (g : Den) : TE := fun σ H Q => ∃ ow δ, Rel F NoB ow δ σ H ∧ PostE W F ow σ H Q (g δ)
def tT (g : TDen) : TT := fun σ H Q => ∃ ow δ, Rel F NoB ow δ σ H ∧ PostT W F ow σ H Q (g δ)
def tR (g : RDen) : TE := fun σ H Q => ∃ ow δ, Rel F NoB ow δ σ H ∧ PostR W F ow σ H Q (g δ)
def tL (g : LDen) : TA := fun σ H Q => ∃ ow δ, Rel F NoB ow δ σ H ∧ PostL W F ow σ H Q (g δ)
end

section
variable {W : WX} {F : Fr} {ow : Ow} {δ δ1 : Sta} {σ : L2.St} {H H1 H' : Hp} {Q : VK} {v : V} {d : D}
theorem PostX.go {c : Str} {w : D} {δ' : Sta} (e : Ext (F.A NoB ow) H H1) (h : PostX W F ow σ H c w δ') : PostX W F ow σ H1 c w δ' :=
  fun cls dd H' R e' x => h cls dd H' R (e.trans e') x
theorem Nw.back {p : Addr} (R1 : Rel F NoB ow δ1 σ H1) (e : Ext (F.A NoB ow) H H1) (n : Nw H1 p) : Nw H p := fun o q t => by
  by_cases ha : F.A NoB ow p
  · obtain ⟨o', e', t'⟩ := R1.tracked ha
    exact n o' e' t'
  · exact n o (e p o q ha t) t
theorem Nw.frame {p : Addr} (R1 : Rel F NoB ow δ1 σ H1) (n : Nw H1 p) : Nw F.H0 p := fun o q t => by
  by_cases ha : F.A NoB ow p
  · obtain ⟨o', e', t'⟩ := R1.tracked ha
    exact n o' e' t'
  · exact n o (R1.frame p o q (fun i z => ha (.inr (.inr ⟨i, R1.par i p z⟩))) t) t
theorem Lone.back {Hs : Hp} (R1 : Rel F NoB ow δ1 σ H1) (e : Ext (F.A NoB ow) Hs H1) (l : Lone F ow δ σ H1 H v d) : Lone F ow δ σ Hs H v d := by
  obtain ⟨p, vs, ds, a, b, c, d', r, n, m⟩ := l
  exact ⟨p, vs, ds, a, b, c, d', r, n.back R1 e, m⟩
theorem PostE.go {r : Rs EV} (R1 : Rel F NoB ow δ1 σ H1) (e : Ext (F.A NoB ow) H H1) (h : PostE W F ow σ H Q r) : PostE W F ow σ H1 Q r := by
  cases r with
  | ok a δ' => exact fun v H' R e' x l => h v H' R (e.trans e') x fun z => (l z).back R1 e
  | exc c w δ' => exact PostX.go e h
  | stuck => exact h
theorem PostT.go {r : Rs Bool} {Q : Bool → Hp → Prop} (e : Ext (F.A NoB ow) H H1) (h : PostT W F ow σ H Q r) : PostT W F ow σ H1 Q r := by
  cases r with
  | ok a δ' => exact fun H' R e' => h H' R (e.trans e')
  | exc c w δ' => exact PostX.go e h
  | stuck => exact h
theorem PostR.go {r : Rs RV} (e : Ext (F.A NoB ow) H H1) (h : PostR W F ow σ H Q r) : PostR W F ow σ H1 Q r := by
  cases r with
  | ok a δ' => exact fun v H' R e' x => h v H' R (e.trans e') x
  | exc c w δ' => exact PostX.go e h
  | stuck => exact h
theorem PostL.go {r : Rs (List D)} {Q : List V → Hp → Prop} (e : Ext (F.A NoB ow) H H1) (h : PostL W F ow σ H Q r) : PostL W F ow σ H1 Q r := by
  cases r with
  | ok a δ' => exact fun v H' R e' x => h v H' R (e.trans e') x
  | exc c w δ' => exact PostX.go e h
  | stuck => exact h
theorem PostE.mono {r : Rs EV} {Q' : VK} (h : PostE W F ow σ H Q r) (hq : ∀ v H', Q v H' → Q' v H') : PostE W F ow σ H Q' r := by
  cases r with
  | ok a δ' => exact fun v H' R e' x l => hq _ _ (h v H' R e' x l)
  | exc c w δ' => exact h
  | stuck => exact h
/-- plain data told, the heap as it is -/
theorem PostE.ret (h : PostE W F ow σ H Q (.ok (d, false) δ)) (R : Rel F NoB ow δ σ H) (r : RD F.K (F.A NoB ow) H v d) : Q v H :=
  h v H R Ext.refl r (fun z => nomatch z)
/-- a new tuple -/
theorem PostE.tup {p : Addr} {vs : List V} {ds : List D} (h : PostE W F ow σ H Q (.ok (.tuple ds, false) δ)) (R : Rel F NoB ow δ σ H) (r : RDs F.K (F.A NoB ow) H vs ds) (n : H p = none) (kf : KF F.K (upd H p (.tup vs))) :
    Q (.ref p) (upd H p (.tup vs)) := by
  refine h _ _ (R.alloc n kf) (Ext.upd n) (.tup (SqT.of upd_same) (fun z => ?_) (r.ext (Ext.upd n))) (fun z => nomatch z)
  obtain ⟨u, e, _⟩ := R.tracked z
  rw [n] at e; cases e
/-- a new list -/
theorem PostE.lst {p : Addr} {fr : Bool} {vs : List V} {ds : List D} (h : PostE W F ow σ H Q (.ok (.list ds, fr) δ)) (R : Rel F NoB ow δ σ H) (r : RDs F.K (F.A NoB ow) H vs ds) (n : H p = none) (kf : KF F.K (upd H p (.lst vs))) :
    Q (.ref p) (upd H p (.lst vs)) := by
  have np : ∀ a, F.A NoB ow a → a ≠ p := fun a q z => by
    obtain ⟨u, e, _⟩ := R.tracked q
    rw [z, n] at e; cases e
  have kp : F.K.lookup p = none := kf_none kf (upd_same (H := H) (a := p) (o := HO.lst vs))
  refine h _ _ (R.alloc n kf) (Ext.upd n) (.lst (.inl upd_same) (fun z => np p z rfl) (r.ext (Ext.upd n))) (fun _ => ⟨p, vs, ds, rfl, rfl, R.reserve n nt_lst kf, upd_same, ?_, Nw.of n, fun z => np p (.inl z) rfl⟩)
  refine (r.avoid (A' := F.A (· = p) ow) fun a k q => ?_).ext (Ext.upd n)
  rcases q with q | q | q
  · exact .inl q
  · exact absurd q (known_ne k (Nw.of n) kp)
  · exact .inr (.inr q)
end

/-! ### rules -/
section
variable {X : Cx} {e a b c : Expr} {t : TE} {W : WX} {F : Fr} {ga gb gc : Den} {pos : Pos}
theorem PE.imp {t' : TE} (h : PE X e t) (i : ∀ σ H Q, t' σ H Q → t σ H Q) : PE X e t' := ⟨fun pins s σ H Q I q => h.run pins s σ H Q I (i σ H Q q)⟩
theorem PT.imp {t t' : TT} (h : PT X e t) (i : ∀ σ H Q, t' σ H Q → t σ H Q) : PT X e t' := ⟨fun pins s σ H Q I q => h.run pins s σ H Q I (i σ H Q q)⟩
theorem inv_kf {pins : List (Addr × Obj)} {σ : L2.St} {H : Hp} {s : Shared} (I : Inv X pins σ H s) : KF X.K H := fun a o e => (I.bs a o (I.ok.mod.kin a o e)).2
/-- behind an expression the written part is not tracked -/
theorem pe_kf (h : PE X e t) : PE X e (fun σ H Q => t σ H fun v H' => KF X.K H' → Q v H') := by
  refine ⟨fun pins s σ H Q I q => ?_⟩
  refine thn (h.run pins s σ H _ I q) fun u s' ⟨v, H', I', r, z⟩ => ⟨v, H', I', r, z (inv_kf I')⟩
theorem pt_kf {t : TT} (h : PT X e t) : PT X e (fun σ H Q => t σ H fun v H' => KF X.K H' → Q v H') := by
  refine ⟨fun pins s σ H Q I q => ?_⟩
  refine thn (h.run pins s σ H _ I q) fun u s' ⟨H', I', z⟩ => ⟨H', I', z (inv_kf I')⟩
theorem tD.mono {g : Den} {σ : L2.St} {H : Hp} {Q Q' : VK} (h : tD W F g σ H Q) (hq : ∀ v H', Q v H' → Q' v H') : tD W F g σ H Q' := by
  obtain ⟨ow, δ, R, h⟩ := h
  exact ⟨ow, δ, R, h.mono hq⟩
/-- one operand, then what is made of it -/
theorem seq1 {k : EV → Sta → Rs EV} {σ : L2.St} {H : Hp} {Q : VK} (h : tD W F (fun δ => (ga δ).bind k) σ H Q) :
    tD W F ga σ H fun x H1 => ∃ ow δ1 d1 f1, Rel F NoB ow δ1 σ H1 ∧ RD F.K (F.A NoB ow) H1 x d1 ∧ (f1 = true → Lone F ow δ1 σ H H1 x d1) ∧ PostE W F ow σ H1 Q (k (d1, f1) δ1) := by
  obtain ⟨ow, δ, R, h⟩ := h
  refine ⟨ow, δ, R, ?_⟩
  dsimp only at h
  cases q : ga δ with
  | ok a δ1 =>
    rw [q] at h
    exact fun v H' R' e r l => ⟨ow, δ1, a.1, a.2, R', r, l, PostE.go R' e h⟩
  | exc c w δ' => rw [q] at h; exact h
  | stuck => rw [q] at h; exact h
/-- two operands, then what is made of them -/
theorem seq2 {k : EV → EV → Sta → Rs EV} {σ : L2.St} {H : Hp} {Q : VK} (h : tD W F (fun δ => (ga δ).bind fun a δ1 => (gb δ1).bind fun b δ2 => k a b δ2) σ H Q) :
    tD W F ga σ H fun x H1 => tD W F gb σ H1 fun y H2 => ∃ ow δ2 d1 f1 d2 f2, Rel F NoB ow δ2 σ H2 ∧ RD F.K (F.A NoB ow) H2 x d1 ∧ RD F.K (F.A NoB ow) H2 y d2 ∧ PostE W F ow σ H2 Q (k (d1, f1) (d2, f2) δ2) := by
  refine (seq1 h).mono fun x H1 z => ?_
  obtain ⟨ow, δ1, d1, f1, R1, r1, l1, z⟩ := z
  refine ⟨ow, δ1, R1, ?_⟩
  cases q : gb δ1 with
  | ok b δ2 =>
    rw [q] at z
    exact fun v H' R' e r l => ⟨ow, δ2, d1, f1, b.1, b.2, R', r1.ext e, r, PostE.go R' e z⟩
  | exc c w δ' => rw [q] at z; exact z
  | stuck => rw [q] at z; exact z
/-- an operator by values -/
theorem de_op {op : Operator} {r : R2} {k : EV → EV → Sta → Rs EV} (hK : F.K = X.K) (ho : OpR X (binaryOp op) r) (ha : PE X a (tD W F ga)) (hb : PE X b (tD W F gb))
    (hr : ∀ {ow δ σ H x y d1 f1 d2 f2 Q}, Rel F NoB ow δ σ H → RD F.K (F.A NoB ow) H x d1 → RD F.K (F.A NoB ow) H y d2 → PostE W F ow σ H Q (k (d1, f1) (d2, f2) δ) → r x y H fun v H' => KF F.K H' → Q v H') :
    PE X (.BinOp a op b pos) (tD W F fun δ => (ga δ).bind fun a δ1 => (gb δ1).bind fun b δ2 => k a b δ2) := by
  refine PE.imp (pe_kf (pe_op ho ha hb)) fun σ H Q h => ?_
  refine (seq2 h).mono fun x H1 z => z.mono fun y H2 z => ?_
  obtain ⟨ow, δ2, d1, f1, d2, f2, R, r1, r2, z⟩ := z
  rw [← hK]
  exact hr R r1 r2 z
end
end DL
end
section -- DL3
set_option maxRecDepth 100000
set_option maxHeartbeats 1000000
/-! DL3: operators and comparisons, by data. -/
namespace DL
open PySem PySem.Spec PyProof.Rows L2

def LIM : Nat := 16777216
theorem lim_eq : LIM = sizeLine := by rw [sizeLine_eq]; rfl

/-! ### constants and names -/
def dC (d : D) : Den := fun δ => .ok (d, false) δ
def dVar (i : Nat) : Den := fun δ => match δ[i]? with
  | some (.val d) => .ok (d, false) δ
  | _ => .stuck
section
variable {X : Cx} {e a b c : Expr} {W : WX} {F : Fr} {ga gb gc : Den} {pos : Pos}
theorem de_tC {v : V} {d : D} (hK : F.K = X.K) (h : PE X e (tC v)) (hr : ∀ {A : Addr → Prop} {H : Hp}, KF F.K H → (∀ a, A a → ∃ o, H a = some o ∧ NT o) → RD F.K A H v d) : PE X e (tD W F (dC d)) := by
  refine PE.imp h fun σ H Q h => ?_
  obtain ⟨ow, δ, R, h⟩ := h
  exact h.ret R (hr R.kf fun a q => R.tracked q)
theorem de_int {i : Int} {j} (hK : F.K = X.K) : PE X (.Constant (.int i) j pos) (tD W F (dC (.int i))) := de_tC hK pe_int fun _ _ => .int i
theorem de_bl {i : Bool} {j} (hK : F.K = X.K) : PE X (.Constant (.bool i) j pos) (tD W F (dC (.bool i))) := de_tC hK pe_bl fun _ _ => .bl i
theorem de_non {j} (hK : F.K = X.K) : PE X (.Constant .none j pos) (tD W F (dC .none)) := de_tC hK pe_non fun _ _ => .non
theorem de_str {i : Str} {j} (hK : F.K = X.K) : PE X (.Constant (.str i) j pos) (tD W F (dC (.str i))) := de_tC hK pe_str fun _ _ => .str i
theorem de_var {i : Nat} {x : Str} (hN : X.N[i]? = some x) (hv : Vis X.env.scope x) (hd : (x == ("__debug__" : Str)) = false) (hcd : (x == ("__classdict__" : Str)) = false) : PE X (.Name x pos) (tD W F (dVar i)) := by
  refine PE.imp (pe_var hN hv hd hcd) fun σ H Q h => ?_
  obtain ⟨ow, δ, R, h⟩ := h
  dsimp only [dVar] at h
  cases q : δ[i]? with
  | none => rw [q] at h; exact h.elim
  | some s =>
    rw [q] at h
    cases s with
    | un => exact h.elim
    | own o => exact h.elim
    | val d =>
      obtain ⟨_, v, e, r⟩ := R.slot i _ q
      exact ⟨v, e, h.ret R r⟩
end

/-! ### two-place operators -/
def kAdd : EV → EV → Sta → Rs EV
  | (.int i, _), (.int j, _), δ => .ok (.int (i + j), false) δ
  | (.str x, _), (.str y, _), δ => if x.length + y.length ≤ LIM then .ok (.str (x ++ y), false) δ else .stuck
  | (.tuple xs, _), (.tuple ys, _), δ => if xs.length + ys.length ≤ LIM then .ok (.tuple (xs ++ ys), false) δ else .stuck
  | (.list xs, _), (.list ys, _), δ => if xs.length + ys.length ≤ LIM then .ok (.list (xs ++ ys), true) δ else .stuck
  | _, _, _ => .stuck
def kSub : EV → EV → Sta → Rs EV
  | (.int i, _), (.int j, _), δ => .ok (.int (i - j), false) δ
  | _, _, _ => .stuck
def srep (x : Str) (k : Nat) : Str := ⟨(List.replicate k x.cps.toList).flatten.toArray⟩
def kMul : EV → EV → Sta → Rs EV
  | (.int i, _), (.int j, _), δ => if i.natAbs.log2 + j.natAbs.log2 < 1000000 ∨ i.natAbs < 2 ^ 64 ∨ j.natAbs < 2 ^ 64 then .ok (.int (i * j), false) δ else .stuck
  | (.str x, _), (.int j, _), δ => if 0 ≤ j ∧ x.length * j.toNat ≤ LIM ∧ j.toNat ≤ LIM then .ok (.str (srep x j.toNat), false) δ else .stuck
  | (.tuple xs, _), (.int j, _), δ => if xs ≠ [] ∧ 2 ≤ j ∧ j ≤ 1000 ∧ xs.length ≤ 1000 then .ok (.tuple (List.replicate j.toNat xs).flatten, false) δ else .stuck
  | (.list xs, _), (.int j, _), δ => if 0 ≤ j ∧ xs.length * j.toNat ≤ LIM ∧ j.toNat ≤ LIM then .ok (.list (List.replicate j.toNat xs).flatten, true) δ else .stuck
  | _, _, _ => .stuck
/-- by a positive divisor -/
def kMod : EV → EV → Sta → Rs EV
  | (.int i, _), (.int j, _), δ => if 0 < j then .ok (.int (i % j), false) δ else .stuck
  | _, _, _ => .stuck
def kDiv : EV → EV → Sta → Rs EV
  | (.int i, _), (.int j, _), δ => if 0 < j ∧ j.natAbs.log2 < 9000 then .ok (.int (i / j), false) δ else .stuck
  | _, _, _ => .stuck
def kPow : EV → EV → Sta → Rs EV
  | (.int i, _), (.int j, _), δ => if 0 ≤ j ∧ j ≤ 1000000 ∧ i.natAbs < 2 ^ 64 then .ok (.int (i ^ j.toNat), false) δ else .stuck
  | _, _, _ => .stuck

/-- list + list, of any that may be read -/
def rCatR : R2 := fun x y H Q => ∃ l b xs zs, x = .ref l ∧ y = .ref b ∧ Rd H l (.lst xs) ∧ Rd H b (.lst zs) ∧ xs.length + zs.length ≤ sizeLine ∧ ∀ p, H p = none → Q (.ref p) (upd H p (.lst (xs ++ zs)))
def rRepR : R2 := fun x y H Q => ∃ l k xs, x = .ref l ∧ y = .int k ∧ Rd H l (.lst xs) ∧ -(2 ^ 63) ≤ k ∧ k < 2 ^ 63 ∧ xs.length * k.toNat ≤ sizeLine ∧
  ∀ p, H p = none → Q (.ref p) (upd H p (.lst (List.replicate k.toNat xs).flatten))
def rRepS : R2 := fun x y H Q => ∃ z k, x = .str z ∧ y = .int k ∧ 0 ≤ k ∧ z.length * k.toNat ≤ LIM ∧ k.toNat ≤ LIM ∧ Q (.str (srep z k.toNat)) H
section
variable {X : Cx}
theorem Inv.lstR {pins : List (Addr × Obj)} {σ : L2.St} {H : Hp} {s : Shared} {l : Addr} {xs : List V} (I : Inv X pins σ H s) (hH : Rd H l (.lst xs)) :
    xs.length ≤ sizeLine ∧ ∃ (its : List Value) (n : Nat), Vals xs its ∧ xs.length = its.length ∧ s.heap.get? l = some { cls := .type "list", data := .seq its.toArray n } := by
  obtain ⟨z, its, n, r, e⟩ := hH.ok I.hok
  exact ⟨z, its, n, r, r.length, e⟩
theorem op_catR : OpR X (binaryOp .Add) rCatR := by
  intro pins s σ H x y v u Q I rx ry h
  obtain ⟨l, b, xs, zs, ex, ey, hH, hB, hz, q⟩ := h
  subst ex ey
  cases rx
  cases ry
  obtain ⟨z, its, n, r, hl, e⟩ := Inv.lstR I hH
  obtain ⟨z2, its2, n2, r2, hl2, e2⟩ := Inv.lstR I hB
  refine PySem.P.add_list e e2 ?_ (by rw [List.size_toArray, List.size_toArray]; omega)
  have ea : its.toArray ++ its2.toArray = (its ++ its2).toArray := by simp
  rw [ea]
  exact ⟨.ref _, _, I.lnew (t' := s.toks) (r.append r2) (by rw [List.length_append]; omega), rfl, q _ I.fresh⟩
theorem op_repR : OpR X (binaryOp .Mult) rRepR := by
  intro pins s σ H x y v u Q I rx ry h
  obtain ⟨l, k, xs, ex, ey, hH, h1, h2, hz, q⟩ := h
  subst ex ey
  cases rx
  obtain ⟨t, rfl⟩ := ry
  obtain ⟨z, its, n, r, hl, e⟩ := Inv.lstR I hH
  have hn : its.toArray.size * k.toNat ≤ sizeLine := by rw [List.size_toArray, ← hl]; exact hz
  have hq : ¬ its.toArray.size * k.toNat > (2 ^ 63 - 1) / 8 := by
    have : (sizeLine : Nat) ≤ (2 ^ 63 - 1) / 8 := by decide
    omega
  have hf : ¬ (!Builtin.List.listFitsIndex k) = true := by
    rw [fitsIndex_both h1 h2]; exact Bool.false_ne_true
  have hg : ¬ Builtin.List.listTooLong (its.toArray.size * k.toNat) = true := by
    rw [notLongL hn]; exact Bool.false_ne_true
  have hw : List.foldl (fun x1 x2 => x1 ++ x2) #[] (List.replicate (if its.toArray.isEmpty = true then 0 else k.toNat) its.toArray) = (List.replicate k.toNat its).flatten.toArray := by
    have f0 : ∀ m : Nat, List.foldl (fun x1 x2 => x1 ++ x2) #[] (List.replicate m its.toArray) = (List.replicate m its).flatten.toArray := fun m => by
      have z := foldl_rep its m []
      rw [List.nil_append] at z
      exact z
    rw [f0]
    cases its with
    | nil => simp
    | cons a r' => rw [if_neg (by simp)]
  refine wpAny_binaryOp_repeat_ref (T := "list") (U := "int") (by decide) ⟨_, e, rfl⟩ (fun s' => typeIs_int s' k t) noFill_list_mul F.fills_int_mul F.slot_int_rmul repeat_list F.slot_int_index.lookup
    (call_meets F.slot_int_rmul (typeIs_int s k t) F.entry_int_rmul (F.args_int_rmul_2 _ _) (int___rmul___int_list k t l its.toArray n)
      ⟨e, rfl, ⟨_, e, rfl⟩, call_meets F.slot_list_mul ⟨_, e, rfl⟩ F.entry_list_mul (F.args_list_mul_2 _ _) (AutoListH.list___mul___list_int_3 l its.toArray n k t hf hq hg) ⟨e, ?_⟩⟩)
  rw [hw]
  exact ⟨.ref _, _, I.lnew (t' := s.toks) (r.rep k.toNat) (by rw [PyProof.Rows.lm_len_rep_flat, Nat.mul_comm]; exact hz), rfl, q _ I.fresh⟩
theorem foldl_srep (x : Array Nat) : ∀ (k : Nat) (acc : List Nat), (List.replicate k x).foldl (· ++ ·) acc.toArray = (acc ++ (List.replicate k x.toList).flatten).toArray
  | 0, acc => by simp
  | k + 1, acc => by
    rw [List.replicate_succ, List.foldl_cons]
    have e : acc.toArray ++ x = (acc ++ x.toList).toArray := by
      cases x; simp
    rw [e, foldl_srep x k, List.replicate_succ, List.flatten_cons, List.append_assoc]
theorem op_repS : OpR X (binaryOp .Mult) rRepS := by
  intro pins s σ H x y v u Q I rx ry h
  obtain ⟨z, k, ex, ey, h0, h1, h2, q⟩ := h
  subst ex ey
  obtain ⟨t, rfl⟩ := rx
  obtain ⟨t', rfl⟩ := ry
  have hL : LIM = 16777216 := rfl
  have fin : ∀ (r : Str), r = srep z k.toNat → ∀ tk, EP X pins σ Q (.str r tk) { s with toks := tk + 1 } := fun r e tk => ⟨.str r, H, I.tok _, ⟨_, rfl⟩, by rw [e]; exact q⟩
  refine PySem.P.mul_str ?_ (fun g1 g2 => ?_) (fun g1 g2 => ?_) ?_
  · have a1 : ¬ k < -(2 ^ 63 : Int) := by omega
    have a2 : ¬ k ≥ 2 ^ 63 := by omega
    rw [decide_eq_false a1, decide_eq_false a2]; rfl
  · have hk : 1 ≤ k := by omega
    have hm : (z.length : Int) * k ≤ 16777216 := by
      have e : ((z.length * k.toNat : Nat) : Int) = (z.length : Int) * k := by
        rw [Int.natCast_mul, Int.toNat_of_nonneg h0]
      rw [← e]; omega
    intro g
    have : (2 ^ 63 - 1) / k < (z.length : Int) := g
    have h3 : (z.length : Int) * k > 2 ^ 63 - 1 := by
      have := Int.lt_mul_of_ediv_lt (show (0 : Int) < k by omega) this
      omega
    omega
  · unfold Builtin.Str.tooLong
    apply decide_eq_false
    have : sizeLine = 16777216 := sizeLine_eq
    omega
  · by_cases g1 : k < 1
    · rw [if_pos g1]
      have : k.toNat = 0 := by omega
      refine ⟨by decide, fin _ ?_ _⟩
      unfold srep; rw [this]; rfl
    · rw [if_neg g1]
      by_cases g2 : (k == 1 || z.length == 0) = true
      · rw [if_pos g2]
        refine ⟨.str z, H, I, ⟨_, rfl⟩, ?_⟩
        have : srep z k.toNat = z := by
          unfold srep
          rcases Bool.or_eq_true_iff.mp g2 with g | g
          · have : k = 1 := by simpa using g
            subst this
            apply Str.ext'
            show ((List.replicate 1 z.cps.toList).flatten).toArray = z.cps
            simp
          · have hz : z.cps = #[] := by
              have : z.cps.size = 0 := by simpa [Str.length] using g
              exact Array.eq_empty_of_size_eq_zero this
            apply Str.ext'
            show ((List.replicate k.toNat z.cps.toList).flatten).toArray = z.cps
            rw [hz]; simp
        rw [this] at q
        exact q
      · rw [if_neg g2]
        have e : (⟨(List.replicate k.toNat z.cps).foldl (· ++ ·) #[]⟩ : Str) = srep z k.toNat := by
          apply Str.ext'
          exact (foldl_srep z.cps k.toNat []).trans (by simp [srep])
        refine ⟨?_, fin _ e _⟩
        rw [e]
        unfold srep
        show ((List.replicate k.toNat z.cps.toList).flatten).toArray.size ≤ sizeLine
        rw [List.size_toArray, PyProof.Rows.lm_len_rep_flat, Nat.mul_comm, ← lim_eq]
        have : z.cps.toList.length = z.length := by simp [Str.length]
        rw [this]; exact h1
end

section
variable {X : Cx} {e a b c : Expr} {W : WX} {F : Fr} {ga gb gc : Den} {pos : Pos}
variable {ow : Ow} {δ : Sta} {σ : L2.St} {H : Hp} {Q : VK} {v : V} {d : D}
/-- kinds told by data -/
theorem RD.intE {K A i} (r : RD K A H v (.int i)) : v = .int i := by cases r; rfl
theorem RD.blE {K A i} (r : RD K A H v (.bool i)) : v = .bl i := by cases r; rfl
theorem RD.strE {K A i} (r : RD K A H v (.str i)) : v = .str i := by cases r; rfl
theorem RD.nonE {K A} (r : RD K A H v .none) : v = .non := by cases r; rfl
theorem RD.lstE {K A ds} (r : RD K A H v (.list ds)) : ∃ a xs, v = .ref a ∧ Rd H a (.lst xs) ∧ ¬ A a ∧ RDs K A H xs ds := by
  cases r with
  | lst h n r => exact ⟨_, _, rfl, h, n, r⟩
theorem RD.tupE {K A ds} (r : RD K A H v (.tuple ds)) : ∃ a xs, v = .ref a ∧ SqT K H a xs ∧ ¬ A a ∧ RDs K A H xs ds := by
  cases r with
  | tup h n r => exact ⟨_, _, rfl, h, n, r⟩

theorem de_add (hK : F.K = X.K) (ha : PE X a (tD W F ga)) (hb : PE X b (tD W F gb)) :
    PE X (.BinOp a .Add b pos) (tD W F fun δ => (ga δ).bind fun a δ1 => (gb δ1).bind fun b δ2 => kAdd a b δ2) := by
  refine de_op hK ((op_add.or op_add_str).or (op_catA.or op_catR)) ha hb fun {ow δ σ H x y d1 f1 d2 f2 Q} R r1 r2 h => ?_
  have hL := lim_eq
  unfold kAdd at h
  split at h
  · rename_i q1 q2
    cases q1; cases q2
    exact .inl (.inl ⟨_, _, r1.intE, r2.intE, fun _ => h.ret R (.int _)⟩)
  · rename_i q1 q2
    cases q1; cases q2
    split at h
    · rename_i hz
      exact .inl (.inr ⟨_, _, r1.strE, r2.strE, by omega, fun _ => h.ret R (.str _)⟩)
    · exact h.elim
  · rename_i q1 q2
    cases q1; cases q2
    split at h
    · rename_i hz
      obtain ⟨p, xs, rfl, t1, n1, s1⟩ := r1.tupE
      obtain ⟨q, ys, rfl, t2, n2, s2⟩ := r2.tupE
      have l1 := s1.length
      have l2 := s2.length
      rw [hK] at t1 t2
      refine .inr (.inl ⟨p, q, xs, ys, rfl, rfl, t1, t2, by omega, fun e _ => ?_, fun _ e _ => ?_, fun _ _ w nw kf => ?_⟩)
      · subst e
        cases s1
        exact h.ret R r2
      · subst e
        cases s2
        rw [List.append_nil] at h
        exact h.ret R r1
      · exact h.tup R (s1.append s2) nw kf
    · exact h.elim
  · rename_i q1 q2
    cases q1; cases q2
    split at h
    · rename_i hz
      obtain ⟨p, xs, rfl, t1, n1, s1⟩ := r1.lstE
      obtain ⟨q, ys, rfl, t2, n2, s2⟩ := r2.lstE
      have l1 := s1.length
      have l2 := s2.length
      exact .inr (.inr ⟨p, q, xs, ys, rfl, rfl, t1, t2, by omega, fun w nw kf => h.lst R (s1.append s2) nw kf⟩)
    · exact h.elim
  · exact h.elim
theorem de_sub (hK : F.K = X.K) (ha : PE X a (tD W F ga)) (hb : PE X b (tD W F gb)) :
    PE X (.BinOp a .Sub b pos) (tD W F fun δ => (ga δ).bind fun a δ1 => (gb δ1).bind fun b δ2 => kSub a b δ2) := by
  refine de_op hK op_sub ha hb fun {ow δ σ H x y d1 f1 d2 f2 Q} R r1 r2 h => ?_
  unfold kSub at h
  split at h
  · rename_i q1 q2
    cases q1; cases q2
    exact ⟨_, _, r1.intE, r2.intE, fun _ => h.ret R (.int _)⟩
  · exact h.elim
theorem de_mod (hK : F.K = X.K) (ha : PE X a (tD W F ga)) (hb : PE X b (tD W F gb)) :
    PE X (.BinOp a .Mod b pos) (tD W F fun δ => (ga δ).bind fun a δ1 => (gb δ1).bind fun b δ2 => kMod a b δ2) := by
  refine de_op hK op_mod ha hb fun {ow δ σ H x y d1 f1 d2 f2 Q} R r1 r2 h => ?_
  unfold kMod at h
  split at h
  · rename_i q1 q2
    cases q1; cases q2
    split at h
    · rename_i hz
      exact ⟨_, _, r1.intE, r2.intE, hz, fun _ => h.ret R (.int _)⟩
    · exact h.elim
  · exact h.elim
theorem de_div (hK : F.K = X.K) (ha : PE X a (tD W F ga)) (hb : PE X b (tD W F gb)) :
    PE X (.BinOp a .FloorDiv b pos) (tD W F fun δ => (ga δ).bind fun a δ1 => (gb δ1).bind fun b δ2 => kDiv a b δ2) := by
  refine de_op hK op_fdivW ha hb fun {ow δ σ H x y d1 f1 d2 f2 Q} R r1 r2 h => ?_
  unfold kDiv at h
  split at h
  · rename_i q1 q2
    cases q1; cases q2
    split at h
    · rename_i hz
      exact ⟨_, _, r1.intE, r2.intE, hz, fun _ => h.ret R (.int _)⟩
    · exact h.elim
  · exact h.elim
theorem de_pow (hK : F.K = X.K) (ha : PE X a (tD W F ga)) (hb : PE X b (tD W F gb)) :
    PE X (.BinOp a .Pow b pos) (tD W F fun δ => (ga δ).bind fun a δ1 => (gb δ1).bind fun b δ2 => kPow a b δ2) := by
  refine de_op hK op_pow ha hb fun {ow δ σ H x y d1 f1 d2 f2 Q} R r1 r2 h => ?_
  unfold kPow at h
  split at h
  · rename_i q1 q2
    cases q1; cases q2
    split at h
    · rename_i hz
      exact ⟨_, _, r1.intE, r2.intE, hz, fun _ => h.ret R (.int _)⟩
    · exact h.elim
  · exact h.elim
theorem de_mul (hK : F.K = X.K) (ha : PE X a (tD W F ga)) (hb : PE X b (tD W F gb)) :
    PE X (.BinOp a .Mult b pos) (tD W F fun δ => (ga δ).bind fun a δ1 => (gb δ1).bind fun b δ2 => kMul a b δ2) := by
  refine de_op hK ((op_mul.or op_mulW).or (op_repS.or (op_repT.or op_repR))) ha hb fun {ow δ σ H x y d1 f1 d2 f2 Q} R r1 r2 h => ?_
  have hL := lim_eq
  have hl : LIM = 16777216 := rfl
  unfold kMul at h
  split at h
  · rename_i i _ j _ q1 q2
    cases q1; cases q2
    split at h
    · rename_i hz
      rcases hz with hz | hz
      · exact .inl (.inr ⟨_, _, r1.intE, r2.intE, hz, fun _ => h.ret R (.int _)⟩)
      · refine .inl (.inl ⟨_, _, r1.intE, r2.intE, ?_, fun _ => h.ret R (.int _)⟩)
        rcases hz with hz | hz
        · left; constructor <;> omega
        · right; constructor <;> omega
    · exact h.elim
  · rename_i q1 q2
    cases q1; cases q2
    split at h
    · rename_i hz
      exact .inr (.inl ⟨_, _, r1.strE, r2.intE, hz.1, hz.2.1, hz.2.2, fun _ => h.ret R (.str _)⟩)
    · exact h.elim
  · rename_i q1 q2
    cases q1; cases q2
    split at h
    · rename_i hz
      obtain ⟨p, xs, rfl, t1, n1, s1⟩ := r1.tupE
      have l1 := s1.length
      rw [hK] at t1
      refine .inr (.inr (.inl ⟨p, _, xs, rfl, r2.intE, t1, fun e => ?_, hz.2.1, hz.2.2.1, by omega, fun w nw kf => ?_⟩))
      · subst e; cases s1; exact hz.1 rfl
      · exact h.tup R (s1.rep _) nw kf
    · exact h.elim
  · rename_i q1 q2
    cases q1; cases q2
    split at h
    · rename_i hz
      obtain ⟨p, xs, rfl, t1, n1, s1⟩ := r1.lstE
      have l1 := s1.length
      refine .inr (.inr (.inr ⟨p, _, xs, rfl, r2.intE, t1, by omega, by omega, ?_, fun w nw kf => ?_⟩))
      · rw [l1, ← hL]; exact hz.2.1
      · exact h.lst R (s1.rep _) nw kf
    · exact h.elim
  · exact h.elim
end
end DL
end
section -- DL4
set_option maxRecDepth 100000
set_option maxHeartbeats 1000000
/-! DL4: comparisons, tests, the two-way and the boolean operators, by data. -/
namespace DL
open PySem PySem.Spec PyProof.Rows L2

/-! ### comparisons -/
def eqS : D → D → Option Bool
  | .none, .none => some true
  | .none, .int _ => some false
  | .none, .bool _ => some false
  | .none, .str _ => some false
  | .int _, .none => some false
  | .bool _, .none => some false
  | .str _, .none => some false
  | .int a, .int b => some (decide (a = b))
  | .bool a, .bool b => some (decide (a = b))
  | .str a, .str b => some (decide (a = b))
  | .int _, .str _ => some false
  | .str _, .int _ => some false
  | .bool _, .str _ => some false
  | .str _, .bool _ => some false
  | _, _ => none
def eqD (a b : D) : Option Bool := match eqS a b with
  | some k => some k
  | none => if SeqAt.shaped a && SeqAt.shaped b then some (PyData.eqv a b) else none
def isNon : D → Bool
  | .none => true
  | _ => false
def inS (x z : Str) : Option Bool := match x.cps.toList with
  | [c] => some (decide (c ∈ z.cps.toList))
  | _ => none
def flatD : D → Bool
  | .none => true
  | .bool _ => true
  | .int _ => true
  | .str _ => true
  | _ => false
def eqF : D → D → Bool
  | .none, .none => true
  | .bool a, .bool b => a == b
  | .bool a, .int b => (if a then 1 else 0) == b
  | .int a, .bool b => a == (if b then 1 else 0)
  | .int a, .int b => a == b
  | .str a, .str b => a == b
  | _, _ => false
def inD (x : D) (xs : List D) : Option Bool :=
  if flatD x && xs.all flatD then some (xs.any fun y => eqF y x)
  else none
def inDD (x : D) (xs : List D) : Option Bool :=
  if SeqAt.shaped x && SeqAt.shaped (.list xs) then some (xs.any fun z => PyData.eqv z x) else none
def cmpD : CmpOp → D → D → Option Bool
  | .Eq, a, b => eqD a b
  | .NotEq, a, b => (eqD a b).map (!·)
  | .Lt, .int a, .int b => some (decide (a < b))
  | .LtE, .int a, .int b => some (decide (a ≤ b))
  | .Gt, .int a, .int b => some (decide (b < a))
  | .GtE, .int a, .int b => some (decide (b ≤ a))
  | .Is, .bool a, .bool b => some (decide (a = b))
  | .Is, a, .none => some (isNon a)
  | .IsNot, .bool a, .bool b => some (!decide (a = b))
  | .IsNot, a, .none => some (!isNon a)
  | .In, .str x, .str z => inS x z
  | .NotIn, .str x, .str z => (inS x z).map (!·)
  | .In, x, .list xs => match inD x xs with | some k => some k | none => inDD x xs
  | .NotIn, x, .list xs => match inD x xs with | some k => some (!k) | none => (inDD x xs).map (!·)
  | .In, x, .tuple xs => inD x xs
  | .NotIn, x, .tuple xs => (inD x xs).map (!·)
  | _, _, _ => none

section
variable {X : Cx} {e a b c : Expr} {W : WX} {F : Fr} {ga gb gc : Den} {pos : Pos} {K : PySem.W.Frag} {A : Addr → Prop} {H : Hp} {x y v : V} {d d1 d2 : D}
theorem eqS_ok {k : Bool} (r1 : RD K A H x d1) (r2 : RD K A H y d2) (h : eqS d1 d2 = some k) : scal x y = true ∧ decide (x = y) = k := by
  cases r1 <;> cases r2 <;> simp only [eqS, reduceCtorEq, Option.some.injEq] at h <;> subst h <;> refine ⟨rfl, ?_⟩ <;> simp
theorem flat_ok (r : RD K A H x d) (h : flatD d = true) : flatV x = true := by
  cases r <;> first | rfl | (simp [flatD] at h)
theorem eqF_ok (r1 : RD K A H x d1) (r2 : RD K A H y d2) (h1 : flatD d1 = true) (h2 : flatD d2 = true) : eqV x y = eqF d1 d2 := by
  cases r1 <;> cases r2 <;> first | rfl | (simp [flatD] at h1; done) | (simp [flatD] at h2; done)
theorem flats_ok : ∀ {xs : List V} {ds : List D}, RDs K A H xs ds → ds.all flatD = true → xs.all flatV = true
  | _, _, .nil, _ => rfl
  | _, _, .cons a b, h => by
    simp only [List.all_cons, Bool.and_eq_true] at h ⊢
    exact ⟨flat_ok a h.1, flats_ok b h.2⟩
theorem inF_ok (r : RD K A H x d) (hx : flatD d = true) : ∀ {xs : List V} {ds : List D}, RDs K A H xs ds → ds.all flatD = true → inV x xs = ds.any fun y => eqF y d
  | _, _, .nil, _ => rfl
  | _, _, .cons a b, h => by
    simp only [List.all_cons, Bool.and_eq_true] at h
    have ih := inF_ok r hx b h.2
    unfold inV at ih ⊢
    simp only [List.any_cons, ih, eqF_ok a r h.1 hx]
/-- what the comparison asks of the library -/
def CmpOk (X : Cx) (F : Fr) (op : CmpOp) : Prop := ∃ r, OpR X (compareOp op) r ∧ ∀ {A : Addr → Prop} {H : Hp} {x y : V} {d1 d2 : D} {k : Bool} {Q : VK}, RD F.K A H x d1 → RD F.K A H y d2 → cmpD op d1 d2 = some k → Q (.bl k) H → r x y H Q
theorem cmp_Eq (hK : F.K = X.K) (hu : X.A.units + 64 < cLine) : CmpOk X F .Eq := by
  refine ⟨_, op_eq.or (op_eqD hu), fun {A H x y d1 d2 k Q} r1 r2 h q => ?_⟩
  rw [hK] at r1 r2
  simp only [cmpD, eqD] at h
  split at h
  · rename_i k' h'
    cases h
    obtain ⟨s, e⟩ := eqS_ok r1 r2 h'
    exact .inl ⟨s, by rw [e]; exact q⟩
  · split at h
    · rename_i hs
      cases h
      rw [Bool.and_eq_true] at hs
      exact .inr ⟨_, _, r1.dp, r2.dp, hs.1, hs.2, q⟩
    · cases h
theorem cmp_Ne (hK : F.K = X.K) (hu : X.A.units + 64 < cLine) : CmpOk X F .NotEq := by
  refine ⟨_, op_ne.or (op_neD hu), fun {A H x y d1 d2 k Q} r1 r2 h q => ?_⟩
  rw [hK] at r1 r2
  simp only [cmpD, eqD, Option.map_eq_some_iff] at h
  obtain ⟨k', h, rfl⟩ := h
  split at h
  · rename_i k'' h'
    cases h
    obtain ⟨s, e⟩ := eqS_ok r1 r2 h'
    exact .inl ⟨s, by rw [e]; exact q⟩
  · split at h
    · rename_i hs
      cases h
      rw [Bool.and_eq_true] at hs
      exact .inr ⟨_, _, r1.dp, r2.dp, hs.1, hs.2, q⟩
    · cases h
theorem cmp_int {op : CmpOp} {g : Int → Int → Bool} (ho : OpR X (compareOp op) (rI0 fun i j => .bl (g i j))) (hg : ∀ d1 d2 k, cmpD op d1 d2 = some k → ∃ i j, d1 = .int i ∧ d2 = .int j ∧ g i j = k) : CmpOk X F op := by
  refine ⟨_, ho, fun {A H x y d1 d2 k Q} r1 r2 h q => ?_⟩
  obtain ⟨i, j, e1, e2, e3⟩ := hg _ _ _ h
  subst e1 e2 e3
  exact ⟨i, j, r1.intE, r2.intE, q⟩
theorem cmp_Lt : CmpOk X F .Lt := cmp_int op_lt fun d1 d2 k h => by
  cases d1 <;> cases d2 <;> simp only [cmpD, reduceCtorEq, Option.some.injEq] at h
  exact ⟨_, _, rfl, rfl, h⟩
theorem cmp_LtE : CmpOk X F .LtE := cmp_int op_le fun d1 d2 k h => by
  cases d1 <;> cases d2 <;> simp only [cmpD, reduceCtorEq, Option.some.injEq] at h
  exact ⟨_, _, rfl, rfl, h⟩
theorem cmp_Gt : CmpOk X F .Gt := cmp_int op_gt fun d1 d2 k h => by
  cases d1 <;> cases d2 <;> simp only [cmpD, reduceCtorEq, Option.some.injEq] at h
  exact ⟨_, _, rfl, rfl, h⟩
theorem cmp_GtE : CmpOk X F .GtE := cmp_int op_ge fun d1 d2 k h => by
  cases d1 <;> cases d2 <;> simp only [cmpD, reduceCtorEq, Option.some.injEq] at h
  exact ⟨_, _, rfl, rfl, h⟩
theorem isNon_ok (r : RD K A H x d) : decide (x = .non) = isNon d := by
  cases r <;> first | rfl | simp [isNon]
theorem cmp_Is : CmpOk X F .Is := by
  refine ⟨_, op_isN.or op_isBl, fun {A H x y d1 d2 k Q} r1 r2 h q => ?_⟩
  cases r2 with
  | non =>
    have e : isNon d1 = k := by cases d1 <;> simp only [cmpD, Option.some.injEq] at h <;> exact h
    exact .inl ⟨rfl, by rw [isNon_ok r1, e]; exact q⟩
  | bl b2 =>
    cases r1 with
    | bl b1 =>
      simp only [cmpD, Option.some.injEq] at h
      exact .inr ⟨_, _, rfl, rfl, by rw [h]; exact q⟩
    | _ => simp only [cmpD, reduceCtorEq] at h
  | _ => cases d1 <;> simp only [cmpD, reduceCtorEq] at h
theorem cmp_IsNot : CmpOk X F .IsNot := by
  refine ⟨_, op_notN.or op_notBl, fun {A H x y d1 d2 k Q} r1 r2 h q => ?_⟩
  cases r2 with
  | non =>
    have e : (!isNon d1) = k := by cases d1 <;> simp only [cmpD, Option.some.injEq] at h <;> exact h
    exact .inl ⟨rfl, by rw [isNon_ok r1, e]; exact q⟩
  | bl b2 =>
    cases r1 with
    | bl b1 =>
      simp only [cmpD, Option.some.injEq] at h
      exact .inr ⟨_, _, rfl, rfl, by rw [h]; exact q⟩
    | _ => simp only [cmpD, reduceCtorEq] at h
  | _ => cases d1 <;> simp only [cmpD, reduceCtorEq] at h
theorem inS_ok {x z : Str} {k : Bool} (h : inS x z = some k) : ∃ c, x = ⟨#[c]⟩ ∧ decide (c ∈ z.cps.toList) = k := by
  unfold inS at h
  split at h
  · rename_i c q
    cases h
    exact ⟨c, Str.ext' (by apply Array.toList_inj.mp; exact q), rfl⟩
  · cases h
theorem cmp_In (hK : F.K = X.K) (hu : X.A.units + 65 < cLine) : CmpOk X F .In := by
  refine ⟨_, op_in_sign.or (op_in_seq.or (op_inD hu)), fun {A H x y d1 d2 k Q} r1 r2 h q => ?_⟩
  rw [hK] at r1 r2
  cases r2 with
  | str z =>
    cases r1 with
    | str x =>
      simp only [cmpD] at h
      obtain ⟨c, rfl, e⟩ := inS_ok h
      exact .inl ⟨c, z, rfl, rfl, by rw [e]; exact q⟩
    | _ => simp only [cmpD, reduceCtorEq] at h
  | lst hl n rs =>
    simp only [cmpD] at h
    unfold inD at h
    split at h
    · rename_i k' h'
      cases h
      split at h'
      · rename_i hf
        rw [Bool.and_eq_true] at hf
        cases h'
        refine .inr (.inl ⟨_, _, rfl, .inl (.inl hl), flat_ok r1 hf.1, flats_ok rs hf.2, ?_⟩)
        rw [if_neg Bool.false_ne_true, inF_ok r1 hf.1 rs hf.2]
        exact q
      · cases h'
    · unfold inDD at h
      split at h
      · rename_i hf
        rw [Bool.and_eq_true] at hf
        cases h
        exact .inr (.inr ⟨_, _, r1.dp, (RD.lst hl n rs).dp, hf.1, hf.2, q⟩)
      · cases h
  | @tup a xs ds hl n rs =>
    have h : inD d1 ds = some k := by cases d1 <;> exact h
    unfold inD at h
    split at h
    · rename_i hf
      rw [Bool.and_eq_true] at hf
      cases h
      refine .inr (.inl ⟨_, _, rfl, .inr hl, flat_ok r1 hf.1, flats_ok rs hf.2, ?_⟩)
      rw [if_neg Bool.false_ne_true, inF_ok r1 hf.1 rs hf.2]
      exact q
    · cases h
  | _ => cases d1 <;> simp only [cmpD, reduceCtorEq] at h
theorem cmp_NotIn (hK : F.K = X.K) (hu : X.A.units + 65 < cLine) : CmpOk X F .NotIn := by
  refine ⟨_, op_notIn_sign.or (op_notIn_seq.or (op_notInD hu)), fun {A H x y d1 d2 k Q} r1 r2 h q => ?_⟩
  rw [hK] at r1 r2
  cases r2 with
  | str z =>
    cases r1 with
    | str x =>
      simp only [cmpD, Option.map_eq_some_iff] at h
      obtain ⟨k', h, rfl⟩ := h
      obtain ⟨c, rfl, e⟩ := inS_ok h
      exact .inl ⟨c, z, rfl, rfl, by rw [e]; exact q⟩
    | _ => simp only [cmpD, reduceCtorEq] at h
  | lst hl n rs =>
    simp only [cmpD] at h
    unfold inD at h
    split at h
    · rename_i k' h'
      cases h
      split at h'
      · rename_i hf
        rw [Bool.and_eq_true] at hf
        cases h'
        refine .inr (.inl ⟨_, _, rfl, .inl (.inl hl), flat_ok r1 hf.1, flats_ok rs hf.2, ?_⟩)
        rw [if_pos rfl, inF_ok r1 hf.1 rs hf.2]
        exact q
      · cases h'
    · simp only [Option.map_eq_some_iff] at h
      obtain ⟨k', h, rfl⟩ := h
      unfold inDD at h
      split at h
      · rename_i hf
        rw [Bool.and_eq_true] at hf
        cases h
        exact .inr (.inr ⟨_, _, r1.dp, (RD.lst hl n rs).dp, hf.1, hf.2, q⟩)
      · cases h
  | @tup a xs ds hl n rs =>
    have h2 : (inD d1 ds).map (!·) = some k := by cases d1 <;> exact h
    clear h
    simp only [Option.map_eq_some_iff] at h2
    obtain ⟨k', h2, rfl⟩ := h2
    unfold inD at h2
    split at h2
    · rename_i hf
      rw [Bool.and_eq_true] at hf
      cases h2
      refine .inr (.inl ⟨_, _, rfl, .inr hl, flat_ok r1 hf.1, flats_ok rs hf.2, ?_⟩)
      rw [if_pos rfl, inF_ok r1 hf.1 rs hf.2]
      exact q
    · cases h2
  | _ => cases d1 <;> simp only [cmpD, reduceCtorEq] at h
theorem cmp_ok (hK : F.K = X.K) (hu : X.A.units + 65 < cLine) : ∀ op, CmpOk X F op
  | .Eq => cmp_Eq hK (by omega)
  | .NotEq => cmp_Ne hK (by omega)
  | .Lt => cmp_Lt
  | .LtE => cmp_LtE
  | .Gt => cmp_Gt
  | .GtE => cmp_GtE
  | .Is => cmp_Is
  | .IsNot => cmp_IsNot
  | .In => cmp_In hK hu
  | .NotIn => cmp_NotIn hK hu
end

/-- a reading of two operands and their comparison, as a truth -/
def kCmp (op : CmpOp) (a b : EV) (δ : Sta) : Rs Bool := match cmpD op a.1 b.1 with
  | some k => .ok k δ
  | none => .stuck
def Rs.toEV (r : Rs Bool) : Rs EV := r.bind fun k δ => .ok (.bool k, false) δ
def dCmp (op : CmpOp) (ga gb : Den) : TDen := fun δ => (ga δ).bind fun a δ1 => (gb δ1).bind fun b δ2 => kCmp op a b δ2
def dVal (g : TDen) : Den := fun δ => (g δ).toEV
def truD : D → Option Bool
  | .none => some false
  | .bool b => some b
  | .int i => some (i != 0)
  | .str x => if x.length ≤ LIM then some (x.length != 0) else none
  | .list xs => some (!xs.isEmpty)
  | .tuple xs => some (!xs.isEmpty)
  | .dict _ => none
def dTru (g : Den) : TDen := fun δ => (g δ).bind fun a δ1 => match truD a.1 with
  | some k => .ok k δ1
  | none => .stuck
def dAnd (ga gb : TDen) : TDen := fun δ => (ga δ).bind fun k δ1 => if k = true then gb δ1 else .ok false δ1
def dOr (ga gb : TDen) : TDen := fun δ => (ga δ).bind fun k δ1 => if k = true then .ok true δ1 else gb δ1
def dNot (ga : TDen) : TDen := fun δ => (ga δ).bind fun k δ1 => .ok (!k) δ1
/-- as values: the left ones truths -/
def dAndV (ga gb : Den) : Den := fun δ => (ga δ).bind fun a δ1 => match a.1 with
  | .bool k => if k = true then gb δ1 else .ok (.bool false, false) δ1
  | _ => .stuck
def dOrV (ga gb : Den) : Den := fun δ => (ga δ).bind fun a δ1 => match a.1 with
  | .bool k => if k = true then .ok (.bool true, false) δ1 else gb δ1
  | _ => .stuck
def dNotV (ga : Den) : Den := fun δ => (ga δ).bind fun a δ1 => match a.1 with
  | .bool k => .ok (.bool (!k), false) δ1
  | _ => .stuck
def dIf (gc : TDen) (ga gb : Den) : Den := fun δ => (gc δ).bind fun k δ1 => if k = true then ga δ1 else gb δ1

section
variable {X : Cx} {e a b c : Expr} {rest : List Expr} {W : WX} {F : Fr} {ga gb gc : Den} {ta tb tc : TDen} {pos : Pos}
theorem tT.mono {g : TDen} {σ : L2.St} {H : Hp} {Q Q' : Bool → Hp → Prop} (h : tT W F g σ H Q) (hq : ∀ v H', Q v H' → Q' v H') : tT W F g σ H Q' := by
  obtain ⟨ow, δ, R, h⟩ := h
  refine ⟨ow, δ, R, ?_⟩
  cases q : g δ with
  | ok a δ' => rw [q] at h; exact fun H' R e' => hq _ _ (h H' R e')
  | exc c w δ' => rw [q] at h; exact h
  | stuck => rw [q] at h; exact h
/-- a value, then a test -/
theorem seq1T {k : EV → Sta → Rs Bool} {σ : L2.St} {H : Hp} {Q : Bool → Hp → Prop} (h : tT W F (fun δ => (ga δ).bind k) σ H Q) :
    tD W F ga σ H fun x H1 => ∃ ow δ1 d1 f1, Rel F NoB ow δ1 σ H1 ∧ RD F.K (F.A NoB ow) H1 x d1 ∧ PostT W F ow σ H1 Q (k (d1, f1) δ1) := by
  obtain ⟨ow, δ, R, h⟩ := h
  refine ⟨ow, δ, R, ?_⟩
  dsimp only at h
  cases q : ga δ with
  | ok a δ1 =>
    rw [q] at h
    exact fun v H' R' e r l => ⟨ow, δ1, a.1, a.2, R', r, PostT.go e h⟩
  | exc c w δ' => rw [q] at h; exact h
  | stuck => rw [q] at h; exact h
theorem seq2T {k : EV → EV → Sta → Rs Bool} {σ : L2.St} {H : Hp} {Q : Bool → Hp → Prop} (h : tT W F (fun δ => (ga δ).bind fun a δ1 => (gb δ1).bind fun b δ2 => k a b δ2) σ H Q) :
    tD W F ga σ H fun x H1 => tD W F gb σ H1 fun y H2 => ∃ ow δ2 d1 f1 d2 f2, Rel F NoB ow δ2 σ H2 ∧ RD F.K (F.A NoB ow) H2 x d1 ∧ RD F.K (F.A NoB ow) H2 y d2 ∧ PostT W F ow σ H2 Q (k (d1, f1) (d2, f2) δ2) := by
  refine (seq1T h).mono fun x H1 z => ?_
  obtain ⟨ow, δ1, d1, f1, R1, r1, z⟩ := z
  refine ⟨ow, δ1, R1, ?_⟩
  cases q : gb δ1 with
  | ok b δ2 =>
    rw [q] at z
    exact fun v H' R' e r l => ⟨ow, δ2, d1, f1, b.1, b.2, R', r1.ext e, r, PostT.go e z⟩
  | exc c w δ' => rw [q] at z; exact z
  | stuck => rw [q] at z; exact z
/-- a test, then what is made of it -/
theorem seqT {k : Bool → Sta → Rs EV} {σ : L2.St} {H : Hp} {Q : VK} (h : tD W F (fun δ => (ta δ).bind k) σ H Q) :
    tT W F ta σ H fun c H1 => ∃ ow δ1, Rel F NoB ow δ1 σ H1 ∧ PostE W F ow σ H1 Q (k c δ1) := by
  obtain ⟨ow, δ, R, h⟩ := h
  refine ⟨ow, δ, R, ?_⟩
  dsimp only at h
  cases q : ta δ with
  | ok a δ1 =>
    rw [q] at h
    exact fun H' R' e => ⟨ow, δ1, R', PostE.go R' e h⟩
  | exc c w δ' => rw [q] at h; exact h
  | stuck => rw [q] at h; exact h
theorem seqTT {k : Bool → Sta → Rs Bool} {σ : L2.St} {H : Hp} {Q : Bool → Hp → Prop} (h : tT W F (fun δ => (ta δ).bind k) σ H Q) :
    tT W F ta σ H fun c H1 => ∃ ow δ1, Rel F NoB ow δ1 σ H1 ∧ PostT W F ow σ H1 Q (k c δ1) := by
  obtain ⟨ow, δ, R, h⟩ := h
  refine ⟨ow, δ, R, ?_⟩
  dsimp only at h
  cases q : ta δ with
  | ok a δ1 =>
    rw [q] at h
    exact fun H' R' e => ⟨ow, δ1, R', PostT.go e h⟩
  | exc c w δ' => rw [q] at h; exact h
  | stuck => rw [q] at h; exact h
theorem PostT.ret {k : Bool} {ow : Ow} {δ : Sta} {σ : L2.St} {H : Hp} {Q : Bool → Hp → Prop} (h : PostT W F ow σ H Q (.ok k δ)) (R : Rel F NoB ow δ σ H) : Q k H := h H R Ext.refl
theorem kCmp_some {op : CmpOp} {x y : EV} {δ : Sta} {ow : Ow} {σ : L2.St} {H : Hp} {Q : Bool → Hp → Prop} (h : PostT W F ow σ H Q (kCmp op x y δ)) : ∃ k, cmpD op x.1 y.1 = some k ∧ PostT W F ow σ H Q (.ok k δ) := by
  unfold kCmp at h
  split at h
  · exact ⟨_, by assumption, h⟩
  · exact h.elim
theorem toEV_post {r : Rs Bool} {ow : Ow} {σ : L2.St} {H : Hp} {Q : VK} (h : PostE W F ow σ H Q r.toEV) : PostT W F ow σ H (fun k H' => Q (.bl k) H') r := by
  cases r with
  | ok k δ => exact fun H' R e => h _ H' R e (.bl k) (fun z => nomatch z)
  | exc c w δ => exact h
  | stuck => exact h
theorem de_cmp {op : CmpOp} (hK : F.K = X.K) (ho : CmpOk X F op) (ha : PE X a (tD W F ga)) (hb : PE X b (tD W F gb)) (hm : behindInMarks op b = false) : PE X (.Compare a [op] [b] pos) (tD W F (dVal (dCmp op ga gb))) := by
  obtain ⟨r, h1, h2⟩ := ho
  refine PE.imp (pe_cmpR h1 ha hb hm) fun σ H Q h => ?_
  have h : tT W F (dCmp op ga gb) σ H fun k H' => Q (.bl k) H' := by
    obtain ⟨ow, δ, R, h⟩ := h
    exact ⟨ow, δ, R, toEV_post h⟩
  refine (seq2T h).mono fun x H1 z => z.mono fun y H2 z => ?_
  obtain ⟨ow, δ2, d1, f1, d2, f2, R, r1, r2, z⟩ := z
  obtain ⟨k, e, z⟩ := kCmp_some z
  exact h2 r1 r2 e (z.ret R)
theorem dt_cmp {op : CmpOp} (hK : F.K = X.K) (ho : CmpOk X F op) (ha : PE X a (tD W F ga)) (hb : PE X b (tD W F gb)) (hm : behindInMarks op b = false) : PT X (.Compare a [op] [b] pos) (tT W F (dCmp op ga gb)) := by
  obtain ⟨r, h1, h2⟩ := ho
  refine PT.imp (pt_cmpR h1 ha hb hm) fun σ H Q h => ?_
  refine (seq2T h).mono fun x H1 z => z.mono fun y H2 z => ?_
  obtain ⟨ow, δ2, d1, f1, d2, f2, R, r1, r2, z⟩ := z
  obtain ⟨k, e, z⟩ := kCmp_some z
  exact h2 r1 r2 e ⟨k, rfl, z.ret R⟩
/-- a op b op' c -/
def dChain (op op' : CmpOp) (ga gb gc : Den) : TDen := fun δ => (ga δ).bind fun a δ1 => (gb δ1).bind fun b δ2 => (kCmp op a b δ2).bind fun k δ3 => if k = true then (gc δ3).bind fun c δ4 => kCmp op' b c δ4 else .ok false δ3
theorem chain_read {op op' : CmpOp} {r r' : R2} {σ : L2.St} {H : Hp} {Q : Bool → Hp → Prop} {Q' : VK} (hq : ∀ k H', Q k H' → Q' (.bl k) H')
    (h2 : ∀ {A : Addr → Prop} {H : Hp} {x y : V} {d1 d2 : D} {k : Bool} {Q : VK}, RD F.K A H x d1 → RD F.K A H y d2 → cmpD op d1 d2 = some k → Q (.bl k) H → r x y H Q)
    (h2' : ∀ {A : Addr → Prop} {H : Hp} {x y : V} {d1 d2 : D} {k : Bool} {Q : VK}, RD F.K A H x d1 → RD F.K A H y d2 → cmpD op' d1 d2 = some k → Q (.bl k) H → r' x y H Q)
    (h : tT W F (dChain op op' ga gb gc) σ H Q) : tChain r r' (tD W F ga) (tD W F gb) (tD W F gc) σ H Q' := by
  refine (seq2T h).mono fun x H1 z => z.mono fun y H2 z => ?_
  obtain ⟨ow, δ2, d1, f1, d2, f2, R, r1, r2, z⟩ := z
  unfold kCmp at z
  cases e : cmpD op d1 d2 with
  | none => rw [e] at z; exact z.elim
  | some k =>
    rw [e] at z
    refine h2 r1 r2 e ⟨k, rfl, ?_⟩
    simp only [Rs.bind_ok] at z
    cases k with
    | false =>
      rw [if_neg Bool.false_ne_true] at z ⊢
      exact hq _ _ (z.ret R)
    | true =>
      rw [if_pos rfl] at z ⊢
      refine ⟨ow, δ2, R, ?_⟩
      cases q : gc δ2 with
      | ok w δ4 =>
        rw [q] at z
        intro v H3 R3 e3 r3 _
        obtain ⟨k', e', z⟩ := kCmp_some (op := op') (x := (d2, f2)) (y := w) z
        exact h2' (r2.ext e3) r3 e' (hq _ _ ((PostT.go e3 z).ret R3))
      | exc c w δ' => rw [q] at z; exact z
      | stuck => rw [q] at z; exact z
theorem dt_chain {op op' : CmpOp} (ho : CmpOk X F op) (ho' : CmpOk X F op') (ha : PE X a (tD W F ga)) (hb : PE X b (tD W F gb)) (hc : PE X c (tD W F gc)) (hm : lastMarks [op, op'] [b, c] = false) :
    PT X (.Compare a [op, op'] [b, c] pos) (tT W F (dChain op op' ga gb gc)) := by
  obtain ⟨r, h1, h2⟩ := ho
  obtain ⟨r', h1', h2'⟩ := ho'
  exact PT.imp (pt_chain h1 h1' ha hb hc hm) fun σ H Q h => chain_read (fun k H' q => ⟨k, rfl, q⟩) h2 h2' h
theorem de_chain {op op' : CmpOp} (ho : CmpOk X F op) (ho' : CmpOk X F op') (ha : PE X a (tD W F ga)) (hb : PE X b (tD W F gb)) (hc : PE X c (tD W F gc)) (hm : lastMarks [op, op'] [b, c] = false) :
    PE X (.Compare a [op, op'] [b, c] pos) (tD W F (dVal (dChain op op' ga gb gc))) := by
  obtain ⟨r, h1, h2⟩ := ho
  obtain ⟨r', h1', h2'⟩ := ho'
  refine PE.imp (pe_chain h1 h1' ha hb hc hm) fun σ H Q h => ?_
  have h : tT W F (dChain op op' ga gb gc) σ H fun k H' => Q (.bl k) H' := by
    obtain ⟨ow, δ, R, h⟩ := h
    exact ⟨ow, δ, R, toEV_post h⟩
  exact chain_read (fun k H' q => q) h2 h2' h
theorem truD_ok {K : PySem.W.Frag} {A : Addr → Prop} {H : Hp} {x : V} {d : D} {k : Bool} (r : RD K A H x d) (h : truD d = some k) : TruV K x H k := by
  cases r with
  | non => cases h; exact rfl
  | bl b => cases h; exact rfl
  | int i => cases h; exact rfl
  | str z =>
    simp only [truD] at h
    split at h
    · rename_i hz
      cases h
      refine ⟨by rw [← lim_eq]; exact hz, ?_⟩
      cases q : z.length with
      | zero => rfl
      | succ n =>
        have e1 : (n + 1 != 0) = true := by simp
        have e2 : (((n + 1 : Nat) : Int) != 0) = true := by
          simp only [bne_iff_ne, ne_eq]; omega
        rw [e1, e2]
    · cases h
  | @lst a xs ds hl n rs =>
    cases h
    refine .inl ⟨xs, .inl hl, ?_⟩
    cases rs <;> rfl
  | @tup a xs ds hl n rs =>
    cases h
    refine .inr (.inl ⟨xs, hl, ?_⟩)
    cases rs <;> rfl
theorem dt_tru (hK : F.K = X.K) (ha : PE X a (tD W F ga)) (he : ∀ whole, isTrue a X.env whole = (do let v ← whole; standAt a.pos; holding [v] (truthy v))) : PT X a (tT W F (dTru ga)) := by
  refine PT.imp (pt_truth ha he) fun σ H Q h => ?_
  refine (seq1T h).mono fun x H1 z => ?_
  obtain ⟨ow, δ1, d1, f1, R, r1, z⟩ := z
  split at z
  · rename_i k e
    refine ⟨k, ?_, z.ret R⟩
    rw [← hK]
    exact truD_ok r1 e
  · exact z.elim
theorem dw_and1 (ha : PT X a (tT W F ta)) : PW X (.BoolOp .And [a] pos) (tT W F ta) := pw_and1 ha
theorem dw_or1 (ha : PT X a (tT W F ta)) : PW X (.BoolOp .Or [a] pos) (tT W F ta) := pw_or1 ha
theorem PW.imp {t t' : TT} (h : PW X e t) (i : ∀ σ H Q, t' σ H Q → t σ H Q) : PW X e t' := ⟨fun wh pins s σ H Q I q => h.run wh pins s σ H Q I (i σ H Q q)⟩
theorem dw_and (ha : PT X a (tT W F ta)) (hb : PW X (.BoolOp .And (b :: rest) pos) (tT W F tb)) : PW X (.BoolOp .And (a :: b :: rest) pos) (tT W F (dAnd ta tb)) := by
  refine PW.imp (pw_and ha hb) fun σ H Q h => ?_
  refine (seqTT h).mono fun k H1 z => ?_
  obtain ⟨ow, δ1, R, z⟩ := z
  cases k with
  | true => exact ⟨ow, δ1, R, z⟩
  | false => exact z.ret R
theorem dw_or (ha : PT X a (tT W F ta)) (hb : PW X (.BoolOp .Or (b :: rest) pos) (tT W F tb)) : PW X (.BoolOp .Or (a :: b :: rest) pos) (tT W F (dOr ta tb)) := by
  refine PW.imp (pw_or ha hb) fun σ H Q h => ?_
  refine (seqTT h).mono fun k H1 z => ?_
  obtain ⟨ow, δ1, R, z⟩ := z
  cases k with
  | true => exact z.ret R
  | false => exact ⟨ow, δ1, R, z⟩
theorem dt_not (ha : PT X a (tT W F ta)) : PT X (.UnaryOp .Not a pos) (tT W F (dNot ta)) := by
  refine PT.imp (pt_not ha) fun σ H Q h => ?_
  refine (seqTT h).mono fun k H1 z => ?_
  obtain ⟨ow, δ1, R, z⟩ := z
  exact z.ret R
theorem de_one {op : BoolOp} (ha : PE X a (tD W F ga)) : PE X (.BoolOp op [a] pos) (tD W F ga) := pe_one ha
theorem de_and (ha : PE X a (tD W F ga)) (hb : PE X (.BoolOp .And (b :: rest) pos) (tD W F gb)) : PE X (.BoolOp .And (a :: b :: rest) pos) (tD W F (dAndV ga gb)) := by
  refine PE.imp (pe_and ha hb) fun σ H Q h => ?_
  refine (seq1 h).mono fun x H1 z => ?_
  obtain ⟨ow, δ1, d1, f1, R, r1, _, z⟩ := z
  dsimp only at z
  split at z
  · refine ⟨_, r1.blE, ?_⟩
    split at z
    · rename_i hk
      rw [if_pos hk]
      exact ⟨ow, δ1, R, z⟩
    · rename_i hk
      rw [if_neg hk]
      exact z.ret R (.bl _)
  · exact z.elim
theorem de_or (ha : PE X a (tD W F ga)) (hb : PE X (.BoolOp .Or (b :: rest) pos) (tD W F gb)) : PE X (.BoolOp .Or (a :: b :: rest) pos) (tD W F (dOrV ga gb)) := by
  refine PE.imp (pe_or ha hb) fun σ H Q h => ?_
  refine (seq1 h).mono fun x H1 z => ?_
  obtain ⟨ow, δ1, d1, f1, R, r1, _, z⟩ := z
  dsimp only at z
  split at z
  · refine ⟨_, r1.blE, ?_⟩
    split at z
    · rename_i hk
      rw [if_pos hk]
      exact z.ret R (.bl _)
    · rename_i hk
      rw [if_neg hk]
      exact ⟨ow, δ1, R, z⟩
  · exact z.elim
theorem de_not (ha : PE X a (tD W F ga)) : PE X (.UnaryOp .Not a pos) (tD W F (dNotV ga)) := by
  refine PE.imp (pe_not ha) fun σ H Q h => ?_
  refine (seq1 h).mono fun x H1 z => ?_
  obtain ⟨ow, δ1, d1, f1, R, r1, _, z⟩ := z
  dsimp only at z
  split at z
  · exact ⟨_, r1.blE, z.ret R (.bl _)⟩
  · exact z.elim
def kNeg (a : EV) (δ : Sta) : Rs EV := match a.1 with
  | .int i => .ok (.int (-i), false) δ
  | _ => .stuck
theorem de_neg (ha : PE X a (tD W F ga)) : PE X (.UnaryOp .USub a pos) (tD W F fun δ => (ga δ).bind kNeg) := by
  refine PE.imp (pe_un un_neg ha) fun σ H Q h => ?_
  refine (seq1 h).mono fun x H1 z => ?_
  obtain ⟨ow, δ1, d1, f1, R, r1, _, z⟩ := z
  unfold kNeg at z
  dsimp only at z
  split at z
  · exact ⟨_, r1.intE, z.ret R (.int _)⟩
  · exact z.elim
theorem de_if (hc : PT X c (tT W F tc)) (ha : PE X a (tD W F ga)) (hb : PE X b (tD W F gb)) : PE X (.IfExp c a b pos) (tD W F (dIf tc ga gb)) := by
  refine PE.imp (pe_ifExp hc ha hb) fun σ H Q h => ?_
  refine (seqT h).mono fun k H1 z => ?_
  obtain ⟨ow, δ1, R, z⟩ := z
  cases k with
  | true => exact ⟨ow, δ1, R, z⟩
  | false => exact ⟨ow, δ1, R, z⟩
end
end DL
end
section -- DL5
set_option maxRecDepth 100000
set_option maxHeartbeats 1000000
/-! DL5: operands that are read (own lists too), built-ins of one argument, subscripts, slices, displays, texts. -/
namespace DL
open PySem PySem.Spec PyProof.Rows L2

def slD : Sl → Option D
  | .val d => some d
  | .own (.lst ds) => some (.list ds)
  | .un => none
def dVarR (i : Nat) : RDen := fun δ => match δ[i]? with
  | some (.val _) => .ok (fun δ2 => δ2[i]?.bind slD) δ
  | some (.own _) => .ok (fun δ2 => δ2[i]?.bind slD) δ
  | _ => .stuck
def dLift (g : Den) : RDen := fun δ => (g δ).bind fun a δ1 => .ok (fun _ => some a.1) δ1
/-- an operand, and what is made of it -/
def dRd (gr : RDen) (k : D → Sta → Rs EV) : Den := fun δ => (gr δ).bind fun r δ1 => match r δ1 with
  | some d => k d δ1
  | none => .stuck

section
variable {X : Cx} {e a b c : Expr} {W : WX} {F : Fr} {ow : Ow} {δ δ1 : Sta} {σ : L2.St} {H H1 : Hp} {Q : VK} {v x : V} {d : D} {gr : RDen} {ga gb : Den} {pos : Pos}
theorem RW.lst {ds : List D} (r : RW F ow H v (.list ds)) : ∃ a vs, v = .ref a ∧ Rd H a (.lst vs) ∧ RDs F.K (F.A NoB ow) H vs ds := by
  rcases r with r | ⟨p, vs, ds', rfl, e, h, r⟩
  · obtain ⟨a, xs, e, h, _, r⟩ := r.lstE
    exact ⟨a, xs, e, h, r⟩
  · cases e
    exact ⟨p, vs, rfl, .inl h, r⟩
theorem RW.rd {d : D} (r : RW F ow H v d) (h : ∀ ds, d ≠ .list ds) : RD F.K (F.A NoB ow) H v d := by
  rcases r with r | ⟨p, vs, ds', rfl, e, _, r⟩
  · exact r
  · exact absurd e (h _)
theorem RW.tup {ds : List D} (r : RW F ow H v (.tuple ds)) : ∃ a vs, v = .ref a ∧ SqT F.K H a vs ∧ RDs F.K (F.A NoB ow) H vs ds := by
  obtain ⟨a, xs, e, h, _, r⟩ := (r.rd fun _ z => nomatch z).tupE
  exact ⟨a, xs, e, h, r⟩
theorem dr_var {i : Nat} {x : Str} (hN : X.N[i]? = some x) (hv : Vis X.env.scope x) (hd : (x == ("__debug__" : Str)) = false) (hcd : (x == ("__classdict__" : Str)) = false) : PE X (.Name x pos) (tR W F (dVarR i)) := by
  refine PE.imp (pe_var hN hv hd hcd) fun σ H Q h => ?_
  obtain ⟨ow, δ, R, h⟩ := h
  dsimp only [dVarR] at h
  have rd : ∀ (v : V), σ[i]? = some (some v) → ∀ δ2 H2 d, Rel F NoB ow δ2 σ H2 → Ext (F.A NoB ow) H H2 → (δ2[i]?.bind slD) = some d → RW F ow H2 v d := fun v e δ2 H2 d R2 e2 q => by
    cases q' : δ2[i]? with
    | none => rw [q'] at q; cases q
    | some s =>
      rw [q'] at q
      have z := R2.slot i s q'
      cases s with
      | un => cases q
      | val d' =>
        cases q
        obtain ⟨_, w, e', r⟩ := z
        rw [e] at e'; cases e'
        exact .inl r
      | own o =>
        obtain ⟨p, _, e', r⟩ := z
        rw [e] at e'; cases e'
        cases o with
        | lst ds =>
          cases q
          obtain ⟨vs, e3, r⟩ := r
          exact .inr ⟨p, vs, ds, rfl, rfl, e3, r⟩
  cases q : δ[i]? with
  | none => rw [q] at h; exact h.elim
  | some s =>
    rw [q] at h
    cases s with
    | un => exact h.elim
    | own o =>
      obtain ⟨p, _, e, _⟩ := R.slot i _ q
      exact ⟨_, e, h _ H R Ext.refl (rd _ e)⟩
    | val d =>
      obtain ⟨_, v, e, _⟩ := R.slot i _ q
      exact ⟨v, e, h _ H R Ext.refl (rd _ e)⟩
theorem dr_lift (h : PE X e (tD W F ga)) : PE X e (tR W F (dLift ga)) := by
  refine PE.imp h fun σ H Q h => ?_
  obtain ⟨ow, δ, R, h⟩ := h
  refine ⟨ow, δ, R, ?_⟩
  dsimp only [dLift] at h
  cases q : ga δ with
  | ok a δ1 =>
    rw [q] at h
    intro v H1 R1 e1 r1 _
    refine h v H1 R1 e1 fun δ2 H2 d R2 e2 z => ?_
    cases z
    exact .inl (r1.ext e2)
  | exc c w δ' => rw [q] at h; exact h
  | stuck => rw [q] at h; exact h
theorem tR.mono {g : RDen} {Q' : VK} (h : tR W F g σ H Q) (hq : ∀ v H', Q v H' → Q' v H') : tR W F g σ H Q' := by
  obtain ⟨ow, δ, R, h⟩ := h
  refine ⟨ow, δ, R, ?_⟩
  cases q : g δ with
  | ok a δ' => rw [q] at h; exact fun v H' R e' z => hq _ _ (h v H' R e' z)
  | exc c w δ' => rw [q] at h; exact h
  | stuck => rw [q] at h; exact h
theorem seqR {k : RV → Sta → Rs EV} (h : tD W F (fun δ => (gr δ).bind k) σ H Q) :
    tR W F gr σ H fun x H1 => ∃ ow δ1 r, Rel F NoB ow δ1 σ H1 ∧ (∀ δ2 H2 d, Rel F NoB ow δ2 σ H2 → Ext (F.A NoB ow) H1 H2 → r δ2 = some d → RW F ow H2 x d) ∧ PostE W F ow σ H1 Q (k r δ1) := by
  obtain ⟨ow, δ, R, h⟩ := h
  refine ⟨ow, δ, R, ?_⟩
  dsimp only at h
  cases q : gr δ with
  | ok r δ1 =>
    rw [q] at h
    exact fun v H' R' e z => ⟨ow, δ1, r, R', z, PostE.go R' e h⟩
  | exc c w δ' => rw [q] at h; exact h
  | stuck => rw [q] at h; exact h
theorem seqRd {k : D → Sta → Rs EV} (h : tD W F (dRd gr k) σ H Q) :
    tR W F gr σ H fun x H1 => ∃ ow δ1 d, Rel F NoB ow δ1 σ H1 ∧ RW F ow H1 x d ∧ PostE W F ow σ H1 Q (k d δ1) := by
  refine (seqR h).mono fun x H1 z => ?_
  obtain ⟨ow, δ1, r, R, rr, z⟩ := z
  split at z
  · rename_i d e
    exact ⟨ow, δ1, d, R, rr δ1 H1 d R Ext.refl e, z⟩
  · exact z.elim

/-! ### calls of built-ins with one argument -/
def NoStar (e : Expr) : Prop := ∀ es env, starEach (e :: es) env = (false, eval e env) :: starEach es env
def B1Ok (X : Cx) (F : Fr) (W : WX) (f : Value) (k : D → Sta → Rs EV) : Prop := ∃ r, CallR X f r ∧ ∀ {ow : Ow} {δ : Sta} {σ : L2.St} {H : Hp} {x : V} {d : D} {Q : VK},
  Rel F NoB ow δ σ H → RW F ow H x d → PostE W F ow σ H Q (k d δ) → r [x] H fun v H' => KF F.K H' → Q v H'
theorem de_b1 {id : String} {x : Str} {p : Pos} {k : D → Sta → Rs EV} (hK : F.K = X.K) (hb : B1Ok X F W (.builtin id) k) (hg : Gl X x) (hm : X.mg x = none) (hv : bootBuiltins x = some (.builtin id)) (ha : PE X a (tR W F gr)) (hs : NoStar a)
    (hn : x ≠ "__name__") (hdb : (x == ("__debug__" : Str)) = false) : PE X (.Call (.Name x p) [a] [] pos) (tD W F (dRd gr k)) := by
  obtain ⟨r, h1, h2⟩ := hb
  refine PE.imp (pe_kf (pe_callB h1 hg hm hv (pa_cons ha pa_nil (hs _ _)) hn hdb (hs _ _) rfl)) fun σ H Q h => ?_
  refine (seqRd h).mono fun x H1 z => ?_
  obtain ⟨ow, δ1, d, R, rw', z⟩ := z
  rw [← hK]
  exact h2 R rw' z
theorem de_t1 {T : String} {x : Str} {p : Pos} {k : D → Sta → Rs EV} (hK : F.K = X.K) (hb : B1Ok X F W (.type T) k) (hg : Gl X x) (hm : X.mg x = none) (hv : bootBuiltins x = some (.type T)) (ha : PE X a (tR W F gr)) (hs : NoStar a)
    (hn : x ≠ "__name__") (hdb : (x == ("__debug__" : Str)) = false) : PE X (.Call (.Name x p) [a] [] pos) (tD W F (dRd gr k)) := by
  obtain ⟨r, h1, h2⟩ := hb
  refine PE.imp (pe_kf (pe_callTy h1 hg hm hv (pa_cons ha pa_nil (hs _ _)) hn hdb (hs _ _) rfl)) fun σ H Q h => ?_
  refine (seqRd h).mono fun x H1 z => ?_
  obtain ⟨ow, δ1, d, R, rw', z⟩ := z
  rw [← hK]
  exact h2 R rw' z
end
def kLen (d : D) (δ : Sta) : Rs EV := match d with
  | .str x => if x.length ≤ LIM then .ok (.int x.length, false) δ else .stuck
  | .list xs => .ok (.int xs.length, false) δ
  | .tuple xs => .ok (.int xs.length, false) δ
  | _ => .stuck
def kInt (d : D) (δ : Sta) : Rs EV := match d with
  | .int i => .ok (.int i, false) δ
  | .bool k => .ok (.int (if k then 1 else 0), false) δ
  | .str x => match intText? x with
    | some n => if x.length ≤ 640 then .ok (.int n, false) δ else .stuck
    | none => .stuck
  | _ => .stuck
def kBool (d : D) (δ : Sta) : Rs EV := match d with
  | .int i => .ok (.bool (i != 0), false) δ
  | .bool k => .ok (.bool k, false) δ
  | _ => .stuck
def strI (i : Int) : Str := toString i
def kStr (d : D) (δ : Sta) : Rs EV := match d with
  | .int i => if i.natAbs.log2 < 1920 then .ok (.str (strI i), false) δ else .stuck
  | .str x => .ok (.str x, false) δ
  | _ => .stuck
def kTup (d : D) (δ : Sta) : Rs EV := match d with
  | .list xs => .ok (.tuple xs, false) δ
  | .tuple xs => .ok (.tuple xs, false) δ
  | _ => .stuck
def kList (d : D) (δ : Sta) : Rs EV := match d with
  | .list xs => .ok (.list xs, true) δ
  | .tuple xs => .ok (.list xs, true) δ
  | _ => .stuck
def kAbs (d : D) (δ : Sta) : Rs EV := match d with
  | .int i => .ok (.int (if i < 0 then -i else i), false) δ
  | _ => .stuck
def bls : List D → Option (List Bool)
  | [] => some []
  | .bool b :: r => (bls r).map (b :: ·)
  | _ => none
def intsD : List D → Option (List Int)
  | [] => some []
  | .int b :: r => (intsD r).map (b :: ·)
  | _ => none
def strsD : List D → Option (List Str)
  | [] => some []
  | .str b :: r => (strsD r).map (b :: ·)
  | _ => none
theorem bls_eq : ∀ {ds : List D} {bs : List Bool}, bls ds = some bs → ds = bs.map PyData.bool
  | [], bs, h => by cases h; rfl
  | d :: r, bs, h => by
    cases d <;> simp only [bls, reduceCtorEq, Option.map_eq_some_iff] at h
    obtain ⟨b', h1, rfl⟩ := h
    rw [bls_eq h1]; rfl
theorem intsD_eq : ∀ {ds : List D} {bs : List Int}, intsD ds = some bs → ds = bs.map PyData.int
  | [], bs, h => by cases h; rfl
  | d :: r, bs, h => by
    cases d <;> simp only [intsD, reduceCtorEq, Option.map_eq_some_iff] at h
    obtain ⟨b', h1, rfl⟩ := h
    rw [intsD_eq h1]; rfl
theorem strsD_eq : ∀ {ds : List D} {bs : List Str}, strsD ds = some bs → ds = bs.map PyData.str
  | [], bs, h => by cases h; rfl
  | d :: r, bs, h => by
    cases d <;> simp only [strsD, reduceCtorEq, Option.map_eq_some_iff] at h
    obtain ⟨b', h1, rfl⟩ := h
    rw [strsD_eq h1]; rfl
@[simp] theorem bls_map : ∀ bs : List Bool, bls (bs.map PyData.bool) = some bs
  | [] => rfl
  | b :: r => by simp [bls, bls_map r]
@[simp] theorem intsD_map : ∀ bs : List Int, intsD (bs.map PyData.int) = some bs
  | [] => rfl
  | b :: r => by simp [intsD, intsD_map r]
@[simp] theorem strsD_map : ∀ bs : List Str, strsD (bs.map PyData.str) = some bs
  | [] => rfl
  | b :: r => by simp [strsD, strsD_map r]
def kAll (d : D) (δ : Sta) : Rs EV := match d with
  | .list xs => match bls xs with
    | some bs => .ok (.bool (bs.all id), false) δ
    | none => .stuck
  | _ => .stuck
def kAny (d : D) (δ : Sta) : Rs EV := match d with
  | .list xs => match bls xs with
    | some bs => .ok (.bool (bs.any id), false) δ
    | none => .stuck
  | _ => .stuck
def kSum (d : D) (δ : Sta) : Rs EV := match d with
  | .list xs => match intsD xs with
    | some bs => .ok (.int bs.sum, false) δ
    | none => .stuck
  | _ => .stuck
def maxI : List Int → Int
  | [] => 0
  | [x] => x
  | x :: r => max x (maxI r)
def minI : List Int → Int
  | [] => 0
  | [x] => x
  | x :: r => min x (minI r)
theorem maxI_ok : ∀ {l : List Int}, l ≠ [] → maxI l ∈ l ∧ ∀ y ∈ l, y ≤ maxI l
  | [], h => absurd rfl h
  | [x], _ => by simp [maxI]
  | x :: y :: r, _ => by
    obtain ⟨h1, h2⟩ := maxI_ok (l := y :: r) (by simp)
    have e : maxI (x :: y :: r) = max x (maxI (y :: r)) := rfl
    rw [e]
    refine ⟨?_, fun z hz => ?_⟩
    · rcases Int.le_total x (maxI (y :: r)) with h | h
      · rw [Int.max_eq_right h]; exact List.mem_cons_of_mem _ h1
      · rw [Int.max_eq_left h]; exact List.mem_cons_self
    · rcases List.mem_cons.mp hz with rfl | hz
      · exact Int.le_max_left _ _
      · exact Int.le_trans (h2 z hz) (Int.le_max_right _ _)
theorem minI_ok : ∀ {l : List Int}, l ≠ [] → minI l ∈ l ∧ ∀ y ∈ l, minI l ≤ y
  | [], h => absurd rfl h
  | [x], _ => by simp [minI]
  | x :: y :: r, _ => by
    obtain ⟨h1, h2⟩ := minI_ok (l := y :: r) (by simp)
    have e : minI (x :: y :: r) = min x (minI (y :: r)) := rfl
    rw [e]
    refine ⟨?_, fun z hz => ?_⟩
    · rcases Int.le_total x (minI (y :: r)) with h | h
      · rw [Int.min_eq_left h]; exact List.mem_cons_self
      · rw [Int.min_eq_right h]; exact List.mem_cons_of_mem _ h1
    · rcases List.mem_cons.mp hz with rfl | hz
      · exact Int.min_le_left _ _
      · exact Int.le_trans (Int.min_le_right _ _) (h2 z hz)
def kMaxL (d : D) (δ : Sta) : Rs EV := match d with
  | .list xs => match intsD xs with
    | some bs => if bs = [] then .stuck else .ok (.int (maxI bs), false) δ
    | none => .stuck
  | _ => .stuck
def kMinL (d : D) (δ : Sta) : Rs EV := match d with
  | .list xs => match intsD xs with
    | some bs => if bs = [] then .stuck else .ok (.int (minI bs), false) δ
    | none => .stuck
  | _ => .stuck
section
variable {X : Cx} {W : WX} {F : Fr}
theorem rds_len {A : Addr → Prop} {H : Hp} {xs : List V} {ds : List D} {K : PySem.W.Frag} (r : RDs K A H xs ds) : ((xs.length : Nat) : Int) = ((ds.length : Nat) : Int) := by rw [r.length]
theorem b1_len (hK : F.K = X.K) : B1Ok X F W (.builtin "len") kLen := by
  refine ⟨_, call_len, fun {ow δ σ H x d Q} R rw' h => ?_⟩
  unfold kLen at h
  split at h
  · split at h
    · rename_i hz
      have e := (rw'.rd fun _ z => nomatch z).strE
      subst e
      exact ⟨_, _, rfl, ⟨by rw [← lim_eq]; exact hz, rfl⟩, fun _ => h.ret R (.int _)⟩
    · exact h.elim
  · obtain ⟨a, vs, rfl, hl, r⟩ := rw'.lst
    exact ⟨_, _, rfl, .inl ⟨vs, .inl hl, rfl⟩, fun _ => by rw [rds_len r]; exact h.ret R (.int _)⟩
  · obtain ⟨a, vs, rfl, hl, r⟩ := rw'.tup
    rw [hK] at hl
    exact ⟨_, _, rfl, .inr ⟨vs, hl, rfl⟩, fun _ => by rw [rds_len r]; exact h.ret R (.int _)⟩
  · exact h.elim
theorem b1_int : B1Ok X F W (.type "int") kInt := by
  refine ⟨_, call_int1.or call_int_str, fun {ow δ σ H x d Q} R rw' h => ?_⟩
  unfold kInt at h
  split at h
  · have e := (rw'.rd fun _ z => nomatch z).intE
    subst e
    exact .inl (.inl ⟨_, rfl, fun _ => h.ret R (.int _)⟩)
  · have e := (rw'.rd fun _ z => nomatch z).blE
    subst e
    exact .inl (.inr ⟨_, rfl, fun _ => h.ret R (.int _)⟩)
  · have e := (rw'.rd fun _ z => nomatch z).strE
    subst e
    split at h
    · split at h
      · exact .inr ⟨_, _, rfl, by assumption, by assumption, fun _ => h.ret R (.int _)⟩
      · exact h.elim
    · exact h.elim
  · exact h.elim
theorem b1_bool : B1Ok X F W (.type "bool") kBool := by
  refine ⟨_, call_bool1, fun {ow δ σ H x d Q} R rw' h => ?_⟩
  unfold kBool at h
  split at h
  · have e := (rw'.rd fun _ z => nomatch z).intE
    subst e
    exact .inl ⟨_, rfl, fun _ => h.ret R (.bl _)⟩
  · have e := (rw'.rd fun _ z => nomatch z).blE
    subst e
    exact .inr ⟨_, rfl, fun _ => h.ret R (.bl _)⟩
  · exact h.elim
theorem b1_str : B1Ok X F W (.type "str") kStr := by
  refine ⟨_, call_str_int.or SkE.call_str_str, fun {ow δ σ H x d Q} R rw' h => ?_⟩
  unfold kStr at h
  split at h
  · have e := (rw'.rd fun _ z => nomatch z).intE
    subst e
    split at h
    · exact .inl ⟨_, rfl, by assumption, fun _ => h.ret R (.str _)⟩
    · exact h.elim
  · have e := (rw'.rd fun _ z => nomatch z).strE
    subst e
    exact .inr ⟨_, rfl, fun _ => h.ret R (.str _)⟩
  · exact h.elim
theorem b1_tuple (hK : F.K = X.K) : B1Ok X F W (.type "tuple") kTup := by
  refine ⟨_, call_tuple_of, fun {ow δ σ H x d Q} R rw' h => ?_⟩
  unfold kTup at h
  split at h
  · obtain ⟨a, vs, rfl, hl, r⟩ := rw'.lst
    exact ⟨a, vs, rfl, .inl ⟨.inl hl, fun l n kf => h.tup R r n kf⟩⟩
  · have q := rw'.rd fun _ z => nomatch z
    obtain ⟨a, vs, rfl, hl, r⟩ := rw'.tup
    rw [hK] at hl
    exact ⟨a, vs, rfl, .inr ⟨hl, fun _ => h.ret R q⟩⟩
  · exact h.elim
theorem b1_list (hK : F.K = X.K) : B1Ok X F W (.type "list") kList := by
  refine ⟨_, call_list_of, fun {ow δ σ H x d Q} R rw' h => ?_⟩
  unfold kList at h
  split at h
  · obtain ⟨a, vs, rfl, hl, r⟩ := rw'.lst
    exact ⟨a, vs, rfl, .inl (.inl hl), fun l n kf => h.lst R r n kf⟩
  · obtain ⟨a, vs, rfl, hl, r⟩ := rw'.tup
    rw [hK] at hl
    exact ⟨a, vs, rfl, .inr hl, fun l n kf => h.lst R r n kf⟩
  · exact h.elim
theorem b1_abs : B1Ok X F W (.builtin "abs") kAbs := by
  refine ⟨_, call_abs, fun {ow δ σ H x d Q} R rw' h => ?_⟩
  unfold kAbs at h
  split at h
  · have e := (rw'.rd fun _ z => nomatch z).intE
    subst e
    exact ⟨_, rfl, fun _ => h.ret R (.int _)⟩
  · exact h.elim
theorem b1_all (hc : X.calm = true) : B1Ok X F W (.builtin "all") kAll := by
  refine ⟨_, cr_all hc, fun {ow δ σ H x d Q} R rw' h => ?_⟩
  unfold kAll at h
  split at h
  · obtain ⟨a, vs, rfl, hl, r⟩ := rw'.lst
    split at h
    · rename_i bs q
      rw [bls_eq q] at r
      have e := r.of_bls
      subst e
      exact ⟨a, bs, rfl, .inl hl, fun _ => h.ret R (.bl _)⟩
    · exact h.elim
  · exact h.elim
theorem b1_any (hc : X.calm = true) : B1Ok X F W (.builtin "any") kAny := by
  refine ⟨_, cr_any hc, fun {ow δ σ H x d Q} R rw' h => ?_⟩
  unfold kAny at h
  split at h
  · obtain ⟨a, vs, rfl, hl, r⟩ := rw'.lst
    split at h
    · rename_i bs q
      rw [bls_eq q] at r
      have e := r.of_bls
      subst e
      exact ⟨a, bs, rfl, .inl hl, fun _ => h.ret R (.bl _)⟩
    · exact h.elim
  · exact h.elim
theorem b1_sum (hc : X.calm = true) : B1Ok X F W (.builtin "sum") kSum := by
  refine ⟨_, cr_sum hc, fun {ow δ σ H x d Q} R rw' h => ?_⟩
  unfold kSum at h
  split at h
  · obtain ⟨a, vs, rfl, hl, r⟩ := rw'.lst
    split at h
    · rename_i bs q
      rw [intsD_eq q] at r
      have e := r.of_ints
      subst e
      exact ⟨a, bs, rfl, .inl hl, fun _ => h.ret R (.int _)⟩
    · exact h.elim
  · exact h.elim
theorem b1_max (hc : X.calm = true) : B1Ok X F W (.builtin "max") kMaxL := by
  refine ⟨_, cr_max hc, fun {ow δ σ H x d Q} R rw' h => ?_⟩
  unfold kMaxL at h
  split at h
  · obtain ⟨a, vs, rfl, hl, r⟩ := rw'.lst
    split at h
    · rename_i bs q
      rw [intsD_eq q] at r
      have e := r.of_ints
      subst e
      split at h
      · exact h.elim
      · rename_i hne
        obtain ⟨m1, m2⟩ := maxI_ok hne
        refine ⟨a, bs, rfl, .inl hl, by rcases bs with _ | ⟨x, r⟩ <;> simp_all, fun m h1 h2 _ => ?_⟩
        have e : m = maxI bs := Int.le_antisymm (m2 m h1) (h2 _ m1)
        subst e
        exact h.ret R (.int _)
    · exact h.elim
  · exact h.elim
theorem b1_min (hc : X.calm = true) : B1Ok X F W (.builtin "min") kMinL := by
  refine ⟨_, cr_min hc, fun {ow δ σ H x d Q} R rw' h => ?_⟩
  unfold kMinL at h
  split at h
  · obtain ⟨a, vs, rfl, hl, r⟩ := rw'.lst
    split at h
    · rename_i bs q
      rw [intsD_eq q] at r
      have e := r.of_ints
      subst e
      split at h
      · exact h.elim
      · rename_i hne
        obtain ⟨m1, m2⟩ := minI_ok hne
        refine ⟨a, bs, rfl, .inl hl, by rcases bs with _ | ⟨x, r⟩ <;> simp_all, fun m h1 h2 _ => ?_⟩
        have e : m = minI bs := Int.le_antisymm (h2 _ m1) (m2 m h1)
        subst e
        exact h.ret R (.int _)
    · exact h.elim
  · exact h.elim
end

/-! ### two arguments: max, min -/
def B2Ok (X : Cx) (F : Fr) (W : WX) (f : Value) (k : EV → EV → Sta → Rs EV) : Prop := ∃ r, CallR X f r ∧ ∀ {ow : Ow} {δ : Sta} {σ : L2.St} {H : Hp} {x y : V} {d1 d2 : D} {f1 f2 : Bool} {Q : VK},
  Rel F NoB ow δ σ H → RD F.K (F.A NoB ow) H x d1 → RD F.K (F.A NoB ow) H y d2 → PostE W F ow σ H Q (k (d1, f1) (d2, f2) δ) → r [x, y] H fun v H' => KF F.K H' → Q v H'
def kMax2 : EV → EV → Sta → Rs EV
  | (.int i, _), (.int j, _), δ => .ok (.int (if j > i then j else i), false) δ
  | _, _, _ => .stuck
def kMin2 : EV → EV → Sta → Rs EV
  | (.int i, _), (.int j, _), δ => .ok (.int (if j < i then j else i), false) δ
  | _, _, _ => .stuck
section
variable {X : Cx} {e a b c : Expr} {W : WX} {F : Fr} {ga gb : Den} {pos : Pos}
theorem de_b2 {id : String} {x : Str} {p : Pos} {k : EV → EV → Sta → Rs EV} (hK : F.K = X.K) (hb : B2Ok X F W (.builtin id) k) (hg : Gl X x) (hm : X.mg x = none) (hv : bootBuiltins x = some (.builtin id)) (ha : PE X a (tD W F ga)) (hbb : PE X b (tD W F gb)) (hs : NoStar a) (hs2 : NoStar b)
    (hn : x ≠ "__name__") (hdb : (x == ("__debug__" : Str)) = false) : PE X (.Call (.Name x p) [a, b] [] pos) (tD W F fun δ => (ga δ).bind fun a δ1 => (gb δ1).bind fun b δ2 => k a b δ2) := by
  obtain ⟨r, h1, h2⟩ := hb
  refine PE.imp (pe_kf (pe_callB h1 hg hm hv (pa_cons ha (pa_cons hbb pa_nil (hs2 _ _)) (hs _ _)) hn hdb (hs _ _) (by rw [hs2]; rfl))) fun σ H Q h => ?_
  refine (seq2 h).mono fun x H1 z => z.mono fun y H2 z => ?_
  obtain ⟨ow, δ2, d1, f1, d2, f2, R, r1, r2, z⟩ := z
  rw [← hK]
  exact h2 R r1 r2 z
theorem b2_max (hc : X.calm = true) : B2Ok X F W (.builtin "max") kMax2 := by
  refine ⟨_, call_max2 hc, fun {ow δ σ H x y d1 d2 f1 f2 Q} R r1 r2 h => ?_⟩
  unfold kMax2 at h
  split at h
  · rename_i q1 q2
    cases q1; cases q2
    have e1 := r1.intE
    have e2 := r2.intE
    subst e1 e2
    exact ⟨_, _, rfl, fun _ => h.ret R (.int _)⟩
  · exact h.elim
theorem b2_min (hc : X.calm = true) : B2Ok X F W (.builtin "min") kMin2 := by
  refine ⟨_, call_min2 hc, fun {ow δ σ H x y d1 d2 f1 f2 Q} R r1 r2 h => ?_⟩
  unfold kMin2 at h
  split at h
  · rename_i q1 q2
    cases q1; cases q2
    have e1 := r1.intE
    have e2 := r2.intE
    subst e1 e2
    exact ⟨_, _, rfl, fun _ => h.ret R (.int _)⟩
  · exact h.elim
end

/-! ### isinstance of a built-in type -/
def isiT (T : String) : D → Option Bool
  | .none => kitB "NoneType" T
  | .bool _ => kitB "bool" T
  | .int _ => kitB "int" T
  | .str _ => kitB "str" T
  | .list _ => kitB "list" T
  | .tuple _ => kitB "tuple" T
  | .dict _ => none
def kIsi (T : String) (d : D) (δ : Sta) : Rs EV := match isiT T d with
  | some k => .ok (.bool k, false) δ
  | none => .stuck
section
variable {X : Cx} {e a b c : Expr} {W : WX} {F : Fr} {gr : RDen} {pos : Pos}
theorem tyx_of {K : PySem.W.Frag} {A : Addr → Prop} {H : Hp} {x : V} {d : D} (r : RD K A H x d) : ∃ n : String, TyX K H x (.type n) ∧ ∀ T k, isiT T d = some k → kitB n T = some k := by
  cases r with
  | non => exact ⟨_, .base .non, fun _ _ h => h⟩
  | bl b => exact ⟨_, .base (.bl b), fun _ _ h => h⟩
  | int b => exact ⟨_, .base (.int b), fun _ _ h => h⟩
  | str b => exact ⟨_, .base (.str b), fun _ _ h => h⟩
  | lst hl n r =>
    rcases hl with h | ⟨o, h⟩
    · exact ⟨_, .base (.lst h), fun _ _ h => h⟩
    · exact ⟨_, .base (.frz h), fun _ _ h => h⟩
  | tup hl n r =>
    rcases hl with (h | ⟨o, h⟩) | ⟨o, its, n', h1, h2, _⟩
    · exact ⟨_, .base (.tup h), fun _ _ h => h⟩
    · exact ⟨_, .fTuple h, fun _ _ h => h⟩
    · exact ⟨_, .kTuple h1 h2, fun _ _ h => h⟩
theorem de_isi {x T : Str} {n : String} {p p2 : Pos} (hK : F.K = X.K) (hg : Gl X x) (hm : X.mg x = none) (hv : bootBuiltins x = some (.builtin "isinstance")) (ha : PE X a (tR W F gr)) (hs : NoStar a) (hn : x ≠ "__name__") (hdb : (x == ("__debug__" : Str)) = false)
    (hgT : Gl X T) (hmT : X.mg T = none) (hvT : bootBuiltins T = some (.type n)) (hnT : T ≠ "__name__") (hdT : (T == ("__debug__" : Str)) = false) : PE X (.Call (.Name x p) [a, .Name T p2] [] pos) (tD W F (dRd gr (kIsi n))) := by
  refine PE.imp (pe_callB call_isi hg hm hv (pa_cons ha (pa_cons (pe_bltn (v := .ty n) hgT hmT hvT rfl hnT hdT) pa_nil) (hs _ _)) hn hdb (hs _ _) rfl) fun σ H Q h => ?_
  refine (seqRd h).mono fun x H1 z => ?_
  obtain ⟨ow, δ1, d, R, rw', z⟩ := z
  unfold kIsi at z
  split at z
  · rename_i k e
    have fin : ∃ m : String, TyX X.K H1 x (.type m) ∧ kitB m n = some k := by
      rcases rw' with r | ⟨q, vs, ds, rfl, rfl, hl, r⟩
      · rw [hK] at r
        obtain ⟨m, h1, h2⟩ := tyx_of r
        exact ⟨m, h1, h2 _ _ e⟩
      · exact ⟨_, .base (.lst hl), e⟩
    obtain ⟨m, h1, h2⟩ := fin
    exact ⟨x, _, _, _, k, rfl, .ty n, h1, kit_ty h2, z.ret R (.bl _)⟩
  · exact z.elim
end

/-! ### subscripts, slices -/
def kIx (d : D) (i : D) (δ : Sta) : Rs EV := match d, i with
  | .list xs, .int i => match atI xs i with
    | some d => .ok (d, false) δ
    | none => .stuck
  | .tuple xs, .int i => match atI xs i with
    | some d => .ok (d, false) δ
    | none => .stuck
  | .str z, .int i => if z.length ≤ LIM then (match atI z.cps.toList i with
    | some c => .ok (.str ⟨#[c]⟩, false) δ
    | none => .stuck) else .stuck
  | _, _ => .stuck
def dIx (gr : RDen) (gi : Den) : Den := fun δ => (gr δ).bind fun r δ1 => (gi δ1).bind fun i δ2 => match r δ2 with
  | some d => kIx d i.1 δ2
  | none => .stuck
abbrev ODen := Sta → Rs (Option Int)
def dNoPart : ODen := fun δ => .ok none δ
def dPart (g : Den) : ODen := fun δ => (g δ).bind fun a δ1 => match a.1 with
  | .int i => .ok (some i) δ1
  | _ => .stuck
def cutD (xs : List D) (lo hi : Option Int) : List D := (xs.drop (HT.sIx xs.length 0 lo)).take (HT.sIx xs.length xs.length hi - HT.sIx xs.length 0 lo)
def kSl (d : D) (lo hi : Option Int) (δ : Sta) : Rs EV := match d with
  | .str z => if z.length ≤ LIM then .ok (.str (cutS z lo hi), false) δ else .stuck
  | .list xs => .ok (.list (cutD xs lo hi), true) δ
  | .tuple xs => .ok (.tuple (cutD xs lo hi), false) δ
  | _ => .stuck
def dSl (gr : RDen) (gl gh : ODen) : Den := fun δ => (gr δ).bind fun r δ1 => (gl δ1).bind fun lo δ2 => (gh δ2).bind fun hi δ3 => match r δ3 with
  | some d => kSl d lo hi δ3
  | none => .stuck
section
variable {X : Cx} {e a b c : Expr} {W : WX} {F : Fr} {gr : RDen} {gi : Den} {pos : Pos}
theorem RDs.atI {K : PySem.W.Frag} {A : Addr → Prop} {H : Hp} {vs : List V} {ds : List D} {i : Int} {d : D} (r : RDs K A H vs ds) (h : L2.atI ds i = some d) : ∃ v, L2.atI vs i = some v ∧ RD K A H v d := by
  unfold L2.atI at h ⊢
  rw [r.length]
  cases q : ixN ds.length i with
  | none => rw [q] at h; cases h
  | some j =>
    rw [q] at h
    exact r.get h
theorem de_ix (hK : F.K = X.K) (ha : PE X a (tR W F gr)) (hb : PE X b (tD W F gi)) (hs : PlainIx b) : PE X (.Subscript a b pos) (tD W F (dIx gr gi)) := by
  refine PE.imp (pe_ix ix_seq ha hb hs) fun σ H Q h => ?_
  refine (seqR h).mono fun x H1 z => ?_
  obtain ⟨ow, δ1, r, R1, rr, z⟩ := z
  refine ⟨ow, δ1, R1, ?_⟩
  cases q : gi δ1 with
  | exc c w δ' => rw [q] at z; exact z
  | stuck => rw [q] at z; exact z
  | ok i δ2 =>
    rw [q] at z
    intro y H2 R2 e2 r2 _
    have z := PostE.go R2 e2 z
    dsimp only [Rs.bind_ok] at z
    split at z
    · rename_i d e
      have w := rr δ2 H2 d R2 e2 e
      unfold kIx at z
      split at z
      · rename_i xs j e3
        rw [e3] at r2
        obtain ⟨p, vs, rfl, hl, rs⟩ := w.lst
        split at z
        · rename_i d e4
          obtain ⟨v, h1, h2⟩ := rs.atI e4
          exact .inl ⟨p, vs, _, v, rfl, r2.intE, .inl hl, h1, z.ret R2 h2⟩
        · exact z.elim
      · rename_i xs j e3
        rw [e3] at r2
        obtain ⟨p, vs, rfl, hl, rs⟩ := w.tup
        rw [hK] at hl
        split at z
        · rename_i d e4
          obtain ⟨v, h1, h2⟩ := rs.atI e4
          exact .inr (.inl ⟨p, vs, _, v, rfl, r2.intE, hl, h1, z.ret R2 h2⟩)
        · exact z.elim
      · rename_i zz j e3
        rw [e3] at r2
        have e5 := (w.rd fun _ z => nomatch z).strE
        subst e5
        split at z
        · split at z
          · exact .inr (.inr ⟨_, _, _, rfl, r2.intE, by rw [← lim_eq]; assumption, by assumption, z.ret R2 (.str _)⟩)
          · exact z.elim
        · exact z.elim
      · exact z.elim
    · exact z.elim
/-- a slice's part -/
def PostO (W : WX) (F : Fr) (ow : Ow) (σ : L2.St) (H : Hp) (Q : Option Int → Hp → Prop) : Rs (Option Int) → Prop
  | .ok o δ' => ∀ H', Rel F NoB ow δ' σ H' → Ext (F.A NoB ow) H H' → Q o H'
  | .exc c w δ' => PostX W F ow σ H c w δ'
  | .stuck => False
def tO (W : WX) (F : Fr) (g : ODen) : TO := fun σ H Q => ∃ ow δ, Rel F NoB ow δ σ H ∧ PostO W F ow σ H Q (g δ)
theorem PO.imp {e : Option Expr} {t t' : TO} (h : PO X e t) (i : ∀ σ H Q, t' σ H Q → t σ H Q) : PO X e t' := ⟨fun pins s σ H Q I q => h.run pins s σ H Q I (i σ H Q q)⟩
theorem do_none : PO X none (tO W F dNoPart) := PO.imp po_none fun σ H Q h => by
  obtain ⟨ow, δ, R, h⟩ := h
  exact h H R Ext.refl
theorem do_some (h : PE X e (tD W F gi)) : PO X (some e) (tO W F (dPart gi)) := PO.imp (po_some h) fun σ H Q h => by
  obtain ⟨ow, δ, R, h⟩ := h
  refine ⟨ow, δ, R, ?_⟩
  dsimp only [dPart] at h
  cases q : gi δ with
  | exc c w δ' => rw [q] at h; exact h
  | stuck => rw [q] at h; exact h
  | ok a δ1 =>
    rw [q] at h
    obtain ⟨d, f⟩ := a
    intro v H' R' e' r' _
    cases d with
    | int i => exact ⟨i, r'.intE, h H' R' e'⟩
    | _ => exact h.elim
theorem tO.mono {g : ODen} {σ : L2.St} {H : Hp} {Q Q' : Option Int → Hp → Prop} (h : tO W F g σ H Q) (hq : ∀ v H', Q v H' → Q' v H') : tO W F g σ H Q' := by
  obtain ⟨ow, δ, R, h⟩ := h
  refine ⟨ow, δ, R, ?_⟩
  cases q : g δ with
  | ok a δ' => rw [q] at h; exact fun H' R e' => hq _ _ (h H' R e')
  | exc c w δ' => rw [q] at h; exact h
  | stuck => rw [q] at h; exact h
theorem RDs.cut {K : PySem.W.Frag} {A : Addr → Prop} {H : Hp} {vs : List V} {ds : List D} (r : RDs K A H vs ds) (lo hi : Option Int) : RDs K A H (cutV vs lo hi) (cutD ds lo hi) := by
  unfold cutV cutD
  rw [r.length]
  exact (r.drop _).take _
theorem cutD_whole {ds : List D} {lo hi : Option Int} (h : HT.sIx ds.length 0 lo = 0 ∧ HT.sIx ds.length ds.length hi = ds.length) : cutD ds lo hi = ds := by
  unfold cutD
  rw [h.1, h.2]; simp
theorem de_sl {lo hi : Option Expr} {gl gh : ODen} {p2 : Pos} (hK : F.K = X.K) (ha : PE X a (tR W F gr)) (hl : PO X lo (tO W F gl)) (hh : PO X hi (tO W F gh)) : PE X (.Subscript a (.Slice lo hi none p2) pos) (tD W F (dSl gr gl gh)) := by
  refine PE.imp (pe_kf (pe_slice (sl_str.or (sl_tupA.or sl_list)) ha hl hh)) fun σ H Q h => ?_
  refine (seqR h).mono fun x H1 z => ?_
  obtain ⟨ow, δ1, r, R1, rr, z⟩ := z
  refine ⟨ow, δ1, R1, ?_⟩
  cases q : gl δ1 with
  | exc c w δ' => rw [q] at z; exact z
  | stuck => rw [q] at z; exact z
  | ok l δ2 =>
    rw [q] at z
    intro H2 R2 e2
    refine ⟨ow, δ2, R2, ?_⟩
    have z := PostE.go R2 e2 z
    dsimp only [Rs.bind_ok] at z
    cases q2 : gh δ2 with
    | exc c w δ' => rw [q2] at z; exact z
    | stuck => rw [q2] at z; exact z
    | ok u δ3 =>
      rw [q2] at z
      intro H3 R3 e3
      have z := PostE.go R3 e3 z
      dsimp only [Rs.bind_ok] at z
      split at z
      · rename_i d e
        have w := rr δ3 H3 d R3 (e2.trans e3) e
        unfold kSl at z
        split at z
        · split at z
          · have e5 := (w.rd fun _ z => nomatch z).strE
            subst e5
            exact .inl ⟨_, rfl, by rw [← lim_eq]; assumption, fun _ => z.ret R3 (.str _)⟩
          · exact z.elim
        · obtain ⟨p, vs, rfl, hl, rs⟩ := w.lst
          exact .inr (.inr ⟨p, vs, rfl, .inl hl, fun n nn kf => z.lst R3 (rs.cut _ _) nn (by rw [hK]; exact kf)⟩)
        · have w' := w.rd fun _ z => nomatch z
          obtain ⟨p, vs, rfl, hl, rs⟩ := w.tup
          rw [hK] at hl
          refine .inr (.inl ⟨p, vs, rfl, hl, fun h _ => ?_, fun _ n nn kf => z.tup R3 (rs.cut _ _) nn (by rw [hK]; exact kf)⟩)
          rw [rs.length] at h
          rw [cutD_whole h] at z
          exact z.ret R3 w'
        · exact z.elim
      · exact z.elim
end

/-! ### displays -/
def dNil : LDen := fun δ => .ok [] δ
def dCons (g : Den) (gs : LDen) : LDen := fun δ => (g δ).bind fun a δ1 => (gs δ1).bind fun ds δ2 => .ok (a.1 :: ds) δ2
/-- *e, of a list or tuple -/
def dStar (g : Den) (gs : LDen) : LDen := fun δ => (g δ).bind fun a δ1 => match a.1 with
  | .list xs => (gs δ1).bind fun ds δ2 => .ok (xs ++ ds) δ2
  | .tuple xs => (gs δ1).bind fun ds δ2 => .ok (xs ++ ds) δ2
  | _ => .stuck
def dTupD (gs : LDen) : Den := fun δ => (gs δ).bind fun ds δ1 => if ds.length ≤ LIM then .ok (.tuple ds, false) δ1 else .stuck
def dLstD (gs : LDen) : Den := fun δ => (gs δ).bind fun ds δ1 => if ds.length ≤ LIM then .ok (.list ds, true) δ1 else .stuck
section
variable {X : Cx} {e a b c : Expr} {es : List Expr} {W : WX} {F : Fr} {ga : Den} {gs : LDen} {pos : Pos}
theorem PA.imp {t t' : TA} (h : PA X es t) (i : ∀ σ H Q, t' σ H Q → t σ H Q) : PA X es t' := ⟨fun p pins s σ H Q I q => h.run p pins s σ H Q I (i σ H Q q)⟩
theorem tL.mono {g : LDen} {σ : L2.St} {H : Hp} {Q Q' : List V → Hp → Prop} (h : tL W F g σ H Q) (hq : ∀ v H', Q v H' → Q' v H') : tL W F g σ H Q' := by
  obtain ⟨ow, δ, R, h⟩ := h
  refine ⟨ow, δ, R, ?_⟩
  cases q : g δ with
  | ok a δ' => rw [q] at h; exact fun v H' R e' z => hq _ _ (h v H' R e' z)
  | exc c w δ' => rw [q] at h; exact h
  | stuck => rw [q] at h; exact h
theorem dl_nil : PA X [] (tL W F dNil) := PA.imp pa_nil fun σ H Q h => by
  obtain ⟨ow, δ, R, h⟩ := h
  exact h [] H R Ext.refl .nil
theorem seq1L {k : EV → Sta → Rs (List D)} {σ : L2.St} {H : Hp} {Q : List V → Hp → Prop} (h : tL W F (fun δ => (ga δ).bind k) σ H Q) :
    tD W F ga σ H fun x H1 => ∃ ow δ1 d1 f1, Rel F NoB ow δ1 σ H1 ∧ RD F.K (F.A NoB ow) H1 x d1 ∧ PostL W F ow σ H1 Q (k (d1, f1) δ1) := by
  obtain ⟨ow, δ, R, h⟩ := h
  refine ⟨ow, δ, R, ?_⟩
  dsimp only at h
  cases q : ga δ with
  | ok a δ1 =>
    rw [q] at h
    exact fun v H' R' e r l => ⟨ow, δ1, a.1, a.2, R', r, PostL.go e h⟩
  | exc c w δ' => rw [q] at h; exact h
  | stuck => rw [q] at h; exact h
theorem dl_cons (ha : PE X a (tD W F ga)) (hr : PA X es (tL W F gs)) (hs : NoStar a) : PA X (a :: es) (tL W F (dCons ga gs)) := by
  refine PA.imp (pa_cons ha hr (hs _ _)) fun σ H Q h => ?_
  refine (seq1L h).mono fun x H1 z => ?_
  obtain ⟨ow, δ1, d1, f1, R1, r1, z⟩ := z
  refine ⟨ow, δ1, R1, ?_⟩
  cases q : gs δ1 with
  | exc c w δ' => rw [q] at z; exact z
  | stuck => rw [q] at z; exact z
  | ok ds δ2 =>
    rw [q] at z
    exact fun vs H2 R2 e2 r2 => (PostL.go e2 z) _ H2 R2 Ext.refl (.cons (r1.ext e2) r2)
theorem star_read {k : List D} {xs : List V} {ow : Ow} {δ1 : Sta} {σ : L2.St} {H1 : Hp} {Q : List V → Hp → Prop} (R1 : Rel F NoB ow δ1 σ H1) (rs : RDs F.K (F.A NoB ow) H1 xs k)
    (z : PostL W F ow σ H1 Q ((gs δ1).bind fun ds δ2 => .ok (k ++ ds) δ2)) : tL W F gs σ H1 fun ys H2 => Q (xs ++ ys) H2 := by
  refine ⟨ow, δ1, R1, ?_⟩
  cases q : gs δ1 with
  | exc c w δ' => rw [q] at z; exact z
  | stuck => rw [q] at z; exact z
  | ok ds δ2 =>
    rw [q] at z
    exact fun vs H2 R2 e2 r2 => (PostL.go e2 z) _ H2 R2 Ext.refl ((rs.ext e2).append r2)
theorem dl_star {p : Pos} (hK : F.K = X.K) (ha : PE X a (tD W F ga)) (hr : PA X es (tL W F gs)) : PA X (.Starred a p :: es) (tL W F (dStar ga gs)) := by
  refine PA.imp (StX.pa_star ha hr rfl) fun σ H Q h => ?_
  refine (seq1L h).mono fun x H1 z => ?_
  obtain ⟨ow, δ1, d1, f1, R1, r1, z⟩ := z
  dsimp only at z
  split at z
  · obtain ⟨p, vs, rfl, hl, _, rs⟩ := r1.lstE
    exact ⟨p, vs, rfl, .inr (.inl hl), star_read R1 rs z⟩
  · obtain ⟨p, vs, rfl, hl, _, rs⟩ := r1.tupE
    rw [hK] at hl
    exact ⟨p, vs, rfl, .inl hl, star_read R1 rs z⟩
  · exact z.elim
theorem seqL {k : List D → Sta → Rs EV} {σ : L2.St} {H : Hp} {Q : VK} (h : tD W F (fun δ => (gs δ).bind k) σ H Q) :
    tL W F gs σ H fun vs H1 => ∃ ow δ1 ds, Rel F NoB ow δ1 σ H1 ∧ RDs F.K (F.A NoB ow) H1 vs ds ∧ PostE W F ow σ H1 Q (k ds δ1) := by
  obtain ⟨ow, δ, R, h⟩ := h
  refine ⟨ow, δ, R, ?_⟩
  dsimp only at h
  cases q : gs δ with
  | ok a δ1 =>
    rw [q] at h
    exact fun v H' R' e r => ⟨ow, δ1, a, R', r, PostE.go R' e h⟩
  | exc c w δ' => rw [q] at h; exact h
  | stuck => rw [q] at h; exact h
theorem de_tup {k} (hK : F.K = X.K) (h : PA X es (tL W F gs)) : PE X (.Tuple es k pos) (tD W F (dTupD gs)) := by
  refine PE.imp (pe_kf (pe_tup h)) fun σ H Q h => ?_
  refine (seqL h).mono fun vs H1 z => ?_
  obtain ⟨ow, δ1, ds, R1, rs, z⟩ := z
  split at z
  · rename_i hz
    exact ⟨by rw [rs.length, ← lim_eq]; exact hz, fun p n kf => z.tup R1 rs n (by rw [hK]; exact kf)⟩
  · exact z.elim
theorem de_lst (hK : F.K = X.K) (h : PA X es (tL W F gs)) : PE X (.List es pos) (tD W F (dLstD gs)) := by
  refine PE.imp (pe_kf (pe_lst h)) fun σ H Q h => ?_
  refine (seqL h).mono fun vs H1 z => ?_
  obtain ⟨ow, δ1, ds, R1, rs, z⟩ := z
  split at z
  · rename_i hz
    exact ⟨by rw [rs.length, ← lim_eq]; exact hz, fun p n kf => z.lst R1 rs n (by rw [hK]; exact kf)⟩
  · exact z.elim
end

/-! ### texts -/
/-- x.m(e), x a text -/
def dM1 (ga gb : Den) (k : Str → EV → Sta → Rs EV) : Den := fun δ => (ga δ).bind fun a δ1 => match a.1 with
  | .str x => (gb δ1).bind fun b δ2 => k x b δ2
  | _ => .stuck
def kSplit (a : Str) : EV → Sta → Rs EV
  | (.str b, _), δ => if b.length ≠ 0 ∧ a.length + 2 ≤ LIM then .ok (.list ((Txt.split a b).map PyData.str), true) δ else .stuck
  | _, _ => .stuck
/-- the size of a joined text -/
def joinN (a : Str) (ys : List Str) : Nat := (ys.map (·.length)).sum + ys.length * a.length
def kJoin (a : Str) (d : D) (δ : Sta) : Rs EV := match d with
  | .list xs => match strsD xs with
    | some ys => if joinN a ys ≤ LIM then .ok (.str (Txt.join a ys), false) δ else .stuck
    | none => .stuck
  | .tuple xs => match strsD xs with
    | some ys => if joinN a ys ≤ LIM then .ok (.str (Txt.join a ys), false) δ else .stuck
    | none => .stuck
  | _ => .stuck
def dJoin (ga : Den) (gr : RDen) : Den := fun δ => (ga δ).bind fun a δ1 => match a.1 with
  | .str x => (gr δ1).bind fun r δ2 => match r δ2 with
    | some d => kJoin x d δ2
    | none => .stuck
  | _ => .stuck
def kFmt (a : EV) (δ : Sta) : Rs EV := match a.1 with
  | .int i => if i.natAbs.log2 < 1920 then .ok (.str (strI i), false) δ else .stuck
  | .str x => if x.length ≤ LIM then .ok (.str x, false) δ else .stuck
  | _ => .stuck
/-- the parts of an f-string, each a text -/
def dJs : List Den → Str → Sta → Rs EV
  | [], acc, δ => .ok (.str acc, false) δ
  | g :: gs, acc, δ => (g δ).bind fun a δ1 => match a.1 with
    | .str y => if (acc ++ y).length ≤ LIM then dJs gs (acc ++ y) δ1 else .stuck
    | _ => .stuck
section
variable {X : Cx} {e a b c o : Expr} {es : List Expr} {W : WX} {F : Fr} {ga gb : Den} {gr : RDen} {pos apos : Pos}
theorem de_m1 {id : String} {name : Str} {r : V → List V → Hp → VK → Prop} {k : Str → EV → Sta → Rs EV} (hK : F.K = X.K) (slot : PySem.Slot "str" name id) (ty : typeOf (.builtin id) = pure (.type "method_descriptor")) (rule : MtR X id r)
    (hr : ∀ {ow δ σ H x y d f Q}, Rel F NoB ow δ σ H → RD F.K (F.A NoB ow) H y d → PostE W F ow σ H Q (k x (d, f) δ) → r (.str x) [y] H fun v H' => KF F.K H' → Q v H')
    (ho : PE X o (tD W F ga)) (he : PE X e (tD W F gb)) (hs : NoStar e) (hbase : attributeBase o name X.env (eval o X.env) = eval o X.env) (hline : (apos.endLine == pos.line) = true) :
    PE X (.Call (.Attribute o name apos) [e] [] pos) (tD W F (dM1 ga gb k)) := by
  refine PE.imp (pe_kf (pe_m1 slot ty rule ho he (hs _ _) hbase hline)) fun σ H Q h => ?_
  refine (seq1 h).mono fun x H1 z => ?_
  obtain ⟨ow, δ1, d1, f1, R1, r1, _, z⟩ := z
  dsimp only at z
  split at z
  · rename_i x
    have e1 := r1.strE
    subst e1
    refine ⟨⟨_, rfl⟩, ow, δ1, R1, ?_⟩
    cases q : gb δ1 with
    | exc c w δ' => rw [q] at z; exact z
    | stuck => rw [q] at z; exact z
    | ok b δ2 =>
      rw [q] at z
      intro y H2 R2 e2 r2 _
      rw [← hK]
      exact hr R2 r2 (PostE.go R2 e2 z)
  · exact z.elim
theorem de_split (hK : F.K = X.K) (ho : PE X o (tD W F ga)) (he : PE X e (tD W F gb)) (hs : NoStar e) (hbase : attributeBase o "split" X.env (eval o X.env) = eval o X.env) (hline : (apos.endLine == pos.line) = true) :
    PE X (.Call (.Attribute o "split" apos) [e] [] pos) (tD W F (dM1 ga gb kSplit)) := by
  refine de_m1 hK PySem.F.slot_str_split PySem.F.type_str_split mt_split (fun {ow δ σ H x y d f Q} R r h => ?_) ho he hs hbase hline
  unfold kSplit at h
  split at h
  · rename_i q
    cases q
    split at h
    · rename_i hz
      have e1 := r.strE
      subst e1
      have hL := lim_eq
      refine ⟨_, _, rfl, rfl, by simp [hz.1], by omega, fun p n kf => ?_⟩
      exact PostE.lst h R RDs.strs n kf
    · exact h.elim
  · exact h.elim
theorem de_join (hK : F.K = X.K) (ho : PE X o (tD W F ga)) (he : PE X e (tR W F gr)) (hs : NoStar e) (hbase : attributeBase o "join" X.env (eval o X.env) = eval o X.env) (hline : (apos.endLine == pos.line) = true) :
    PE X (.Call (.Attribute o "join" apos) [e] [] pos) (tD W F (dJoin ga gr)) := by
  refine PE.imp (pe_join ho he (hs _ _) hbase hline) fun σ H Q h => ?_
  refine (seq1 h).mono fun x H1 z => ?_
  obtain ⟨ow, δ1, d1, f1, R1, r1, _, z⟩ := z
  dsimp only at z
  split at z
  · rename_i x
    have e1 := r1.strE
    subst e1
    refine ⟨⟨_, rfl⟩, ow, δ1, R1, ?_⟩
    cases q : gr δ1 with
    | exc c w δ' => rw [q] at z; exact z
    | stuck => rw [q] at z; exact z
    | ok r δ2 =>
      rw [q] at z
      intro y H2 R2 e2 rr
      have z := PostE.go R2 e2 z
      dsimp only [Rs.bind_ok] at z
      split at z
      · rename_i d e3
        have w := rr δ2 H2 d R2 Ext.refl e3
        unfold kJoin at z
        split at z
        · split at z
          · rename_i ys q3
            obtain ⟨p, vs, rfl, hl, rs⟩ := w.lst
            rw [strsD_eq q3] at rs
            have e5 := rs.of_strs
            subst e5
            split at z
            · exact ⟨_, p, ys, rfl, rfl, .inl (.inl hl), by assumption, z.ret R2 (.str _)⟩
            · exact z.elim
          · exact z.elim
        · split at z
          · rename_i ys q3
            obtain ⟨p, vs, rfl, hl, rs⟩ := w.tup
            rw [strsD_eq q3] at rs
            have e5 := rs.of_strs
            subst e5
            rw [hK] at hl
            split at z
            · exact ⟨_, p, ys, rfl, rfl, .inr hl, by assumption, z.ret R2 (.str _)⟩
            · exact z.elim
          · exact z.elim
        · exact z.elim
      · exact z.elim
  · exact z.elim
theorem de_fmt (ha : PE X a (tD W F ga)) : PE X (.FormattedValue a (-1) none pos) (tD W F fun δ => (ga δ).bind kFmt) := by
  refine PE.imp (pe_fmt ha) fun σ H Q h => ?_
  refine (seq1 h).mono fun x H1 z => ?_
  obtain ⟨ow, δ1, d1, f1, R1, r1, _, z⟩ := z
  unfold kFmt at z
  dsimp only at z
  split at z
  · split at z
    · exact .inr ⟨_, r1.intE, by assumption, z.ret R1 (.str _)⟩
    · exact z.elim
  · split at z
    · exact .inl ⟨_, r1.strE, by rw [← lim_eq]; assumption, z.ret R1 (.str _)⟩
    · exact z.elim
  · exact z.elim
inductive DJ (X : Cx) (W : WX) (F : Fr) : List Expr → List Den → Prop where
  | nil : DJ X W F [] []
  | cons {e : Expr} {g : Den} {es : List Expr} {gs : List Den} (h : PE X e (tD W F g)) (r : DJ X W F es gs) : DJ X W F (e :: es) (g :: gs)
theorem dj_pj {es : List Expr} {gs : List Den} (h : DJ X W F es gs) : PJ X es (gs.map (tD W F)) := by
  induction h with
  | nil => exact .nil
  | cons h r ih => exact .cons h ih
theorem dj_read : ∀ (gs : List Den) (acc : Str) (ow : Ow) (δ : Sta) (σ : L2.St) (H : Hp) (Q : VK), Rel F NoB ow δ σ H → PostE W F ow σ H Q (dJs gs acc δ) → tJs (gs.map (tD W F)) acc σ H fun out H1 => Q (.str out) H1
  | [], acc, ow, δ, σ, H, Q, R, h => h.ret R (.str _)
  | g :: gs, acc, ow, δ, σ, H, Q, R, h => by
    refine ⟨ow, δ, R, ?_⟩
    dsimp only [dJs] at h
    cases q : g δ with
    | exc c w δ' => rw [q] at h; exact h
    | stuck => rw [q] at h; exact h
    | ok a δ1 =>
      rw [q] at h
      obtain ⟨d, f⟩ := a
      intro v H1 R1 e1 r1 _
      have h := PostE.go R1 e1 h
      cases d with
      | str y =>
        dsimp only [Rs.bind_ok] at h
        split at h
        · refine ⟨y, r1.strE, by rw [← lim_eq]; assumption, dj_read gs _ ow δ1 σ H1 Q R1 h⟩
        · exact h.elim
      | _ => exact h.elim
theorem de_joined {v1 v2 : Expr} {rest : List Expr} {gs : List Den} (h : DJ X W F (v1 :: v2 :: rest) gs) : PE X (.JoinedStr (v1 :: v2 :: rest) pos) (tD W F (dJs gs Str.empty)) := by
  refine PE.imp (pe_joined (dj_pj h)) fun σ H Q h => ?_
  obtain ⟨ow, δ, R, h⟩ := h
  exact dj_read _ _ _ _ _ _ _ R h
end

/-! ### a written dict of the module, its keys texts -/
/-- at d stands the written dict of tab -/
structure KTab (X : Cx) (dd : Addr) (tab : List (Str × D)) : Prop where
  kd : ∃ es n, KDict X.K X.w dd es n
  get : ∀ z : Str, match tab.lookup z with
    | some d => ∃ u v, PySem.W.nsIn X.K dd z = some (some u) ∧ RelV v u ∧ ∀ {A : Addr → Prop} {H : Hp}, KF X.K H → (∀ a, A a → ∃ o, H a = some o ∧ NT o) → RD X.K A H v d
    | none => PySem.W.nsIn X.K dd z = some none
def dInTab (tab : List (Str × D)) (neg : Bool) (ga : Den) : TDen := fun δ => (ga δ).bind fun a δ1 => match a.1 with
  | .str z => .ok (if neg then !(tab.lookup z).isSome else (tab.lookup z).isSome) δ1
  | _ => .stuck
def dIxTab (tab : List (Str × D)) (ga : Den) : Den := fun δ => (ga δ).bind fun a δ1 => match a.1 with
  | .str z => match tab.lookup z with
    | some d => .ok (d, false) δ1
    | none => .stuck
  | _ => .stuck
section
variable {X : Cx} {e a b c o : Expr} {W : WX} {F : Fr} {ga : Den} {pos p2 : Pos} {tab : List (Str × D)} {dd : Addr} {x : Str}
theorem KTab.isSome (T : KTab X dd tab) (z : Str) : ∃ r, PySem.W.nsIn X.K dd z = some r ∧ r.isSome = (tab.lookup z).isSome := by
  have g := T.get z
  split at g
  · rename_i d q
    obtain ⟨u, v, e, _⟩ := g
    exact ⟨_, e, by rw [q]; rfl⟩
  · rename_i q
    exact ⟨_, g, by rw [q]; rfl⟩
theorem dt_inTab (T : KTab X dd tab) (ha : PE X a (tD W F ga)) (hg : Gl X x) (hm : X.mg x = some (.ref dd)) (hdb : (x == ("__debug__" : Str)) = false) : PT X (.Compare a [.In] [.Name x p2] pos) (tT W F (dInTab tab false ga)) := by
  obtain ⟨es, n, kd⟩ := T.kd
  refine PT.imp (pt_cmpR (op_in_kd kd) ha (pe_glob (v := .ref dd) hg hm rfl hdb) rfl) fun σ H Q h => ?_
  refine (seq1T h).mono fun v H1 z => ?_
  obtain ⟨ow, δ1, d1, f1, R1, r1, z⟩ := z
  dsimp only at z
  split at z
  · rename_i w
    obtain ⟨r, e1, e2⟩ := T.isSome w
    refine ⟨w, r, r1.strE, rfl, e1, _, rfl, ?_⟩
    rw [e2]
    rw [if_neg Bool.false_ne_true] at z
    exact z.ret R1
  · exact z.elim
theorem dt_notInTab (T : KTab X dd tab) (ha : PE X a (tD W F ga)) (hg : Gl X x) (hm : X.mg x = some (.ref dd)) (hdb : (x == ("__debug__" : Str)) = false) : PT X (.Compare a [.NotIn] [.Name x p2] pos) (tT W F (dInTab tab true ga)) := by
  obtain ⟨es, n, kd⟩ := T.kd
  refine PT.imp (pt_cmpR (op_notIn_kd kd) ha (pe_glob (v := .ref dd) hg hm rfl hdb) rfl) fun σ H Q h => ?_
  refine (seq1T h).mono fun v H1 z => ?_
  obtain ⟨ow, δ1, d1, f1, R1, r1, z⟩ := z
  dsimp only at z
  split at z
  · rename_i w
    obtain ⟨r, e1, e2⟩ := T.isSome w
    refine ⟨w, r, r1.strE, rfl, e1, _, rfl, ?_⟩
    rw [e2]
    rw [if_pos rfl] at z
    exact z.ret R1
  · exact z.elim
theorem de_ixTab (T : KTab X dd tab) (hK : F.K = X.K) (ha : PE X a (tD W F ga)) (hs : PlainIx a) (hg : Gl X x) (hm : X.mg x = some (.ref dd)) (hdb : (x == ("__debug__" : Str)) = false) : PE X (.Subscript (.Name x p2) a pos) (tD W F (dIxTab tab ga)) := by
  obtain ⟨es, n, kd⟩ := T.kd
  refine PE.imp (pe_ix ix_kdict (pe_glob (v := .ref dd) hg hm rfl hdb) ha hs) fun σ H Q h => ?_
  refine (seq1 h).mono fun v H1 z => ?_
  obtain ⟨ow, δ1, d1, f1, R1, r1, l0, z⟩ := z
  dsimp only at z
  split at z
  · rename_i w
    split at z
    · rename_i d q
      have g := T.get w
      rw [q] at g
      obtain ⟨u, v', e, ru, rd⟩ := g
      refine ⟨dd, w, v', rfl, r1.strE, ⟨es, n, u, kd.at_, kd.lit, e, ru⟩, ?_⟩
      refine z.ret R1 ?_
      rw [hK]
      refine rd (by rw [← hK]; exact R1.kf) fun a q => R1.tracked q
    · exact z.elim
  · exact z.elim
end
end DL
end
section -- DL6
set_option maxRecDepth 100000
set_option maxHeartbeats 1000000
/-! DL6: statements, by data. -/
namespace DL
open PySem PySem.Spec PyProof.Rows L2

inductive Fl where
  | nx (δ : Sta)
  | rt (a : EV) (δ : Sta)
  | bk (δ : Sta)
  | ct (δ : Sta)
  | exc (c : Str) (w : D) (δ : Sta)
  | stuck
abbrev SDen := Sta → Fl
def Rs.fl {α : Type} (r : Rs α) (k : α → Sta → Fl) : Fl := match r with
  | .ok a δ => k a δ
  | .exc c w δ => .exc c w δ
  | .stuck => .stuck
@[simp] theorem Rs.fl_ok {α : Type} (a : α) (δ : Sta) (k : α → Sta → Fl) : (Rs.ok a δ).fl k = k a δ := rfl
@[simp] theorem Rs.fl_exc {α : Type} (c : Str) (w : D) (δ : Sta) (k : α → Sta → Fl) : (Rs.exc c w δ : Rs α).fl k = .exc c w δ := rfl
@[simp] theorem Rs.fl_stuck {α : Type} (k : α → Sta → Fl) : (Rs.stuck : Rs α).fl k = .stuck := rfl

/-- from one state to a later one of the same def -/
def Step (F : Fr) (ow : Ow) (H : Hp) (ow' : Ow) (H' : Hp) : Prop := Ext (F.A NoB ow) H H' ∧ ∀ a, F.A NoB ow' a → F.A NoB ow a ∨ Nw H a
section
variable {F : Fr} {ow ow1 ow2 : Ow} {δ δ1 : Sta} {σ σ1 : L2.St} {H H1 H2 : Hp} {v : V} {d : D}
theorem Step.refl : Step F ow H ow H := ⟨Ext.refl, fun _ h => .inl h⟩
theorem Step.ext (e : Ext (F.A NoB ow) H H1) : Step F ow H ow H1 := ⟨e, fun _ h => .inl h⟩
theorem Step.trans (R1 : Rel F NoB ow1 δ1 σ1 H1) (a : Step F ow H ow1 H1) (b : Step F ow1 H1 ow2 H2) : Step F ow H ow2 H2 := by
  refine ⟨fun c o e n t => ?_, fun c h => ?_⟩
  · have e1 := a.1 c o e n t
    by_cases h : F.A NoB ow1 c
    · rcases a.2 c h with h | h
      · exact absurd h n
      · exact absurd t (h o e)
    · exact b.1 c o e1 h t
  · rcases b.2 c h with h | h
    · exact a.2 c h
    · by_cases q : F.A NoB ow c
      · exact .inl q
      · exact .inr fun o e t => h o (a.1 c o e q t) t
theorem RD.step (R : Rel F NoB ow δ σ H) (R1 : Rel F NoB ow1 δ1 σ1 H1) (s : Step F ow H ow1 H1) (r : RD F.K (F.A NoB ow) H v d) : RD F.K (F.A NoB ow1) H1 v d := by
  have e : Ext (fun a => F.A NoB ow a ∨ F.A NoB ow1 a) H H1 := s.1.weak fun _ h => .inl h
  have av : ∀ a, Known F.K H a → (F.A NoB ow a ∨ F.A NoB ow1 a) → F.A NoB ow a := fun a k h => by
    rcases h with h | h
    · exact h
    · rcases s.2 a h with h' | h'
      · exact h'
      · obtain ⟨o, e1, t1⟩ := R1.tracked h
        exact absurd rfl (known_ne k h' (kf_none R1.kf e1))
  exact ((r.avoid av).ext e).avoid fun a _ h => .inr h
theorem RDs.step (R : Rel F NoB ow δ σ H) (R1 : Rel F NoB ow1 δ1 σ1 H1) (s : Step F ow H ow1 H1) {vs : List V} {ds : List D} (r : RDs F.K (F.A NoB ow) H vs ds) : RDs F.K (F.A NoB ow1) H1 vs ds := by
  have e : Ext (fun a => F.A NoB ow a ∨ F.A NoB ow1 a) H H1 := s.1.weak fun _ h => .inl h
  have av : ∀ a, Known F.K H a → (F.A NoB ow a ∨ F.A NoB ow1 a) → F.A NoB ow a := fun a k h => by
    rcases h with h | h
    · exact h
    · rcases s.2 a h with h' | h'
      · exact h'
      · obtain ⟨o, e1, t1⟩ := R1.tracked h
        exact absurd rfl (known_ne k h' (kf_none R1.kf e1))
  exact ((r.avoid av).ext e).avoid fun a _ h => .inr h
end

/-- what a def hands back: data, that none of the callers' own objects stands in; or a list of its own -/
def RetV (F : Fr) (ow : Ow) (δ : Sta) (σ : L2.St) (H : Hp) (v : V) (a : EV) : Prop :=
  RD F.K (fun x => F.amb x ∨ ∃ i, F.par i = some x) H v a.1 ∧ (a.2 = true → ∃ p vs ds, v = .ref p ∧ a.1 = .list ds ∧ H p = some (.lst vs) ∧ Nw F.H0 p ∧ ¬ F.amb p ∧
    RDs F.K (fun x => x = p ∨ F.amb x ∨ ∃ i, F.par i = some x) H vs ds ∧ ∀ i o q, F.par i = some q → δ[i]? = some (.own o) → RO F.K (fun x => x = p ∨ F.amb x ∨ ∃ i, F.par i = some x) H q o)

section
variable (W : WX) (F : Fr)
def PostS (ow : Ow) (H : Hp) (E : Ends) : Fl → Prop
  | .nx δ' => ∀ ow' σ' H', Rel F NoB ow' δ' σ' H' → Step F ow H ow' H' → E.nx σ' H'
  | .bk δ' => ∀ ow' σ' H', Rel F NoB ow' δ' σ' H' → Step F ow H ow' H' → E.bk σ' H'
  | .ct δ' => ∀ ow' σ' H', Rel F NoB ow' δ' σ' H' → Step F ow H ow' H' → E.ct σ' H'
  | .rt a δ' => ∀ v ow' σ' H', Rel F NoB ow' δ' σ' H' → RetV F ow' δ' σ' H' v a → E.rt v H'
  | .exc c w δ' => ∀ cls dd ow' σ' H', Rel F NoB ow' δ' σ' H' → XR F (F.A NoB ow') c w cls dd H' → W cls dd σ' H'
  | .stuck => False
def tS (g : SDen) : TS := fun E σ H => ∃ ow δ, Rel F NoB ow δ σ H ∧ PostS W F ow H E (g δ)
end
section
variable {X : Cx} {e a b c : Expr} {st : Stmt} {sts : List Stmt} {W : WX} {F : Fr} {ow ow1 : Ow} {δ δ1 : Sta} {σ σ1 : L2.St} {H H1 : Hp} {E : Ends} {ga : Den} {ta : TDen} {gs gs' : SDen} {pos : Pos}
theorem PS.imp {t t' : TS} (h : PS X st t) (i : ∀ E σ H, t' E σ H → t E σ H) : PS X st t' := ⟨fun pins s σ H E I q => h.run pins s σ H E I (i E σ H q)⟩
theorem PSs.imp {t t' : TS} (h : PSs X sts t) (i : ∀ E σ H, t' E σ H → t E σ H) : PSs X sts t' := ⟨fun pins s σ H E I q => h.run pins s σ H E I (i E σ H q)⟩
theorem PostS.go {r : Fl} (R1 : Rel F NoB ow1 δ1 σ1 H1) (s : Step F ow H ow1 H1) (h : PostS W F ow H E r) : PostS W F ow1 H1 E r := by
  cases r with
  | nx δ' => exact fun ow' σ' H' R' s' => h ow' σ' H' R' (s.trans R1 s')
  | bk δ' => exact fun ow' σ' H' R' s' => h ow' σ' H' R' (s.trans R1 s')
  | ct δ' => exact fun ow' σ' H' R' s' => h ow' σ' H' R' (s.trans R1 s')
  | rt a δ' => exact h
  | exc c w δ' => exact h
  | stuck => exact h
theorem PostS.mono {E' : Ends} {r : Fl} (h : PostS W F ow H E r) (h1 : ∀ σ H, E.nx σ H → E'.nx σ H) (h2 : ∀ v H, E.rt v H → E'.rt v H) (h3 : ∀ σ H, E.bk σ H → E'.bk σ H) (h4 : ∀ σ H, E.ct σ H → E'.ct σ H) : PostS W F ow H E' r := by
  cases r with
  | nx δ' => exact fun ow' σ' H' R' s' => h1 _ _ (h ow' σ' H' R' s')
  | bk δ' => exact fun ow' σ' H' R' s' => h3 _ _ (h ow' σ' H' R' s')
  | ct δ' => exact fun ow' σ' H' R' s' => h4 _ _ (h ow' σ' H' R' s')
  | rt a δ' => exact fun v ow' σ' H' R' r' => h2 _ _ (h v ow' σ' H' R' r')
  | exc c w δ' => exact h
  | stuck => exact h
/-- behind an expression -/
theorem seqES {k : EV → Sta → Fl} (h : tS W F (fun δ => (ga δ).fl k) E σ H) :
    tD W F ga σ H fun x H1 => ∃ ow δ1 a, Rel F NoB ow δ1 σ H1 ∧ RD F.K (F.A NoB ow) H1 x a.1 ∧ (a.2 = true → ∃ Hs δ0, Lone F ow δ1 σ Hs H1 x a.1 ∧ Rel F NoB ow δ0 σ Hs ∧ Ext (F.A NoB ow) Hs H1 ∧ PostS W F ow Hs E (k a δ1)) ∧ PostS W F ow H1 E (k a δ1) := by
  obtain ⟨ow, δ, R, h⟩ := h
  refine ⟨ow, δ, R, ?_⟩
  dsimp only at h
  cases q : ga δ with
  | ok a δ1 =>
    rw [q] at h
    exact fun v H' R' e r l => ⟨ow, δ1, a, R', r, fun z => ⟨H, δ, l z, R, e, h⟩, PostS.go R' (Step.ext e) h⟩
  | exc c w δ' =>
    rw [q] at h
    exact fun cls dd H' R' e x => h cls dd ow σ H' R' x
  | stuck => rw [q] at h; exact h
theorem seqTS {k : Bool → Sta → Fl} (h : tS W F (fun δ => (ta δ).fl k) E σ H) : tT W F ta σ H fun c H1 => ∃ ow δ1, Rel F NoB ow δ1 σ H1 ∧ PostS W F ow H1 E (k c δ1) := by
  obtain ⟨ow, δ, R, h⟩ := h
  refine ⟨ow, δ, R, ?_⟩
  dsimp only at h
  cases q : ta δ with
  | ok a δ1 =>
    rw [q] at h
    exact fun H' R' e => ⟨ow, δ1, R', PostS.go R' (Step.ext e) h⟩
  | exc c w δ' =>
    rw [q] at h
    exact fun cls dd H' R' e x => h cls dd ow σ H' R' x
  | stuck => rw [q] at h; exact h
end

/-! ### blocks, if, return, an expression alone -/
def sSkip : SDen := fun δ => .nx δ
def sSeq (g g' : SDen) : SDen := fun δ => match g δ with
  | .nx δ1 => g' δ1
  | r => r
def sBk : SDen := fun δ => .bk δ
def sCt : SDen := fun δ => .ct δ
def sIf (t : TDen) (g g' : SDen) : SDen := fun δ => (t δ).fl fun k δ1 => if k = true then g δ1 else g' δ1
def sDrop (g : Den) : SDen := fun δ => (g δ).fl fun _ δ1 => .nx δ1
def sRet (g : Den) : SDen := fun δ => (g δ).fl fun a δ1 => .rt a δ1
def sRetN : SDen := fun δ => .rt (.none, false) δ
/-- return of an own list that is no parameter's -/
def sRetOwn (i : Nat) (np : Nat) : SDen := fun δ => match δ[i]? with
  | some (.own (.lst ds)) => if np ≤ i then .rt (.list ds, true) (δ.set i .un) else .stuck
  | _ => .stuck
section
variable {X : Cx} {e a b c : Expr} {st : Stmt} {sts : List Stmt} {W : WX} {F : Fr} {ow ow1 : Ow} {δ δ1 : Sta} {σ σ1 : L2.St} {H H1 : Hp} {E : Ends} {ga : Den} {ta : TDen} {gs gs' : SDen} {pos : Pos} {v : V}
theorem ds_nil : PSs X [] (tS W F sSkip) := PSs.imp pss_nil fun E σ H h => by
  obtain ⟨ow, δ, R, h⟩ := h
  exact h ow σ H R Step.refl
theorem seq_read {t : TS} {u : TS} (h : tS W F (sSeq gs gs') E σ H) (hu : ∀ σ H, tS W F gs' E σ H → u E σ H) : tS W F gs { E with nx := u E } σ H := by
  obtain ⟨ow, δ, R, h⟩ := h
  refine ⟨ow, δ, R, ?_⟩
  unfold sSeq at h
  cases q : gs δ with
  | nx δ1 =>
    rw [q] at h
    exact fun ow' σ' H' R' s' => hu _ _ ⟨ow', δ1, R', PostS.go R' s' h⟩
  | rt a δ' => rw [q] at h; exact h
  | bk δ' => rw [q] at h; exact h
  | ct δ' => rw [q] at h; exact h
  | exc c w δ' => rw [q] at h; exact h
  | stuck => rw [q] at h; exact h
theorem ds_cons (h1 : PS X st (tS W F gs)) (h2 : PSs X sts (tS W F gs')) : PSs X (st :: sts) (tS W F (sSeq gs gs')) :=
  PSs.imp (pss_cons h1 h2) fun E σ H h => seq_read (t := tS W F gs) h fun _ _ z => z
theorem ds_one (h1 : PS X st (tS W F gs)) : PSs X [st] (tS W F gs) := pss_one h1
theorem ds_pass : PS X (.Pass pos) (tS W F sSkip) := PS.imp ps_pass fun E σ H h => by
  obtain ⟨ow, δ, R, h⟩ := h
  exact h ow σ H R Step.refl
theorem ds_break : PS X (.Break pos) (tS W F sBk) := PS.imp ps_break fun E σ H h => by
  obtain ⟨ow, δ, R, h⟩ := h
  exact h ow σ H R Step.refl
theorem ds_continue : PS X (.Continue pos) (tS W F sCt) := PS.imp ps_continue fun E σ H h => by
  obtain ⟨ow, δ, R, h⟩ := h
  exact h ow σ H R Step.refl
theorem ds_if {xs ys : List Stmt} (hc : PT X c (tT W F ta)) (h1 : PSs X xs (tS W F gs)) (h2 : PSs X ys (tS W F gs')) : PS X (.If c xs ys pos) (tS W F (sIf ta gs gs')) := by
  refine PS.imp (ps_if hc h1 h2) fun E σ H h => ?_
  refine (seqTS h).mono fun k H1 z => ?_
  obtain ⟨ow, δ1, R, z⟩ := z
  cases k with
  | true => exact ⟨ow, δ1, R, z⟩
  | false => exact ⟨ow, δ1, R, z⟩
theorem ds_expr (he : PE X e (tD W F ga)) (hs : swapsWith e none pos.line X.env = pure false) : PS X (.Expr e pos) (tS W F (sDrop ga)) := by
  refine PS.imp (ps_expr he hs) fun E σ H h => ?_
  refine (seqES h).mono fun x H1 z => ?_
  obtain ⟨ow, δ1, a, R, r, l, z⟩ := z
  exact z ow σ H1 R Step.refl
theorem A_par (R : Rel F NoB ow δ σ H) : ∀ a, (F.amb a ∨ ∃ i, F.par i = some a) → F.A NoB ow a := fun a h => by
  rcases h with h | ⟨i, h⟩
  · exact .inl h
  · exact .inr (.inr ⟨i, R.par i a h⟩)
theorem retV_of {x : V} {a : EV} (R : Rel F NoB ow δ σ H) (r : RD F.K (F.A NoB ow) H x a.1) (l : a.2 = true → ∃ Hs δ0, Lone F ow δ σ Hs H x a.1 ∧ Rel F NoB ow δ0 σ Hs) : RetV F ow δ σ H x a := by
  refine ⟨r.avoid fun b _ h => A_par R b h, fun z => ?_⟩
  obtain ⟨Hs, δ0, ⟨p, vs, ds, e1, e2, R', e3, rs, n, na⟩, R0⟩ := l z
  have sub : ∀ b, (b = p ∨ F.amb b ∨ ∃ i, F.par i = some b) → F.A (· = p) ow b := fun b h => by
    rcases h with h | h | ⟨i, h⟩
    · exact .inr (.inl h)
    · exact .inl h
    · exact .inr (.inr ⟨i, R.par i b h⟩)
  refine ⟨p, vs, ds, e1, e2, e3, n.frame R0, na, rs.avoid fun b _ h => sub b h, fun i o q hq hi => ?_⟩
  obtain ⟨q', w1, _, w3⟩ := R'.slot i _ hi
  rw [R.par i q hq] at w1; cases w1
  exact w3.avoid fun b _ h => sub b h
theorem ds_ret (he : PE X e (tD W F ga)) : PS X (.Return (some e) pos) (tS W F (sRet ga)) := by
  refine PS.imp (ps_ret he) fun E σ H h => ?_
  refine (seqES h).mono fun x H1 z => ?_
  obtain ⟨ow, δ1, a, R, r, l, z⟩ := z
  refine z x ow σ H1 R (retV_of R r fun q => ?_)
  obtain ⟨Hs, δ0, l, R0, _⟩ := l q
  exact ⟨Hs, δ0, l, R0⟩
theorem ds_retN : PS X (.Return none pos) (tS W F sRetN) := PS.imp ps_retN fun E σ H h => by
  obtain ⟨ow, δ, R, h⟩ := h
  exact h .non ow σ H R ⟨.non, fun z => nomatch z⟩
/-- an own list is let go: its slot is forgotten, the list is reserved -/
theorem Rel.letGo {i : Nat} {p : Addr} {ds : List D} (R : Rel F NoB ow δ σ H) (hi : δ[i]? = some (.own (.lst ds))) (hp : ow i = some p) (np : F.par i = none) :
    Rel F (· = p) (fun j => if j = i then none else ow j) (δ.set i .un) σ H := by
  have sub : ∀ {j a}, (if j = i then none else ow j) = some a → j ≠ i ∧ ow j = some a := fun {j a} q => by
    by_cases h : j = i
    · rw [if_pos h] at q; cases q
    · rw [if_neg h] at q; exact ⟨h, q⟩
  have av : ∀ a, F.A (· = p) (fun j => if j = i then none else ow j) a → F.A NoB ow a := fun a q => by
    rcases q with q | q | ⟨j, q⟩
    · exact .inl q
    · exact .inr (.inr ⟨i, by rw [q]; exact hp⟩)
    · exact .inr (.inr ⟨j, (sub q).2⟩)
  have hlt : i < δ.length := by
    rcases Nat.lt_or_ge i δ.length with z | z
    · exact z
    · rw [List.getElem?_eq_none z] at hi; cases hi
  refine ⟨by rw [List.length_set]; exact R.len, fun j s q => ?_, fun j hj => ?_, fun j k a q1 q2 => R.inj j k a (sub q1).2 (sub q2).2, R.frame, fun j a q => ?_, fun j a q => ?_, R.amb, fun a q => ?_, R.kf, R.tabs, R.raw⟩
  · by_cases hj : j = i
    · subst hj
      rw [List.getElem?_set_self hlt] at q
      cases q
      exact if_pos rfl
    · rw [List.getElem?_set_ne (fun z => hj z.symm)] at q
      have z := R.slot j s q
      have e1 : (if j = i then none else ow j) = ow j := if_neg hj
      cases s with
      | un => exact e1.trans z
      | val d => obtain ⟨z1, w, z2, z3⟩ := z; exact ⟨e1.trans z1, w, z2, z3.avoid fun a _ => av a⟩
      | own u => obtain ⟨a, z1, z2, z3⟩ := z; exact ⟨a, e1.trans z1, z2, z3.avoid fun a _ => av a⟩
  · rw [List.length_set] at hj
    by_cases h : j = i
    · exact if_pos h
    · rw [if_neg h]; exact R.out j hj
  · obtain ⟨h1, h2⟩ := sub q
    refine ⟨(R.fresh j a h2).1, (R.fresh j a h2).2.1, fun z => h1 (R.inj j i a h2 (by rw [z]; exact hp))⟩
  · have h : j ≠ i := fun z => by rw [z, np] at q; cases q
    rw [if_neg h]; exact R.par j a q
  · rw [q]
    exact R.tracked (.inr (.inr ⟨i, hp⟩))
theorem ds_retOwn {i np : Nat} {x : Str} {p : Pos} (hN : X.N[i]? = some x) (hv : Vis X.env.scope x) (hnp : ∀ j, np ≤ j → F.par j = none) (hd : (x == ("__debug__" : Str)) = false) (hcd : (x == ("__classdict__" : Str)) = false) :
    PS X (.Return (some (.Name x p)) pos) (tS W F (sRetOwn i np)) := by
  refine PS.imp (ps_ret (pe_var hN hv hd hcd)) fun E σ H h => ?_
  obtain ⟨ow, δ, R, h⟩ := h
  unfold sRetOwn at h
  split at h
  · rename_i ds q
    split at h
    · rename_i hi
      obtain ⟨p, w1, w2, vs, w3, w4⟩ := R.slot i _ q
      have R' := R.letGo q w1 (hnp i hi)
      have R'' := R'.unB
      have av : ∀ a, F.A (· = p) (fun j => if j = i then none else ow j) a → F.A NoB ow a := fun a q => by
        rcases q with q | q | ⟨j, q⟩
        · exact .inl q
        · exact .inr (.inr ⟨i, by rw [q]; exact w1⟩)
        · have q : (if j = i then none else ow j) = some a := q
          by_cases h : j = i
          · rw [if_pos h] at q; cases q
          · rw [if_neg h] at q; exact .inr (.inr ⟨j, q⟩)
      have sub : ∀ b, (b = p ∨ F.amb b ∨ ∃ i, F.par i = some b) → F.A (· = p) (fun j => if j = i then none else ow j) b := fun b h => by
        rcases h with h | h | ⟨j, h⟩
        · exact .inr (.inl h)
        · exact .inl h
        · exact .inr (.inr ⟨j, R'.par j b h⟩)
      have fr := R.fresh i p w1
      have npar : ∀ j, F.par j ≠ some p := fun j z => by
        have := R.inj j i p (R.par j p z) w1
        rw [this, hnp i hi] at z; cases z
      have nw : Nw F.H0 p := by
        rcases fr.1 with z | z
        · exact absurd z (npar i)
        · exact z
      have rs' : RDs F.K (fun b => b = p ∨ F.amb b ∨ ∃ i, F.par i = some b) H vs ds := w4.avoid fun b _ h => av b (sub b h)
      refine ⟨.ref p, w2, h _ _ σ H R'' ⟨.lst (.inl w3) (fun z => ?_) (rs'.avoid fun b _ h => .inr h), fun _ => ⟨p, vs, ds, rfl, rfl, w3, nw, fr.2.1, rs', fun j o z hz hj => ?_⟩⟩⟩
      · rcases z with z | ⟨j, z⟩
        · exact fr.2.1 z
        · exact npar j z
      · obtain ⟨z', y1, _, y3⟩ := R'.slot j _ hj
        have y0 : (if j = i then none else ow j) = some z := R'.par j z hz
        have y1' : (if j = i then none else ow j) = some z' := y1
        rw [y0] at y1'; cases y1'
        exact y3.avoid fun b _ h => sub b h
    · exact h.elim
  · exact h.elim
end
end DL
end
section -- DL7
set_option maxRecDepth 100000
set_option maxHeartbeats 1000000
/-! DL7: names stored, targets, own lists written. -/
namespace DL
open PySem PySem.Spec PyProof.Rows L2

section
variable {X : Cx} {e a b c : Expr} {st : Stmt} {sts : List Stmt} {W : WX} {F : Fr} {ow ow1 : Ow} {δ δ1 : Sta} {σ σ1 : L2.St} {H H1 : Hp} {E : Ends} {ga : Den} {ta : TDen} {gs gs' : SDen} {pos : Pos} {v : V} {d : D} {i : Nat} {x : Str}
theorem ps_len {t : TS} (h : PS X st t) : PS X st fun E σ H => σ.length = X.N.length → KF X.K H → t E σ H := ⟨fun pins s σ H E I q => h.run pins s σ H E I (q I.len (inv_kf I))⟩
theorem PG.imp {tg : Expr} {t t' : TG} (h : PG X tg t) (i : ∀ v σ H Q, t' v σ H Q → t v σ H Q) : PG X tg t' := ⟨fun pins s σ H v u Q I r q => h.run pins s σ H v u Q I r (i v σ H Q q)⟩
theorem PGs.imp {ts : List Expr} {t t' : TGs} (h : PGs X ts t) (i : ∀ v σ H Q, t' v σ H Q → t v σ H Q) : PGs X ts t' := ⟨fun pins s σ H v u Q I r q => h.run pins s σ H v u Q I r (i v σ H Q q)⟩
theorem pg_len {tg : Expr} {t : TG} (h : PG X tg t) : PG X tg fun v σ H Q => σ.length = X.N.length → KF X.K H → t v σ H Q := ⟨fun pins s σ H v u Q I r q => h.run pins s σ H v u Q I r (q I.len (inv_kf I))⟩
theorem lt_of_get {α : Type} {l : List α} {i : Nat} {y : α} (h : l[i]? = some y) : i < l.length := by
  rcases Nat.lt_or_ge i l.length with z | z
  · exact z
  · rw [List.getElem?_eq_none z] at h; cases h
def offI (ow : Ow) (i : Nat) : Ow := fun j => if j = i then none else ow j
theorem offI_sub {B : Addr → Prop} : ∀ a, F.A B (offI ow i) a → F.A B ow a := fun a q => by
  rcases q with q | q | ⟨j, q⟩
  · exact .inl q
  · exact .inr (.inl q)
  · have q : (if j = i then none else ow j) = some a := q
    by_cases h : j = i
    · rw [if_pos h] at q; cases q
    · rw [if_neg h] at q; exact .inr (.inr ⟨j, q⟩)
theorem Step.sub (h : ∀ a, F.A NoB ow1 a → F.A NoB ow a) : Step F ow H ow1 H := ⟨Ext.refl, fun a q => .inl (h a q)⟩

/-! ### name = value -/
def sSet (i : Nat) (g : Den) : SDen := fun δ => (g δ).fl fun a δ1 => .nx (δ1.set i (.val a.1))
def sOwn (i : Nat) (g : Den) : SDen := fun δ => (g δ).fl fun a δ1 => match a.1 with
  | .list ds => if a.2 = true then .nx (δ1.set i (.own (.lst ds))) else .stuck
  | _ => .stuck
theorem asg_val (hi : i < X.N.length) (np : F.fre i) (hl : σ.length = X.N.length) (h : tS W F (sSet i ga) E σ H) : tD W F ga σ H fun x H1 => gName i x σ H1 E.nx := by
  refine (seqES h).mono fun x H1 z => ?_
  obtain ⟨ow, δ1, a, R, r, l, z⟩ := z
  exact z _ _ _ (R.setVal (by rw [← R.len, hl]; exact hi) np r) (Step.sub offI_sub)
theorem asg_own (hi : i < X.N.length) (np : F.fre i) (hl : σ.length = X.N.length) (h : tS W F (sOwn i ga) E σ H) : tD W F ga σ H fun x H1 => gName i x σ H1 E.nx := by
  refine (seqES h).mono fun x H1 z => ?_
  obtain ⟨ow, δ1, a, R, r, l, z⟩ := z
  split at z
  · rename_i ds q
    split at z
    · rename_i q2
      obtain ⟨Hs, δ0, ⟨p, vs, ds', e1, e2, R', e3, rs, n, na⟩, R0, ex, z'⟩ := l q2
      rw [q] at e2
      cases e2
      rw [q] at z'
      rw [e1]
      dsimp only at z'
      rw [if_pos q2] at z'
      refine z' _ _ _ (R'.setOwn (by rw [← R.len, hl]; exact hi) np e3 rs (n.frame R0) na) ⟨ex, fun c w => ?_⟩
      rcases w with w | w | ⟨j, w⟩
      · exact .inl (.inl w)
      · exact w.elim
      · have w : (if j = i then some p else ow j) = some c := w
        by_cases hj : j = i
        · rw [if_pos hj] at w; cases w; exact .inr n
        · rw [if_neg hj] at w; exact .inl (.inr (.inr ⟨j, w⟩))
    · exact z.elim
  · exact z.elim
theorem ds_set {pos' : Pos} (hN : X.N.Nodup) (hi : X.N[i]? = some x) (hx : Loc X.env.scope x) (he : PE X e (tD W F ga)) (hs : swapsWith e (some (.Name x pos')) pos.line X.env = pure false) (hf : X.fn x = true ∨ X.env.scope.names.lookup x = some .local) (np : F.fre i) :
    PS X (.Assign [.Name x pos'] e pos) (tS W F (sSet i ga)) := PS.imp (ps_len (ps_set hN hi hx he hs hf)) fun E σ H h hl _ => asg_val (lt_of_get hi) np hl h
theorem ds_own {pos' : Pos} (hN : X.N.Nodup) (hi : X.N[i]? = some x) (hx : Loc X.env.scope x) (he : PE X e (tD W F ga)) (hs : swapsWith e (some (.Name x pos')) pos.line X.env = pure false) (hf : X.fn x = true ∨ X.env.scope.names.lookup x = some .local) (np : F.fre i) :
    PS X (.Assign [.Name x pos'] e pos) (tS W F (sOwn i ga)) := PS.imp (ps_len (ps_set hN hi hx he hs hf)) fun E σ H h hl _ => asg_own (lt_of_get hi) np hl h

/-! ### an own list becomes data -/
def frz (i : Nat) (δ : Sta) : Sta := match δ[i]? with
  | some (.own (.lst ds)) => δ.set i (.val (.list ds))
  | _ => δ
theorem Rel.frz {ds : List D} (R : Rel F NoB ow δ σ H) (hi : δ[i]? = some (.own (.lst ds))) (np : F.fre i) : Rel F NoB (offI ow i) (δ.set i (.val (.list ds))) σ H := by
  obtain ⟨p, w1, w2, vs, w3, w4⟩ := R.slot i _ hi
  have sub : ∀ {j a}, offI ow i j = some a → j ≠ i ∧ ow j = some a := fun {j a} q => by
    have q : (if j = i then none else ow j) = some a := q
    by_cases h : j = i
    · rw [if_pos h] at q; cases q
    · rw [if_neg h] at q; exact ⟨h, q⟩
  have hlt := lt_of_get hi
  have nA : ¬ F.A NoB (offI ow i) p := fun q => by
    rcases q with q | q | ⟨j, q⟩
    · exact (R.fresh i p w1).2.1 q
    · exact q
    · exact (sub q).1 (R.inj j i p (sub q).2 w1)
  refine ⟨by rw [List.length_set]; exact R.len, fun j s q => ?_, fun j hj => ?_, fun j k a q1 q2 => R.inj j k a (sub q1).2 (sub q2).2, R.frame, fun j a q => R.fresh j a (sub q).2, fun j a q => ?_, R.amb, R.bk, R.kf, R.tabs, R.raw⟩
  · by_cases hj : j = i
    · subst hj
      rw [List.getElem?_set_self hlt] at q
      cases q
      exact ⟨if_pos rfl, .ref p, w2, .lst (.inl w3) nA (w4.avoid fun a _ => offI_sub a)⟩
    · rw [List.getElem?_set_ne (fun z => hj z.symm)] at q
      have z := R.slot j s q
      have e1 : offI ow i j = ow j := if_neg hj
      cases s with
      | un => exact e1.trans z
      | val d => obtain ⟨z1, w, z2, z3⟩ := z; exact ⟨e1.trans z1, w, z2, z3.avoid fun a _ => offI_sub a⟩
      | own u => obtain ⟨a, z1, z2, z3⟩ := z; exact ⟨a, e1.trans z1, z2, z3.avoid fun a _ => offI_sub a⟩
  · rw [List.length_set] at hj
    have e1 := R.out j hj
    show (if j = i then none else ow j) = none
    by_cases h : j = i
    · exact if_pos h
    · rw [if_neg h]; exact e1
  · have h : j ≠ i := fun z => by rw [z, np.1] at q; cases q
    show (if j = i then none else ow j) = some a
    rw [if_neg h]; exact R.par j a q
def sFrz (i : Nat) (g : SDen) : SDen := fun δ => g (frz i δ)
theorem frz_read (np : F.fre i) (h : tS W F (sFrz i gs) E σ H) : tS W F gs E σ H := by
  obtain ⟨ow, δ, R, h⟩ := h
  unfold sFrz DL.frz at h
  split at h
  · rename_i ds q
    exact ⟨_, _, R.frz q np, PostS.go (R.frz q np) (Step.sub offI_sub) h⟩
  · exact ⟨ow, δ, R, h⟩
theorem ds_frz (np : F.fre i) (h : PS X st (tS W F gs)) : PS X st (tS W F (sFrz i gs)) := PS.imp h fun _ _ _ h => frz_read np h
theorem dss_frz (np : F.fre i) (h : PSs X sts (tS W F gs)) : PSs X sts (tS W F (sFrz i gs)) := PSs.imp h fun _ _ _ h => frz_read np h
end

/-! ### targets -/
abbrev GDen := D → Sta → Option Sta
abbrev GsDen := List D → Sta → Option Sta
def gSlot (i : Nat) : GDen := fun d δ => some (δ.set i (.val d))
def gsNil : GsDen := fun ds δ => match ds with
  | [] => some δ
  | _ => none
def gsCons (g : GDen) (gs : GsDen) : GsDen := fun ds δ => match ds with
  | d :: r => match g d δ with
    | some δ1 => gs r δ1
    | none => none
  | _ => none
def gTupD (n : Nat) (gs : GsDen) : GDen := fun d δ => match d with
  | .tuple ds => if ds.length = n then gs ds δ else none
  | _ => none
/-- what a store promises: only the slots vs are written -/
structure Put (F : Fr) (vs : List Nat) (ow : Ow) (σ : L2.St) (H : Hp) (ow' : Ow) (δ' : Sta) (σ' : L2.St) : Prop where
  rel : Rel F NoB ow' δ' σ' H
  sub : ∀ j, ow' j = ow j ∨ (ow' j = none ∧ j ∈ vs)
  wip : wipe σ' vs = wipe σ vs
def tG (F : Fr) (vs : List Nat) (g : GDen) : TG := fun v σ H Q => ∃ ow δ d δ', Rel F NoB ow δ σ H ∧ RD F.K (F.A NoB ow) H v d ∧ g d δ = some δ' ∧ ∀ ow' σ', Put F vs ow σ H ow' δ' σ' → Q σ' H
def tGs (F : Fr) (vs : List Nat) (g : GsDen) : TGs := fun us σ H Q => ∃ ow δ ds δ', Rel F NoB ow δ σ H ∧ RDs F.K (F.A NoB ow) H us ds ∧ g ds δ = some δ' ∧ ∀ ow' σ', Put F vs ow σ H ow' δ' σ' → Q σ' H
theorem wipe_get {j : Nat} : ∀ {vs : List Nat} {σ : L2.St}, (wipe σ vs)[j]? = if j ∈ vs ∧ j < σ.length then some none else σ[j]?
  | [], σ => by
    rw [if_neg (fun z => by simp at z)]
    rfl
  | v :: vs, σ => by
    show ((wipe σ vs).set v none)[j]? = _
    have ih := wipe_get (j := j) (vs := vs) (σ := σ)
    by_cases h : v = j
    · subst h
      by_cases hl : v < σ.length
      · rw [List.getElem?_set_self (by rw [wipe_length]; exact hl), if_pos ⟨by simp, hl⟩]
      · rw [if_neg (fun z => hl z.2), List.getElem?_eq_none (by rw [List.length_set, wipe_length]; omega), List.getElem?_eq_none (by omega)]
    · rw [List.getElem?_set_ne h, ih]
      by_cases h2 : j ∈ vs ∧ j < σ.length
      · rw [if_pos h2, if_pos ⟨List.mem_cons_of_mem _ h2.1, h2.2⟩]
      · rw [if_neg h2, if_neg (fun z => h2 ⟨(List.mem_cons.mp z.1).resolve_left fun q => h q.symm, z.2⟩)]
theorem wipe_set {i : Nat} {vs : List Nat} {σ : L2.St} {y : Option V} (h : i ∈ vs) : wipe (σ.set i y) vs = wipe σ vs := by
  apply List.ext_getElem?
  intro j
  rw [wipe_get, wipe_get, List.length_set]
  by_cases h2 : j ∈ vs ∧ j < σ.length
  · rw [if_pos h2, if_pos h2]
  · rw [if_neg h2, if_neg h2]
    by_cases hj : i = j
    · subst hj
      have hge : σ.length ≤ i := Nat.le_of_not_lt fun z => h2 ⟨h, z⟩
      rw [List.getElem?_eq_none (by rw [List.length_set]; exact hge), List.getElem?_eq_none hge]
    · rw [List.getElem?_set_ne hj]
section
variable {X : Cx} {e a b c : Expr} {es : List Expr} {st : Stmt} {sts : List Stmt} {W : WX} {F : Fr} {ow ow1 : Ow} {δ δ1 : Sta} {σ σ1 : L2.St} {H H1 : Hp} {E : Ends} {ga : Den} {ta : TDen} {gs gs' : SDen} {pos : Pos} {v : V} {d : D} {i : Nat} {x : Str} {vs : List Nat}
theorem dg_name (hN : X.N.Nodup) (hi : X.N[i]? = some x) (hx : Loc X.env.scope x) (hf : X.fn x = true ∨ X.env.scope.names.lookup x = some .local) (hv : i ∈ vs) (np : F.fre i) : PG X (.Name x pos) (tG F vs (gSlot i)) := by
  refine PG.imp (pg_len (pg_name hN hi hx hf)) fun v σ H Q h hl _ => ?_
  obtain ⟨ow, δ, d, δ', R, r, q, z⟩ := h
  cases q
  exact z _ _ ⟨R.setVal (by rw [← R.len, hl]; exact lt_of_get hi) np r, fun j => by
    by_cases h : j = i
    · exact .inr ⟨if_pos h, h ▸ hv⟩
    · exact .inl (if_neg h), wipe_set hv⟩
theorem dgs_nil : PGs X [] (tGs F vs gsNil) := by
  refine PGs.imp pgs_nil fun us σ H Q h => ?_
  obtain ⟨ow, δ, ds, δ', R, r, q, z⟩ := h
  cases r with
  | nil => cases q; exact ⟨rfl, z ow σ ⟨R, fun _ => .inl rfl, rfl⟩⟩
  | cons _ _ => cases q
theorem Put.avo {ow' : Ow} {δ' : Sta} {σ' : L2.St} (p : Put F vs ow σ H ow' δ' σ') : ∀ a, F.A NoB ow' a → F.A NoB ow a := fun a q => by
  rcases q with q | q | ⟨j, q⟩
  · exact .inl q
  · exact q.elim
  · rcases p.sub j with h | h
    · exact .inr (.inr ⟨j, h.symm.trans q⟩)
    · rw [h.1] at q; cases q
theorem Put.step {ow' : Ow} {δ' : Sta} {σ' : L2.St} (p : Put F vs ow σ H ow' δ' σ') : Step F ow H ow' H := Step.sub p.avo
theorem Put.trans {ow' ow'' : Ow} {δ' δ'' : Sta} {σ' σ'' : L2.St} (p : Put F vs ow σ H ow' δ' σ') (q : Put F vs ow' σ' H ow'' δ'' σ'') : Put F vs ow σ H ow'' δ'' σ'' :=
  ⟨q.rel, fun j => by
    rcases q.sub j with h | h
    · rw [h]; exact p.sub j
    · exact .inr h, q.wip.trans p.wip⟩
theorem dgs_cons {g : GDen} {gr : GsDen} (h1 : PG X e (tG F vs g)) (h2 : PGs X es (tGs F vs gr)) (hs : (assignEach (e :: es) X.env).map (·.2) = assign e X.env :: (assignEach es X.env).map (·.2)) : PGs X (e :: es) (tGs F vs (gsCons g gr)) := by
  refine PGs.imp (pgs_cons h1 h2 hs) fun us σ H Q h => ?_
  obtain ⟨ow, δ, ds, δ', R, r, q, z⟩ := h
  cases r with
  | nil => cases q
  | cons r rr =>
    unfold gsCons at q
    dsimp only at q
    split at q
    · rename_i δ1 q1
      refine ⟨_, _, rfl, ow, δ, _, δ1, R, r, q1, fun ow' σ' p => ?_⟩
      exact ⟨ow', δ1, _, δ', p.rel, rr.avoid fun a _ => p.avo a, q, fun ow2 σ2 p2 => z ow2 σ2 (p.trans p2)⟩
    · cases q
theorem dg_tup {g : GsDen} {k n : Nat} (hK : F.K = X.K) (hc : X.calm = true) (h : PGs X es (tGs F vs g)) (hn : (assignEach es X.env).length = n) (hst : (assignEach es X.env).findIdx? (·.1) = none) : PG X (.Tuple es k pos) (tG F vs (gTupD n g)) := by
  refine PG.imp (pg_tup hc h hn hst) fun v σ H Q h => ?_
  obtain ⟨ow, δ, d, δ', R, r, q, z⟩ := h
  unfold gTupD at q
  split at q
  · split at q
    · rename_i hl
      obtain ⟨a, xs, e1, e2, e3, e4⟩ := r.tupE
      rw [← hK]
      exact ⟨a, xs, e1, e2, e4.length.trans hl, ow, δ, _, δ', R, e4, q, z⟩
    · cases q
  · cases q
/-- target = value, any target -/
def sTg (g : Den) (gt : GDen) : SDen := fun δ => (g δ).fl fun a δ1 => match gt a.1 δ1 with
  | some δ2 => .nx δ2
  | none => .stuck
theorem ds_tg {tg : Expr} {gt : GDen} (he : PE X e (tD W F ga)) (hg : PG X tg (tG F vs gt)) (hs : swapsWithSole [tg] e pos.line X.env = pure false) (hw : swappedStores [tg] e X.env = pure none) (h1 : (assignEach [tg] X.env).map (·.2) = [assign tg X.env]) :
    PS X (.Assign [tg] e pos) (tS W F (sTg ga gt)) := by
  refine PS.imp (ps_asg he hg hs hw h1) fun E σ H h => ?_
  refine (seqES h).mono fun x H1 z => ?_
  obtain ⟨ow, δ1, a, R, r, l, z⟩ := z
  split at z
  · rename_i δ2 q
    exact ⟨ow, δ1, a.1, δ2, R, r, q, fun ow' σ' p => z ow' σ' H1 p.rel p.step⟩
  · exact z.elim
/-- behind several values -/
theorem seqLS {gl : LDen} {k : List D → Sta → Fl} (h : tS W F (fun δ => (gl δ).fl k) E σ H) : tL W F gl σ H fun us H1 => ∃ ow δ1 ds, Rel F NoB ow δ1 σ H1 ∧ RDs F.K (F.A NoB ow) H1 us ds ∧ PostS W F ow H1 E (k ds δ1) := by
  obtain ⟨ow, δ, R, h⟩ := h
  refine ⟨ow, δ, R, ?_⟩
  dsimp only at h
  cases q : gl δ with
  | ok a δ1 =>
    rw [q] at h
    exact fun us H' R' e rs => ⟨ow, δ1, a, R', rs, PostS.go R' (Step.ext e) h⟩
  | exc c w δ' =>
    rw [q] at h
    exact fun cls dd H' R' e x => h cls dd ow σ H' R' x
  | stuck => rw [q] at h; exact h
/-- a, b = x, y of plain names -/
def sPar (i j : Nat) (gl : LDen) : SDen := fun δ => (gl δ).fl fun ds δ1 => match ds with
  | [d1, d2] => .nx ((δ1.set i (.val d1)).set j (.val d2))
  | _ => .stuck
theorem ds_par {j : Nat} {y : Str} {gl : LDen} {px py pt : Pos} {kt k2 pt2} (hc : X.calm = true) (hN : X.N.Nodup) (hi : X.N[i]? = some x) (hj : X.N[j]? = some y) (hij : i ≠ j)
    (hx : X.env.scope.names.lookup x = some .local) (hy : X.env.scope.names.lookup y = some .local) (ha : PA X [a, b] (tL W F gl)) (npi : F.fre i) (npj : F.fre j)
    (hw : swappedStores [.Tuple [.Name x px, .Name y py] kt pt] (.Tuple [a, b] k2 pt2) X.env = pure (some [x, y]))
    (hs : swapsWithSole [.Tuple [.Name x px, .Name y py] kt pt] (.Tuple [a, b] k2 pt2) pos.line X.env = pure false) :
    PS X (.Assign [.Tuple [.Name x px, .Name y py] kt pt] (.Tuple [a, b] k2 pt2) pos) (tS W F (sPar i j gl)) := by
  refine PS.imp (ps_len (ps_par hc hN hi hj hij hx hy ha hw hs)) fun E σ H h hl _ => ?_
  refine (seqLS h).mono fun us H1 z => ?_
  obtain ⟨ow, δ1, ds, R, r, z⟩ := z
  split at z
  · rename_i d1 d2
    cases r with
    | cons r1 rr =>
      cases rr with
      | cons r2 rr =>
        cases rr
        refine ⟨_, _, rfl, ?_⟩
        have R1 := R.setVal (by rw [← R.len, hl]; exact lt_of_get hi) npi r1
        have R2 := R1.setVal (i := j) (by rw [← R1.len, List.length_set, hl]; exact lt_of_get hj) npj (r2.avoid fun a _ => offI_sub a)
        exact z _ _ _ R2 (Step.sub fun a q => offI_sub a (offI_sub a q))
  · exact z.elim
end
end DL
end
section -- DL8
set_option maxRecDepth 100000
set_option maxHeartbeats 1000000
/-! DL8: own lists written: x[i] = e, append, extend. -/
namespace DL
open PySem PySem.Spec PyProof.Rows L2

section
variable {X : Cx} {e a b c : Expr} {st : Stmt} {sts : List Stmt} {W : WX} {F : Fr} {ow ow1 : Ow} {δ δ1 : Sta} {σ σ1 : L2.St} {H H1 : Hp} {E : Ends} {ga gi : Den} {ta : TDen} {gs gs' : SDen} {pos px apos c2 : Pos} {v : V} {d : D} {i : Nat} {x : Str} {B : Addr → Prop}
/-- the slot i holds an own list: at every state with the same own objects -/
theorem own_at (R : Rel F B ow δ σ H) {o : OO} (h : δ[i]? = some (.own o)) : ∃ p, ow i = some p ∧ σ[i]? = some (some (.ref p)) := by
  obtain ⟨p, h1, h2, _⟩ := R.slot i _ h
  exact ⟨p, h1, h2⟩
theorem own_lst (R : Rel F B ow δ σ H) {ds : List D} {p : Addr} (h : δ[i]? = some (.own (.lst ds))) (hp : ow i = some p) : ∃ vs, H p = some (.lst vs) ∧ RDs F.K (F.A B ow) H vs ds := by
  obtain ⟨p', h1, _, vs, h3, h4⟩ := R.slot i _ h
  rw [hp] at h1; cases h1
  exact ⟨vs, h3, h4⟩
theorem seq1S {k : EV → Sta → Fl} {E : Ends} {Q : VK} (h : ∃ δ, Rel F NoB ow δ σ H ∧ PostS W F ow H E ((ga δ).fl k)) (hq : ∀ x H1 δ1 a, Rel F NoB ow δ1 σ H1 → Ext (F.A NoB ow) H H1 → RD F.K (F.A NoB ow) H1 x a.1 → PostS W F ow H1 E (k a δ1) → Q x H1) : tD W F ga σ H Q := by
  obtain ⟨δ, R, h⟩ := h
  refine ⟨ow, δ, R, ?_⟩
  cases q : ga δ with
  | ok a δ1 =>
    rw [q] at h
    exact fun v H' R' e r l => hq v H' δ1 a R' e r (PostS.go R' (Step.ext e) h)
  | exc c w δ' =>
    rw [q] at h
    exact fun cls dd H' R' e x => h cls dd ow σ H' R' x
  | stuck => rw [q] at h; exact h
def sIxSet (i : Nat) (gi g : Den) : SDen := fun δ => (g δ).fl fun a δ1 => match δ1[i]? with
  | some (.own _) => (gi δ1).fl fun b δ2 => match δ2[i]?, b.1 with
    | some (.own (.lst ds)), .int n => match ixN ds.length n with
      | some j => .nx (δ2.set i (.own (.lst (ds.set j a.1))))
      | none => .stuck
    | _, _ => .stuck
  | _ => .stuck
theorem ds_ixset {ix : Expr} {p2 : Pos} (hN : X.N[i]? = some x) (hv : Vis X.env.scope x) (hd : (x == ("__debug__" : Str)) = false) (hcd : (x == ("__classdict__" : Str)) = false) (he : PE X e (tD W F ga)) (hi : PE X ix (tD W F gi))
    (ha : ∀ v, assign (.Subscript (.Name x px) ix p2) X.env v = (do
      let ov ← holding [v] (eval (.Name x px) X.env)
      let iv ← holding [v, ov] (eval ix X.env)
      standAt p2
      holding [v, ov, iv] (setItem ov iv v)
      release [v, ov, iv] []))
    (hs : swapsWithSole [.Subscript (.Name x px) ix p2] e pos.line X.env = pure false) (hw : swappedStores [.Subscript (.Name x px) ix p2] e X.env = pure none) (h1 : (assignEach [.Subscript (.Name x px) ix p2] X.env).map (·.2) = [assign (.Subscript (.Name x px) ix p2) X.env]) :
    PS X (.Assign [.Subscript (.Name x px) ix p2] e pos) (tS W F (sIxSet i gi ga)) := by
  refine PS.imp (ps_asg he (pg_sub (pe_var hN hv hd hcd) hi set_list ha) hs hw h1) fun E σ H h => ?_
  refine (seqES h).mono fun y H1 z => ?_
  obtain ⟨ow, δ1, a, R, r, l, z⟩ := z
  split at z
  · rename_i o q
    obtain ⟨p, e1, e2⟩ := own_at R q
    refine ⟨.ref p, e2, seq1S ⟨δ1, R, z⟩ fun u H2 δ2 b R2 ex r2 z => ?_⟩
    split at z
    · rename_i ds n q1 q2
      split at z
      · rename_i j q3
        obtain ⟨vs, w1, w2⟩ := own_lst R2 q1 e1
        rw [q2] at r2
        have e3 := r2.intE
        subst e3
        have R3 := R2.write q1 e1 (w2.set (r.ext ex) j)
        have hA : F.A NoB ow p := .inr (.inr ⟨i, e1⟩)
        exact ⟨p, vs, n, j, rfl, rfl, w1, by rw [w2.length]; exact q3, z _ _ _ R3 (Step.ext (Ext.updA hA))⟩
      · exact z.elim
    · exact z.elim
  · exact z.elim

/-! ### append, extend -/
def sApp (i : Nat) (g : Den) : SDen := fun δ => match δ[i]? with
  | some (.own _) => (g δ).fl fun a δ1 => match δ1[i]? with
    | some (.own (.lst ds)) => if ds.length < LIM then .nx (δ1.set i (.own (.lst (ds ++ [a.1])))) else .stuck
    | _ => .stuck
  | _ => .stuck
def sExt (i : Nat) (g : Den) : SDen := fun δ => match δ[i]? with
  | some (.own _) => (g δ).fl fun a δ1 => match δ1[i]?, a.1 with
    | some (.own (.lst ds)), .list es => if ds.length + es.length ≤ LIM then .nx (δ1.set i (.own (.lst (ds ++ es)))) else .stuck
    | _, _ => .stuck
  | _ => .stuck
def rExtR : V → List V → Hp → VK → Prop := fun x vs H Q => ∃ l b xs zs, x = .ref l ∧ vs = [.ref b] ∧ H l = some (.lst xs) ∧ Rd H b (.lst zs) ∧ xs.length + zs.length ≤ sizeLine ∧ Q .non (upd H l (.lst (xs ++ zs)))
theorem mt_extR : MtR X "list.extend" rExtR := by
  intro pins s σ H x vs v us Q I rx rv h
  obtain ⟨l, b, xs, zs, ex, ev, hH, hB, hz, q⟩ := h
  subst ex ev
  cases rx
  obtain ⟨u, eu, ru⟩ := rv.one
  subst eu
  cases ru
  obtain ⟨_, its, n, r, hl, e⟩ := Inv.lstR I (.inl hH)
  obtain ⟨_, jts, m, r2, hl2, e2⟩ := Inv.lstR I hB
  have small : its.toArray.size + jts.toArray.size ≤ sizeLine := by rw [List.size_toArray, List.size_toArray, ← hl, ← hl2]; exact hz
  have nl : Builtin.List.listTooLong (its.toArray.size + jts.toArray.size) = false := notLongL small
  have both : its.toArray ++ jts.toArray = (its ++ jts).toArray := by simp
  refine call_meets F.slot_list_extend ⟨_, e, rfl⟩ F.entry_list_extend (F.args_list_extend_2 _ _) (AutoSeq1.list_extend_list_list_0 l its.toArray n b jts.toArray m (by rw [nl, Bool.and_false]; decide) (by omega) (by omega)) ⟨e, e2, ?_⟩
  exact ⟨.non, _, I.lset (f := fun x => x ++ jts.toArray) hH e both (r.append r2) (by rw [List.length_append]; omega), rfl, q⟩
theorem ds_app (hN : X.N[i]? = some x) (hv : Vis X.env.scope x) (hd : (x == ("__debug__" : Str)) = false) (hcd : (x == ("__classdict__" : Str)) = false) (he : PE X e (tD W F ga)) (hse : NoStar e)
    (hbase : attributeBase (.Name x px) "append" X.env (eval (.Name x px) X.env) = eval (.Name x px) X.env)
    (hfew : ((backTo c2 (starEach [e] X.env)).all (fun x => !x.1) && (backToKw c2 (keywordEach [] X.env)).all (fun x => x.1.isSome) && decide ([e].length + ([] : List Keyword).length + (if ([] : List Keyword).isEmpty then 0 else 1) < 30)) = true)
    (hline : (apos.endLine == c2.line) = true) (hplain : (backTo c2 (starEach [] X.env)).any (·.1) = false) (hs : swapsWith (.Call (.Attribute (.Name x px) "append" apos) [e] [] c2) none pos.line X.env = pure false) :
    PS X (.Expr (.Call (.Attribute (.Name x px) "append" apos) [e] [] c2) pos) (tS W F (sApp i ga)) := by
  refine PS.imp (ps_len (ps_expr (pe_bm PySem.F.plainAttrs_list PySem.F.slot_list_append PySem.F.type_list_append mt_append (pe_var hN hv hd hcd) (pa_cons he pa_nil (hse _ _)) hbase hfew hline (hse _ _) hplain) hs)) fun E σ H h _ _ => ?_
  obtain ⟨ow, δ, R, h⟩ := h
  unfold sApp at h
  split at h
  · rename_i o q
    obtain ⟨p, e1, e2⟩ := own_at R q
    refine ⟨.ref p, e2, .inl ⟨rfl, ?_⟩, seq1S ⟨δ, R, h⟩ fun u H2 δ2 b R2 ex r2 z => ?_⟩
    · cases o with
      | lst ds =>
        obtain ⟨vs, w1, _⟩ := own_lst R q e1
        exact ⟨vs, .inl (.inl w1)⟩
    · split at z
      · rename_i ds q1
        split at z
        · rename_i hz
          obtain ⟨vs, w1, w2⟩ := own_lst R2 q1 e1
          have hL := lim_eq
          have R3 := R2.write q1 e1 (w2.append (.cons r2 .nil))
          have hA : F.A NoB ow p := .inr (.inr ⟨i, e1⟩)
          exact ⟨p, vs, u, rfl, rfl, w1, by rw [w2.length]; omega, z _ _ _ R3 (Step.ext (Ext.updA hA))⟩
        · exact z.elim
      · exact z.elim
  · exact h.elim
theorem ds_ext (hN : X.N[i]? = some x) (hv : Vis X.env.scope x) (hd : (x == ("__debug__" : Str)) = false) (hcd : (x == ("__classdict__" : Str)) = false) (he : PE X e (tD W F ga)) (hse : NoStar e)
    (hbase : attributeBase (.Name x px) "extend" X.env (eval (.Name x px) X.env) = eval (.Name x px) X.env)
    (hfew : ((backTo c2 (starEach [e] X.env)).all (fun x => !x.1) && (backToKw c2 (keywordEach [] X.env)).all (fun x => x.1.isSome) && decide ([e].length + ([] : List Keyword).length + (if ([] : List Keyword).isEmpty then 0 else 1) < 30)) = true)
    (hline : (apos.endLine == c2.line) = true) (hplain : (backTo c2 (starEach [] X.env)).any (·.1) = false) (hs : swapsWith (.Call (.Attribute (.Name x px) "extend" apos) [e] [] c2) none pos.line X.env = pure false) :
    PS X (.Expr (.Call (.Attribute (.Name x px) "extend" apos) [e] [] c2) pos) (tS W F (sExt i ga)) := by
  refine PS.imp (ps_len (ps_expr (pe_bm PySem.F.plainAttrs_list PySem.F.slot_list_extend PySem.F.type_list_extend mt_extR (pe_var hN hv hd hcd) (pa_cons he pa_nil (hse _ _)) hbase hfew hline (hse _ _) hplain) hs)) fun E σ H h _ _ => ?_
  obtain ⟨ow, δ, R, h⟩ := h
  unfold sExt at h
  split at h
  · rename_i o q
    obtain ⟨p, e1, e2⟩ := own_at R q
    refine ⟨.ref p, e2, .inl ⟨rfl, ?_⟩, seq1S ⟨δ, R, h⟩ fun u H2 δ2 b R2 ex r2 z => ?_⟩
    · cases o with
      | lst ds =>
        obtain ⟨vs, w1, _⟩ := own_lst R q e1
        exact ⟨vs, .inl (.inl w1)⟩
    · split at z
      · rename_i ds es q1 q2
        split at z
        · rename_i hz
          obtain ⟨vs, w1, w2⟩ := own_lst R2 q1 e1
          rw [q2] at r2
          obtain ⟨b2, zs, eu, hB, _, rz⟩ := r2.lstE
          subst eu
          have hL := lim_eq
          have R3 := R2.write q1 e1 (w2.append rz)
          have hA : F.A NoB ow p := .inr (.inr ⟨i, e1⟩)
          exact ⟨p, b2, vs, zs, rfl, rfl, w1, hB, by rw [w2.length, rz.length]; omega, z _ _ _ R3 (Step.ext (Ext.updA hA))⟩
        · exact z.elim
      · exact z.elim
  · exact h.elim
end
end DL
end
section -- DL9
set_option maxRecDepth 100000
set_option maxHeartbeats 1000000
/-! DL9: what loops and comprehensions walk; for; [.. for .. in ..]. -/
namespace DL
open PySem PySem.Spec PyProof.Rows L2

/-! ### a piece of code run under a frame of its own -/
def Fr.at (F : Fr) (H : Hp) (ow : Ow) (B : Addr → Prop) : Fr := ⟨F.K, H, F.T, ow, fun a => F.amb a ∨ B a, F.ex, fun _ => none⟩
section
variable {F F' : Fr} {B : Addr → Prop} {ow ow1 ow2 : Ow} {δ δ1 δ2 : Sta} {σ σ1 σ2 : L2.St} {H H1 H2 Hc : Hp} {v x : V} {d : D} {vs : List Nat} {p : Addr}
theorem at_A {a : Addr} : (F.at H ow B).A NoB ow2 a ↔ F.A B ow2 a := by
  unfold Fr.A Fr.at NoB
  constructor
  · rintro ((h | h) | h | h)
    · exact .inl h
    · exact .inr (.inl h)
    · exact h.elim
    · exact .inr (.inr h)
  · rintro (h | h | h)
    · exact .inl (.inl h)
    · exact .inl (.inr h)
    · exact .inr (.inr h)
theorem SlOk.re {ow : Ow} {σ : L2.St} {H : Hp} {i : Nat} {s : Sl} {F1 F2 : Fr} {B1 B2 : Addr → Prop} (hK : F2.K = F1.K) (h : ∀ a, F2.A B2 ow a → F1.A B1 ow a) (z : SlOk F1 B1 ow σ H i s) : SlOk F2 B2 ow σ H i s := by
  cases s with
  | un => exact z
  | val d => obtain ⟨z1, w, z2, z3⟩ := z; exact ⟨z1, w, z2, by rw [hK]; exact z3.avoid fun a _ => h a⟩
  | own u => obtain ⟨a, z1, z2, z3⟩ := z; exact ⟨a, z1, z2, by rw [hK]; exact z3.avoid fun a _ => h a⟩
theorem Rel.enter (R : Rel F B ow δ σ H) : Rel (F.at H ow B) NoB ow δ σ H where
  len := R.len
  slot := fun i s q => SlOk.re (F1 := F) (B1 := B) rfl (fun _ => at_A.mp) (R.slot i s q)
  out := R.out
  inj := R.inj
  frame := fun b o e _ _ => e
  fresh := fun i a q => ⟨.inl q, fun z => z.elim (R.fresh i a q).2.1 (R.fresh i a q).2.2, fun z => z⟩
  par := fun i a q => q
  amb := fun a q => ⟨R.tracked (q.elim .inl fun z => .inr (.inl z)), fun i z => q.elim (R.fresh i a z).2.1 (R.fresh i a z).2.2⟩
  bk := fun a q => q.elim
  kf := R.kf
  tabs := R.tabs
  raw := fun _ _ q => nomatch q
theorem Rel.exit (R : Rel F B ow δ σ H) (R2 : Rel (F.at H ow B) NoB ow2 δ2 σ2 H2) (hσ : ∀ i v, F.raw i = some v → σ2[i]? = some (some v)) : Rel F B ow2 δ2 σ2 H2 where
  len := R2.len
  slot := fun i s q => SlOk.re (F1 := F.at H ow B) (B1 := NoB) rfl (fun _ => at_A.mpr) (R2.slot i s q)
  out := R2.out
  inj := R2.inj
  frame := fun b o e n t => by
    refine R2.frame b o (R.frame b o e n t) (fun i z => ?_) t
    rcases (R.fresh i b z).1 with w | w
    · exact n i w
    · exact w o e t
  fresh := fun i a q => by
    have f := R2.fresh i a q
    refine ⟨?_, fun z => f.2.1 (.inl z), fun z => f.2.1 (.inr z)⟩
    rcases f.1 with w | w
    · exact (R.fresh i a w).1
    · refine .inr fun o e t => ?_
      by_cases hp : ∃ j, F.par j = some a
      · obtain ⟨j, hj⟩ := hp
        obtain ⟨o', e', t'⟩ := R.tracked (.inr (.inr ⟨j, R.par j a hj⟩))
        exact w o' e' t'
      · exact w o (R.frame a o e (fun j z => hp ⟨j, z⟩) t) t
  par := fun i a q => R2.par i a (R.par i a q)
  amb := R.amb
  bk := fun a q => R2.tracked (.inl (.inr q))
  kf := R2.kf
  tabs := R2.tabs
  raw := hσ
theorem exit_ext (R2 : Rel (F.at H ow B) NoB ow2 δ2 σ2 H2) : Ext (fun a => ∃ i, ow i = some a) H H2 := fun b o e n t => R2.frame b o e (fun i z => n ⟨i, z⟩) t
theorem exit_new (R2 : Rel (F.at H ow B) NoB ow2 δ2 σ2 H2) : ∀ a, F.A NoB ow2 a → F.A NoB ow a ∨ Nw H a := fun a q => by
  rcases q with q | q | ⟨i, q⟩
  · exact .inl (.inl q)
  · exact q.elim
  · rcases (R2.fresh i a q).1 with w | w
    · exact .inl (.inr (.inr ⟨i, w⟩))
    · exact .inr w

/-! ### what is walked -/
structure Wk (F : Fr) (ow : Ow) (H0 : Hp) (J : It) (ds : List D) : Prop where
  go : ∀ i Hc, Ext (F.A NoB ow) H0 Hc → i < ds.length → J.go i Hc
  stop : ∀ i Hc, Ext (F.A NoB ow) H0 Hc → ds.length ≤ i → J.stop i Hc
  gr : ∀ i Hc x H', J.yld i Hc x H' → ∀ b, H' b = none → Hc b = none
  yl : ∀ i Hc d x H', Ext (F.A NoB ow) H0 Hc → ds[i]? = some d → J.yld i Hc x H' → ∀ F' ow' δ' σ', F'.K = F.K → Rel F' NoB ow' δ' σ' Hc → KF F.K H' → (∀ a, F'.A NoB ow' a → F.A NoB ow a ∨ Nw H0 a) →
    Rel F' NoB ow' δ' σ' H' ∧ Ext (F'.A NoB ow') Hc H' ∧ RD F.K (F'.A NoB ow') H' x d
/-- data known at H0, later -/
theorem RD.later (e : Ext (F.A NoB ow) H Hc) (hK : F'.K = F.K) (R1 : Rel F' NoB ow1 δ1 σ1 Hc) (s : ∀ a, F'.A NoB ow1 a → F.A NoB ow a ∨ Nw H a) (r : RD F.K (F.A NoB ow) H v d) : RD F.K (F'.A NoB ow1) Hc v d := by
  have e' : Ext (fun a => F.A NoB ow a ∨ F'.A NoB ow1 a) H Hc := e.weak fun _ h => .inl h
  have av : ∀ a, Known F.K H a → (F.A NoB ow a ∨ F'.A NoB ow1 a) → F.A NoB ow a := fun a k h => by
    rcases h with h | h
    · exact h
    · rcases s a h with h' | h'
      · exact h'
      · obtain ⟨o, e1, t1⟩ := R1.tracked h
        have kk := R1.kf
        rw [hK] at kk
        exact absurd rfl (known_ne k h' (kf_none kk e1))
  exact ((r.avoid av).ext e').avoid fun a _ h => .inr h
theorem Wk.list {a : Addr} {xs : List V} {ds : List D} (h : Rd H a (.lst xs)) (na : ¬ F.A NoB ow a) (r : RDs F.K (F.A NoB ow) H xs ds) : Wk F ow H (Itl F.K a) ds where
  go := fun i Hc e hi => by
    obtain ⟨x, hx⟩ : ∃ x, xs[i]? = some x := ⟨xs[i]'(by rw [r.length]; exact hi), by simp⟩
    exact ⟨xs, x, .inl (e.seqL na h), hx⟩
  stop := fun i Hc e hi => ⟨xs, .inl (e.seqL na h), by rw [r.length]; exact hi⟩
  gr := fun i Hc x H' y b hb => by rw [← y.1]; exact hb
  yl := fun i Hc d x H' e hd y F' ow' δ' σ' hK R' kf s => by
    obtain ⟨e1, y⟩ := y
    subst e1
    obtain ⟨v, hv, rv⟩ := r.get hd
    have := y xs (.inl (e.seqL na h))
    rw [hv] at this
    cases this
    exact ⟨R', Ext.refl, rv.later e hK R' s⟩
theorem Wk.tup {a : Addr} {xs : List V} {ds : List D} (h : SqT F.K H a xs) (na : ¬ F.A NoB ow a) (r : RDs F.K (F.A NoB ow) H xs ds) : Wk F ow H (Itt F.K a) ds where
  go := fun i Hc e hi => by
    obtain ⟨x, hx⟩ : ∃ x, xs[i]? = some x := ⟨xs[i]'(by rw [r.length]; exact hi), by simp⟩
    exact ⟨xs, x, e.seqT na h, hx⟩
  stop := fun i Hc e hi => ⟨xs, e.seqT na h, by rw [r.length]; exact hi⟩
  gr := fun i Hc x H' y b hb => by rw [← y.1]; exact hb
  yl := fun i Hc d x H' e hd y F' ow' δ' σ' hK R' kf s => by
    obtain ⟨e1, y⟩ := y
    subst e1
    obtain ⟨v, hv, rv⟩ := r.get hd
    have := y xs (e.seqT na h)
    rw [hv] at this
    cases this
    exact ⟨R', Ext.refl, rv.later e hK R' s⟩
def rng (lo : Int) (n : Nat) : List D := (List.range n).map fun (i : Nat) => PyData.int (lo + ((i : Nat) : Int))
theorem rng_get {lo : Int} {n i : Nat} : (rng lo n)[i]? = if i < n then some (.int (lo + (i : Int))) else none := by
  unfold rng
  rw [List.getElem?_map]
  by_cases h : i < n
  · rw [List.getElem?_range h, if_pos h]; rfl
  · rw [List.getElem?_eq_none (by rw [List.length_range]; omega), if_neg h]; rfl
theorem Wk.range {lo : Int} {n : Nat} : Wk F ow H (Itr lo n) (rng lo n) where
  go := fun i Hc e hi => by
    have : (rng lo n).length = n := by unfold rng; simp
    rw [this] at hi; exact hi
  stop := fun i Hc e hi => by
    have : (rng lo n).length = n := by unfold rng; simp
    rw [this] at hi; exact hi
  gr := fun i Hc x H' y b hb => by rw [← y.1]; exact hb
  yl := fun i Hc d x H' e hd y F' ow' δ' σ' hK R' kf s => by
    obtain ⟨e1, e2⟩ := y
    subst e1 e2
    rw [rng_get] at hd
    split at hd
    · cases hd
      exact ⟨R', Ext.refl, .int _⟩
    · cases hd
end
abbrev IDen := Sta → Rs (List D)
section
variable (W : WX) (F : Fr)
def PostI (ow : Ow) (σ : L2.St) (H : Hp) (R : It → Hp → Prop) : Rs (List D) → Prop
  | .ok ds δ' => ∀ J H', Rel F NoB ow δ' σ H' → Ext (F.A NoB ow) H H' → Wk F ow H' J ds → R J H'
  | .exc c w δ' => PostX W F ow σ H c w δ'
  | .stuck => False
def tI (g : IDen) : TI := fun σ H R => ∃ ow δ, Rel F NoB ow δ σ H ∧ PostI W F ow σ H R (g δ)
end
def iLst (g : Den) : IDen := fun δ => (g δ).bind fun a δ1 => match a.1 with
  | .list ds => .ok ds δ1
  | _ => .stuck
def iTup (g : Den) : IDen := fun δ => (g δ).bind fun a δ1 => match a.1 with
  | .tuple ds => .ok ds δ1
  | _ => .stuck
def chrs (x : Str) : List D := x.cps.toList.map fun c => .str ⟨#[c]⟩
def iStrD (g : Den) : IDen := fun δ => (g δ).bind fun a δ1 => match a.1 with
  | .str x => .ok (chrs x) δ1
  | _ => .stuck
def iRng1D (g : Den) : IDen := fun δ => (g δ).bind fun a δ1 => match a.1 with
  | .int j => if -(2 ^ 62) ≤ j ∧ j < 2 ^ 62 then .ok (rng 0 j.toNat) δ1 else .stuck
  | _ => .stuck
def iRng2D (ga gb : Den) : IDen := fun δ => (ga δ).bind fun a δ1 => (gb δ1).bind fun b δ2 => match a.1, b.1 with
  | .int i, .int j => if -(2 ^ 62) ≤ i ∧ i < 2 ^ 62 ∧ -(2 ^ 62) ≤ j ∧ j < 2 ^ 62 then .ok (rng i (j - i).toNat) δ2 else .stuck
  | _, _ => .stuck
section
variable {X : Cx} {e a b c tg : Expr} {W : WX} {F : Fr} {ow ow1 : Ow} {δ δ1 : Sta} {σ σ1 : L2.St} {H H1 : Hp} {ga gb : Den} {pos p : Pos}
theorem PI.imp {t t' : TI} (h : PI X tg e t) (i : ∀ σ H R, t' σ H R → t σ H R) : PI X tg e t' := ⟨fun pins s σ H R I q => h.run pins s σ H R I (i σ H R q)⟩
theorem seq1I {k : EV → Sta → Rs (List D)} {R : It → Hp → Prop} (h : tI W F (fun δ => (ga δ).bind k) σ H R) :
    tD W F ga σ H fun x H1 => ∃ ow δ1 a, Rel F NoB ow δ1 σ H1 ∧ RD F.K (F.A NoB ow) H1 x a.1 ∧ PostI W F ow σ H1 R (k a δ1) := by
  obtain ⟨ow, δ, R, h⟩ := h
  refine ⟨ow, δ, R, ?_⟩
  dsimp only at h
  cases q : ga δ with
  | ok a δ1 =>
    rw [q] at h
    refine fun v H' R' e r l => ⟨ow, δ1, a, R', r, ?_⟩
    revert h
    show PostI W F ow σ H _ (k a δ1) → _
    cases k a δ1 with
    | ok ds δ' => exact fun h J H2 R2 e2 w => h J H2 R2 (e.trans e2) w
    | exc c w δ' => exact fun h => PostX.go e h
    | stuck => exact fun h => h
  | exc c w δ' => rw [q] at h; exact h
  | stuck => rw [q] at h; exact h
theorem di_list (hK : F.K = X.K) (he : PE X e (tD W F ga)) : PI X tg e (tI W F (iLst ga)) := by
  refine PI.imp (pi_list he) fun σ H R h => (seq1I h).mono fun x H1 z => ?_
  obtain ⟨ow, δ1, a, R1, r, z⟩ := z
  split at z
  · rename_i ds q
    rw [q] at r
    obtain ⟨p, xs, e1, h1, na, rs⟩ := r.lstE
    rw [← hK]
    exact ⟨p, e1, ⟨xs, .inl h1⟩, z _ _ R1 Ext.refl (Wk.list h1 na rs)⟩
  · exact z.elim
theorem di_tup (hK : F.K = X.K) (he : PE X e (tD W F ga)) : PI X tg e (tI W F (DL.iTup ga)) := by
  refine PI.imp (pi_tup he) fun σ H R h => (seq1I h).mono fun x H1 z => ?_
  obtain ⟨ow, δ1, a, R1, r, z⟩ := z
  split at z
  · rename_i ds q
    rw [q] at r
    obtain ⟨p, xs, e1, h1, na, rs⟩ := r.tupE
    rw [← hK]
    exact ⟨p, e1, ⟨xs, h1⟩, z _ _ R1 Ext.refl (Wk.tup h1 na rs)⟩
  · exact z.elim
theorem di_range1 (hg : Gl X "range") (hm : X.mg "range" = none) (he : PE X a (tD W F ga)) (hs : NoStar a) (hs1 : starEach [a] X.env = [(false, eval a X.env)]) : PI X tg (.Call (.Name "range" p) [a] [] pos) (tI W F (iRng1D ga)) := by
  refine PI.imp (pi_range1 hg hm (pa_cons he pa_nil (hs _ _)) hs1) fun σ H R h => (seq1I h).mono fun x H1 z => ?_
  obtain ⟨ow, δ1, a, R1, r, z⟩ := z
  split at z
  · rename_i j q
    split at z
    · rename_i hj
      rw [q] at r
      have e1 := r.intE
      subst e1
      exact ⟨j, rfl, hj.1, hj.2, z _ _ R1 Ext.refl Wk.range⟩
    · exact z.elim
  · exact z.elim
theorem di_range2 (hg : Gl X "range") (hm : X.mg "range" = none) (he : PE X a (tD W F ga)) (hb : PE X b (tD W F gb)) (hs : NoStar a) (hsb : NoStar b) (hs1 : starEach [a, b] X.env = [(false, eval a X.env), (false, eval b X.env)]) (hs2 : starEach [b] X.env = [(false, eval b X.env)]) :
    PI X tg (.Call (.Name "range" p) [a, b] [] pos) (tI W F (iRng2D ga gb)) := by
  refine PI.imp (pi_range2 hg hm (pa_cons he (pa_cons hb pa_nil (hsb _ _)) (hs _ _)) hs1 hs2) fun σ H R h => (seq1I h).mono fun x H1 z => ?_
  obtain ⟨ow, δ1, a1, R1, r, z⟩ := z
  refine ⟨ow, δ1, R1, ?_⟩
  revert z
  cases q : gb δ1 with
  | exc c w δ' => exact fun z => z
  | stuck => exact fun z => z
  | ok b δ2 =>
    intro z y H2 R2 e2 r2 _
    dsimp only [Rs.bind_ok] at z
    split at z
    · rename_i i j q1 q2
      split at z
      · rename_i hj
        rw [q1] at r
        rw [q2] at r2
        have e3 := r.intE
        have e4 := r2.intE
        subst e3 e4
        exact ⟨i, j, rfl, hj, z _ _ R2 e2 Wk.range⟩
      · exact z.elim
    · exact z.elim
theorem Wk.str {x : Str} : Wk F ow H (Its x) (chrs x) where
  go := fun i Hc e hi => by
    have : (chrs x).length = x.cps.size := by unfold chrs; simp
    rw [this] at hi; exact hi
  stop := fun i Hc e hi => by
    have : (chrs x).length = x.cps.size := by unfold chrs; simp
    rw [this] at hi; exact hi
  gr := fun i Hc x H' y b hb => by rw [← y.1]; exact hb
  yl := fun i Hc d y H' e hd yy F' ow' δ' σ' hK R' kf s => by
    obtain ⟨e1, c, e2, e3⟩ := yy
    subst e1 e3
    unfold chrs at hd
    rw [List.getElem?_map, Array.getElem?_toList, e2] at hd
    cases hd
    exact ⟨R', Ext.refl, .str _⟩
theorem di_str (he : PE X e (tD W F ga)) : PI X tg e (tI W F (iStrD ga)) := by
  refine PI.imp (pi_str he) fun σ H R h => (seq1I h).mono fun x H1 z => ?_
  obtain ⟨ow, δ1, a, R1, r, z⟩ := z
  split at z
  · rename_i y q
    rw [q] at r
    have e1 := r.strE
    subst e1
    exact ⟨y, rfl, z _ _ R1 Ext.refl Wk.str⟩
  · exact z.elim
end

/-! ### for -/
def forLoop (g : GDen) (b : SDen) : List D → Sta → Fl
  | [], δ => .nx δ
  | d :: ds, δ => match g d δ with
    | none => .stuck
    | some δ1 => match b δ1 with
      | .nx δ2 => forLoop g b ds δ2
      | .ct δ2 => forLoop g b ds δ2
      | .bk δ2 => .nx δ2
      | r => r
def sFor (it : IDen) (g : GDen) (b : SDen) : SDen := fun δ => (it δ).fl fun ds δ1 => forLoop g b ds δ1
section
variable {X : Cx} {e tg : Expr} {W : WX} {F : Fr} {ow ow1 : Ow} {δ δ1 : Sta} {σ σ1 : L2.St} {H H1 : Hp} {E : Ends} {it : IDen} {g : GDen} {gb : SDen} {pos : Pos} {body : List Stmt} {vs : List Nat}
theorem ds_for (hK : F.K = X.K) (hp : PassesOwn (model X.prog X.w) X.A X.env X.xe) (hc : X.calm = true) (hi : PI X tg e (tI W F it)) (hg : PG X tg (tG F vs g)) (hb : PSs X body (tS W F gb)) (hs : ∀ x, foldedSetIterable e X.env x = pure x) :
    PS X (.For tg e body [] pos) (tS W F (sFor it g gb)) := by
  refine PS.imp (ps_for hp hc hi (pg_len hg) hb hs) fun E σ H h => ?_
  obtain ⟨ow, δ, R, h⟩ := h
  refine ⟨ow, δ, R, ?_⟩
  dsimp only [sFor] at h
  cases q : it δ with
  | exc c w δ' => rw [q] at h; exact fun cls dd H' R' e x => h cls dd ow σ H' R' x
  | stuck => rw [q] at h; exact h
  | ok ds δ1 =>
    rw [q] at h
    intro J H1 R1 e1 wk
    have h1 : PostS W F ow H1 E (forLoop g gb ds δ1) := PostS.go R1 (Step.ext e1) h
    refine ⟨fun i m σ' H' => m = ds.length - i ∧ i ≤ ds.length ∧ ∃ ow' δ', Rel F NoB ow' δ' σ' H' ∧ Step F ow H1 ow' H' ∧ PostS W F ow' H' E (forLoop g gb (ds.drop i) δ'), ⟨_, rfl, Nat.zero_le _, ow, δ1, R1, Step.refl, h1⟩, ?_⟩
    rintro i m σ' H' ⟨rfl, hi, ow', δ', R', s', z⟩
    by_cases hlt : i < ds.length
    · refine .inr ⟨wk.go i H' s'.1 hlt, fun σ2 H2 => i + 1 ≤ ds.length ∧ ∃ ow2 δ2, Rel F NoB ow2 δ2 σ2 H2 ∧ Step F ow H1 ow2 H2 ∧ PostS W F ow2 H2 E (forLoop g gb (ds.drop (i + 1)) δ2), ?_, ?_⟩
      · rintro σ2 H2 ⟨_, w⟩
        exact ⟨ds.length - (i + 1), by omega, rfl, hlt, w⟩
      · intro x H2 y hl kf
        have hd : ds[i]? = some ds[i] := by simp [hlt]
        obtain ⟨R2, e2, r2⟩ := wk.yl i H' _ x H2 s'.1 hd y F ow' δ' σ' rfl R' (by rw [hK]; exact kf) s'.2
        rw [List.drop_eq_getElem_cons hlt] at z
        have z2 := PostS.go R2 (Step.ext e2) z
        simp only [forLoop] at z2
        cases q1 : g ds[i] δ' with
        | none => rw [q1] at z2; exact z2.elim
        | some δ2 =>
          rw [q1] at z2
          refine ⟨ow', δ', _, δ2, R2, r2, q1, fun ow3 σ3 p => ?_⟩
          have z3 := PostS.go p.rel p.step z2
          have s3 : Step F ow H1 ow3 H2 := (s'.trans R' (Step.ext e2)).trans R2 p.step
          refine ⟨ow3, δ2, p.rel, ?_⟩
          dsimp only at z3
          have fin : ∀ δ4, PostS W F ow3 H2 E (forLoop g gb (ds.drop (i + 1)) δ4) → ∀ ow4 σ4 H4, Rel F NoB ow4 δ4 σ4 H4 → Step F ow3 H2 ow4 H4 → i + 1 ≤ ds.length ∧ ∃ ow2 δ2, Rel F NoB ow2 δ2 σ4 H4 ∧ Step F ow H1 ow2 H4 ∧ PostS W F ow2 H4 E (forLoop g gb (ds.drop (i + 1)) δ2) :=
            fun δ4 z4 ow4 σ4 H4 R4 s4 => ⟨hlt, ow4, δ4, R4, s3.trans p.rel s4, PostS.go R4 s4 z4⟩
          cases q2 : gb δ2 with
          | nx δ4 => rw [q2] at z3; exact fin δ4 z3
          | ct δ4 => rw [q2] at z3; exact fin δ4 z3
          | bk δ4 => rw [q2] at z3; exact z3
          | rt a δ4 => rw [q2] at z3; exact z3
          | exc c w δ4 => rw [q2] at z3; exact z3
          | stuck => rw [q2] at z3; exact z3
    · have e2 : ds.length ≤ i := Nat.le_of_not_lt hlt
      rw [List.drop_eq_nil_of_le e2] at z
      exact .inl ⟨wk.stop i H' s'.1 e2, z ow' σ' H' R' Step.refl⟩
end
end DL
end
section -- DL10
set_option maxRecDepth 100000
set_option maxHeartbeats 1000000
/-! DL10: [elt for target in iter if test]. -/
namespace DL
open PySem PySem.Spec PyProof.Rows L2

def dwipe (δ : Sta) : List Nat → Sta
  | [] => δ
  | v :: vs => (dwipe δ vs).set v .un
def dback (δ0 δ : Sta) : List Nat → Sta
  | [] => δ
  | v :: vs => (dback δ0 δ vs).set v (δ0[v]?.getD .un)
def isOwn : Option Sl → Bool
  | some (.own _) => true
  | _ => false
def offs (δ : Sta) (vs : List Nat) : Bool := vs.all fun v => !isOwn δ[v]?
theorem dwipe_len {δ : Sta} : ∀ {vs : List Nat}, (dwipe δ vs).length = δ.length
  | [] => rfl
  | v :: vs => by unfold dwipe; rw [List.length_set, dwipe_len]
theorem dback_len {δ0 δ : Sta} : ∀ {vs : List Nat}, (dback δ0 δ vs).length = δ.length
  | [] => rfl
  | v :: vs => by unfold dback; rw [List.length_set, dback_len]
theorem dwipe_get {δ : Sta} {j : Nat} : ∀ {vs : List Nat}, (dwipe δ vs)[j]? = if j ∈ vs ∧ j < δ.length then some .un else δ[j]?
  | [] => by rw [if_neg (fun z => by simp at z)]; rfl
  | v :: vs => by
    show ((dwipe δ vs).set v .un)[j]? = _
    have ih := dwipe_get (δ := δ) (j := j) (vs := vs)
    by_cases h : v = j
    · subst h
      by_cases hl : v < δ.length
      · rw [List.getElem?_set_self (by rw [dwipe_len]; exact hl), if_pos ⟨by simp, hl⟩]
      · rw [if_neg (fun z => hl z.2), List.getElem?_eq_none (by rw [List.length_set, dwipe_len]; omega), List.getElem?_eq_none (by omega)]
    · rw [List.getElem?_set_ne h, ih]
      by_cases h2 : j ∈ vs ∧ j < δ.length
      · rw [if_pos h2, if_pos ⟨List.mem_cons_of_mem _ h2.1, h2.2⟩]
      · rw [if_neg h2, if_neg (fun z => h2 ⟨(List.mem_cons.mp z.1).resolve_left fun q => h q.symm, z.2⟩)]
theorem dback_get {δ0 δ : Sta} {j : Nat} : ∀ {vs : List Nat}, (dback δ0 δ vs)[j]? = if j ∈ vs ∧ j < δ.length then some (δ0[j]?.getD .un) else δ[j]?
  | [] => by rw [if_neg (fun z => by simp at z)]; rfl
  | v :: vs => by
    show ((dback δ0 δ vs).set v _)[j]? = _
    have ih := dback_get (δ0 := δ0) (δ := δ) (j := j) (vs := vs)
    by_cases h : v = j
    · subst h
      by_cases hl : v < δ.length
      · rw [List.getElem?_set_self (by rw [dback_len]; exact hl), if_pos ⟨by simp, hl⟩]
      · rw [if_neg (fun z => hl z.2), List.getElem?_eq_none (by rw [List.length_set, dback_len]; omega), List.getElem?_eq_none (by omega)]
    · rw [List.getElem?_set_ne h, ih]
      by_cases h2 : j ∈ vs ∧ j < δ.length
      · rw [if_pos h2, if_pos ⟨List.mem_cons_of_mem _ h2.1, h2.2⟩]
      · rw [if_neg h2, if_neg (fun z => h2 ⟨(List.mem_cons.mp z.1).resolve_left fun q => h q.symm, z.2⟩)]
section
variable {F F' : Fr} {B : Addr → Prop} {ow ow1 ow2 : Ow} {δ δ0 δ1 δ2 : Sta} {σ σ1 σ2 : L2.St} {H H1 H2 Hc : Hp} {v x : V} {d : D} {vs : List Nat} {p : Addr}
theorem offs_ow (R : Rel F B ow δ σ H) (h : offs δ vs = true) : ∀ i ∈ vs, ow i = none := fun i hi => by
  unfold offs at h
  rw [List.all_eq_true] at h
  have z := h i hi
  by_cases hl : i < δ.length
  · have q : δ[i]? = some δ[i] := by simp [hl]
    have s := R.slot i _ q
    rw [q] at z
    cases hs : δ[i] with
    | un => rw [hs] at s; exact s
    | val d => rw [hs] at s; exact s.1
    | own o => rw [hs] at z; cases z
  · exact R.out i (by omega)
theorem Rel.wipe (R : Rel F B ow δ σ H) (h : offs δ vs = true) (nr : ∀ i ∈ vs, F.raw i = none) : Rel F B ow (dwipe δ vs) (L2.wipe σ vs) H := by
  have ho := offs_ow R h
  refine ⟨by rw [wipe_length, dwipe_len]; exact R.len, fun i s q => ?_, fun i hi => R.out i (by rw [dwipe_len] at hi; exact hi), R.inj, R.frame, R.fresh, R.par, R.amb, R.bk, R.kf, R.tabs, fun i v q => by
    rw [wipe_get, if_neg (fun z => by rw [nr i z.1] at q; cases q)]; exact R.raw i v q⟩
  rw [dwipe_get] at q
  by_cases h2 : i ∈ vs ∧ i < δ.length
  · rw [if_pos h2] at q
    cases q
    exact ho i h2.1
  · rw [if_neg h2] at q
    have e : (L2.wipe σ vs)[i]? = σ[i]? := by rw [wipe_get, if_neg (fun z => h2 ⟨z.1, by rw [← R.len]; exact z.2⟩)]
    have z := R.slot i s q
    cases s with
    | un => exact z
    | val d => obtain ⟨z1, w, z2, z3⟩ := z; exact ⟨z1, w, e.trans z2, z3⟩
    | own u => obtain ⟨a, z1, z2, z3⟩ := z; exact ⟨a, z1, e.trans z2, z3⟩
/-- the block's names as they were ahead of the turn -/
theorem Rel.back (R0 : Rel F B ow δ0 σ H) (R2 : Rel F B ow δ2 σ2 H2) (e : Ext (F.A B ow) H H2) (h : offs δ0 vs = true) (hw : L2.wipe σ2 vs = L2.wipe σ vs) : Rel F B ow (dback δ0 δ2 vs) σ H2 := by
  have ho := offs_ow R0 h
  have hl : σ2.length = σ.length := by rw [← wipe_length σ2 vs, hw, wipe_length]
  refine ⟨by rw [dback_len, ← R2.len, hl], fun i s q => ?_, fun i hi => R2.out i (by rw [dback_len] at hi; exact hi), R2.inj, R2.frame, R2.fresh, R2.par, R2.amb, R2.bk, R2.kf, R2.tabs, R0.raw⟩
  rw [dback_get] at q
  by_cases h2 : i ∈ vs ∧ i < δ2.length
  · rw [if_pos h2] at q
    have hlt : i < δ0.length := by rw [← R0.len, ← hl, R2.len]; exact h2.2
    have q0 : δ0[i]? = some δ0[i] := by simp [hlt]
    rw [q0] at q
    cases q
    have z := R0.slot i _ q0
    have z0 := ho i h2.1
    cases hs : δ0[i] with
    | un => exact z0
    | val d =>
      rw [hs] at z
      obtain ⟨z1, w, z2, z3⟩ := z
      exact ⟨z1, w, z2, z3.ext e⟩
    | own u =>
      rw [hs] at z
      obtain ⟨a, z1, _⟩ := z
      rw [z0] at z1; cases z1
  · rw [if_neg h2] at q
    have e2 : σ2[i]? = σ[i]? := by
      have w1 : (L2.wipe σ2 vs)[i]? = σ2[i]? := by rw [wipe_get, if_neg (fun z => h2 ⟨z.1, by rw [← R2.len]; exact z.2⟩)]
      have w2 : (L2.wipe σ vs)[i]? = σ[i]? := by rw [wipe_get, if_neg (fun z => h2 ⟨z.1, by rw [← R2.len, hl]; exact z.2⟩)]
      rw [← w1, hw, w2]
    have z := R2.slot i s q
    cases s with
    | un => exact z
    | val d => obtain ⟨z1, w, z2, z3⟩ := z; exact ⟨z1, w, e2.symm.trans z2, z3⟩
    | own u => obtain ⟨a, z1, z2, z3⟩ := z; exact ⟨a, z1, e2.symm.trans z2, z3⟩
/-- the reserved list is written -/
theorem Rel.writeB {xs ys : List V} (R : Rel F (· = p) ow δ σ H) (n0 : Nw F.H0 p) (hp : H p = some (.lst xs)) : Rel F (· = p) ow δ σ (upd H p (.lst ys)) := by
  have e : Ext (F.A (· = p) ow) H (upd H p (.lst ys)) := Ext.updA (.inr (.inl rfl))
  have ne : ∀ i a, ow i = some a → a ≠ p := fun i a q => (R.fresh i a q).2.2
  refine ⟨R.len, fun i s q => (R.slot i s q).ext e fun j a w => upd_ne (ne j a w), R.out, R.inj, fun b o q n t => ?_, R.fresh, R.par, R.amb, fun a q => ⟨.lst ys, by rw [show a = p from q, upd_same], nt_lst⟩, fun a o q => ?_, fun P hP => ?_, R.raw⟩
  · have h : b ≠ p := fun z => n0 o (by rw [← z]; exact q) t
    rw [upd_ne h]; exact R.frame b o q n t
  · have h : a ≠ p := fun z => by rw [z, kf_none R.kf hp] at q; cases q
    rw [upd_ne h]; exact R.kf a o q
  · obtain ⟨ps, h1, h2, h3⟩ := R.tabs P hP
    refine ⟨ps, by rw [upd_ne (ne_of h1 hp (by intro z; cases z))]; exact h1, h2, fun pos cv hc => ?_⟩
    obtain ⟨c, e1, e2⟩ := h3 pos cv hc
    exact ⟨c, e1, by rw [upd_ne (ne_of e2 hp (by intro z; unfold LamX.CodeO at z; cases z))]; exact e2⟩
end

def dYes : TDen := fun δ => .ok true δ
def lcLoop (vs : List Nat) (g : GDen) (t : TDen) (e : Den) : List D → List D → Sta → Rs EV
  | acc, [], δ => .ok (.list acc, true) δ
  | acc, d :: ds, δ => if offs δ vs = true then match g d (dwipe δ vs) with
      | none => .stuck
      | some δ1 => match t δ1 with
        | .ok k δ2 => if k = true then match e δ2 with
            | .ok a δ3 => if acc.length < LIM then lcLoop vs g t e (acc ++ [a.1]) ds (dback δ δ3 vs) else .stuck
            | _ => .stuck
          else lcLoop vs g t e acc ds (dback δ δ2 vs)
        | _ => .stuck
    else .stuck
def dLc (it : IDen) (vs : List Nat) (g : GDen) (t : TDen) (e : Den) : Den := fun δ => (it δ).bind fun ds δ1 => lcLoop vs g t e [] ds δ1
/-- frames that a block may run under -/
def Sib (F F' : Fr) (vs : List Nat) : Prop := F'.K = F.K ∧ F'.T = F.T ∧ F'.ex = F.ex ∧ ∀ v ∈ vs, F'.fre v
def W0 : WX := fun _ _ _ _ => False
def xG (F : Fr) (vs : List Nat) (g : GDen) : TG := fun v σ H Q => ∃ F', Sib F F' vs ∧ tG F' vs g v σ H Q
def xT (F : Fr) (vs : List Nat) (t : TDen) : TT := fun σ H Q => ∃ F', Sib F F' vs ∧ tT W0 F' t σ H Q
def xD (F : Fr) (vs : List Nat) (e : Den) : TE := fun σ H Q => ∃ F', Sib F F' vs ∧ tD W0 F' e σ H Q
theorem wipe_idem {σ : L2.St} {vs : List Nat} : L2.wipe (L2.wipe σ vs) vs = L2.wipe σ vs := by
  apply List.ext_getElem?
  intro j
  rw [wipe_get, wipe_length, wipe_get]
  by_cases h : j ∈ vs ∧ j < σ.length
  · rw [if_pos h, if_pos h]
  · rw [if_neg h, if_neg h]
section
variable {X : Cx} {elt tg iter c : Expr} {W : WX} {F : Fr} {it : IDen} {g : GDen} {t : TDen} {e : Den} {vs : List Nat} {pos : Pos} {σ : L2.St} {H : Hp} {Q : VK}
theorem pg_x (h : ∀ F', Sib F F' vs → PG X tg (tG F' vs g)) : PG X tg (xG F vs g) := ⟨fun pins s σ H v u Q I r ⟨F', hs, q⟩ => (h F' hs).run pins s σ H v u Q I r q⟩
theorem pts_x {ifs : List Expr} (h : ∀ F', Sib F F' vs → PTs X ifs (tT W0 F' t)) : PTs X ifs (xT F vs t) := ⟨fun pins s σ H Q I ⟨F', hs, q⟩ => (h F' hs).run pins s σ H Q I q⟩
theorem pe_x (h : ∀ F', Sib F F' vs → PE X elt (tD W0 F' e)) : PE X elt (xD F vs e) := ⟨fun pins s σ H Q I ⟨F', hs, q⟩ => (h F' hs).run pins s σ H Q I q⟩
theorem dts_nil {W : WX} : PTs X [] (tT W F dYes) := ⟨fun pins s σ H Q I h => (pts_nil (X := X)).run pins s σ H Q I (by
  obtain ⟨ow, δ, R, h⟩ := h
  exact h H R Ext.refl)⟩
theorem dts_one {W : WX} (h : PT X c (tT W F t)) : PTs X [c] (tT W F t) := pts_one h
theorem lc_read {K : PySem.W.Frag} {n : Nat} (hK : F.K = K) (hl : σ.length = n) (h : tD W F (dLc it vs g t e) σ H Q) :
    tLc (tI W F it) (fun v σ H Q => σ.length = n → KF K H → xG F vs g v σ H Q) (xT F vs t) (fun σ H Q => xD F vs e σ H fun v H' => KF K H' → Q v H') vs σ H (fun v H' => KF K H' → Q v H') := by
  subst hK
  obtain ⟨ow, δ, R, h⟩ := h
  refine ⟨ow, δ, R, ?_⟩
  unfold dLc at h
  cases q : it δ with
  | exc c w δ' => rw [q] at h; exact h
  | stuck => rw [q] at h; exact h
  | ok ds δ1 =>
  rw [q] at h
  intro J H1 R1 e1 wk D hD
  have h1 : PostE W F ow σ H1 Q (lcLoop vs g t e [] ds δ1) := PostE.go R1 e1 h
  have nA : ¬ F.A NoB ow D := fun z => by
    obtain ⟨o, w, _⟩ := R1.tracked z
    rw [hD] at w; cases w
  have n0 : Nw F.H0 D := (Nw.of hD).frame R1
  refine ⟨fun i m Hc => m = ds.length - i ∧ i ≤ ds.length ∧ Ext (F.A NoB ow) H1 Hc ∧ (KF F.K Hc → ∃ δi acc xs, Rel F (· = D) ow δi σ Hc ∧ Hc D = some (.lst xs) ∧ RDs F.K (F.A (· = D) ow) Hc xs acc ∧ PostE W F ow σ H1 Q (lcLoop vs g t e acc (ds.drop i) δi)),
    ⟨_, rfl, Nat.zero_le _, Ext.upd hD, fun kf => ⟨δ1, [], [], R1.reserve hD nt_lst kf, upd_same, .nil, h1⟩⟩, ?_⟩
  rintro i m Hc ⟨rfl, hi, ex, rest⟩
  by_cases hlt : i < ds.length
  · refine .inr ⟨wk.go i Hc ex hlt, fun Hn => i + 1 ≤ ds.length ∧ Ext (F.A NoB ow) H1 Hn ∧ (KF F.K Hn → ∃ δi acc xs, Rel F (· = D) ow δi σ Hn ∧ Hn D = some (.lst xs) ∧ RDs F.K (F.A (· = D) ow) Hn xs acc ∧ PostE W F ow σ H1 Q (lcLoop vs g t e acc (ds.drop (i + 1)) δi)),
      fun Hn w => ⟨ds.length - (i + 1), by omega, rfl, w⟩, ?_⟩
    intro x H' y hl' kf'
    have kfc : KF F.K Hc := fun a o e => wk.gr i Hc x H' y a (kf' a o e)
    obtain ⟨δi, acc, xs, Ri, hDi, rs, z⟩ := rest kfc
    rw [List.drop_eq_getElem_cons hlt] at z
    simp only [lcLoop] at z
    by_cases ho : offs δi vs = true
    case neg => rw [if_neg ho] at z; exact z.elim
    rw [if_pos ho] at z
    have Ro := Ri.enter
    have Re := Ro.wipe ho (fun _ _ => rfl)
    have hd : ds[i]? = some ds[i] := by simp [hlt]
    have hsub : ∀ a, (F.at Hc ow (· = D)).A NoB ow a → F.A NoB ow a ∨ Nw H1 a := fun a w => by
      rcases at_A.mp w with w | w | w
      · exact .inl (.inl w)
      · exact .inr (by rw [show a = D from w]; exact Nw.of hD)
      · exact .inl (.inr (.inr w))
    obtain ⟨R2, e2, r2⟩ := wk.yl i Hc _ x H' ex hd y (F.at Hc ow (· = D)) ow _ _ rfl Re kf' hsub
    have sib : Sib F (F.at Hc ow (· = D)) vs := ⟨rfl, rfl, rfl, fun v hv => ⟨offs_ow Ri ho v hv, rfl⟩⟩
    cases q1 : g ds[i] (dwipe δi vs) with
    | none => rw [q1] at z; exact z.elim
    | some δ2 =>
    rw [q1] at z
    refine ⟨_, sib, ow, _, _, δ2, R2, r2, q1, fun ow3 σ3 p => ⟨p.wip.trans wipe_idem, ?_⟩⟩
    have eow : ow3 = ow := funext fun j => (p.sub j).elim id fun w => w.1.trans (offs_ow Ri ho j w.2).symm
    subst eow
    have hw : L2.wipe σ3 vs = L2.wipe σ vs := p.wip.trans wipe_idem
    have fin : ∀ {δ4 : Sta} {H4 : Hp}, Rel (F.at Hc ow3 (· = D)) NoB ow3 δ4 σ3 H4 → Ext ((F.at Hc ow3 (· = D)).A NoB ow3) H' H4 → Rel F (· = D) ow3 (dback δi δ4 vs) σ H4 ∧ H4 D = some (.lst xs) ∧ RDs F.K (F.A (· = D) ow3) H4 xs acc ∧ Ext (F.A NoB ow3) H1 H4 := fun {δ4 H4} R4 e4 => by
      have E := e2.trans e4
      refine ⟨Ri.exit (Ro.back R4 E ho hw) Ri.raw, R4.frame D _ hDi (fun i z => (Ri.fresh i D z).2.2 rfl) nt_lst, rs.ext (E.weak fun a w => at_A.mp w), ex.trans ((exit_ext R4).weak fun a w => .inr (.inr w))⟩
    dsimp only at z
    refine ⟨_, sib, ow3, δ2, p.rel, ?_⟩
    cases q2 : t δ2 with
    | exc c w δ' => rw [q2] at z; exact z.elim
    | stuck => rw [q2] at z; exact z.elim
    | ok k δ3 =>
    rw [q2] at z
    intro H3 R3 e3
    dsimp only at z
    cases k with
    | false =>
      obtain ⟨w1, w2, w3, w4⟩ := fin R3 e3
      simp only [Bool.false_eq_true, if_false] at z ⊢
      exact ⟨hlt, w4, fun _ => ⟨_, acc, xs, w1, w2, w3, z⟩⟩
    | true =>
      simp only [if_true] at z ⊢
      refine ⟨_, sib, ow3, δ3, R3, ?_⟩
      cases q3 : e δ3 with
      | exc c w δ' => rw [q3] at z; exact z.elim
      | stuck => rw [q3] at z; exact z.elim
      | ok a δ4 =>
      rw [q3] at z
      intro yv H4 R4 e4 r4 _ kf4
      dsimp only at z
      by_cases hz : acc.length < LIM
      case neg => rw [if_neg hz] at z; exact z.elim
      rw [if_pos hz] at z
      obtain ⟨w1, w2, w3, w4⟩ := fin R4 (e3.trans e4)
      have hL := lim_eq
      refine ⟨xs, w2, by rw [w3.length]; omega, hlt, fun b o q n tt => ?_, fun _ => ⟨_, acc ++ [a.1], xs ++ [yv], w1.writeB n0 w2, upd_same, ?_, z⟩⟩
      · rw [upd_ne (ne_of_none q hD)]; exact w4 b o q n tt
      · exact (w3.append (.cons (r4.avoid fun a _ w => at_A.mpr w) .nil)).ext (Ext.updA (.inr (.inl rfl)))
  · have e2 : ds.length ≤ i := Nat.le_of_not_lt hlt
    refine .inl ⟨wk.stop i Hc ex e2, fun kf => ?_⟩
    obtain ⟨δi, acc, xs, Ri, hDi, rs, z⟩ := rest kf
    rw [List.drop_eq_nil_of_le e2] at z
    have sub : ∀ a, F.A NoB ow a → F.A (· = D) ow a := fun a w => by
      rcases w with w | w | w
      · exact .inl w
      · exact w.elim
      · exact .inr (.inr w)
    exact z (.ref D) Hc Ri.unB ex (.lst (.inl hDi) nA (rs.avoid fun a _ => sub a)) fun _ => ⟨D, xs, acc, rfl, rfl, Ri, hDi, rs, Nw.of hD, fun w => nA (.inl w)⟩
theorem pe_len {tt : TE} (h : PE X c tt) : PE X c fun σ H Q => σ.length = X.N.length → tt σ H Q := ⟨fun pins s σ H Q I q => h.run pins s σ H Q I (q I.len)⟩
theorem de_lc {ifs : List Expr} {scope : Scope} {own : List (Str × Nat)} (hK : F.K = X.K) (hc : X.calm = true) (hN : X.N.Nodup) (hi : PI X tg iter (tI W F it)) (ok : BlkOk X.N X.env.scope scope own) (hvs : own.map (·.2) = vs)
    (hg : ∀ (s : Shared) (H : Hp) (C : Addr) (cl : List (Str × Addr)) (fp : List Addr) (F' : Fr), Sib F F' vs → PG (X.blk s H scope (compEnvC scope cl C X.env) fp) tg (tG F' vs g))
    (ht : ∀ (s : Shared) (H : Hp) (C : Addr) (cl : List (Str × Addr)) (fp : List Addr) (F' : Fr), Sib F F' vs → PTs (X.blk s H scope (compEnvC scope cl C X.env) fp) ifs (tT W0 F' t))
    (he : ∀ (s : Shared) (H : Hp) (C : Addr) (cl : List (Str × Addr)) (fp : List Addr) (F' : Fr), Sib F F' vs → PE (X.blk s H scope (compEnvC scope cl C X.env) fp) elt (tD W0 F' e)) (hs : ∀ x, foldedSetIterable iter X.env x = pure x) :
    PE X (.ListComp elt [⟨tg, iter, ifs, 0⟩] scope pos) (tD W F (dLc it vs g t e)) := by
  subst hvs
  refine PE.imp (pe_len (pe_kf (pe_lc (g := fun v σ H Q => σ.length = X.N.length → KF X.K H → xG F (own.map (·.2)) g v σ H Q) (te := fun σ H Q => xD F (own.map (·.2)) e σ H fun v H' => KF X.K H' → Q v H') hc hN hi ok (fun s H C cl fp => pg_len (pg_x (hg s H C cl fp))) (fun s H C cl fp => pts_x (ht s H C cl fp)) (fun s H C cl fp => pe_kf (pe_x (he s H C cl fp))) hs))) fun σ H Q h hl => ?_
  exact lc_read hK hl h
theorem ps_kfE {st : Stmt} {t : TS} (h : PS X st t) : PS X st fun E σ H => t { E with nx := fun σ H => KF X.K H → E.nx σ H } σ H := ⟨fun pins s σ H E I q => thn (h.run pins s σ H _ I q) fun f s' z => by
  cases f with
  | next => obtain ⟨σ', H', I', z⟩ := z; exact ⟨σ', H', I', z (inv_kf I')⟩
  | ret v => exact z
  | brk => exact z
  | cont => exact z⟩
/-- name = [..] on one line -/
theorem ds_lc {i : Nat} {y : Str} {py spos : Pos} {ifs : List Expr} {scope : Scope} {own : List (Str × Nat)} (hK : F.K = X.K) (hc : X.calm = true) (hN : X.N.Nodup) (hy : X.N[i]? = some y) (hyl : X.env.scope.names.lookup y = some .local) (np : F.fre i)
    (hsw : swapsWith (.ListComp elt [⟨tg, iter, ifs, 0⟩] scope pos) (some (.Name y py)) spos.line X.env = pure true) (hi : PI X tg iter (tI W F it)) (ok : BlkOk X.N X.env.scope scope own) (hvs : own.map (·.2) = vs)
    (hg : ∀ (s : Shared) (H : Hp) (C : Addr) (cl : List (Str × Addr)) (fp : List Addr) (F' : Fr), Sib F F' vs → PG (X.blk s H scope (compEnvC scope cl C X.env) fp) tg (tG F' vs g))
    (ht : ∀ (s : Shared) (H : Hp) (C : Addr) (cl : List (Str × Addr)) (fp : List Addr) (F' : Fr), Sib F F' vs → PTs (X.blk s H scope (compEnvC scope cl C X.env) fp) ifs (tT W0 F' t))
    (he : ∀ (s : Shared) (H : Hp) (C : Addr) (cl : List (Str × Addr)) (fp : List Addr) (F' : Fr), Sib F F' vs → PE (X.blk s H scope (compEnvC scope cl C X.env) fp) elt (tD W0 F' e)) (hs : ∀ x, foldedSetIterable iter X.env x = pure x) :
    PS X (.Assign [.Name y py] (.ListComp elt [⟨tg, iter, ifs, 0⟩] scope pos) spos) (tS W F (sSet i (dLc it vs g t e))) ∧ PS X (.Assign [.Name y py] (.ListComp elt [⟨tg, iter, ifs, 0⟩] scope pos) spos) (tS W F (sOwn i (dLc it vs g t e))) := by
  subst hvs
  have base := ps_len (ps_kfE (ps_setLc (g := fun v σ H Q => σ.length = X.N.length → KF X.K H → xG F (own.map (·.2)) g v σ H Q) (te := fun σ H Q => xD F (own.map (·.2)) e σ H fun v H' => KF X.K H' → Q v H') hc hN hy hyl hsw hi ok (fun s H C cl fp => pg_len (pg_x (hg s H C cl fp))) (fun s H C cl fp => pts_x (ht s H C cl fp)) (fun s H C cl fp => pe_kf (pe_x (he s H C cl fp))) hs))
  exact ⟨PS.imp base fun E σ H h hl _ => lc_read hK hl (asg_val (lt_of_get hy) np hl h), PS.imp base fun E σ H h hl _ => lc_read hK hl (asg_own (lt_of_get hy) np hl h)⟩
end
end DL
end
section -- DL11
set_option maxRecDepth 100000
set_option maxHeartbeats 1000000
/-! DL11: defs: what one promises by data, calls. -/
namespace DL
open PySem PySem.Spec PyProof.Rows L2

inductive Ret where
  | rt (a : EV) (outs : Sta)
  | exc (c : Str) (w : D) (outs : Sta)
  | stuck
abbrev Phi := Sta → Ret
/-- behind a call: the callers' objects as they were, but the handed ones -/
structure Bk (F : Fr) (outs : Sta) (H' : Hp) : Prop where
  frame : ∀ b o, F.H0 b = some o → (∀ i, F.par i ≠ some b) → NT o → H' b = some o
  outs : ∀ i p, F.par i = some p → ∃ o, outs[i]? = some (.own o) ∧ RO F.K (fun a => F.amb a ∨ ∃ i, F.par i = some a) H' p o
  kf : KF F.K H'
  tabs : LamX.Tabs F.T H'
def PostC (F : Fr) (Q : VK) (E : XK) : Ret → Prop
  | .rt a outs => ∀ v H', Bk F outs H' → RetV F F.par outs [] H' v a → Q v H'
  | .exc c w outs => ∀ cls dd H', Bk F outs H' → XR F (fun a => F.amb a ∨ ∃ i, F.par i = some a) c w cls dd H' → E cls dd H'
  | .stuck => False
/-- what is fixed for all defs: the written part, the tables of the lambdas, the errors' classes -/
structure Gx where
  K : PySem.W.Frag
  T : List (Addr × Str)
  ex : Str → Option Addr
def Fr.gx (F : Fr) : Gx := ⟨F.K, F.T, F.ex⟩
def spD (G : Gx) (Φ : Phi) : Sp := fun vs H Q E => ∃ (F : Fr) (sls : Sta), F.gx = G ∧ F.H0 = H ∧ (∀ i, F.raw i = none) ∧ Rel F NoB F.par sls (vs.map some) H ∧ PostC F Q E (Φ sls)
def okArgs (np : Nat) (own : List Nat) (sls : Sta) : Bool := decide (sls.length = np) && (List.range np).all fun i => own.contains i || !isOwn sls[i]?
/-- a def by its body: n names, np of them parameters, own lists handed in the places own -/
def phiOf (n np : Nat) (own : List Nat) (g : SDen) : Phi := fun sls => if okArgs np own sls = true then match g (sls ++ List.replicate (n - np) .un) with
    | .nx δ => .rt (.none, false) δ
    | .rt a δ => .rt a δ
    | .exc c w δ => .exc c w δ
    | _ => .stuck
  else .stuck
section
variable {F : Fr} {ow : Ow} {δ : Sta} {σ : L2.St} {H : Hp} {sls : Sta} {np n : Nat} {own : List Nat} {vs : List V}
theorem par_A (R : Rel F NoB ow δ σ H) : ∀ a, (F.amb a ∨ ∃ i, F.par i = some a) → F.A NoB ow a := fun a h => A_par R a h
theorem Rel.bk' (R : Rel F NoB ow δ σ H) : Bk F δ H where
  frame := R.frame
  outs := fun i p hp => by
    have hw := R.par i p hp
    have hl : i < δ.length := by
      rcases Nat.lt_or_ge i δ.length with z | z
      · exact z
      · rw [R.out i z] at hw; cases hw
    have q : δ[i]? = some δ[i] := by simp [hl]
    have z := R.slot i _ q
    cases hs : δ[i] with
    | un => rw [hs] at z; rw [show ow i = none from z] at hw; cases hw
    | val d => rw [hs] at z; rw [z.1] at hw; cases hw
    | own o =>
      rw [hs] at z q
      obtain ⟨p', z1, _, z3⟩ := z
      rw [hw] at z1; cases z1
      exact ⟨o, q, z3.avoid fun a _ h => par_A R a h⟩
  kf := R.kf
  tabs := R.tabs
theorem okArgs_par (R : Rel F NoB F.par sls (vs.map some) H) (h : okArgs np own sls = true) : sls.length = np ∧ ∀ i, i ∉ own → F.par i = none := by
  unfold okArgs at h
  rw [Bool.and_eq_true, decide_eq_true_eq, List.all_eq_true] at h
  refine ⟨h.1, fun i hi => ?_⟩
  by_cases hl : i < np
  · have z := h.2 i (List.mem_range.mpr hl)
    rw [Bool.or_eq_true] at z
    rcases z with z | z
    · rw [List.contains_iff_mem] at z; exact absurd z hi
    · have hl' : i < sls.length := by rw [h.1]; exact hl
      have q : sls[i]? = some sls[i] := by simp [hl']
      have s := R.slot i _ q
      rw [q] at z
      cases hs : sls[i] with
      | un => rw [hs] at s; exact s
      | val d => rw [hs] at s; exact s.1
      | own o => rw [hs] at z; cases z
  · exact R.out i (by rw [h.1]; omega)
theorem Rel.open' (R : Rel F NoB ow sls (vs.map some) H) (k : Nat) : Rel F NoB ow (sls ++ List.replicate k .un) (vs.map some ++ List.replicate k none) H := by
  have hl : vs.length = sls.length := by have := R.len; rwa [List.length_map] at this
  refine ⟨by simp only [List.length_append, List.length_replicate, List.length_map, hl], fun i s q => ?_, fun i hi => R.out i (by rw [List.length_append] at hi; omega), R.inj, R.frame, R.fresh, R.par, R.amb, R.bk, R.kf, R.tabs, fun i v q => by
    have z := R.raw i v q
    rw [List.getElem?_append_left (lt_of_get z)]; exact z⟩
  by_cases h : i < sls.length
  · rw [List.getElem?_append_left h] at q
    have z := R.slot i s q
    have e : (vs.map some ++ List.replicate k none)[i]? = (vs.map some)[i]? := List.getElem?_append_left (by rw [List.length_map, hl]; exact h)
    cases s with
    | un => exact z
    | val d => obtain ⟨z1, w, z2, z3⟩ := z; exact ⟨z1, w, e.trans z2, z3⟩
    | own u => obtain ⟨a, z1, z2, z3⟩ := z; exact ⟨a, z1, e.trans z2, z3⟩
  · rw [List.getElem?_append_right (by omega), List.getElem?_replicate] at q
    split at q
    · cases q
      exact R.out i (by omega)
    · cases q
end
section
variable {P : Program} {w : World} {K : PySem.W.Frag} {mg : Str → Option Value} {base : Heap}
/-- THE RULE for a def -/
theorem fnD {G : Gx} {x qual : Str} {st : Stmt} {f : Addr} {fd : FuncData} {N ps : List Str} {own : List Nat} {k : Nat} {g : SDen} (Fu : Fun K x qual st f fd) (S : FnScope N ps (defScope st))
    (hbody : ∀ (cdv : Value) (A : Around) (outer : List Env) (s : Shared) (H : Hp) (E : XK) (F : Fr), F.gx = G → (∀ i, i ∉ own → F.fre i) → (∀ i, F.raw i = none) → Room k (A.deeper (envOfC qual (defScope st) s.heap.objs.size f cdv)) →
      PSs (cxOf (L2N.CX P w) P w K mg base N qual (defScope st) f cdv A outer s H E) (defBody st) (tS (fun cls d _ H => E cls d H) F g)) :
    FnOk P w K mg base (L2N.CX P w) (k + 1) f fd ps (spD G (phiOf N.length ps.length own g)) := by
  obtain ⟨oc, od, kV, doc, pm, an, cdv, ct, osl, rfl, lk, hcd⟩ := Fu.ex
  refine fn_of lk hcd S (fun vs H Q E h => ?_) fun A outer s H vs Q E hr h => ?_
  · obtain ⟨F, sls, _, _, _, R, h⟩ := h
    unfold phiOf at h
    split at h
    · rename_i hok
      have := R.len
      rw [List.length_map] at this
      rw [this]
      exact (okArgs_par R hok).1
    · exact h.elim
  · obtain ⟨F, sls, hG, hH, hraw, R, h⟩ := h
    unfold phiOf at h
    split at h
    case isFalse => exact h.elim
    rename_i hok
    obtain ⟨hl, hp⟩ := okArgs_par R hok
    refine ⟨_, hbody cdv A outer s H E F hG (fun i hi => ⟨hp i hi, hraw i⟩) hraw hr, F.par, sls ++ List.replicate (N.length - ps.length) .un, ?_, ?_⟩
    · have e : L2.start N vs = vs.map some ++ List.replicate (N.length - ps.length) none := by
        unfold L2.start
        have := R.len
        rw [List.length_map] at this
        rw [this, hl]
      rw [e]
      exact R.open' _
    · cases q : g (sls ++ List.replicate (N.length - ps.length) .un) with
      | nx δ' => rw [q] at h; exact fun ow' σ' H' R' _ => h .non H' R'.bk' ⟨.non, fun z => nomatch z⟩
      | rt a δ' => rw [q] at h; exact fun v ow' σ' H' R' r => h v H' R'.bk' r
      | exc c w δ' =>
        rw [q] at h
        refine fun cls dd ow' σ' H' R' z => h cls dd H' R'.bk' ?_
        obtain ⟨C, dx, v, e1, e2, e3, e4, e5, e6⟩ := z
        exact ⟨C, dx, v, e1, e2, e3, e4, fun q => e5 (par_A R' _ q), e6.avoid fun a _ q => par_A R' a q⟩
      | bk δ' => rw [q] at h; exact h.elim
      | ct δ' => rw [q] at h; exact h.elim
      | stuck => rw [q] at h; exact h.elim
end

/-! ### arguments -/
inductive Ag where
  | val (g : Den)
  | own (i : Nat)
inductive AV where
  | val (d : D)
  | own (i : Nat)
abbrev ADen := Sta → Rs (List AV)
def aNil : ADen := fun δ => .ok [] δ
def aVal (g : Den) (gs : ADen) : ADen := fun δ => (g δ).bind fun a δ1 => (gs δ1).bind fun xs δ2 => .ok (.val a.1 :: xs) δ2
def aOwn (i : Nat) (gs : ADen) : ADen := fun δ => match δ[i]? with
  | some (.own _) => (gs δ).bind fun xs δ2 => .ok (.own i :: xs) δ2
  | _ => .stuck
inductive AR (F : Fr) (ow : Ow) (H : Hp) : List V → List AV → Prop
  | nil : AR F ow H [] []
  | val {v : V} {vs : List V} {d : D} {xs : List AV} : RD F.K (F.A NoB ow) H v d → AR F ow H vs xs → AR F ow H (v :: vs) (.val d :: xs)
  | own {p : Addr} {i : Nat} {vs : List V} {xs : List AV} : ow i = some p → AR F ow H vs xs → AR F ow H (.ref p :: vs) (.own i :: xs)
def PostA (W : WX) (F : Fr) (ow : Ow) (σ : L2.St) (H : Hp) (Q : List V → Hp → Prop) : Rs (List AV) → Prop
  | .ok xs δ' => ∀ vs H', Rel F NoB ow δ' σ H' → Ext (F.A NoB ow) H H' → AR F ow H' vs xs → Q vs H'
  | .exc c w δ' => PostX W F ow σ H c w δ'
  | .stuck => False
def tA (W : WX) (F : Fr) (g : ADen) : TA := fun σ H Q => ∃ ow δ, Rel F NoB ow δ σ H ∧ PostA W F ow σ H Q (g δ)
section
variable {X : Cx} {e a b c : Expr} {es : List Expr} {W : WX} {F : Fr} {ow ow1 : Ow} {δ δ1 : Sta} {σ σ1 : L2.St} {H H1 : Hp} {ga : Den} {gs : ADen} {pos p : Pos} {x : Str} {i : Nat}
theorem da_nil : PA X [] (tA W F aNil) := PA.imp pa_nil fun σ H Q h => by
  obtain ⟨ow, δ, R, h⟩ := h
  exact h [] H R Ext.refl .nil
theorem da_val (ha : PE X a (tD W F ga)) (hr : PA X es (tA W F gs)) (hs : NoStar a) : PA X (a :: es) (tA W F (aVal ga gs)) := by
  refine PA.imp (pa_cons ha hr (hs _ _)) fun σ H Q h => ?_
  obtain ⟨ow, δ, R, h⟩ := h
  refine ⟨ow, δ, R, ?_⟩
  unfold aVal at h
  cases q : ga δ with
  | exc c w δ' => rw [q] at h; exact h
  | stuck => rw [q] at h; exact h
  | ok a δ1 =>
    rw [q] at h
    intro v H1 R1 e1 r1 _
    refine ⟨ow, δ1, R1, ?_⟩
    dsimp only [Rs.bind_ok] at h
    cases q2 : gs δ1 with
    | exc c w δ' => rw [q2] at h; exact PostX.go e1 h
    | stuck => rw [q2] at h; exact h
    | ok xs δ2 =>
      rw [q2] at h
      exact fun vs H2 R2 e2 r2 => h _ _ R2 (e1.trans e2) (.val (r1.ext e2) r2)
theorem da_own (hN : X.N[i]? = some x) (hv : Vis X.env.scope x) (hd : (x == ("__debug__" : Str)) = false) (hcd : (x == ("__classdict__" : Str)) = false) (hr : PA X es (tA W F gs)) (hs : NoStar (.Name x p)) : PA X (.Name x p :: es) (tA W F (aOwn i gs)) := by
  refine PA.imp (pa_cons (pe_var hN hv hd hcd) hr (hs _ _)) fun σ H Q h => ?_
  obtain ⟨ow, δ, R, h⟩ := h
  unfold aOwn at h
  split at h
  · rename_i o q
    obtain ⟨p, e1, e2⟩ := own_at R q
    refine ⟨.ref p, e2, ow, δ, R, ?_⟩
    cases q2 : gs δ with
    | exc c w δ' => rw [q2] at h; exact h
    | stuck => rw [q2] at h; exact h
    | ok xs δ2 =>
      rw [q2] at h
      exact fun vs H2 R2 e2 r2 => h _ _ R2 e2 (.own e1 r2)
  · exact h.elim
theorem AR.length {vs : List V} {xs : List AV} (r : AR F ow H vs xs) : vs.length = xs.length := by
  induction r with
  | nil => rfl
  | val _ _ ih => exact congrArg (· + 1) ih
  | own _ _ ih => exact congrArg (· + 1) ih
theorem AR.get {vs : List V} {xs : List AV} (r : AR F ow H vs xs) : ∀ {k : Nat} {y : AV}, xs[k]? = some y → ∃ v, vs[k]? = some v ∧ match y with
    | .val d => RD F.K (F.A NoB ow) H v d
    | .own i => ∃ p, ow i = some p ∧ v = .ref p := by
  induction r with
  | nil => intro k y h; simp at h
  | val r0 _ ih =>
    intro k y h
    cases k with
    | zero => simp at h; subst h; exact ⟨_, rfl, r0⟩
    | succ k => obtain ⟨v, h1, h2⟩ := ih (k := k) (y := y) (by simpa using h); exact ⟨v, by simpa using h1, h2⟩
  | own r0 _ ih =>
    intro k y h
    cases k with
    | zero => simp at h; subst h; exact ⟨_, rfl, _, r0, rfl⟩
    | succ k => obtain ⟨v, h1, h2⟩ := ih (k := k) (y := y) (by simpa using h); exact ⟨v, by simpa using h1, h2⟩
end
/-- the slot that the k-th argument hands over -/
def ixOf (xs : List AV) (k : Nat) : Option Nat := match xs[k]? with
  | some (.own i) => some i
  | _ => none
def owns : List AV → List Nat
  | [] => []
  | .own i :: r => i :: owns r
  | .val _ :: r => owns r
def nodupB : List Nat → Bool
  | [] => true
  | i :: r => !r.contains i && nodupB r
def slsOf (δ : Sta) : List AV → Option Sta
  | [] => some []
  | .val d :: r => match slsOf δ r with
    | some l => some (.val d :: l)
    | none => none
  | .own i :: r => match δ[i]? with
    | some (.own o) => match slsOf δ r with
      | some l => some (.own o :: l)
      | none => none
    | _ => none
/-- what comes back into the caller's slots -/
def upds : List AV → Sta → Sta → Sta
  | [], _, δ => δ
  | .val _ :: r, outs, δ => upds r (outs.drop 1) δ
  | .own i :: r, outs, δ => upds r (outs.drop 1) (match outs[0]? with
    | some s => δ.set i s
    | none => δ)
def kCall (Φ : Phi) (xs : List AV) (δ : Sta) : Rs EV := if nodupB (owns xs) = true then match slsOf δ xs with
    | some sls => match Φ sls with
      | .rt a outs => .ok a (upds xs outs δ)
      | .exc c w outs => .exc c w (upds xs outs δ)
      | .stuck => .stuck
    | none => .stuck
  else .stuck
def dCall (Φ : Phi) (gs : ADen) : Den := fun δ => (gs δ).bind fun xs δ1 => kCall Φ xs δ1
theorem mem_owns : ∀ {xs : List AV} {i : Nat}, i ∈ owns xs ↔ ∃ k, ixOf xs k = some i
  | [], i => by simp [owns, ixOf]
  | .val d :: r, i => by
    unfold owns
    rw [mem_owns]
    constructor
    · rintro ⟨k, h⟩; exact ⟨k + 1, by simpa [ixOf] using h⟩
    · rintro ⟨k, h⟩
      cases k with
      | zero => simp [ixOf] at h
      | succ k => exact ⟨k, by simpa [ixOf] using h⟩
  | .own j :: r, i => by
    unfold owns
    rw [List.mem_cons, mem_owns]
    constructor
    · rintro (h | ⟨k, h⟩)
      · exact ⟨0, by simp [ixOf, h]⟩
      · exact ⟨k + 1, by simpa [ixOf] using h⟩
    · rintro ⟨k, h⟩
      cases k with
      | zero => simp [ixOf] at h; exact .inl h.symm
      | succ k => exact .inr ⟨k, by simpa [ixOf] using h⟩
theorem nodup_ix : ∀ {xs : List AV}, nodupB (owns xs) = true → ∀ {j k i : Nat}, ixOf xs j = some i → ixOf xs k = some i → j = k
  | [], _, j, k, i, h, _ => by simp [ixOf] at h
  | .val d :: r, hn, j, k, i, h1, h2 => by
    cases j with
    | zero => simp [ixOf] at h1
    | succ j =>
      cases k with
      | zero => simp [ixOf] at h2
      | succ k => exact congrArg (· + 1) (nodup_ix (xs := r) hn (by simpa [ixOf] using h1) (by simpa [ixOf] using h2))
  | .own m :: r, hn, j, k, i, h1, h2 => by
    have hn' : (!(owns r).contains m && nodupB (owns r)) = true := hn
    rw [Bool.and_eq_true, Bool.not_eq_true'] at hn'
    have nm : m ∉ owns r := fun z => by
      have := List.contains_iff_mem.mpr z
      rw [hn'.1] at this; cases this
    cases j with
    | zero =>
      have e1 : m = i := by simpa [ixOf] using h1
      cases k with
      | zero => rfl
      | succ k => exact absurd (mem_owns.mpr ⟨k, by rw [e1]; simpa [ixOf] using h2⟩) nm
    | succ j =>
      cases k with
      | zero =>
        have e1 : m = i := by simpa [ixOf] using h2
        exact absurd (mem_owns.mpr ⟨j, by rw [e1]; simpa [ixOf] using h1⟩) nm
      | succ k => exact congrArg (· + 1) (nodup_ix (xs := r) hn'.2 (by simpa [ixOf] using h1) (by simpa [ixOf] using h2))
theorem sls_get {δ : Sta} : ∀ {xs : List AV} {sls : Sta}, slsOf δ xs = some sls → sls.length = xs.length ∧ ∀ (k : Nat) (s : Sl), sls[k]? = some s → match xs[k]? with
    | some (.val d) => s = .val d
    | some (.own i) => δ[i]? = some s ∧ isOwn (some s) = true
    | none => False
  | [], sls, h => by
    simp [slsOf] at h
    subst h
    exact ⟨rfl, fun k s q => by simp at q⟩
  | .val d :: r, sls, h => by
    unfold slsOf at h
    split at h
    · rename_i l q
      cases h
      obtain ⟨h1, h2⟩ := sls_get q
      refine ⟨congrArg (· + 1) h1, fun k s hs => ?_⟩
      cases k with
      | zero => simp at hs; simp [hs]
      | succ k => simpa using h2 k s (by simpa using hs)
    · cases h
  | .own i :: r, sls, h => by
    unfold slsOf at h
    split at h
    · rename_i o q0
      split at h
      · rename_i l q
        cases h
        obtain ⟨h1, h2⟩ := sls_get q
        refine ⟨congrArg (· + 1) h1, fun k s hs => ?_⟩
        cases k with
        | zero => simp at hs; subst hs; exact ⟨q0, rfl⟩
        | succ k => simpa using h2 k s (by simpa using hs)
      · cases h
    · cases h
theorem upds_len : ∀ {xs : List AV} {outs δ : Sta}, (upds xs outs δ).length = δ.length
  | [], _, _ => rfl
  | .val _ :: r, outs, δ => upds_len (xs := r)
  | .own i :: r, outs, δ => by
    unfold upds
    rw [upds_len]
    split
    · rw [List.length_set]
    · rfl
theorem upds_ne : ∀ {xs : List AV} {outs δ : Sta} {i : Nat}, i ∉ owns xs → (upds xs outs δ)[i]? = δ[i]?
  | [], _, _, _, _ => rfl
  | .val _ :: r, outs, δ, i, h => upds_ne (xs := r) h
  | .own j :: r, outs, δ, i, h => by
    unfold upds
    unfold owns at h
    rw [List.mem_cons, not_or] at h
    rw [upds_ne h.2]
    split
    · rw [List.getElem?_set_ne (Ne.symm h.1)]
    · rfl
theorem upds_get : ∀ {xs : List AV} {outs δ : Sta} {i k : Nat} {s : Sl}, nodupB (owns xs) = true → ixOf xs k = some i → outs[k]? = some s → i < δ.length → (upds xs outs δ)[i]? = some s
  | [], _, _, _, _, _, _, h, _, _ => by simp [ixOf] at h
  | .val _ :: r, outs, δ, i, k, s, hn, h, ho, hl => by
    cases k with
    | zero => simp [ixOf] at h
    | succ k => exact upds_get (xs := r) (k := k) hn (by simpa [ixOf] using h) (by rw [List.getElem?_drop, Nat.add_comm]; exact ho) hl
  | .own j :: r, outs, δ, i, k, s, hn, h, ho, hl => by
    have hn' : (!(owns r).contains j && nodupB (owns r)) = true := hn
    rw [Bool.and_eq_true, Bool.not_eq_true'] at hn'
    have nm : j ∉ owns r := fun z => by
      have := List.contains_iff_mem.mpr z
      rw [hn'.1] at this; cases this
    unfold upds
    cases k with
    | zero =>
      have e1 : j = i := by simpa [ixOf] using h
      subst e1
      rw [upds_ne nm, ho]
      exact List.getElem?_set_self hl
    | succ k =>
      refine upds_get (xs := r) (k := k) hn'.2 (by simpa [ixOf] using h) (by rw [List.getElem?_drop, Nat.add_comm]; exact ho) ?_
      split
      · rw [List.length_set]; exact hl
      · exact hl
end DL
end
section -- DL12
set_option maxRecDepth 100000
set_option maxHeartbeats 1000000
/-! DL12: a call, read at the caller. -/
namespace DL
open PySem PySem.Spec PyProof.Rows L2

def Fr.call (F : Fr) (H : Hp) (ow : Ow) (xs : List AV) : Fr := ⟨F.K, H, F.T, fun k => (ixOf xs k).bind ow, fun a => F.A NoB ow a ∧ ∀ k, (ixOf xs k).bind ow ≠ some a, F.ex, fun _ => none⟩
section
variable {F : Fr} {B : Addr → Prop} {ow : Ow} {δ : Sta} {σ : L2.St} {H H' : Hp} {xs : List AV} {vs : List V} {sls outs : Sta}
theorem ixOf_own {k i : Nat} (h : ixOf xs k = some i) : xs[k]? = some (.own i) := by
  unfold ixOf at h
  split at h
  · rename_i j q
    cases h
    exact q
  · cases h
theorem call_A {a : Addr} : ((F.call H ow xs).amb a ∨ ∃ i, (F.call H ow xs).par i = some a) ↔ F.A NoB ow a := by
  constructor
  · rintro (h | ⟨k, h⟩)
    · exact h.1
    · have h : (ixOf xs k).bind ow = some a := h
      cases q : ixOf xs k with
      | none => rw [q] at h; cases h
      | some i => rw [q] at h; exact .inr (.inr ⟨i, h⟩)
  · intro h
    by_cases q : ∃ k, (ixOf xs k).bind ow = some a
    · exact .inr q
    · exact .inl ⟨h, fun k z => q ⟨k, z⟩⟩
theorem Rel.callIn (R : Rel F NoB ow δ σ H) (r : AR F ow H vs xs) (hn : nodupB (owns xs) = true) (hs : slsOf δ xs = some sls) : Rel (F.call H ow xs) NoB (F.call H ow xs).par sls (vs.map some) H := by
  obtain ⟨h1, h2⟩ := sls_get hs
  have sub : ∀ a, (F.call H ow xs).A NoB (F.call H ow xs).par a → F.A NoB ow a := fun a q => by
    rcases q with q | q | q
    · exact call_A.mp (.inl q)
    · exact q.elim
    · exact call_A.mp (.inr q)
  have pk : ∀ {k a}, (F.call H ow xs).par k = some a → ∃ i, ixOf xs k = some i ∧ ow i = some a := fun {k a} q => by
    have q : (ixOf xs k).bind ow = some a := q
    cases e : ixOf xs k with
    | none => rw [e] at q; cases q
    | some i => rw [e] at q; exact ⟨i, rfl, q⟩
  refine ⟨by rw [List.length_map, h1, r.length], fun k s q => ?_, fun k hk => ?_, fun j k a q1 q2 => ?_, fun b o e _ _ => e, fun i a q => ⟨.inl q, fun z => z.2 i q, fun z => z⟩, fun i a q => q, fun a q => ⟨R.tracked q.1, fun i => q.2 i⟩, fun a q => q.elim, R.kf, R.tabs, fun _ _ q => nomatch q⟩
  · have z := h2 k s q
    cases hx : xs[k]? with
    | none => rw [hx] at z; exact z.elim
    | some y =>
      rw [hx] at z
      obtain ⟨v, hv, w⟩ := r.get hx
      have e : (vs.map some)[k]? = some (some v) := by rw [List.getElem?_map, hv]; rfl
      cases y with
      | val d =>
        dsimp only at z w
        subst z
        refine ⟨?_, v, e, w.avoid fun a _ => sub a⟩
        show (ixOf xs k).bind ow = none
        unfold ixOf
        rw [hx]
        rfl
      | own i =>
        dsimp only at z w
        obtain ⟨p, w1, w2⟩ := w
        subst w2
        cases s with
        | un => cases z.2
        | val d => cases z.2
        | own o =>
          obtain ⟨p', s1, s2, s3⟩ := R.slot i _ z.1
          rw [w1] at s1; cases s1
          refine ⟨p, ?_, e, s3.avoid fun a _ => sub a⟩
          show (ixOf xs k).bind ow = some p
          unfold ixOf
          rw [hx]
          exact w1
  · show (ixOf xs k).bind ow = none
    unfold ixOf
    rw [List.getElem?_eq_none (by omega)]
    rfl
  · obtain ⟨i, w1, w2⟩ := pk q1
    obtain ⟨i', w3, w4⟩ := pk q2
    have := R.inj i i' a w2 w4
    subst this
    exact nodup_ix hn w1 w3
theorem call_ext (b : Bk (F.call H ow xs) outs H') : Ext (F.A NoB ow) H H' := fun a o e n t => b.frame a o e (fun i z => n (call_A.mp (.inr ⟨i, z⟩))) t
theorem Rel.callOut (R : Rel F NoB ow δ σ H) (hn : nodupB (owns xs) = true) (hs : slsOf δ xs = some sls) (b : Bk (F.call H ow xs) outs H') (hB : ∀ a, B a → Nw H a ∧ ∃ o, H' a = some o ∧ NT o) (hb : ∀ a, B a → ¬ F.amb a)
    (ho : ∀ i p o, (F.call H ow xs).par i = some p → outs[i]? = some (.own o) → RO F.K (F.A B ow) H' p o) : Rel F B ow (upds xs outs δ) σ H' := by
  have ex := call_ext b
  have nb : ∀ a, B a → ¬ F.A NoB ow a := fun a q z => by
    obtain ⟨o, e, t⟩ := R.tracked z
    exact (hB a q).1 o e t
  have av : ∀ a, Known F.K H a → F.A B ow a → F.A NoB ow a := fun a k q => by
    rcases q with q | q | q
    · exact .inl q
    · obtain ⟨n, o, e, _⟩ := hB a q
      exact absurd rfl (known_ne k n (kf_none b.kf e))
    · exact .inr (.inr q)
  have sls1 := sls_get hs
  have lt : ∀ {k i}, ixOf xs k = some i → i < δ.length ∧ ∃ o, δ[i]? = some (.own o) := fun {k i} q => by
    have hx := ixOf_own q
    have hk : k < sls.length := by rw [sls1.1]; exact lt_of_get hx
    have z := sls1.2 k _ (by simp [hk] : sls[k]? = some sls[k])
    rw [hx] at z
    dsimp only at z
    refine ⟨lt_of_get z.1, ?_⟩
    cases hq : sls[k] with
    | un => rw [hq] at z; cases z.2
    | val d => rw [hq] at z; cases z.2
    | own o => rw [hq] at z; exact ⟨o, z.1⟩
  refine ⟨by rw [upds_len]; exact R.len, fun j s q => ?_, fun j hj => R.out j (by rw [upds_len] at hj; exact hj), R.inj, fun c o e n t => ?_, fun i a q => ⟨(R.fresh i a q).1, (R.fresh i a q).2.1, fun z => nb a z (.inr (.inr ⟨i, q⟩))⟩, R.par, R.amb, fun a q => (hB a q).2, b.kf, b.tabs, R.raw⟩
  · by_cases hj : j ∈ owns xs
    · obtain ⟨k, hk⟩ := mem_owns.mp hj
      obtain ⟨hl, o0, e0⟩ := lt hk
      obtain ⟨p, w1, w2, _⟩ := R.slot j _ e0
      have hp : (F.call H ow xs).par k = some p := by
        show (ixOf xs k).bind ow = some p
        rw [hk]; exact w1
      obtain ⟨o, z1, _⟩ := b.outs k p hp
      rw [upds_get hn hk z1 hl] at q
      cases q
      exact ⟨p, w1, w2, ho k p o hp z1⟩
    · rw [upds_ne hj] at q
      have z := R.slot j s q
      cases s with
      | un => exact z
      | val d => obtain ⟨z1, w, z2, z3⟩ := z; exact ⟨z1, w, z2, (z3.avoid av).ext (fun c o e n t => ex c o e (fun y => n (by
          rcases y with y | y | y
          · exact .inl y
          · exact y.elim
          · exact .inr (.inr y))) t)⟩
      | own u =>
        obtain ⟨a, z1, z2, z3⟩ := z
        have keep : H' a = H a := by
          cases u with
          | lst ds =>
            obtain ⟨ws, e1, _⟩ := z3
            rw [e1]
            refine b.frame a _ e1 (fun k y => ?_) nt_lst
            have y : (ixOf xs k).bind ow = some a := y
            cases e : ixOf xs k with
            | none => rw [e] at y; cases y
            | some i =>
              rw [e] at y
              have := R.inj i j a y z1
              subst this
              exact hj (mem_owns.mpr ⟨k, e⟩)
        exact ⟨a, z1, z2, (z3.avoid av).ext (fun c o e n t => ex c o e (fun y => n (by
          rcases y with y | y | y
          · exact .inl y
          · exact y.elim
          · exact .inr (.inr y))) t) keep⟩
  · have e' := R.frame c o e n t
    refine b.frame c o e' (fun k y => ?_) t
    have y : (ixOf xs k).bind ow = some c := y
    cases q : ixOf xs k with
    | none => rw [q] at y; cases y
    | some i =>
      rw [q] at y
      rcases (R.fresh i c y).1 with w | w
      · exact n i w
      · exact w o e t
end
section
variable {X : Cx} {e : Expr} {es : List Expr} {W : WX} {F : Fr} {G : Gx} {ow : Ow} {δ δ' : Sta} {σ : L2.St} {H : Hp} {Q : VK} {Φ : Phi} {gs : ADen} {x : Str} {f : Addr} {fd : FuncData} {ps : List Str} {k : Nat} {p pos : Pos} {xs : List AV} {vs : List V}
theorem call_read (hG : F.gx = G) (R : Rel F NoB ow δ σ H) (r : AR F ow H vs xs) (h : PostE W F ow σ H Q (kCall Φ xs δ)) : spD G Φ vs H Q (WE W σ) := by
  unfold kCall at h
  split at h
  case isFalse => exact h.elim
  rename_i hn
  split at h
  case h_2 => exact h.elim
  rename_i sls hs
  refine ⟨F.call H ow xs, sls, hG, rfl, fun _ => rfl, R.callIn r hn hs, ?_⟩
  have outs : ∀ {outs H'}, Bk (F.call H ow xs) outs H' → Rel F NoB ow (upds xs outs δ) σ H' := fun {outs H'} b => by
    refine R.callOut hn hs b (fun a q => q.elim) (fun a q => q.elim) fun i p o hp hi => ?_
    obtain ⟨o', e1, e2⟩ := b.outs i p hp
    rw [hi] at e1; cases e1
    exact e2.avoid fun a _ q => call_A.mpr q
  cases q : Φ sls with
  | stuck => rw [q] at h; exact h.elim
  | exc c w outs' =>
    rw [q] at h
    intro cls dd H' b z
    obtain ⟨C, dx, v, e1, e2, e3, e4, e5, e6⟩ := z
    exact h cls dd H' (outs b) (call_ext b) ⟨C, dx, v, e1, e2, e3, e4, fun y => e5 (call_A.mpr y), e6.avoid fun a _ y => call_A.mpr y⟩
  | rt a outs' =>
    rw [q] at h
    intro v H' b rv
    have R' := outs b
    refine h v H' R' (call_ext b) (rv.1.avoid fun a _ y => call_A.mpr y) fun q2 => ?_
    obtain ⟨p, ws, ds, e1, e2, e3, e4, e5, e6, e7⟩ := rv.2 q2
    have nA : ¬ F.A NoB ow p := fun y => by
      obtain ⟨o, w1, w2⟩ := R.tracked y
      exact e4 o w1 w2
    have sub : ∀ a, F.A (· = p) ow a → (a = p ∨ (F.call H ow xs).amb a ∨ ∃ i, (F.call H ow xs).par i = some a) := fun a y => by
      rcases y with y | y | y
      · exact .inr (call_A.mpr (.inl y))
      · exact .inl y
      · exact .inr (call_A.mpr (.inr (.inr y)))
    refine ⟨p, ws, ds, e1, e2, R.callOut hn hs b (fun a y => ?_) (fun a y z => nA (.inl (by rw [← show a = p from y]; exact z))) (fun i p' o hp hi => (e7 i o p' hp hi).avoid fun a _ y => sub a y), e3, e6.avoid fun a _ y => sub a y, e4, fun z => nA (.inl z)⟩
    rw [show a = p from y]
    exact ⟨e4, _, e3, nt_lst⟩
theorem seqA {k : List AV → Sta → Rs EV} (h : tD W F (fun δ => (gs δ).bind k) σ H Q) :
    tA W F gs σ H fun vs H1 => ∃ ow δ1 xs, Rel F NoB ow δ1 σ H1 ∧ AR F ow H1 vs xs ∧ ∃ H0 δ0, Rel F NoB ow δ0 σ H0 ∧ Ext (F.A NoB ow) H0 H1 ∧ PostE W F ow σ H1 Q (k xs δ1) := by
  obtain ⟨ow, δ, R, h⟩ := h
  refine ⟨ow, δ, R, ?_⟩
  dsimp only at h
  cases q : gs δ with
  | ok xs δ1 =>
    rw [q] at h
    exact fun vs H' R' e r => ⟨ow, δ1, xs, R', r, H, δ, R, e, PostE.go R' e h⟩
  | exc c w δ' => rw [q] at h; exact h
  | stuck => rw [q] at h; exact h
theorem de_call (hG : F.gx = G) (Fn : FnOk X.prog X.w X.K X.mg X.base (L2N.CX X.prog X.w) k f fd ps (spD G Φ)) (hr : Room k X.A) (hg : Gl X x) (hm : X.mg x = some (.ref f)) (hk : PySem.W.keepIn X.K (.ref f) = true) (hb : Binds X.K fd ps []) (tk : L2N.Takes X W)
    (ha : PA X (e :: es) (tA W F gs)) (hdb : (x == ("__debug__" : Str)) = false) (he : starEach (e :: es) X.env = (false, eval e X.env) :: starEach es X.env) (hpl : (backTo pos (starEach es X.env)).any (·.1) = false) :
    PE X (.Call (.Name x p) (e :: es) [] pos) (tD W F (dCall Φ gs)) := by
  refine PE.imp (pe_callSD (E := WE W) Fn hr hg hm hk hb .nil (L2N.passAt tk) ha hdb he hpl) fun σ H Q h => ?_
  unfold tCallSD
  obtain ⟨ow, δ, R, z⟩ := seqA h
  refine ⟨ow, δ, R, ?_⟩
  revert z
  cases gs δ with
  | ok xs δ1 =>
    intro z vs H1 R1 e1 r1
    obtain ⟨ow', δ2, xs', R2, r2, _, _, _, _, z⟩ := z vs H1 R1 e1 r1
    rw [List.append_nil]
    exact call_read hG R2 r2 z
  | exc c w δ' => exact fun z => z
  | stuck => exact fun z => z
/-- f() -/
theorem de_call0 (hG : F.gx = G) (Fn : FnOk X.prog X.w X.K X.mg X.base (L2N.CX X.prog X.w) k f fd ps (spD G Φ)) (hr : Room k X.A) (hg : Gl X x) (hm : X.mg x = some (.ref f)) (hk : PySem.W.keepIn X.K (.ref f) = true) (hb : Binds X.K fd ps []) (tk : L2N.Takes X W) (hdb : (x == ("__debug__" : Str)) = false) :
    PE X (.Call (.Name x p) [] [] pos) (tD W F (dCall Φ aNil)) := by
  refine ⟨fun pins s σ H Q I h => ?_⟩
  refine wpAny_Call_Name_kw (ld_glob I hg hm ?_ hdb)
  obtain ⟨ow, δ, R, z⟩ := h
  have q : spD G Φ [] H Q (WE W σ) := call_read (xs := []) hG R .nil z
  exact PySem.W.callWith_K0 I.kIn hk (run_fnSD (us := []) (vs := []) Fn hr hb .nil (L2N.passAt tk σ) I .nil q)
end
end DL
end
section -- DL13
set_option maxRecDepth 100000
set_option maxHeartbeats 2000000
/-! DL13: own errors: made, raised. -/
namespace DL
open PySem PySem.Spec PyProof.Rows L2

/-! ### def __init__(self, what): ValueError.__init__(self, what); self.what = what -/
def spI (K : PySem.W.Frag) : Sp := fun vs H Q _ => ∃ (a C : Addr) (y : V), vs = [.ref a, y] ∧ H a = some (exo a C none) ∧ OexC K C ∧ PySem.W.findIn K (.ref C) "what" = some none ∧
  ∀ dx, H dx = none → dx ≠ a → Q .non (upd (upd H dx (exd dx [(("what" : Str), y)])) a (exo a C (some dx)))
/-- the state behind C(w) -/
theorem made_heap {H1 : Hp} {a dx C : Addr} {y : V} {d : Option Addr} (ha : H1 a = none) (hd : dx ≠ a) :
    upd (del (upd (upd (upd H1 a (exo a C none)) dx (exd dx [(("what" : Str), y)])) a (exo a C d)) a) dx (.xd [(("what" : Str), y)]) = upd H1 dx (.xd [(("what" : Str), y)]) := by
  funext b
  by_cases h1 : b = dx
  · rw [h1, upd_same, upd_same]
  · rw [upd_ne h1, upd_ne h1]
    by_cases h2 : b = a
    · rw [h2, del_same, ha]
    · rw [del_ne h2, upd_ne h2, upd_ne h1, upd_ne h2]
section
variable {X : Cx} {e : Expr} {ta : TA} {p pos : Pos}
/-- C(e), C's own __init__ keeping sp: the context of what is made is None -/
theorem pmk_oexN {CX : CXT} {x : Str} {C fI : Addr} {k : Nat} {fd : FuncData} {ps : List Str} {sp : Sp} (T : OexC X.K C) (iC : PySem.W.findIn X.K (.ref C) "__init__" = some (some (.ref fI))) (tI : PySem.W.typeIn X.K (.ref fI) = some (.type "function"))
    (F1 : FnOk X.prog X.w X.K X.mg X.base CX k fI fd ps sp) (room : Room (k + 1) X.A) (bind : Binds X.K fd ps []) (px : Passes CX X (fun _ _ _ => False)) (gl : Gl X x) (mC : X.mg x = some (.ref C)) (ha : PA X [e] ta)
    (ndb : (x == ("__debug__" : Str)) = false) (st : starEach [e] X.env = (false, eval e X.env) :: starEach [] X.env) (pln : (backTo pos (starEach [] X.env)).any (·.1) = false) :
    L2N.PMk X (.Call (.Name x p) [e] [] pos) (tMkO C sp [] ta) := by
  intro pins sh τ G R J hyp
  obtain ⟨nmC, qC, NC, bsC, bmC, sn, sub, ab, col, dd, k0, k1, k2, k3, k5, look, mro⟩ := T.cls
  refine wpAny_Call_Name_kw (ld_glob J gl mC ?_ ndb)
  refine PySem.W.callWith_K (h₀ := X.base) J.ok.mod.kin T.kC (thn (ha.run pos pins sh τ G _ J hyp) fun args sh1 ⟨ws, G1, J1, rel, small, then1⟩ => ⟨J1.kIn, ?_⟩) st pln
  show wpAny _ _ (call (.ref C) args) _ _ _
  obtain ⟨hp, gn, dw, tk, os⟩ := sh1
  let z : Addr := hp.objs.size + 1
  let hpN := (hp.push (PySem.W.kdv_tup args)).push (PySem.HandSPX.excO C hp.objs.size)
  have up1 : hp.objs.size ≤ z := Nat.le_succ _
  have clear : G1 z = none := J1.hok.fresh up1
  have want := then1 z clear
  have grow : ∀ b o, hp.get? b = some o → hpN.get? b = some o := fun b o q => Heap.get?_push_of_some _ (Heap.get?_push_of_some _ q)
  have there : hpN.get? z = some (PySem.HandSPX.excO C hp.objs.size) := by
    show ((hp.push (PySem.W.kdv_tup args)).push (PySem.HandSPX.excO C hp.objs.size)).get? (hp.objs.size + 1) = some (PySem.HandSPX.excO C hp.objs.size)
    heap_get
  have J2 : Inv X pins τ (upd G1 z (exo z C none)) ⟨hpN, gn, dw, tk, os⟩ := J1.laid (t' := tk) (a := z) (o := exo z C none) (h' := hpN) grow up1 (exo_ok there)
  have rel2 : Vals (V.ref z :: (ws ++ [])) (Value.ref z :: args) := .cons rfl (by rw [List.append_nil]; exact rel)
  have cnt : (Value.ref z :: args ++ []).length = ps.length := by
    have q := rel2.length
    rw [F1.len _ _ _ _ want] at q
    rw [List.append_nil]
    exact q.symm
  have few : args.length ≤ sizeLine := by
    rw [← Paired.length rel, sizeLine_eq]
    omega
  have bd := bind _ (Value.ref z :: args) J2.kIn cnt
  rw [List.append_nil] at bd
  refine wpAny_call (PySem.HandSPX.call_own F.excBase_ValueError (fun Y => PySem.HandSPX.refsVE_contains Y bmC mro) (J1.kIn _ _ look) (PySem.W.looks_findIn J1.kIn iC) (fun self => PySem.W.bind_fn J1.kIn self tI) few
    (codeAny_mono (F1.run _ X.stack _ _ ⟨Value.ref z :: args, []⟩ (Value.ref z :: args) _ _ (fun _ _ _ => False) (room.make C args []) (J2.env0.make C args []) bd rel2 want) fun res sh2 got => ?_))
  cases res with
  | error er => exact px pins τ _ _ er sh2 J2 got
  | ok fl =>
    cases fl with
    | next => exact got.elim
    | brk => exact got.elim
    | cont => exact got.elim
    | ret u =>
      obtain ⟨v, G2, os2, bare2, un2, hok2, rv, ev, d, fs, ea, ed, fr, fin⟩ := got
      subst ev
      obtain ⟨h2, g2, d2, t2, os'⟩ := sh2
      obtain ⟨t0, Gd, J3, keep, gone, obj, free⟩ := mk_end0 (d2 := d2) (t2 := t2) J1 up1 grow un2 hok2 os2 bare2 ea ed fr
      refine ⟨rv, z, _, _, ⟨Gd, g2, d2, t2, os'⟩, _, .ref C, some d, rfl, J3, keep, gone, obj, ⟨rfl, rfl, fun vs q => ?_⟩, rfl, rfl, free, rfl, bare2, raises_own T.exC T.tyC, fin⟩
      cases q
      rfl
theorem takes_kf {W : WX} (tk : L2N.Takes X W) : L2N.Takes X fun cls d σ H => KF X.K H → W cls d σ H := fun u s' ⟨a, B, sI, pins, σ, H, cls, d, e, J, r1, r2, r3, r4, r5, r6, w⟩ =>
  tk u s' ⟨a, B, sI, pins, σ, H, cls, d, e, J, r1, r2, r3, r4, r5, r6, w (inv_kf J)⟩
end

/-! ### raise C(e) -/
def sRaise (c : Str) (g : Den) : SDen := fun δ => (g δ).fl fun a δ1 => .exc c a.1 δ1
/-- what is known of an own error's class -/
structure ExC1 (P : Program) (w : World) (K : PySem.W.Frag) (mg : Str → Option Value) (base : Heap) (k : Nat) (x : Str) (C : Addr) : Prop where
  oex : OexC K C
  no : PySem.W.findIn K (.ref C) "what" = some none
  mgx : mg x = some (.ref C)
  ini : ∃ (fI : Addr) (fd : FuncData), PySem.W.findIn K (.ref C) "__init__" = some (some (.ref fI)) ∧ PySem.W.typeIn K (.ref fI) = some (.type "function") ∧ FnOk P w K mg base (L2N.CX P w) k fI fd [("self" : Str), ("what" : Str)] (spI K) ∧ Binds K fd [("self" : Str), ("what" : Str)] []
theorem passN {X : Cx} : Passes (L2N.CX X.prog X.w) X (fun _ _ _ => False) := fun _ _ _ _ _ _ _ h => by
  obtain ⟨_, _, _, _, _, _, _, _, _, _, _, _, z⟩ := h
  exact z.elim
section
variable {X : Cx} {e : Expr} {W : WX} {F : Fr} {ga : Den} {p pos rpos : Pos} {x : Str} {C : Addr} {k : Nat}
theorem ds_raise (hK : F.K = X.K) (hc : X.calm = true) (tk : L2N.Takes X W) (hx : F.ex x = some C) (T : ExC1 X.prog X.w X.K X.mg X.base k x C) (hr : Room (k + 1) X.A) (hg : Gl X x) (he : PE X e (tD W F ga)) (hse : NoStar e)
    (hdb : (x == ("__debug__" : Str)) = false) (hpl : (backTo pos (starEach [] X.env)).any (·.1) = false) :
    PS X (.Raise (some (.Call (.Name x p) [e] [] pos)) none rpos) (tS W F (sRaise x ga)) := by
  obtain ⟨fI, fd, h1, h2, h3, h4⟩ := T.ini
  refine PS.imp (L2N.ps_raise hc (takes_kf tk) (pmk_oexN T.oex h1 h2 h3 hr h4 passN hg T.mgx (pa_cons he pa_nil (hse _ _)) hdb (hse _ _) hpl)) fun E σ H h => ?_
  refine (seqES h).mono fun y H1 z => ?_
  obtain ⟨ow, δ1, a, R, r, _, z⟩ := z
  refine ⟨by simp, fun o ho => ⟨o, C, y, rfl, upd_same, T.oex, T.no, fun dx hd hne => ⟨rfl, dx, _, upd_same, by rw [upd_ne hne, upd_same], ?_, fun kf => ?_⟩⟩⟩
  · rw [upd_ne hne] at hd; exact hd
  · rw [upd_ne hne] at hd
    rw [made_heap ho hne] at kf ⊢
    rw [← hK] at kf
    have nA : ¬ F.A NoB ow dx := fun q => by
      obtain ⟨u, q1, _⟩ := R.tracked q
      rw [hd] at q1; cases q1
    exact z (.ref C) (some dx) ow σ _ (R.alloc hd kf) ⟨C, dx, y, hx, rfl, rfl, upd_same, nA, r.ext (Ext.upd hd)⟩
end
section
variable {P : Program} {w : World} {K : PySem.W.Frag} {mg : Str → Option Value} {base : Heap}
theorem init_fn {st : Stmt} {qual : Str} {f : Addr} {fd : FuncData} {k : Nat} {p1 p2 p3 p4 p5 p6 p7 p8 p9 p10 : Pos} (Fu : Fun K "__init__" qual st f fd) (S : FnScope [("self" : Str), ("what" : Str)] [("self" : Str), ("what" : Str)] (defScope st))
    (hb : defBody st = [.Expr (.Call (.Attribute (.Name "ValueError" p1) "__init__" p2) [.Name "self" p3, .Name "what" p4] [] p5) p6, .Assign [.Attribute (.Name "self" p7) "what" p8] (.Name "what" p9) p10])
    (h0 : (defScope st).names.lookup ("self" : Str) = some .local) (h1 : (defScope st).names.lookup ("what" : Str) = some .local) (hg : (defScope st).names.lookup ("ValueError" : Str) = some .globalImplicit) (hm : mg "ValueError" = none)
    (vV : PySem.W.findCls K (.type "ValueError") (.type "type") "__init__" = some (.val (.builtin "ValueError.__init__")))
    (hc : ∀ env : Env, ∃ pl : Sem Bool, eval (.Call (.Attribute (.Name "ValueError" p1) "__init__" p2) [.Name "self" p3, .Name "what" p4] [] p5) env = (do
      let ov ← eval (.Name "ValueError" p1) env
      standAt p2.atName
      let (f, first) ← holding [ov] (getMethod ov "__init__" pl)
      callWith p5 f first (backTo p5 (starEach [.Name "self" p3, .Name "what" p4] env)) (backToKw p5 (keywordEach [] env))))
    (hs1 : ∀ env, swapsWith (.Call (.Attribute (.Name "ValueError" p1) "__init__" p2) [.Name "self" p3, .Name "what" p4] [] p5) none p6.line env = pure false)
    (hs2 : ∀ env, env.scope = defScope st → swapsWith (.Name "what" p9) (some (.Attribute (.Name "self" p7) "what" p8)) p10.line env = pure false) :
    FnOk P w K mg base (L2N.CX P w) (k + 1) f fd [("self" : Str), ("what" : Str)] (spI K) := by
  obtain ⟨oc, od, kV, doc, pm, an, cdv, ct, osl, rfl, lk, hcd⟩ := Fu.ex
  rw [hb] at lk ⊢
  refine fn_of lk hcd S (fun vs H Q E h => ?_) fun A outer s H vs Q E hr h => ?_
  · obtain ⟨a, C, y, e, _⟩ := h
    rw [e]; rfl
  · obtain ⟨a, C, y, e, ea, T, no, h⟩ := h
    subst e
    have v0 : ∀ {p : Pos}, PE (cxOf (L2N.CX P w) P w K mg base [("self" : Str), ("what" : Str)] qual (defScope st) f cdv A outer s H E) (.Name "self" p) (tVar 0) := fun {p} => pe_var rfl (.inl h0) (by decide) (by decide)
    have v1 : ∀ {p : Pos}, PE (cxOf (L2N.CX P w) P w K mg base [("self" : Str), ("what" : Str)] qual (defScope st) f cdv A outer s H E) (.Name "what" p) (tVar 1) := fun {p} => pe_var rfl (.inl h1) (by decide) (by decide)
    refine ⟨_, pss_cons (ps_expr (pe_veinit (pl := Classical.choose (hc _)) hg hm vV (pa_cons v0 (pa_cons v1 pa_nil rfl) rfl) (Classical.choose_spec (hc _)) rfl rfl) (hs1 _)) (pss_one (ps_ost v0 v1 (hs2 _ rfl))), ?_⟩
    refine ⟨.ref a, rfl, y, rfl, a, C, [y], rfl, by simp, T, ea, y, rfl, .ref a, rfl, a, C, rfl, T, no, .inl ⟨ea, fun dx hd hne => h dx hd hne⟩⟩
end
end DL
end
section -- DL14
set_option maxRecDepth 100000
set_option maxHeartbeats 2000000
/-! DL14: where an exception is handled: iterators that end, tuples unpacked. -/
namespace DL
open PySem PySem.Spec PyProof.Rows L2 HotX L2H

section
variable {prog : Program} {w : World} {A : Around} {E : Value → Shared → Prop} {s : Shared}
/-- a list's iterator ends while an exception is handled -/
theorem list_end_hot {it l x1 : Addr} {n : Nat} {its : Array Value} {Q : Option Value → Shared → Prop} (hot : HotAt A x1 s.heap) (hi : s.heap.IsListIter it l n) (hl : s.heap.IsList l its) (out : its[n]? = none)
    (hq : ∀ h', Heap.ExtBut it s.heap h' → Q none { s with heap := h' }) : wpAny (model prog w) A (pyNext (.ref it)) Q E s := by
  obtain ⟨hh, xo, xf, gx, dx, cx⟩ := hot
  obtain ⟨io, gi, ci, di⟩ := id hi
  obtain ⟨lo, gl, _, ln, dl⟩ := hl
  have apart : x1 ≠ it := fun z => by
    rw [z, gi] at gx
    cases gx
    rw [di] at dx
    cases dx
    simp at cx
  unfold pyNext
  refine wpAny_bind (wpAny_attempt (wpAny_callSpecial?_slot (name := Str.ofString "__next__") hi.typeIs slot_listiter_next (wpAny_call_entry slot_listiter_next hi.typeIs entry_listiter_next ?_ (args_listiter_next _))))
  show wpAny _ _ (field (.ref it) 0 >>= _) _ _ s
  refine wpAny_bind (wpAny_field gi di (x := .ref l) rfl ?_)
  show wpAny _ _ (if (Value.ref l == Value.none) = true then _ else _) _ _ s
  rw [if_neg (show ¬ ((Value.ref l == Value.none) = true) from Bool.false_ne_true)]
  show wpAny _ _ (field (.ref it) 1 >>= _) _ _ s
  refine wpAny_bind (wpAny_field gi di (x := .int n 0) rfl ?_)
  show wpAny _ _ (seqItems? (.ref l) >>= _) _ _ s
  refine wpAny_bind (wpAny_seqItems gl dl ?_)
  simp only [Int.toNat_natCast, out]
  refine wpAny_bind (wpAny_rule (wpAny_bind (wpAny_setField gi di (by simp) ?_)))
  show wpAny _ _ (newExc (.type "StopIteration") [] >>= _) _ _ _
  refine wpAny_bind ?_
  simp only [newExc, newTuple]
  refine wpAny_bind (wpAny_newObj_type ?_ (by size_fits))
  refine wpAny_bind (m := firstArgMember _ _) (wpAny_of_eq (a := Value.none) (by first | rfl | (simp only [firstArgMember]; rfl)) ?_)
  refine wpAny_newObj_type ?_ (by size_fits)
  have g2 := (Heap.get?_update_other s.heap (Obj.mapFields (·.setIfInBounds 0 Value.none)) (Ne.symm apart)).trans gx
  refine raiseNew_hot ⟨hh, xo, xf, Heap.get?_push_of_some _ (Heap.get?_push_of_some _ g2), dx, cx⟩ (Nat.ne_of_lt (Heap.lt_size (Heap.get?_push_of_some _ g2))) (Heap.get?_push_size _ rfl) rfl (by first | (simp; done) | (simp; omega) | (simp only [Array.size_append]; simp; omega)) ?_
  refine wpAny_bind (wpAny_isInstance (T := "StopIteration") (b := true) ⟨_, Heap.get?_update_self _ (Heap.get?_push_size _ rfl) rfl, rfl⟩ isSubtype_stop ?_)
  refine wpAny_pure (hq _ fun b o hb e => ?_)
  have e2 := (Heap.get?_update_other s.heap (Obj.mapFields (·.setIfInBounds 0 Value.none)) (Ne.symm hb)).trans e
  rw [Heap.get?_update_other _ _ (Nat.ne_of_gt (Heap.lt_size (Heap.get?_push_of_some _ e2)))]
  exact Heap.get?_push_of_some _ (Heap.get?_push_of_some _ e2)
/-- a tuple's iterator ends so -/
theorem tup_end_hot {it t x1 : Addr} {n : Nat} {its : Array Value} {Q : Option Value → Shared → Prop} (hot : HotAt A x1 s.heap) (hi : IsTupIter s.heap it t n) (ht : IsTup s.heap t its) (out : its[n]? = none)
    (hq : ∀ h', Heap.ExtBut it s.heap h' → Q none { s with heap := h' }) : wpAny (model prog w) A (pyNext (.ref it)) Q E s := by
  obtain ⟨hh, xo, xf, gx, dx, cx⟩ := hot
  obtain ⟨io, gi, ci, di⟩ := id hi
  obtain ⟨to, gt, _, tn, dt⟩ := ht
  have apart : x1 ≠ it := fun z => by
    rw [z, gi] at gx
    cases gx
    rw [di] at dx
    cases dx
    simp at cx
  unfold pyNext
  refine wpAny_bind (wpAny_attempt (wpAny_callSpecial?_slot (name := Str.ofString "__next__") hi.typeIs slot_tupleiter_next (wpAny_call_entry slot_tupleiter_next hi.typeIs entry_tupleiter_next ?_ (args_tupleiter_next _))))
  show wpAny _ _ (field (.ref it) 0 >>= _) _ _ s
  refine wpAny_bind (wpAny_field gi di (x := .ref t) rfl ?_)
  show wpAny _ _ (if (Value.ref t == Value.none) = true then _ else _) _ _ s
  rw [if_neg (show ¬ ((Value.ref t == Value.none) = true) from Bool.false_ne_true)]
  show wpAny _ _ (field (.ref it) 1 >>= _) _ _ s
  refine wpAny_bind (wpAny_field gi di (x := .int n 0) rfl ?_)
  show wpAny _ _ (seqItems? (.ref t) >>= _) _ _ s
  refine wpAny_bind (wpAny_seqItems gt dt ?_)
  simp only [Int.toNat_natCast, out]
  refine wpAny_bind (wpAny_rule (wpAny_bind (wpAny_setField gi di (by simp) ?_)))
  show wpAny _ _ (newExc (.type "StopIteration") [] >>= _) _ _ _
  refine wpAny_bind ?_
  simp only [newExc, newTuple]
  refine wpAny_bind (wpAny_newObj_type ?_ (by size_fits))
  refine wpAny_bind (m := firstArgMember _ _) (wpAny_of_eq (a := Value.none) (by first | rfl | (simp only [firstArgMember]; rfl)) ?_)
  refine wpAny_newObj_type ?_ (by size_fits)
  have g2 := (Heap.get?_update_other s.heap (Obj.mapFields (·.setIfInBounds 0 Value.none)) (Ne.symm apart)).trans gx
  refine raiseNew_hot ⟨hh, xo, xf, Heap.get?_push_of_some _ (Heap.get?_push_of_some _ g2), dx, cx⟩ (Nat.ne_of_lt (Heap.lt_size (Heap.get?_push_of_some _ g2))) (Heap.get?_push_size _ rfl) rfl (by first | (simp; done) | (simp; omega) | (simp only [Array.size_append]; simp; omega)) ?_
  refine wpAny_bind (wpAny_isInstance (T := "StopIteration") (b := true) ⟨_, Heap.get?_update_self _ (Heap.get?_push_size _ rfl) rfl, rfl⟩ isSubtype_stop ?_)
  refine wpAny_pure (hq _ fun b o hb e => ?_)
  have e2 := (Heap.get?_update_other s.heap (Obj.mapFields (·.setIfInBounds 0 Value.none)) (Ne.symm hb)).trans e
  rw [Heap.get?_update_other _ _ (Nat.ne_of_gt (Heap.lt_size (Heap.get?_push_of_some _ e2)))]
  exact Heap.get?_push_of_some _ (Heap.get?_push_of_some _ e2)
/-- a, b, .. = a tuple, so -/
theorem unpack_hot {t x1 : Addr} {its : Array Value} {tgs : List (Bool × (Value → Sem Unit))} {Q : Unit → Shared → Prop} (hot : HotAt A x1 s.heap) (ht : IsTup s.heap t its) (hn : tgs.length = its.size) (hst : tgs.findIdx? (·.1) = none)
    (h : ∀ h', Heap.ExtBut s.heap.objs.size s.heap h' → wpAny (model prog w) A (assignInOrder (tgs.map (·.2)) its.toList) Q E { s with heap := h' }) : wpAny (model prog w) A (unpack (.ref t) tgs) Q E s := by
  have ne : t ≠ s.heap.objs.size := by obtain ⟨o, ho, _⟩ := ht; exact Nat.ne_of_lt (Heap.lt_size ho)
  unfold unpack
  rw [hn, hst]
  refine wpAny_bind (wpAny_holding ?_)
  unfold unpackItems
  refine wpAny_bind ?_
  unfold notIterableAtAll
  refine wpAny_bind (wpAny_specialOf ht.typeIs slot_tuple_iter.lookup (wpAny_pure ?_))
  simp only [Bool.false_eq_true, if_false]
  refine wpAny_bind (wpAny_holding (iter_tuple ht ?_))
  refine wpAny_bind (wpAny_holding (draw_tuple ne its.size 0 _ _ ⟨_, Heap.get?_push_size _ rfl, rfl, rfl⟩ (ht.push _) (by omega) fun h1 i1 s1 => ?_))
  have whole : List.take its.size (List.drop 0 its.toList) = its.toList := by rw [List.drop_zero]; exact List.take_of_length_le (by simp)
  rw [whole, if_neg (by simp)]
  have t1 : IsTup h1 t its := (ht.push _).extBut s1.extBut ne
  have hot1 : HotAt A x1 h1 := by
    obtain ⟨hh, xo, xf, gx, dx, cx⟩ := hot
    exact ⟨hh, xo, xf, s1.extBut x1 xo (Nat.ne_of_lt (Heap.lt_size gx)) (Heap.get?_push_of_some _ gx), dx, cx⟩
  refine wpAny_bind (wpAny_holding (tup_end_hot hot1 i1 t1 (by simp) fun h2 e2 => ?_))
  simp only [Option.isSome_none, Bool.false_eq_true, if_false]
  exact wpAny_pure (h h2 fun b o hb e => e2 b o hb (s1.extBut b o hb (Heap.get?_push_of_some _ e)))
end
/-- the context handles an exception whose context is None -/
def HotZ (X : Cx) : Prop := ∀ {pins : List (Addr × Obj)} {σ : L2.St} {H : Hp} {s : Shared}, Inv X pins σ H s → ∃ x1, HotAt X.A x1 s.heap
section
variable {X : Cx} {es : List Expr} {F : Fr} {vs : List Nat} {pos : Pos}
theorem dg_tupH {g : GsDen} {k n : Nat} (hK : F.K = X.K) (hc : HotZ X) (h : PGs X es (tGs F vs g)) (hn : (assignEach es X.env).length = n) (hst : (assignEach es X.env).findIdx? (·.1) = none) : PG X (.Tuple es k pos) (tG F vs (gTupD n g)) := by
  refine ⟨fun pins s σ H v u Q I r hw => ?_⟩
  obtain ⟨ow, δ, d, δ', R, rd, q, z⟩ := hw
  unfold gTupD at q
  split at q
  case h_2 => cases q
  split at q
  case isFalse => cases q
  rename_i ds hl
  obtain ⟨a, xs, e1, e2, e3, e4⟩ := rd.tupE
  subst e1
  cases r
  rw [hK] at e2
  obtain ⟨its, rv, ht, hz⟩ := I.tuple e2
  obtain ⟨x1, hot⟩ := hc I
  rw [assign_Tuple]
  refine wpAny_bind (wpAny_standAt (unpack_hot hot ht (by rw [hn, ← hl, ← e4.length]; simp [rv.length]) hst fun h' hx => ?_))
  have I1 : Inv X pins σ H { s with heap := h' } := I.kept (t' := s.toks) fun b o e => hx b o (Nat.ne_of_lt (Heap.lt_size e)) e
  exact h.run pins _ σ H xs _ Q I1 (by simpa using rv) ⟨ow, δ, ds, δ', R, e4, q, z⟩
end
end DL
end
section -- DL15
set_option maxRecDepth 100000
set_option maxHeartbeats 2000000
/-! DL15: [.. for .. in a list ..] where an exception is handled. -/
namespace DL
open PySem PySem.Spec PyProof.Rows L2 HotX L2H

section
variable {X : Cx} {pins : List (Addr × Obj)} {σ : L2.St} {H : Hp} {s : Shared}
/-- one step of a list's iterator at turn i: an item -/
theorem stepL {a it : Addr} {i : Nat} {xs : List V} {x : V} {tg : Expr} {E : Value → Shared → Prop} (J : Inv X pins σ H s) (free : FpOk X pins H it) (st : s.heap.IsListIter it a i) (hq : SqL X.K H a xs) (hx : xs[i]? = some x) :
    wpAny (model X.prog X.w) X.A (pyNext (.ref it)) (fun r s1 => ∃ u, r = some u ∧ wpAny (model X.prog X.w) X.A (letOwnedTupleGo tg (.ref it) u) (fun _ s2 => Inv X pins σ H s2 ∧ RelV x u ∧ s2.heap.IsListIter it a (i + 1)) E s1) E s := by
  obtain ⟨its, rv, pl, _⟩ := J.list hq
  obtain ⟨u, hu, ru⟩ := rv.get hx
  obtain ⟨f0, f1, f2, f3, f4, f5⟩ := free
  refine wpAny_pyNext_list_item st pl.isList (x := u) (by simpa using hu) fun h' st' sb => ?_
  obtain ⟨o, e, c, d⟩ := id st'
  exact ⟨u, rfl, go_of (s := { s with heap := h' }) e c d (by decide) ⟨J.turned (t' := s.toks) (fun b o hb e => (sb.2 b hb).trans e) f0 f1 f3 f4 f5, ru, st'⟩⟩
/-- .. its end -/
theorem stopL {a it : Addr} {i : Nat} {xs : List V} {E : Value → Shared → Prop} (hc : HotZ X) (J : Inv X pins σ H s) (free : FpOk X pins H it) (st : s.heap.IsListIter it a i) (hq : SqL X.K H a xs) (hx : xs.length ≤ i) :
    wpAny (model X.prog X.w) X.A (pyNext (.ref it)) (fun r s1 => r = none ∧ Inv X pins σ H s1) E s := by
  obtain ⟨its, rv, pl, _⟩ := J.list hq
  obtain ⟨f0, f1, f2, f3, f4, f5⟩ := free
  obtain ⟨x1, hot⟩ := hc J
  have hl := rv.length
  exact list_end_hot hot st pl.isList (by simp; omega) fun h' eb => ⟨rfl, J.turned (t' := s.toks) (fun b o hb e => eb b o hb e) f0 f1 f3 f4 f5⟩
theorem iter_obj {a it : Addr} {i : Nat} {h : Heap} (st : h.IsListIter it a i) : ∃ o, h.get? it = some o ∧ ∀ v, o.data ≠ .cell v := by
  obtain ⟨o, e, c, d⟩ := st
  exact ⟨o, e, fun v z => by rw [d] at z; cases z⟩
end

section
variable {X : Cx} {elt tg iter : Expr} {ifs : List Expr} {scope : Scope} {own : List (Str × Nat)} {pos : Pos} {tl : TE} {g : TG} {tt : TT} {te : TE}
theorem pe_lcH (hc : HotC X) (hN : X.N.Nodup) (hi : PE X iter tl) (ok : BlkOk X.N X.env.scope scope own)
    (hg : ∀ (s : Shared) (H : Hp) (C : Addr) (cl : List (Str × Addr)) (fp : List Addr), HotZ (X.blk s H scope (compEnvC scope cl C X.env) fp) → PG (X.blk s H scope (compEnvC scope cl C X.env) fp) tg g)
    (ht : ∀ (s : Shared) (H : Hp) (C : Addr) (cl : List (Str × Addr)) (fp : List Addr), PTs (X.blk s H scope (compEnvC scope cl C X.env) fp) ifs tt)
    (he : ∀ (s : Shared) (H : Hp) (C : Addr) (cl : List (Str × Addr)) (fp : List Addr), PE (X.blk s H scope (compEnvC scope cl C X.env) fp) elt te) (hs : ∀ x, foldedSetIterable iter X.env x = pure x) :
    PE X (.ListComp elt [⟨tg, iter, ifs, 0⟩] scope pos) (tLc (iList X.K tl) g tt te (own.map (·.2))) := by
  refine ⟨fun pins s σ H Q I want => ?_⟩
  rw [eval_ListComp]
  have caught : ∀ y ∈ scope.names, y.2 = .free → ∃ c, X.env.cells.lookup y.1 = some c := fun y hy e => (ok.free y hy e).elim (fun k => I.ok.has _ (.inl k)) (fun k => I.ok.has _ (.inr k))
  refine wpAny_comprehension_free (use := none) rfl hs (closure_ok caught) ok.kind (fun y hy e => by rw [ok.uniq y hy, e]) (thn (hi.run pins s σ H _ I want) fun xv s1 ⟨x, H1, I1, r1, a, ex, ⟨xs0, hq0⟩, more⟩ => ?_)
  subst ex
  cases r1
  obtain ⟨its0, rv0, pl0, _⟩ := I1.list hq0
  refine wpAny_pyIter_list pl0.isList ?_
  generalize hit : s1.heap.objs.size = it
  generalize hs2 : ({ s1 with heap := s1.heap.push { cls := .type "list_iterator", data := .fields #[.ref a, .int 0 0] } } : Shared) = s2
  have I2 : Inv X pins σ H1 s2 := by
    rw [← hs2]
    exact I1.kept (t' := s1.toks) fun b o e => Heap.get?_push_of_some _ e
  have st2 : s2.heap.IsListIter it a 0 := by
    rw [← hs2, ← hit]
    exact ⟨_, Heap.get?_push_size _ rfl, rfl, rfl⟩
  have f2 : FpOk X pins H1 it := by
    rw [← hit]
    exact I1.fpOk (Nat.le_refl _) (I1.hok.fresh (Nat.le_refl _))
  have ltI : it < s2.heap.objs.size := by
    obtain ⟨o, e, _⟩ := st2
    exact Heap.lt_size e
  refine wpAny_newObj_type (newEnv_comp ?_) (by show 0 ≤ sizeLine; decide)
  generalize hD : s2.heap.objs.size = D
  have freeD : H1 D = none := I2.hok.fresh (Nat.le_of_eq hD)
  obtain ⟨W, ⟨m0, w0⟩, turn⟩ := more D freeD
  generalize hs3 : ({ s2 with heap := s2.heap.push { cls := .type "list", data := .seq ([] : List Value).toArray } } : Shared) = s3
  have h3 : s3.heap = s2.heap.push { cls := .type "list", data := .seq ([] : List Value).toArray } := by rw [← hs3]
  have I3 : Inv X pins σ (upd H1 D (.lst [])) s3 := by
    rw [← hs3]
    refine I2.laid (t' := s2.toks) (fun b o e => Heap.get?_push_of_some _ e) (Nat.le_of_eq hD) ⟨Nat.zero_le _, [], 0, .nil, ?_⟩
    rw [← hD]
    exact Heap.get?_push_size _ rfl
  have f3 : FpOk X pins (upd H1 D (.lst [])) it ∧ it < s3.heap.objs.size := by
    refine ⟨⟨?_, f2.2⟩, by rw [h3, Heap.size_push]; exact Nat.lt_succ_of_lt ltI⟩
    rw [upd_ne (by rw [← hD]; exact Nat.ne_of_lt ltI)]
    exact f2.1
  have f3s : ∀ b ∈ [it], FpOk X pins (upd H1 D (.lst [])) b ∧ b < s3.heap.objs.size := fun b hb => by
    have e : b = it := by simpa using hb
    rw [e]; exact f3
  have st3 : s3.heap.IsListIter it a 0 := st2.at fun o e => by rw [h3]; exact Heap.get?_push_of_some _ e
  have I4 := block_start I3 ok hN f3s
  -- the handled exception, as the block sees it
  have hotB : HotZ (X.blk s3 (upd H1 D (.lst [])) scope (compEnvC scope (cellsFrom (s3.heap.objs.size + 1) scope.names (cloFrom X.env.cells scope.names [])) s3.heap.objs.size X.env) [it]) := by
    obtain ⟨p, ⟨hh, vf, dv, cv⟩, hp⟩ := hc
    obtain ⟨g1, g2, g3, g4, g5⟩ := I3.pin p (List.mem_append_left _ hp)
    intro pins' σ' H' s' J
    have nfr : p.1 ∉ frs X.stack := fun hm => (List.mem_cons.mp (I3.stkSub p.1 hm)).elim g3 g4
    have nit : p.1 ∉ [it] := fun hm => by
      have e : p.1 = it := by simpa using hm
      exact f3.1.2.2.2.2.2 p (List.mem_append_left _ hp) e
    exact ⟨p.1, hh, p.2, vf, J.base.keep p.1 p.2 g1 g2 nfr nit, dv, cv⟩
  have pg := hg s3 (upd H1 D (.lst [])) s3.heap.objs.size (cellsFrom (s3.heap.objs.size + 1) scope.names (cloFrom X.env.cells scope.names [])) [it] hotB
  have pt := ht s3 (upd H1 D (.lst [])) s3.heap.objs.size (cellsFrom (s3.heap.objs.size + 1) scope.names (cloFrom X.env.cells scope.names [])) [it]
  have pe := he s3 (upd H1 D (.lst [])) s3.heap.objs.size (cellsFrom (s3.heap.objs.size + 1) scope.names (cloFrom X.env.cells scope.names [])) [it]
  show codeAny _ _ (.compStart (.ListComp elt [⟨tg, iter, ifs, 0⟩] scope pos) 0 (.ref it) (.ref D) (compEnvC scope (cellsFrom (s3.heap.objs.size + 1) scope.names (cloFrom X.env.cells scope.names [])) s3.heap.objs.size X.env)) (compPost (model X.prog X.w) X.A X.xe none _ (.ref D) s3.heap.objs.size) { s3 with heap := pushCells (s3.heap.push { cls := .type "dict", data := .dict #[] }) scope.names }
  have free3 : (upd H1 D (.lst [])) it = none := f3.1.1
  generalize hce : compEnvC scope (cellsFrom (s3.heap.objs.size + 1) scope.names (cloFrom X.env.cells scope.names [])) s3.heap.objs.size X.env = ce at I4 pg pt pe hotB ⊢
  have cL : ce.locals = s3.heap.objs.size := by subst hce; rfl
  generalize hH3 : upd H1 D (.lst []) = H3 at I3 I4 pg pt pe w0 free3 f3 f3s hotB
  generalize hs4 : ({ s3 with heap := pushCells (s3.heap.push { cls := .type "dict", data := .dict #[] }) scope.names } : Shared) = s4 at I4 ⊢
  have st4 : s4.heap.IsListIter it a 0 := st3.at fun o e => by rw [← hs4]; exact pushCells_keeps _ _ _ _ (Heap.get?_push_of_some _ e)
  have stat : ∀ {τ : L2.St} {G : Hp} {s' : Shared}, Inv (X.blk s3 H3 scope ce [it]) [] τ G s' → G it = none → FpOk (X.blk s3 H3 scope ce [it]) [] G it := fun {τ G s'} J hn =>
    ⟨hn, (J.ok.exf it (by simp)).1, J.ok.exfs it (by simp), .inl (by simp), fun x c e => (J.ok.exf it (by simp)).2 x c e, fun p hp => absurd (show p ∈ ([] : List (Addr × Obj)) ++ [] from hp) (by simp)⟩
  have loop : codeAny (model X.prog X.w) X.A (.compLoop (.ListComp elt [⟨tg, iter, ifs, 0⟩] scope pos) 0 (.ref it) (.ref D) ce) (compPost (model X.prog X.w) X.A X.xe none (EP X pins σ Q) (.ref D) s3.heap.objs.size) s4 := by
    refine compLoop_any (fun n s' => ∃ i G, Inv (X.blk s3 H3 scope ce [it]) [] (L2.wipe σ (own.map (·.2))) G s' ∧ s'.heap.IsListIter it a i ∧ G it = none ∧ W i n G) ?_ m0 ⟨0, H3, I4, st4, free3, w0⟩
    rintro n s5 ⟨i, H5, I5, st5, n5, w5⟩
    rcases turn i n H5 w5 with ⟨⟨xs, hq, hx⟩, fin⟩ | ⟨⟨xs, x0, hq, hx⟩, Nx, hNx, step⟩
    · refine thnF (stopL (X := X.blk s3 H3 scope ce [it]) (E := fun _ _ => False) hotB I5 (stat I5 n5) st5 hq hx) fun r s6 ⟨hr, I6⟩ => ?_
      subst hr
      have I7 : Inv X pins σ H5 s6 := I3.call' (ch := [it]) I6.os I6.base I6.hok I6.bare fun b hb => ⟨(f3s b hb).1.2.2.2.1, (f3s b hb).1.2.1, (f3s b hb).1.2.2.2.2.1, (f3s b hb).1.2.2.2.2.2⟩
      have nC : H5 s3.heap.objs.size = none := by
        have z : H5 ce.locals = none := I6.free
        rw [cL] at z
        exact z
      obtain ⟨mm, hn, _⟩ := I6.loc
      have hn : s6.heap.Ns ce.locals mm := hn
      rw [cL] at hn
      obtain ⟨c0, c1, c2, c3, c4, c5⟩ := I3.fpOk (Nat.le_refl _) nC
      exact ⟨mm, hn, fun h'' sb => ⟨.ref D, H5, I7.turned (t' := s6.toks) (fun b o hb e => (sb.2 b hb).trans e) c0 c1 c3 c4 c5, rfl, fin⟩⟩
    · refine thnF (stepL (X := X.blk s3 H3 scope ce [it]) (tg := tg) (E := fun _ _ => False) I5 (stat I5 n5) st5 hq hx) fun r s6 ⟨u, hr, h6⟩ => ?_
      subst hr
      refine thnF h6 fun _ s7 ⟨I7, r7, st7⟩ => ?_
      have obj7 : ∀ b ∈ [it], ∃ o, s7.heap.get? b = some o ∧ ∀ v, o.data ≠ .cell v := fun b hb => by
        have e : b = it := by simpa using hb
        rw [e]; exact iter_obj st7
      have I7' := I7.pinned (fp := [it]) (fun b hb => by
        have e : b = it := by simpa using hb
        rw [e]; exact stat I7 n5) obj7
      refine thnF (pg.run _ s7 _ H5 x0 u _ I7' r7 (step x0 H5 ⟨rfl, fun ys hy => by
        have hy : SqL (X.blk s3 H3 scope ce [it]).K H5 a ys := hy
        rw [I7.list_inj hy hq]; exact hx⟩)) fun _ s8 ⟨σ8, H8, I8, hw8, q8⟩ => ?_
      refine thnF (pt.run _ s8 σ8 H8 _ I8 q8) fun b s9 ⟨H9, I9, q9⟩ => ?_
      have back : ∀ {s' : Shared} {G : Hp}, Inv (X.blk s3 H3 scope ce [it]) ([] ++ pinsAt [it] s7.heap) σ8 G s' → Nx G → ∃ m, m < n ∧ ∃ i G, Inv (X.blk s3 H3 scope ce [it]) [] (L2.wipe σ (own.map (·.2))) G s' ∧ s'.heap.IsListIter it a i ∧ G it = none ∧ W i m G := fun {s' G} J nx => by
        obtain ⟨m', hm, w'⟩ := hNx G nx
        obtain ⟨o, e, _⟩ := iter_obj st7
        have z := J.pin (it, o) (List.mem_append_right _ (List.mem_append_right _ (mem_pinsAt (by simp) e)))
        refine ⟨m', hm, i + 1, G, (J.unpinned (pins := [])).weak (by rw [← hw8, wipe_length]) (fun j v e => ?_), st7.at fun o' e' => ?_, z.2.1, w'⟩
        · rw [← hw8] at e
          exact (wipe_some e).1
        · rw [e] at e'; cases e'; exact z.1
      cases b with
      | false =>
        simp only [Bool.false_eq_true, if_false] at q9 ⊢
        exact back I9 q9
      | true =>
        simp only [if_true] at q9 ⊢
        refine thnF (pe.run _ s9 σ8 H9 _ I9 q9) fun z s10 ⟨yv, H10, I10, r10, acc, hD10, hz10, nx⟩ => ?_
        exact app_ok (X := X.blk s3 H3 scope ce [it]) I10 hD10 hz10 r10 fun s11 I11 => back I11 nx
  exact codeAny_compStart_list loop (wpAny_pyIter_listiter st4 loop)
end
end DL
end
section -- DL16
set_option maxRecDepth 100000
set_option maxHeartbeats 2000000
/-! DL16: try: .. except x as n: .., by data. -/
namespace DL
open PySem PySem.Spec PyProof.Rows L2 HotX L2H

section
variable {X : Cx} {elt tg iter : Expr} {W : WX} {F : Fr} {g : GDen} {t : TDen} {e ga : Den} {vs : List Nat} {pos : Pos} {σ : L2.St} {H : Hp}
theorem iLst_read {K : PySem.W.Frag} {R : It → Hp → Prop} (hK : F.K = K) (h : tI W F (iLst ga) σ H R) : iList K (tD W F ga) σ H R := by
  refine (seq1I h).mono fun x H1 z => ?_
  obtain ⟨ow, δ1, a, R1, r, z⟩ := z
  split at z
  · rename_i ds q
    rw [q] at r
    obtain ⟨p, xs, e1, h1, na, rs⟩ := r.lstE
    rw [← hK]
    exact ⟨p, e1, ⟨xs, .inl h1⟩, z _ _ R1 Ext.refl (Wk.list h1 na rs)⟩
  · exact z.elim
theorem de_lcH {ifs : List Expr} {scope : Scope} {own : List (Str × Nat)} (hK : F.K = X.K) (hc : HotC X) (hN : X.N.Nodup) (hi : PE X iter (tD W F ga)) (ok : BlkOk X.N X.env.scope scope own) (hvs : own.map (·.2) = vs)
    (hg : ∀ (s : Shared) (H : Hp) (C : Addr) (cl : List (Str × Addr)) (fp : List Addr) (F' : Fr), Sib F F' vs → HotZ (X.blk s H scope (compEnvC scope cl C X.env) fp) → PG (X.blk s H scope (compEnvC scope cl C X.env) fp) tg (tG F' vs g))
    (ht : ∀ (s : Shared) (H : Hp) (C : Addr) (cl : List (Str × Addr)) (fp : List Addr) (F' : Fr), Sib F F' vs → PTs (X.blk s H scope (compEnvC scope cl C X.env) fp) ifs (tT W0 F' t))
    (he : ∀ (s : Shared) (H : Hp) (C : Addr) (cl : List (Str × Addr)) (fp : List Addr) (F' : Fr), Sib F F' vs → PE (X.blk s H scope (compEnvC scope cl C X.env) fp) elt (tD W0 F' e)) (hs : ∀ x, foldedSetIterable iter X.env x = pure x) :
    PE X (.ListComp elt [⟨tg, iter, ifs, 0⟩] scope pos) (tD W F (dLc (iLst ga) vs g t e)) := by
  subst hvs
  refine PE.imp (pe_len (pe_kf (pe_lcH (g := fun v σ H Q => σ.length = X.N.length → KF X.K H → xG F (own.map (·.2)) g v σ H Q) (te := fun σ H Q => xD F (own.map (·.2)) e σ H fun v H' => KF X.K H' → Q v H') hc hN hi ok
    (fun s H C cl fp hz => pg_len (pg_x (fun F' sb => hg s H C cl fp F' sb hz))) (fun s H C cl fp => pts_x (ht s H C cl fp)) (fun s H C cl fp => pe_kf (pe_x (he s H C cl fp))) hs))) fun σ H Q h hl => ?_
  exact iLst_read hK (lc_read hK hl h)
end

/-! ### the caught error -/
/-- what a suite knows of the error that it holds -/
structure Held1 (F : Fr) (cls : Value) (dd : Option Addr) (c : Str) (w : D) (C : Addr) : Prop where
  ex : F.ex c = some C
  cl : cls = .ref C
  dct : ∃ dx v, dd = some dx ∧ F.H0 dx = some (.xd [(("what" : Str), v)]) ∧ (∀ i, F.par i ≠ some dx) ∧ RD F.K (fun a => F.amb a ∨ ∃ i, F.par i = some a) F.H0 v w
/-- what isinstance asks of an own error's class -/
structure ExC2 (K : PySem.W.Frag) (C : Addr) : Prop where
  cl : (PySem.W.clsIn K C).isSome = true
  ga : PySem.W.findIn K (.ref C) "__getattribute__" = some (some (.builtin "BaseException.__getattribute__"))
  gt : PySem.W.findIn K (.ref C) "__getattr__" = some none
  sb : PySem.W.subIn K (.ref C) (.type "BaseException") = some true
  cs : PySem.W.findIn K (.ref C) "__class__" = some (some (.builtin "object.__class__"))
  sp : PySem.W.specialIn K (.builtin "object.__class__") "__get__" = some (some (.builtin "getset_descriptor.__get__"))
  tk : PySem.W.takesIn K (.builtin "object.__class__") = some true
  mr : PySem.W.mroIn K C (.type "object") = some true
  hd : PySem.W.hasDictIn K C = true
  no : PySem.W.findIn K (.ref C) "what" = some none
section
variable {X : Cx} {W : WX} {F : Fr} {ow : Ow} {δ : Sta} {σ : L2.St} {H : Hp} {a C B dd : Addr} {oe : Obj} {pn : List (Addr × Obj)} {c : Str} {w : D} {cls : Value} {d : Option Addr} {i : Nat} {x n : Str} {p p1 p2 pos : Pos}
theorem Rel.still (R : Rel F NoB ow δ σ H) : Ext (fun a => F.amb a ∨ ∃ i, F.par i = some a) F.H0 H := fun b o e n t => R.frame b o e (fun i z => n (.inr ⟨i, z⟩)) t
theorem RD.now {v : V} (R : Rel F NoB ow δ σ H) (r : RD F.K (fun a => F.amb a ∨ ∃ i, F.par i = some a) F.H0 v w) : RD F.K (F.A NoB ow) H v w := by
  have r1 : RD F.K (fun a => (F.amb a ∨ ∃ i, F.par i = some a) ∨ F.A NoB ow a) F.H0 v w := r.avoid fun b k q => by
    rcases q with q | q | q | ⟨i, q⟩
    · exact q
    · exact .inl q
    · exact q.elim
    · rcases (R.fresh i b q).1 with z | z
      · exact .inr ⟨i, z⟩
      · obtain ⟨o, e, t⟩ := R.tracked (.inr (.inr ⟨i, q⟩))
        exact absurd rfl (known_ne k z (kf_none R.kf e))
  exact (r1.ext (R.still.weak fun b q => .inl q)).avoid fun b _ q => .inr q
/-- isinstance(e, B), e the exception that the suite holds -/
def rIsD (K : PySem.W.Frag) (a B dd : Addr) (k : Bool) : List V → Hp → VK → Prop := fun xs H Q => xs = [.ref a, .ref B] ∧ (∃ fs, H dd = some (.xd fs)) ∧ Q (.bl k) H
theorem call_isD {k : Bool} (T : ExC2 X.K C) (hz : Zc (.ref C) (some dd) oe) (hf : ∃ vs, oe.data = .fields vs) (hk : PySem.W.kitOne X.K (.ref C) (.ref B) = some k) : CallR (X.suite a ((a, oe) :: pn)) (.builtin "isinstance") (rIsD X.K a B dd k) := by
  intro pins s σ H xs us Q I r h
  obtain ⟨ex, ⟨fs, hd⟩, q⟩ := h
  subst ex
  cases r with
  | cons rx rr =>
    cases rr with
    | cons rt rr =>
      cases rr
      cases rx
      cases rt
      obtain ⟨hget, _⟩ := I.pin (a, oe) (List.mem_append.mpr (.inl List.mem_cons_self))
      obtain ⟨vs, hv⟩ := hf
      have ho : ObjOk X.prog X.w H s.heap dd (.xd fs) := I.hok dd _ hd
      obtain ⟨mA, hns, _⟩ := ho
      obtain ⟨od, go, _⟩ := lookIn_ns hns
      have J : PySem.W.InstAt s.heap a oe C (some od) := ⟨hget, hz.1, by unfold PySem.W.notCls; rw [hv] <;> rfl, by rw [hz.2]; exact go⟩
      exact PySem.W.kia_one (PySem.W.kitx_exc (od := some od) T.cl T.ga T.gt T.sb T.cs T.sp T.tk T.mr) I.kIn J hk (fun z => nomatch z) fun tk => ⟨.bl k, H, I.kept (t' := tk) fun _ _ z => z, rfl, q⟩
theorem de_isE {k : Bool} {f : Str} (hl : Held1 F cls d c w C) (hK : F.K = X.K) (T : ExC2 X.K C) (hz : Zc cls d oe) (hf : ∃ vs, oe.data = .fields vs) (hk : PySem.W.kitOne X.K (.ref C) (.ref B) = some k) (hraw : F.raw i = some (.ref a))
    (hg : Gl X f) (hm : X.mg f = none) (hv : bootBuiltins f = some (.builtin "isinstance")) (hnf : f ≠ "__name__") (hdf : (f == ("__debug__" : Str)) = false)
    (hN : X.N[i]? = some n) (hvn : Vis X.env.scope n) (hdn : (n == ("__debug__" : Str)) = false) (hcn : (n == ("__classdict__" : Str)) = false) (hgx : Gl X x) (hmx : X.mg x = some (.ref B)) (hdx : (x == ("__debug__" : Str)) = false)
    (hs : NoStar (.Name n p1)) (hs2 : NoStar (.Name x p2)) :
    PE (X.suite a ((a, oe) :: pn)) (.Call (.Name f p) [.Name n p1, .Name x p2] [] pos) (tD W F (dC (.bool k))) := by
  have e := hl.cl
  subst e
  obtain ⟨dx, v, ed, hx, np, r⟩ := hl.dct
  subst ed
  refine PE.imp (pe_callB (X := X.suite a ((a, oe) :: pn)) (call_isD T hz hf hk) hg hm hv (pa_cons (pe_var (X := X.suite a ((a, oe) :: pn)) (i := i) hN hvn hdn hcn) (pa_cons (pe_glob (X := X.suite a ((a, oe) :: pn)) (v := .ref B) hgx hmx rfl hdx) pa_nil (hs2 _ _)) (hs _ _)) hnf hdf (hs _ _) rfl) fun σ H Q h => ?_
  obtain ⟨ow, δ, R, h⟩ := h
  exact ⟨.ref a, R.raw i _ hraw, rfl, ⟨_, R.frame dx _ hx np nt_xd⟩, h _ H R Ext.refl (.bl k) (fun z => nomatch z)⟩
theorem de_what (hl : Held1 F cls d c w C) (hK : F.K = X.K) (T : ExC2 X.K C) (hz : Zc cls d oe) (hf : ∃ vs, oe.data = .fields vs) (hraw : F.raw i = some (.ref a))
    (hN : X.N[i]? = some n) (hvn : Vis X.env.scope n) (hdn : (n == ("__debug__" : Str)) = false) (hcn : (n == ("__classdict__" : Str)) = false)
    (hb : attributeBase (.Name n p1) "what" (X.suite a ((a, oe) :: pn)).env (eval (.Name n p1) (X.suite a ((a, oe) :: pn)).env) = eval (.Name n p1) (X.suite a ((a, oe) :: pn)).env) :
    PE (X.suite a ((a, oe) :: pn)) (.Attribute (.Name n p1) "what" pos) (tD W F (dC w)) := by
  have T2 : XfC X.K C := ⟨T.ga, T.gt, T.sb, T.hd⟩
  refine PE.imp (pe_xf (a := a) T2 T.no hz hf (pe_var (X := X.suite a ((a, oe) :: pn)) (i := i) hN hvn hdn hcn) hb) fun σ H Q h => ?_
  obtain ⟨ow, δ, R, h⟩ := h
  obtain ⟨dx, v, ed, hx, np, r⟩ := hl.dct
  exact ⟨.ref a, R.raw i _ hraw, rfl, hl.cl, dx, _, v, ed, R.frame dx _ hx np nt_xd, by simp [List.lookup], h _ H R Ext.refl (RD.now R r) (fun z => nomatch z)⟩
end

/-! ### try -/
/-- the errors of the classes isB are handled by h, which returns; i the slot of the error's name, vs the slots that h stores into -/
def sTry (i : Nat) (vs : List Nat) (isB : Str → Bool) (g : SDen) (h : Str → D → SDen) : SDen := fun δ => match g δ with
  | .exc c w δ1 => if isB c = true then (if offs δ1 (i :: vs) = true ∧ i < δ1.length then match h c w (δ1.set i .un) with
      | .rt a δ2 => .rt a δ2
      | _ => .stuck
    else .stuck) else .exc c w δ1
  | r => r
def Fr.held (F : Fr) (H : Hp) (ow : Ow) (i : Nat) (a : Addr) : Fr := { F.at H ow NoB with raw := fun j => if j = i then some (.ref a) else none }
section
variable {F : Fr} {ow ow2 : Ow} {δ δ2 : Sta} {σ σ2 : L2.St} {H H2 : Hp} {i : Nat} {a : Addr} {vs : List Nat}
theorem Rel.hold (R : Rel F NoB ow δ σ H) (hi : i < δ.length) (ho : ow i = none) : Rel (F.held H ow i a) NoB ow (δ.set i .un) (σ.set i (some (.ref a))) H := by
  have R' := R.enter
  refine ⟨by rw [List.length_set, List.length_set]; exact R.len, fun j s q => ?_, fun j hj => R.out j (by rw [List.length_set] at hj; exact hj), R.inj, R'.frame, R'.fresh, R'.par, R'.amb, R'.bk, R'.kf, R'.tabs, fun j v q => ?_⟩
  · by_cases hj : j = i
    · subst hj
      rw [List.getElem?_set_self hi] at q
      cases q
      exact ho
    · rw [List.getElem?_set_ne (fun z => hj z.symm)] at q
      have z := R'.slot j s q
      have e : (σ.set i (some (V.ref a)))[j]? = σ[j]? := List.getElem?_set_ne (fun z => hj z.symm)
      cases s with
      | un => exact z
      | val d => obtain ⟨z1, w, z2, z3⟩ := z; exact ⟨z1, w, e.trans z2, z3⟩
      | own u => obtain ⟨b, z1, z2, z3⟩ := z; exact ⟨b, z1, e.trans z2, z3⟩
  · have q : (if j = i then some (V.ref a) else none) = some v := q
    by_cases hj : j = i
    · rw [if_pos hj] at q
      cases q
      rw [hj]
      exact List.getElem?_set_self (by rw [R.len]; exact hi)
    · rw [if_neg hj] at q; cases q
theorem Rel.loose (R : Rel F NoB ow δ σ H) (R2 : Rel (F.held H ow i a) NoB ow2 δ2 σ2 H2) (hr : ∀ j, F.raw j = none) : Rel F NoB ow2 δ2 σ2 H2 := by
  have R3 : Rel (F.at H ow NoB) NoB ow2 δ2 σ2 H2 := ⟨R2.len, R2.slot, R2.out, R2.inj, R2.frame, R2.fresh, R2.par, R2.amb, R2.bk, R2.kf, R2.tabs, fun _ _ q => nomatch q⟩
  exact R.exit R3 fun j v q => by rw [hr j] at q; cases q
theorem RetV.loose {v : V} {z : EV} (R : Rel F NoB ow δ σ H) (r : RetV (F.held H ow i a) ow2 δ2 σ2 H2 v z) : RetV F ow2 δ2 σ2 H2 v z := by
  have sub : ∀ b, (F.amb b ∨ ∃ i, F.par i = some b) → ((F.held H ow i a).amb b ∨ ∃ j, (F.held H ow i a).par j = some b) := fun b q => by
    rcases q with q | ⟨j, q⟩
    · exact .inl (.inl q)
    · exact .inr ⟨j, R.par j b q⟩
  have sub2 : ∀ p b, (b = p ∨ F.amb b ∨ ∃ i, F.par i = some b) → (b = p ∨ (F.held H ow i a).amb b ∨ ∃ j, (F.held H ow i a).par j = some b) := fun p b q => by
    rcases q with q | q
    · exact .inl q
    · exact .inr (sub b q)
  refine ⟨r.1.avoid fun b _ q => sub b q, fun q => ?_⟩
  obtain ⟨p, ws, ds, e1, e2, e3, e4, e5, e6, e7⟩ := r.2 q
  refine ⟨p, ws, ds, e1, e2, e3, fun o w t => ?_, fun w => e5 (.inl w), e6.avoid fun b _ q => sub2 p b q, fun j o y hj ho => (e7 j o y (R.par j y hj) ho).avoid fun b _ q => sub2 p b q⟩
  by_cases hp : ∃ j, F.par j = some p
  · obtain ⟨j, hj⟩ := hp
    obtain ⟨o', w1, w2⟩ := R.tracked (.inr (.inr ⟨j, R.par j p hj⟩))
    exact e4 o' w1 w2
  · exact e4 o (R.frame p o w (fun j z => hp ⟨j, z⟩) t) t
end
section
variable {X : Cx} {W : WX} {F : Fr} {g : SDen} {h : Str → D → SDen} {i : Nat} {vs : List Nat} {isB : Str → Bool} {body suite : List Stmt} {b0 : Stmt} {x n : Str} {cv : Value} {np pos pos' : Pos}
theorem ds_try (hK : F.K = X.K) (hr : ∀ j, F.raw j = none) (hs : X.stack = X.env :: X.outer) (hf : X.env.frame = some X.env.locals) (hN : X.N.Nodup) (hi : X.N[i]? = some n) (hln : X.env.kindOf n = some .local) (hc : Names X x cv) (tk : L2N.Takes X W)
    (hx : ∀ c C, F.ex c = some C → PySem.W.exmOne X.K (.ref C) cv = some (isB c))
    (hb : ∀ (W : WX) (pn : List (Addr × Obj)) (xe : Value → Shared → Prop), L2N.Takes (X.tr pn xe) W → PassesOwn (model X.prog X.w) X.A X.env xe → PSs (X.tr pn xe) body (tS W F g))
    (hsu : ∀ (a : Addr) (oe : Obj) (cls : Value) (d : Option Addr) (pn : List (Addr × Obj)) (F' : Fr) (c : Str) (w : D) (C : Addr), L2N.Zn cls d oe → (∃ vs, oe.data = .fields vs) → HotC (X.suite a ((a, oe) :: pn)) → F'.gx = F.gx → F'.raw i = some (.ref a) → (∀ j ∈ vs, j ≠ i → F'.fre j) → Held1 F' cls d c w C →
      PSs (X.suite a ((a, oe) :: pn)) (b0 :: suite) (tS W0 F' (h c w))) :
    PS X (.Try body [.ExceptHandler (some (.Name x np)) (some n) (b0 :: suite) pos'] [] [] pos) (tS W F (sTry i vs isB g h)) := by
  refine PS.imp (ps_len (L2N.ps_try_as (tb := fun W => tS W F g) (ts := fun a cls d E σ H => ∃ (F' : Fr) (c : Str) (w : D) (C : Addr), F'.gx = F.gx ∧ F'.raw i = some (.ref a) ∧ (∀ j ∈ vs, j ≠ i → F'.fre j) ∧ Held1 F' cls d c w C ∧ tS W0 F' (h c w) E σ H) hs hf hN hi hln hc tk hb
    fun a oe cls d pn hz hfs => ⟨fun pins s σ H E I ⟨F', c, w, C, h1, h2, h3, h4, q⟩ => ?_⟩)) fun E σ H q hl _ => ?_
  · obtain ⟨fv, hfv⟩ := hfs
    exact (hsu a oe cls d pn F' c w C hz ⟨fv, hfv⟩ ⟨(a, oe), ⟨rfl, fv, hfv, hz.2.2 fv hfv⟩, List.mem_cons_self⟩ h1 h2 h3 h4).run pins s σ H E I q
  · obtain ⟨ow, δ, R, z⟩ := q
    refine ⟨ow, δ, R, ?_⟩
    unfold sTry at z
    cases q : g δ with
    | nx δ1 => rw [q] at z; exact z
    | rt a δ1 => rw [q] at z; exact z
    | bk δ1 => rw [q] at z; exact z
    | ct δ1 => rw [q] at z; exact z
    | stuck => rw [q] at z; exact z
    | exc c w δ1 =>
    rw [q] at z
    intro cls dd ow1 σ1 H1 R1 xr
    obtain ⟨C, dx, v, e1, e2, e3, e4, e5, e6⟩ := xr
    dsimp only at z
    refine ⟨isB c, by rw [e2]; exact hx c C e1, fun hbt a ha => ?_, fun hbf => ?_⟩
    · rw [if_pos hbt] at z
      by_cases ho : offs δ1 (i :: vs) = true ∧ i < δ1.length
      case neg => rw [if_neg ho] at z; exact z.elim
      rw [if_pos ho] at z
      have hol := offs_ow R1 ho.1
      have hlt := ho.2
      refine ⟨F.held H1 ow1 i a, c, w, C, rfl, if_pos rfl, fun j hj hne => ⟨hol j (List.mem_cons_of_mem _ hj), if_neg hne⟩, ⟨e1, e2, dx, v, e3, e4, fun j z => e5 (.inr (.inr ⟨j, z⟩)), e6.avoid fun b _ q => ?_⟩, ow1, δ1.set i .un, R1.hold hlt (hol i List.mem_cons_self), ?_⟩
      · rcases q with (q | q) | ⟨j, q⟩
        · exact .inl q
        · exact q.elim
        · exact .inr (.inr ⟨j, q⟩)
      · cases q2 : h c w (δ1.set i .un) with
        | rt b δ2 =>
          rw [q2] at z
          exact fun v2 ow2 σ2 H2 R2 r2 => z v2 ow2 σ2 H2 (R1.loose R2 hr) (RetV.loose R1 r2)
        | nx _ => rw [q2] at z; exact z.elim
        | bk _ => rw [q2] at z; exact z.elim
        | ct _ => rw [q2] at z; exact z.elim
        | exc _ _ _ => rw [q2] at z; exact z.elim
        | stuck => rw [q2] at z; exact z.elim
    · rw [if_neg (by rw [hbf]; exact Bool.false_ne_true)] at z
      exact z cls dd ow1 σ1 H1 R1 ⟨C, dx, v, e1, e2, e3, e4, e5, e6⟩
end
end DL
end
section -- DL17
set_option maxRecDepth 100000
set_option maxHeartbeats 2000000
/-! DL17: f(lambda: e), f's body try: return (told, x()) / except C as n: .. return .. -/
namespace DL
open PySem PySem.Spec PyProof.Rows L2 HotX L2H LamX

/-- the context of a lambda's body: what leaves it has no context -/
def lamN (X : Cx) (A : Around) (outer : List Env) (s : Shared) (H : Hp) (E : XK) (scope : Scope) (f c' : Addr) : Cx :=
  { lamCx X A outer s H E scope f c' with
    pn := [] ++ []
    xe := fun e s' => wpAny (model X.prog X.w) (A.deeper (lamEnv X scope s.heap.objs.size f c')) (leaving (lamEnv X scope s.heap.objs.size f c') e) (fun _ s'' => L2N.CX X.prog X.w outer H s E e s'') (fun e' s'' => L2N.CX X.prog X.w outer H s E e' s'') s' }
theorem lamN_takes {X : Cx} {A : Around} {outer : List Env} {s : Shared} {H : Hp} {E : XK} {scope : Scope} {f c' : Addr} : L2N.Takes (lamN X A outer s H E scope f c') (fun cls d _ H => E cls d H) :=
  L2N.takes_of (X := lamN X A outer s H E scope f c') rfl rfl rfl rfl
section
variable {X : Cx} {pins : List (Addr × Obj)} {σ : L2.St} {H : Hp} {s : Shared}
/-- x(), in the def that got the lambda -/
theorem actN {CXg : CXT} {Eg : XK} {Ng : List Str} {qg : Str} {sg : Scope} {g f c' : Addr} {cdg pm ctv : Value} {params : Arguments} {body : Expr} {scope : Scope} {k : Nat} {a : Str} {pn : List (Addr × Obj)} {xe : Value → Shared → Prop} {W : WX} {tb : XK → TE} {p1 p2 : Pos}
    (J : Inv X pins σ H s) (L : LamS X.env.scope scope) (at_ : s.heap.get? f = some (PySem.W.kla_obj "<lambda>" (X.env.qual ++ "<lambda>") params body scope (cloFrom X.env.cells scope.names []) pm c' ctv)) (nf : H f = none) (ns : f ∉ frs X.stack)
    (bind : bindArgs (PySem.W.kla_fn "<lambda>" (X.env.qual ++ "<lambda>") params body scope (cloFrom X.env.cells scope.names []) pm (.ref c') ctv) ⟨[], []⟩ = pure [])
    (tk : L2N.Takes ((cxOf CXg X.prog X.w X.K X.mg X.base Ng qg sg g cdg X.A X.stack s H Eg).tr pn xe) W) (room : Room (k + 1) (X.A.deeper (envOfC qg sg s.heap.objs.size g cdg)))
    (walk : ∀ (A : Around) (outer : List Env) (s : Shared) (H : Hp) (E : XK), Room k (A.deeper (lamEnv X scope s.heap.objs.size f c')) → PE (lamN X A outer s H E scope f c') body (tb E))
    (hN : Ng[0]? = some a) (hv : Vis sg a) (hd : (a == ("__debug__" : Str)) = false) (hcd : (a == ("__classdict__" : Str)) = false) :
    PE ((cxOf CXg X.prog X.w X.K X.mg X.base Ng qg sg g cdg X.A X.stack s H Eg).tr pn xe) (.Call (.Name a p1) [] [] p2)
      (fun τ G Q => τ[0]? = some (some (.ref f)) ∧ G c' = some (CodeO c' (X.env.qual ++ "<lambda>")) ∧ tb (WE W τ) σ G Q) := by
  refine ⟨fun pz sz τ G Q JZ ⟨slot, code, want⟩ => ?_⟩
  refine wpAny_Call_Name_kw (thn ((pe_var (pos := p1) (i := 0) hN hv hd hcd).run pz sz τ G (fun v G1 => v = .ref f ∧ G1 = G) JZ ⟨.ref f, slot, rfl, rfl⟩) fun u s1 ⟨v, G1, J1, rel, ev, eG⟩ => ?_)
  subst ev
  rw [eG] at J1
  obtain rfl : u = Value.ref f := rel
  have at1 : s1.heap.get? f = some (PySem.W.kla_obj "<lambda>" (X.env.qual ++ "<lambda>") params body scope (cloFrom X.env.cells scope.names []) pm c' ctv) := J1.base.keep f _ at_ nf ns (fun z => nomatch (show f ∈ ([] : List Addr) from z))
  refine PySem.W.callWith_F0 ⟨_, _, _, _, at1⟩ ?_
  obtain ⟨⟨oc, vs, t, hoc, hdc, hvc⟩, _, _⟩ := J1.hok c' _ code
  have inner : codeAny (model X.prog X.w) (X.A.deeper (envOfC qg sg s.heap.objs.size g cdg)) (.call (.ref f) ⟨[], []⟩) (CR (L2N.CX X.prog X.w) (envOfC qg sg s.heap.objs.size g cdg :: X.stack) X.prog X.w G s1 Q (WE W τ)) s1 := by
    refine PySem.W.kla_callFunE room.depth at1 rfl L.co L.gen rfl ⟨c', oc, vs, t, rfl, hoc, hdc, hvc⟩ ?_
    rw [bind]
    refine wpAny_pure (wpAny_newFunctionEnv (fun y hy => (L.own y hy).2) (fun y hy => absurd hy (by simp)) (fun hp fresh same => ⟨J1.nolimit.fresh _ same, ?_⟩) L.kind)
    show codeAny _ _ (.expr body (lamEnv X scope s1.heap.objs.size f c')) _ _
    have grow : ∀ b o, s1.heap.get? b = some o → hp.get? b = some o := fun b o e => same.extBut b o (Nat.ne_of_lt (Heap.lt_size e)) (Heap.get?_push_of_some _ e)
    have J2 : Inv (lamCx X (X.A.deeper (envOfC qg sg s.heap.objs.size g cdg)) (envOfC qg sg s.heap.objs.size g cdg :: X.stack) s1 G (WE W τ) scope f c') [] σ G { s1 with heap := hp, toks := s1.toks + ([] : List (Str × Value)).length } :=
      lam_start2 J L J1.env0 room.hd J1.base fresh grow
    have J3 : Inv (lamN X (X.A.deeper (envOfC qg sg s.heap.objs.size g cdg)) (envOfC qg sg s.heap.objs.size g cdg :: X.stack) s1 G (WE W τ) scope f c') [] σ G { s1 with heap := hp, toks := s1.toks + ([] : List (Str × Value)).length } := J2.toTry _
    refine PySem.W.kla_codeExpr (wpAny_mono ((walk _ _ s1 G (WE W τ) (room.deeper _)).run [] _ _ G Q J3 want) (fun v s' got => ?_) fun e s' got => got)
    obtain ⟨w', G', J', rv, q⟩ := got
    exact ⟨w', G', J'.os, J'.bare, J'.base, J'.hok, rv, q⟩
  refine wpAny_call (codeAny_mono inner fun r s' got => ?_)
  cases r with
  | error e => exact L2N.passAt tk τ pz G s1 e s' J1 got
  | ok fl =>
    cases fl with
    | ret u => exact J1.after got
    | next => exact got.elim
    | brk => exact got.elim
    | cont => exact got.elim
end

/-! ### by data -/
/-- n: how many names the def has; gs: its except suite; isB: the errors that it catches -/
def dHeard (told : Str) (n : Nat) (isB : Str → Bool) (gs : Str → D → SDen) (gb : Den) : Den := fun δ => match gb δ with
  | .ok a δ1 => .ok (.tuple [.str told, a.1], false) δ1
  | .exc c w δ1 => if isB c = true then match gs c w (List.replicate n .un) with
      | .rt b _ => .ok (b.1, false) δ1
      | _ => .stuck
    else .stuck
  | .stuck => .stuck
theorem takesN0 {X : Cx} : L2N.Takes X W0 := fun _ _ x => by
  obtain ⟨_, _, _, _, _, _, _, _, _, _, _, _, _, _, _, _, z⟩ := x
  exact z.elim
/-- the def that gets the lambda: try: return (told, a()) / except xe as m: suite; n names -/
inductive HeardOk (P : Program) (wd : World) (K : PySem.W.Frag) (mg : Str → Option Value) (base : Heap) (G : Gx) (told : Str) (isB : Str → Bool) (gs : Str → D → SDen) (x : Str) (n : Nat) : Prop
  | mk {g : Addr} {a xe m : Str} {Ng : List Str} {pg : Arguments} {sg : Scope} {dV kV doc pm cdv ct oc cv : Value} {an od : Option Addr} {osl : Array (Option Value)} {i j kt : Nat} {b0 : Stmt} {suite : List Stmt} {p1 p2 p3 p4 p5 p6 p8 pt : Pos}
    (gx : mg x = some (.ref g)) (kp : PySem.W.keepIn K (.ref g) = true)
    (lk : K.lookup g = some ⟨oc, od, .func (PySem.W.fnOf x x pg [.Try [.Return (some (.Tuple [.Constant (.str told) j p4, .Call (.Name a p1) [] [] p2] kt pt)) p3] [.ExceptHandler (some (.Name xe p5)) (some m) (b0 :: suite) p6] [] [] p8] sg dV kV doc pm an cdv ct), osl⟩)
    (cd : PySem.W.codeIn K cdv x = true) (bd : L2.Binds K (PySem.W.fnOf x x pg [.Try [.Return (some (.Tuple [.Constant (.str told) j p4, .Call (.Name a p1) [] [] p2] kt pt)) p3] [.ExceptHandler (some (.Name xe p5)) (some m) (b0 :: suite) p6] [] [] p8] sg dV kV doc pm an cdv ct) [a] [])
    (sc : FnScope Ng [a] sg) (len : Ng.length = n) (n0 : Ng[0]? = some a) (v0 : Vis sg a) (da : (a == ("__debug__" : Str)) = false) (ca : (a == ("__classdict__" : Str)) = false)
    (ni : Ng[i]? = some m) (i0 : i ≠ 0) (lm : sg.names.lookup m = some .local) (gl : sg.names.lookup xe = some .globalImplicit) (dx : (xe == ("__debug__" : Str)) = false) (gv : mg xe = some cv) (ex : ∀ c C, G.ex c = some C → PySem.W.exmOne K (.ref C) cv = some (isB c))
    (su : ∀ (A : Around) (outer : List Env) (s : Shared) (H : Hp) (E : XK) (b : Addr) (oe : Obj) (cls : Value) (d : Option Addr) (pn : List (Addr × Obj)) (F' : Fr) (c : Str) (w : D) (C : Addr), L2N.Zn cls d oe → (∃ vs, oe.data = .fields vs) →
      HotC ((cxOf (L2N.CX P wd) P wd K mg base Ng x sg g cdv A outer s H E).suite b ((b, oe) :: pn)) → F'.gx = G → F'.raw i = some (.ref b) → (∀ j, j ≠ i → F'.fre j) → Held1 F' cls d c w C →
      PSs ((cxOf (L2N.CX P wd) P wd K mg base Ng x sg g cdv A outer s H E).suite b ((b, oe) :: pn)) (b0 :: suite) (tS W0 F' (gs c w))) : HeardOk P wd K mg base G told isB gs x n
/-- the frame of the suite: nothing of the callers' own may be touched -/
def Fr.calm (F : Fr) (H : Hp) (ow : Ow) (i : Nat) (b : Addr) : Fr := ⟨F.K, H, F.T, fun _ => none, F.A NoB ow, F.ex, fun j => if j = i then some (.ref b) else none⟩
section
variable {X : Cx} {W : WX} {F : Fr} {gb : Den} {gs : Str → D → SDen} {isB : Str → Bool} {told x : Str} {n k : Nat} {c P : Addr} {params : Arguments} {body : Expr} {scope : Scope} {p lpos pos : Pos}
theorem Rel.grow {ow : Ow} {δ : Sta} {σ : L2.St} {H H1 : Hp} {A : Addr → Prop} (R : Rel F NoB ow δ σ H) (e : Ext A H H1) (hA : ∀ a, A a → ¬ F.A NoB ow a ∧ ∀ o, H a = some o → ¬ NT o) (kf : KF F.K H1) (tb : LamX.Tabs F.T H1) : Rel F NoB ow δ σ H1 := by
  refine R.go (fun b o q n t => e b o q (fun z => (hA b z).2 o q t) t) (fun a q => ?_) kf tb
  obtain ⟨o, w1, w2⟩ := R.tracked q
  rw [w1]
  exact e a o w1 (fun z => (hA a z).1 q) w2
theorem de_heard (hK : F.K = X.K) (hd : HeardOk X.prog X.w X.K X.mg X.base F.gx told isB gs x n) (hg : Gl X x) (hdb : (x == ("__debug__" : Str)) = false)
    (TB : TabB X.base X.mg c P) (hcode : X.env.code = .ref c) (hmT : (P, X.env.qual ++ "<lambda>") ∈ F.T) (hu : ∀ p ∈ F.T, p.1 = P → p.2 = X.env.qual ++ "<lambda>") (hr : Room (k + 2) X.A) (L : LamS X.env.scope scope) (hdef : defaultsOf params X.env = ([], []))
    (hbind : ∀ (q : Str) (cl : List (Str × Addr)) (pm cv ctv : Value), bindArgs (PySem.W.kla_fn "<lambda>" q params body scope cl pm cv ctv) ⟨[], []⟩ = pure [])
    (walk : ∀ (A : Around) (outer : List Env) (s : Shared) (H : Hp) (E : XK) (f c' : Addr), Room k (A.deeper (lamEnv X scope s.heap.objs.size f c')) → PE (lamN X A outer s H E scope f c') body (tD (fun cls d _ H => E cls d H) F gb)) :
    PE X (.Call (.Name x p) [.Lambda params body scope lpos] [] pos) (tD W F (dHeard told n isB gs gb)) := by
  obtain ⟨gx, kp, lk, cd, bd, sc, len, n0, v0, da, ca, ni, i0, lm, gl, dx, gv, ex, su⟩ := hd
  rename_i g a xe m Ng pg sg dV kV doc pm cdv ct oc cv an od osl i j kt b0 suite p1 p2 p3 p4 p5 p6 p8 pt
  refine ⟨fun pins s σ H Q I h => ?_⟩
  obtain ⟨ow, δ, R, h⟩ := h
  refine wpAny_Call_Name_kw (ld_glob I hg gx ?_ hdb)
  refine PySem.W.callWith_K (h₀ := X.base) I.ok.mod.kin kp ?_ (by rfl) (by rfl)
  show wpAny _ _ (spliced ((false, eval (.Lambda params body scope lpos) X.env) :: backTo pos (starEach [] X.env))) _ _ s
  refine Calls.spliced_cons (lam_make2 I TB hcode hmT hu R.tabs hdef (L.has I.ok) fun f c' pm' ctv H1 s' I1 eN T1 hf hfn hfr hco => ?_)
  refine Calls.spliced_nil ⟨I1.kIn, ?_⟩
  have kf1 := inv_kf I1
  have R1 : Rel F NoB ow δ σ H1 := R.grow (A := NoB) (Ext.extN eN) (fun a z => z.elim) (by rw [hK]; exact kf1) T1
  have h1 : PostE W F ow σ H1 Q (dHeard told n isB gs gb δ) := PostE.go R1 (Ext.extN eN) h
  have rc : codeAny (model X.prog X.w) X.A (.call (.ref g) ⟨[.ref f], []⟩) (CR (L2N.CX X.prog X.w) X.stack X.prog X.w H1 s' Q (fun _ _ _ => False)) s' := by
    refine run_ofS (N := Ng) (ps := [a]) (us := [.ref f]) (vs := [.ref f]) lk cd sc hr I1.env0 (bd s' [.ref f] I1.kIn rfl) (.cons rfl .nil) rfl fun hr' => ?_
    have hgl : Gl (cxOf (L2N.CX X.prog X.w) X.prog X.w X.K X.mg X.base Ng x sg g cdv X.A X.stack s' H1 (fun _ _ _ => False)) xe := gl
    have sl : ∀ {τ : L2.St}, τ = L2.start Ng [.ref f] → τ[0]? = some (some (V.ref f)) ∧ τ.length = n ∧ i < n := fun {τ} e => by
      have h0 : 0 < Ng.length := lt_of_get n0
      rw [e]
      unfold L2.start
      refine ⟨rfl, ?_, by rw [← len]; exact lt_of_get ni⟩
      simp only [List.map, List.length_append, List.length_cons, List.length_nil, List.length_replicate]
      omega
    refine ⟨_, pss_one (L2N.ps_try_as (X := cxOf (L2N.CX X.prog X.w) X.prog X.w X.K X.mg X.base Ng x sg g cdv X.A X.stack s' H1 (fun _ _ _ => False)) (c := cv) (i := i) (Wout := W0)
      (tb := fun W2 D τ G => τ = L2.start Ng [.ref f] ∧ G c' = some (CodeO c' (X.env.qual ++ "<lambda>")) ∧ tD (fun cls d _ H => W2 cls d τ H) F gb σ G fun v G2 => ∀ q, G2 q = none → KF X.K (upd G2 q (.tup [.str told, v])) → D.rt (.ref q) (upd G2 q (.tup [.str told, v])))
      (ts := fun b cls d E τ G => ∃ (F' : Fr) (c : Str) (w : D) (C : Addr), F'.gx = F.gx ∧ F'.raw i = some (.ref b) ∧ (∀ j, j ≠ i → F'.fre j) ∧ Held1 F' cls d c w C ∧ tS W0 F' (gs c w) E τ G)
      rfl rfl sc.nd ni lm ⟨hgl, dx, .inl gv⟩ takesN0 (fun W2 pn xe2 tk _ => ?_) (fun b oe cls d pn hz hfs => ?_)), ?_⟩
    · refine ⟨fun pz sz τ G D JZ want => ?_⟩
      obtain ⟨w1, w2, w3⟩ := want
      have act := actN (p1 := p1) (p2 := p2) (k := k) (tb := fun E => tD (fun cls d _ H => E cls d H) F gb) I1 L hf hfn hfr (hbind _ _ _ _ _) tk hr' (fun A outer s H E hr2 => walk A outer s H E f c' hr2) n0 v0 da ca
      have tup := pe_kf (pe_tup (x1 := kt) (pos := pt) (pa_cons (pe_str (x := told) (j := j) (pos := p4)) (pa_cons act pa_nil rfl) rfl))
      refine (pss_one (ps_ret (pos := p3) tup)).run pz sz τ G D JZ ⟨(sl w1).1, w2, w3.mono fun v G2 z => ⟨by show 2 ≤ sizeLine; decide, fun q nq kf => z q nq kf⟩⟩
    · refine ⟨fun pz sz τ G D JZ want => ?_⟩
      obtain ⟨F', c, w, C, w1, w2, w3, w4, w5⟩ := want
      obtain ⟨fv, hfv⟩ := hfs
      exact (su X.A X.stack s' H1 (fun _ _ _ => False) b oe cls d pn F' c w C hz ⟨fv, hfv⟩ ⟨(b, oe), ⟨rfl, fv, hfv, hz.2.2 fv hfv⟩, List.mem_cons_self⟩ w1 w2 w3 w4).run pz sz τ G D JZ w5
    · refine ⟨rfl, hco, ow, δ, R1, ?_⟩
      have S := sl (τ := L2.start Ng [.ref f]) rfl
      unfold dHeard at h1
      cases q : gb δ with
      | stuck => rw [q] at h1; exact h1
      | ok v δ1 =>
        rw [q] at h1
        intro y G2 R2 e2 r2 _ q2 nq kf
        rw [← hK] at kf
        exact PostE.tup (PostE.go R2 e2 h1) R2 (.cons (.str told) (.cons r2 .nil)) nq kf
      | exc c w δ1 =>
        rw [q] at h1
        intro cls dd G2 R2 e2 xr
        obtain ⟨C, dd2, y, x1, x2, x3, x4, x5, x6⟩ := xr
        dsimp only at h1
        by_cases hb : isB c = true
        case neg => rw [if_neg hb] at h1; exact h1.elim
        rw [if_pos hb] at h1
        refine ⟨true, by rw [x2, ← hb]; exact ex c C x1, fun _ b nb => ?_, fun z => nomatch z⟩
        have RF : Rel (F.calm G2 ow i b) NoB (fun _ => none) (List.replicate n .un) ((L2.start Ng [.ref f]).set i (some (.ref b))) G2 := by
          refine ⟨by rw [List.length_set, List.length_replicate]; exact S.2.1, fun j s q => ?_, fun _ _ => rfl, (fun _ _ _ z => nomatch z), fun b o e _ _ => e, (fun _ _ z => nomatch z), (fun _ _ z => nomatch z), fun a z => ⟨R2.tracked z, (fun _ y => nomatch y)⟩, fun _ z => z.elim, R2.kf, R2.tabs, fun j v z => ?_⟩
          · rw [List.getElem?_replicate] at q
            split at q
            · cases q; rfl
            · cases q
          · have z : (if j = i then some (V.ref b) else none) = some v := z
            by_cases hj : j = i
            · rw [if_pos hj] at z
              cases z
              rw [hj]
              exact List.getElem?_set_self (by rw [S.2.1]; exact S.2.2)
            · rw [if_neg hj] at z; cases z
        refine ⟨F.calm G2 ow i b, c, w, C, rfl, if_pos rfl, fun j hj => ⟨rfl, if_neg hj⟩, ⟨x1, x2, dd2, y, x3, x4, fun _ z => (nomatch z), x6.avoid fun b _ z => ?_⟩, fun _ => none, List.replicate n .un, RF, ?_⟩
        · rcases z with z | ⟨_, z⟩
          · exact z
          · cases z
        · cases q3 : gs c w (List.replicate n .un) with
          | nx _ => rw [q3] at h1; exact h1.elim
          | bk _ => rw [q3] at h1; exact h1.elim
          | ct _ => rw [q3] at h1; exact h1.elim
          | exc _ _ _ => rw [q3] at h1; exact h1.elim
          | stuck => rw [q3] at h1; exact h1.elim
          | rt v2 δ2 =>
            rw [q3] at h1
            intro v3 ow3 σ3 G3 R3 r3
            have e3 : Ext NoB G2 G3 := fun b o e _ t => R3.frame b o e (fun _ z => nomatch z) t
            have R4 : Rel F NoB ow δ1 σ G3 := R2.grow e3 (fun a z => z.elim) R3.kf R3.tabs
            have h2 := PostE.go R2 e2 h1
            exact h2 v3 G3 R4 (e3.weak fun b z => z.elim) (r3.1.avoid fun b _ z => .inl z) (fun z => nomatch z)
  refine wpAny_call (codeAny_mono rc fun r s2 got => ?_)
  cases r with
  | error e => exact (passN (X := X) pins σ H1 s' e s2 I1 got)
  | ok fl =>
    cases fl with
    | ret u => exact I1.after got
    | next => exact got.elim
    | brk => exact got.elim
    | cont => exact got.elim
end
end DL
end
section -- DL18
set_option maxRecDepth 100000
set_option maxHeartbeats 2000000
/-! DL18: global constants, list.index, {..}.get(.., ..). -/
namespace DL
open PySem PySem.Spec PyProof.Rows L2

section
variable {X : Cx} {e f a b o : Expr} {W : WX} {F : Fr} {ga gb : Den} {pos p apos dpos : Pos} {x : Str} {σ : L2.St} {H : Hp} {Q : VK}
theorem de_gint {i : Int} {t : Tok} (hg : Gl X x) (hm : X.mg x = some (.int i t)) (hd : (x == ("__debug__" : Str)) = false) : PE X (.Name x pos) (tD W F (dC (.int i))) := PE.imp (pe_glob (v := .int i) hg hm ⟨t, rfl⟩ hd) fun σ H Q h => by
  obtain ⟨ow, δ, R, h⟩ := h
  exact PostE.ret h R (.int i)
theorem de_gstr {z : Str} {t : Tok} (hg : Gl X x) (hm : X.mg x = some (.str z t)) (hd : (x == ("__debug__" : Str)) = false) : PE X (.Name x pos) (tD W F (dC (.str z))) := PE.imp (pe_glob (v := .str z) hg hm ⟨t, rfl⟩ hd) fun σ H Q h => by
  obtain ⟨ow, δ, R, h⟩ := h
  exact PostE.ret h R (.str z)

/-! ### l.index(x) -/
def kIndex (a b : EV) (δ : Sta) : Rs EV := match a.1 with
  | .list ds => if (flatD b.1 && ds.all flatD) = true then match ds.findIdx? (fun z => eqF z b.1) with
      | some j => .ok (.int (j : Nat), false) δ
      | none => .stuck
    else .stuck
  | _ => .stuck
def isLst : D → Bool
  | .list _ => true
  | _ => false
def dIndex (ga gb : Den) : Den := fun δ => (ga δ).bind fun a δ1 => if isLst a.1 = true then (gb δ1).bind fun b δ2 => kIndex a b δ2 else .stuck
theorem de_index (hK : F.K = X.K) (ho : PE X o (tD W F ga)) (he : PE X e (tD W F gb)) (hs : NoStar e) (hbase : attributeBase o "index" X.env (eval o X.env) = eval o X.env)
    (hfew : ((backTo pos (starEach [e] X.env)).all (fun x => !x.1) && (backToKw pos (keywordEach [] X.env)).all (fun x => x.1.isSome) && decide ([e].length + ([] : List Keyword).length + (if ([] : List Keyword).isEmpty then 0 else 1) < 30)) = true)
    (hline : (apos.endLine == pos.line) = true) (hplain : (backTo pos (starEach [] X.env)).any (·.1) = false) :
    PE X (.Call (.Attribute o "index" apos) [e] [] pos) (tD W F (dIndex ga gb)) := by
  refine PE.imp (pe_bm PySem.F.plainAttrs_list PySem.F.slot_list_index PySem.F.type_list_index mt_index ho (pa_cons he pa_nil (hs _ _)) hbase hfew hline (hs _ _) hplain) fun σ H Q h => ?_
  refine (seq1 h).mono fun x H1 z => ?_
  obtain ⟨ow, δ1, d1, f1, R1, r1, _, z⟩ := z
  dsimp only at z
  split at z
  case isFalse => exact z.elim
  rename_i hl
  obtain ⟨ds, rfl⟩ : ∃ ds, d1 = .list ds := by
    cases d1 <;> simp [isLst] at hl
    exact ⟨_, rfl⟩
  obtain ⟨l, xs, e1, h1, na, rs⟩ := r1.lstE
  subst e1
  refine ⟨.inl ⟨rfl, xs, by rw [← hK]; exact .inl h1⟩, ow, δ1, R1, ?_⟩
  cases q : gb δ1 with
  | exc c w δ' => rw [q] at z; exact z
  | stuck => rw [q] at z; exact z
  | ok b δ2 =>
    rw [q] at z
    intro y H2 R2 e2 r2 _
    have z2 := PostE.go R2 e2 z
    dsimp only [Rs.bind_ok, kIndex] at z2
    split at z2
    case isFalse => exact z2.elim
    rename_i hf
    rw [Bool.and_eq_true] at hf
    split at z2
    case h_2 => exact z2.elim
    rename_i j hj
    have rs2 := rs.ext e2
    obtain ⟨hjl, hj1, hj2⟩ := List.findIdx?_eq_some_iff_getElem.mp hj
    have hd : ds[j]? = some ds[j] := by simp [hjl]
    obtain ⟨v, hv, rv⟩ := rs2.get hd
    have fl : ∀ d ∈ ds, flatD d = true := List.all_eq_true.mp hf.2
    refine ⟨l, xs, y, j, v, rfl, rfl, by rw [← hK]; exact .inl (e2.seqL na h1), flat_ok r2 hf.1, flats_ok rs2 hf.2, hv, by rw [eqF_ok rv r2 (fl _ (List.getElem_mem hjl)) hf.1]; exact hj1, fun m z' hm hz' => ?_, PostE.ret z2 R2 (.int _)⟩
    obtain ⟨d', hd', rd'⟩ := rs2.got hz'
    have hml : m < ds.length := Nat.lt_trans hm hjl
    have ed : ds[m] = d' := by
      have := hd'
      simp [hml] at this
      exact this
    rw [eqF_ok rd' r2 (fl _ (by rw [← ed]; exact List.getElem_mem hml)) hf.1, ← ed]
    simpa using hj2 m hm
end

/-! ### {'k': i, ..}.get(x, d) -/
def lastI : List (Str × Int) → Str → Option Int
  | [], _ => none
  | p :: r, z => match lastI r z with
    | some i => some i
    | none => if z = p.1 then some p.2 else none
def kGetTab (tab : List (Str × Int)) (a b : EV) (δ : Sta) : Rs EV := match a.1 with
  | .str z => match lastI tab z with
    | some i => .ok (.int i, false) δ
    | none => .ok (b.1, false) δ
  | _ => .stuck
def dGetTab (tab : List (Str × Int)) (ga gb : Den) : Den := fun δ => (ga δ).bind fun a δ1 => (gb δ1).bind fun b δ2 => kGetTab tab a b δ2
def kvsOf (tab : List (Str × Int)) : List (Key × V) := tab.map fun p => (.inr p.1, .int p.2)
def trsOf (tab : List (Str × Int)) : List (TE × TE) := tab.map fun p => (tC (.str p.1), tC (.int p.2))
theorem merge_get : ∀ (tab : List (Str × Int)) (acc : List (Key × V)) (z : Str), valV (mergeK acc (kvsOf tab)) (.inr z) = match lastI tab z with
    | some i => some (.int i)
    | none => valV acc (.inr z)
  | [], acc, z => rfl
  | p :: r, acc, z => by
    have ih := merge_get r (putK acc (.inr p.1) (.int p.2)) z
    show valV (mergeK (putK acc (.inr p.1) (.int p.2)) (kvsOf r)) (.inr z) = _
    rw [ih]
    have un : lastI (p :: r) z = match lastI r z with
      | some i => some i
      | none => if z = p.1 then some p.2 else none := rfl
    rw [un]
    cases q : lastI r z with
    | some i => rfl
    | none =>
      show valV (putK acc (.inr p.1) (.int p.2)) (.inr z) = _
      rw [valV_put]
      by_cases e : z = p.1
      · simp [e]
      · have e2 : ¬ (Sum.inr z : Key) = Sum.inr p.1 := fun y => e (Sum.inr.inj y)
        simp [e, e2]
theorem pairs_const : ∀ (tab : List (Str × Int)) (σ : L2.St) (H : Hp) (Q : List (V × V) → Hp → Prop), Q ((kvsOf tab).map fun kv => (kV kv.1, kv.2)) H → tPairs (trsOf tab) σ H Q
  | [], σ, H, Q, h => h
  | p :: r, σ, H, Q, h => pairs_const r σ H _ h
section
variable {X : Cx} {e f : Expr} {W : WX} {F : Fr} {ga gb : Den} {pos apos dpos : Pos} {keys : List (Option Expr)} {values : List Expr}
theorem de_getTab {tab : List (Str × Int)} (hK : F.K = X.K) (hu : X.A.units + 1 < cLine) (hp : PPs X dpos keys values (trsOf tab)) (hall : keys.all (·.isSome) = true) (hl : keys.length = values.length) (h0 : keys ≠ []) (h15 : keys.length ≤ 15) (ht : tab.length ≤ 15)
    (he : PE X e (tD W F ga)) (hf : PE X f (tD W F gb)) (m : M2 X (.Dict keys values dpos) "get" apos e f pos) :
    PE X (.Call (.Attribute (.Dict keys values dpos) "get" apos) [e, f] [] pos) (tD W F (dGetTab tab ga gb)) := by
  refine PE.imp (pe_dget2 hu (pe_kf (pe_disp hp hall hl h0 h15)) he hf m) fun σ H Q h => ?_
  obtain ⟨ow, δ, R, z⟩ := h
  intro p hn
  refine pairs_const tab σ _ _ ⟨upd_same, kvsOf tab, rfl, by unfold kvsOf; rw [List.length_map]; exact ht, fun kf => ?_⟩
  have eH : upd (upd H p (.dK [])) p (.dK (mergeK [] (kvsOf tab))) = upd H p (.dK (mergeK [] (kvsOf tab))) := by
    funext b
    by_cases hb : b = p
    · rw [hb, upd_same, upd_same]
    · rw [upd_ne hb, upd_ne hb, upd_ne hb]
  rw [eH] at kf ⊢
  rw [← hK] at kf
  have R0 := R.alloc hn kf
  have z0 := PostE.go R0 (Ext.upd (o := HO.dK (mergeK [] (kvsOf tab))) hn) z
  have nA : ¬ F.A NoB ow p := fun q => by
    obtain ⟨o, w1, _⟩ := R.tracked q
    rw [hn] at w1; cases w1
  have ntd : NT (.dK (mergeK [] (kvsOf tab))) := fun _ z => nomatch z
  refine ⟨p, rfl, .inl ⟨_, .inl upd_same⟩, ow, δ, R0, ?_⟩
  unfold dGetTab at z0
  cases q : ga δ with
  | exc c w δ' => rw [q] at z0; exact z0
  | stuck => rw [q] at z0; exact z0
  | ok a δ1 =>
    rw [q] at z0
    intro y H2 R2 e2 r2 _
    have z2 := PostE.go R2 e2 z0
    refine ⟨ow, δ1, R2, ?_⟩
    dsimp only [Rs.bind_ok] at z2
    cases q2 : gb δ1 with
    | exc c w δ' => rw [q2] at z2; exact z2
    | stuck => rw [q2] at z2; exact z2
    | ok b δ2 =>
      rw [q2] at z2
      intro d H3 R3 e3 r3 _
      have z3 := PostE.go R3 e3 z2
      dsimp only [Rs.bind_ok, kGetTab] at z3
      split at z3
      case h_2 => exact z3.elim
      rename_i k qa
      rw [qa] at r2
      have ey := r2.strE
      subst ey
      have there : H3 p = some (.dK (mergeK [] (kvsOf tab))) := e3 p _ (e2 p _ upd_same nA ntd) nA ntd
      have g := DGet.k (k := .inr k) there
      rw [merge_get] at g
      cases hk : lastI tab k with
      | some i =>
        rw [hk] at z3 g
        exact ⟨_, g, PostE.ret z3 R3 (.int i)⟩
      | none =>
        rw [hk] at z3 g
        exact ⟨_, g, PostE.ret z3 R3 r3⟩
end
end DL
end
section -- DL19
set_option maxRecDepth 100000
set_option maxHeartbeats 2000000
/-! DL19: the rules in short: what is seen of the text alone is found by itself. -/
namespace DL
open PySem PySem.Spec PyProof.Rows L2

theorem room65 {k : Nat} {A : Around} (r : Room k A) : A.units + 65 < cLine := by have := r.un; omega
theorem room1 {k : Nat} {A : Around} (r : Room k A) : A.units + 1 < cLine := by have := r.un; omega
theorem Sib.gx {F F' : Fr} {vs : List Nat} (s : Sib F F' vs) : F'.gx = F.gx := by
  obtain ⟨h1, h2, h3, _⟩ := s
  unfold Fr.gx
  rw [h1, h2, h3]
theorem gx_K {F : Fr} {G : Gx} (h : F.gx = G) : F.K = G.K := by rw [← h]; rfl
theorem gx_T {F : Fr} {G : Gx} (h : F.gx = G) : F.T = G.T := by rw [← h]; rfl
theorem gx_ex {F : Fr} {G : Gx} (h : F.gx = G) : F.ex = G.ex := by rw [← h]; rfl
section
variable {X : Cx} {W : WX} {F : Fr} {a b c e o : Expr} {es : List Expr} {st : Stmt} {sts : List Stmt} {ga gb gc : Den} {gr : RDen} {gi : Den} {gl : LDen} {pos p p2 apos : Pos} {x : Str}
theorem xv (i : Nat) (hN : X.N[i]? = some x := by rfl) (hv : Vis X.env.scope x := by first | exact Or.inl rfl | exact Or.inr (Or.inl rfl) | exact Or.inr (Or.inr rfl)) (hd : (x == ("__debug__" : Str)) = false := by decide) (hcd : (x == ("__classdict__" : Str)) = false := by decide) :
    PE X (.Name x pos) (tD W F (dVar i)) := de_var hN hv hd hcd
theorem xr (i : Nat) (hN : X.N[i]? = some x := by rfl) (hv : Vis X.env.scope x := by first | exact Or.inl rfl | exact Or.inr (Or.inl rfl) | exact Or.inr (Or.inr rfl)) (hd : (x == ("__debug__" : Str)) = false := by decide) (hcd : (x == ("__classdict__" : Str)) = false := by decide) :
    PE X (.Name x pos) (tR W F (dVarR i)) := dr_var hN hv hd hcd
theorem xgi {i : Int} {t : Tok} (hm : X.mg x = some (.int i t)) (hg : Gl X x := by rfl) (hd : (x == ("__debug__" : Str)) = false := by decide) : PE X (.Name x pos) (tD W F (dC (.int i))) := de_gint hg hm hd
theorem xgs {z : Str} {t : Tok} (hm : X.mg x = some (.str z t)) (hg : Gl X x := by rfl) (hd : (x == ("__debug__" : Str)) = false := by decide) : PE X (.Name x pos) (tD W F (dC (.str z))) := de_gstr hg hm hd
theorem xgiE {i : Int} (hm : ∃ t : Tok, X.mg x = some (.int i t)) (hg : Gl X x := by rfl) (hd : (x == ("__debug__" : Str)) = false := by decide) : PE X (.Name x pos) (tD W F (dC (.int i))) := by
  obtain ⟨t, hm⟩ := hm
  exact de_gint hg hm hd
theorem xgsE {z : Str} (hm : ∃ t : Tok, X.mg x = some (.str z t)) (hg : Gl X x := by rfl) (hd : (x == ("__debug__" : Str)) = false := by decide) : PE X (.Name x pos) (tD W F (dC (.str z))) := by
  obtain ⟨t, hm⟩ := hm
  exact de_gstr hg hm hd
theorem xt (hK : F.K = X.K) (ha : PE X a (tD W F ga)) (he : ∀ whole, isTrue a X.env whole = (do let v ← whole; standAt a.pos; holding [v] (truthy v)) := by intro _; rfl) : PT X a (tT W F (dTru ga)) := dt_tru hK ha he
theorem xcmp {op : CmpOp} (hK : F.K = X.K) (hu : X.A.units + 65 < cLine) (ha : PE X a (tD W F ga)) (hb : PE X b (tD W F gb)) (hm : behindInMarks op b = false := by rfl) : PE X (.Compare a [op] [b] pos) (tD W F (dVal (dCmp op ga gb))) := de_cmp hK (cmp_ok hK hu op) ha hb hm
theorem xcmpT {op : CmpOp} (hK : F.K = X.K) (hu : X.A.units + 65 < cLine) (ha : PE X a (tD W F ga)) (hb : PE X b (tD W F gb)) (hm : behindInMarks op b = false := by rfl) : PT X (.Compare a [op] [b] pos) (tT W F (dCmp op ga gb)) := dt_cmp hK (cmp_ok hK hu op) ha hb hm
theorem xchain {op op' : CmpOp} (hK : F.K = X.K) (hu : X.A.units + 65 < cLine) (ha : PE X a (tD W F ga)) (hb : PE X b (tD W F gb)) (hc : PE X c (tD W F gc)) (hm : lastMarks [op, op'] [b, c] = false := by rfl) :
    PE X (.Compare a [op, op'] [b, c] pos) (tD W F (dVal (dChain op op' ga gb gc))) := de_chain (cmp_ok hK hu op) (cmp_ok hK hu op') ha hb hc hm
theorem xchainT {op op' : CmpOp} (hK : F.K = X.K) (hu : X.A.units + 65 < cLine) (ha : PE X a (tD W F ga)) (hb : PE X b (tD W F gb)) (hc : PE X c (tD W F gc)) (hm : lastMarks [op, op'] [b, c] = false := by rfl) :
    PT X (.Compare a [op, op'] [b, c] pos) (tT W F (dChain op op' ga gb gc)) := dt_chain (cmp_ok hK hu op) (cmp_ok hK hu op') ha hb hc hm
theorem xb1 {id : String} {k : D → Sta → Rs EV} (hK : F.K = X.K) (hb : B1Ok X F W (.builtin id) k) (hm : X.mg x = none) (ha : PE X a (tR W F gr)) (hv : bootBuiltins x = some (.builtin id) := by rfl) (hg : Gl X x := by rfl) (hs : NoStar a := by intro _ _; rfl)
    (hn : x ≠ "__name__" := by decide) (hdb : (x == ("__debug__" : Str)) = false := by decide) : PE X (.Call (.Name x p) [a] [] pos) (tD W F (dRd gr k)) := de_b1 hK hb hg hm hv ha hs hn hdb
theorem xt1 {T : String} {k : D → Sta → Rs EV} (hK : F.K = X.K) (hb : B1Ok X F W (.type T) k) (hm : X.mg x = none) (ha : PE X a (tR W F gr)) (hv : bootBuiltins x = some (.type T) := by rfl) (hg : Gl X x := by rfl) (hs : NoStar a := by intro _ _; rfl)
    (hn : x ≠ "__name__" := by decide) (hdb : (x == ("__debug__" : Str)) = false := by decide) : PE X (.Call (.Name x p) [a] [] pos) (tD W F (dRd gr k)) := de_t1 hK hb hg hm hv ha hs hn hdb
theorem xb2 {id : String} {k : EV → EV → Sta → Rs EV} (hK : F.K = X.K) (hb : B2Ok X F W (.builtin id) k) (hm : X.mg x = none) (ha : PE X a (tD W F ga)) (hc : PE X c (tD W F gc)) (hv : bootBuiltins x = some (.builtin id) := by rfl) (hg : Gl X x := by rfl) (hs : NoStar a := by intro _ _; rfl) (hs2 : NoStar c := by intro _ _; rfl)
    (hn : x ≠ "__name__" := by decide) (hdb : (x == ("__debug__" : Str)) = false := by decide) : PE X (.Call (.Name x p) [a, c] [] pos) (tD W F fun δ => (ga δ).bind fun a δ1 => (gc δ1).bind fun b δ2 => k a b δ2) := de_b2 hK hb hg hm hv ha hc hs hs2 hn hdb
theorem xisi {T : Str} {n : String} (hK : F.K = X.K) (hm : X.mg x = none) (hmT : X.mg T = none) (ha : PE X a (tR W F gr)) (hv : bootBuiltins x = some (.builtin "isinstance") := by rfl) (hvT : bootBuiltins T = some (.type n) := by rfl) (hg : Gl X x := by rfl) (hgT : Gl X T := by rfl) (hs : NoStar a := by intro _ _; rfl)
    (hn : x ≠ "__name__" := by decide) (hdb : (x == ("__debug__" : Str)) = false := by decide) (hnT : T ≠ "__name__" := by decide) (hdT : (T == ("__debug__" : Str)) = false := by decide) : PE X (.Call (.Name x p) [a, .Name T p2] [] pos) (tD W F (dRd gr (kIsi n))) :=
  de_isi hK hg hm hv ha hs hn hdb hgT hmT hvT hnT hdT
theorem xix (hK : F.K = X.K) (ha : PE X a (tR W F gr)) (hb : PE X b (tD W F gi)) (hs : PlainIx b := by intro _ _; rfl) : PE X (.Subscript a b pos) (tD W F (dIx gr gi)) := de_ix hK ha hb hs
theorem xsplit (hK : F.K = X.K) (ho : PE X o (tD W F ga)) (he : PE X e (tD W F gb)) (hs : NoStar e := by intro _ _; rfl) (hbase : attributeBase o "split" X.env (eval o X.env) = eval o X.env := by rfl) (hline : (apos.endLine == pos.line) = true := by rfl) :
    PE X (.Call (.Attribute o "split" apos) [e] [] pos) (tD W F (dM1 ga gb kSplit)) := de_split hK ho he hs hbase hline
theorem xjoin (hK : F.K = X.K) (ho : PE X o (tD W F ga)) (he : PE X e (tR W F gr)) (hs : NoStar e := by intro _ _; rfl) (hbase : attributeBase o "join" X.env (eval o X.env) = eval o X.env := by rfl) (hline : (apos.endLine == pos.line) = true := by rfl) :
    PE X (.Call (.Attribute o "join" apos) [e] [] pos) (tD W F (dJoin ga gr)) := de_join hK ho he hs hbase hline
theorem xindex (hK : F.K = X.K) (ho : PE X o (tD W F ga)) (he : PE X e (tD W F gb)) (hs : NoStar e := by intro _ _; rfl) (hbase : attributeBase o "index" X.env (eval o X.env) = eval o X.env := by rfl)
    (hfew : ((backTo pos (starEach [e] X.env)).all (fun x => !x.1) && (backToKw pos (keywordEach [] X.env)).all (fun x => x.1.isSome) && decide ([e].length + ([] : List Keyword).length + (if ([] : List Keyword).isEmpty then 0 else 1) < 30)) = true := by rfl)
    (hline : (apos.endLine == pos.line) = true := by rfl) (hplain : (backTo pos (starEach [] X.env)).any (·.1) = false := by rfl) : PE X (.Call (.Attribute o "index" apos) [e] [] pos) (tD W F (dIndex ga gb)) := de_index hK ho he hs hbase hfew hline hplain
theorem lc (ha : PE X a (tD W F ga)) (hr : PA X es (tL W F gl)) (hs : NoStar a := by intro _ _; rfl) : PA X (a :: es) (tL W F (dCons ga gl)) := dl_cons ha hr hs
theorem ac {gs : ADen} (ha : PE X a (tD W F ga)) (hr : PA X es (tA W F gs)) (hs : NoStar a := by intro _ _; rfl) : PA X (a :: es) (tA W F (aVal ga gs)) := da_val ha hr hs
theorem ao {gs : ADen} (i : Nat) (hr : PA X es (tA W F gs)) (hN : X.N[i]? = some x := by rfl) (hv : Vis X.env.scope x := by first | exact Or.inl rfl | exact Or.inr (Or.inl rfl) | exact Or.inr (Or.inr rfl)) (hd : (x == ("__debug__" : Str)) = false := by decide) (hcd : (x == ("__classdict__" : Str)) = false := by decide)
    (hs : NoStar (.Name x p) := by intro _ _; rfl) : PA X (.Name x p :: es) (tA W F (aOwn i gs)) := da_own hN hv hd hcd hr hs
theorem xin {tab : List (Str × D)} {dd : Addr} (T : KTab X dd tab) (hm : X.mg x = some (.ref dd)) (ha : PE X a (tD W F ga)) (hg : Gl X x := by rfl) (hdb : (x == ("__debug__" : Str)) = false := by decide) : PT X (.Compare a [.In] [.Name x p2] pos) (tT W F (dInTab tab false ga)) := dt_inTab T ha hg hm hdb
theorem xnin {tab : List (Str × D)} {dd : Addr} (T : KTab X dd tab) (hm : X.mg x = some (.ref dd)) (ha : PE X a (tD W F ga)) (hg : Gl X x := by rfl) (hdb : (x == ("__debug__" : Str)) = false := by decide) : PT X (.Compare a [.NotIn] [.Name x p2] pos) (tT W F (dInTab tab true ga)) := dt_notInTab T ha hg hm hdb
theorem xixt {tab : List (Str × D)} {dd : Addr} (T : KTab X dd tab) (hK : F.K = X.K) (hm : X.mg x = some (.ref dd)) (ha : PE X a (tD W F ga)) (hs : PlainIx a := by intro _ _; rfl) (hg : Gl X x := by rfl) (hdb : (x == ("__debug__" : Str)) = false := by decide) : PE X (.Subscript (.Name x p2) a pos) (tD W F (dIxTab tab ga)) := de_ixTab T hK ha hs hg hm hdb
end

/-! ### a def of the law: its address, its promise -/
structure Fd (P : Program) (w : World) (K : PySem.W.Frag) (mg : Str → Option Value) (base : Heap) (G : Gx) (k : Nat) (x : Str) (Φ : Phi) : Prop where
  ex : ∃ (f : Addr) (fd : FuncData) (ps : List Str), mg x = some (.ref f) ∧ PySem.W.keepIn K (.ref f) = true ∧ L2.Binds K fd ps [] ∧ FnOk P w K mg base (L2N.CX P w) k f fd ps (spD G Φ)
section
variable {X : Cx} {W : WX} {F : Fr} {G : Gx} {e : Expr} {es : List Expr} {gs : ADen} {pos p : Pos} {x : Str} {k j : Nat} {Φ : Phi}
theorem xf (hG : F.gx = G) (D : Fd X.prog X.w X.K X.mg X.base G k x Φ) (hr : Room j X.A) (hk : k ≤ j) (tk : L2N.Takes X W) (ha : PA X (e :: es) (tA W F gs)) (hg : Gl X x := by rfl) (hdb : (x == ("__debug__" : Str)) = false := by decide)
    (he : starEach (e :: es) X.env = (false, eval e X.env) :: starEach es X.env := by rfl) (hpl : (backTo pos (starEach es X.env)).any (·.1) = false := by rfl) : PE X (.Call (.Name x p) (e :: es) [] pos) (tD W F (dCall Φ gs)) := by
  obtain ⟨f, fd, ps, h1, h2, h3, h4⟩ := D.ex
  exact de_call hG (h4.mono hk) hr hg h1 h2 h3 tk ha hdb he hpl
theorem xf0 (hG : F.gx = G) (D : Fd X.prog X.w X.K X.mg X.base G k x Φ) (hr : Room j X.A) (hk : k ≤ j) (tk : L2N.Takes X W) (hg : Gl X x := by rfl) (hdb : (x == ("__debug__" : Str)) = false := by decide) : PE X (.Call (.Name x p) [] [] pos) (tD W F (dCall Φ aNil)) := by
  obtain ⟨f, fd, ps, h1, h2, h3, h4⟩ := D.ex
  exact de_call0 hG (h4.mono hk) hr hg h1 h2 h3 tk hdb
end

/-! ### statements -/
section
variable {X : Cx} {W : WX} {F : Fr} {e ix a b : Expr} {st : Stmt} {sts : List Stmt} {ga gi : Den} {pos px apos c2 pos' p2 : Pos} {x : Str}
theorem sset (i : Nat) (np : F.fre i) (he : PE X e (tD W F ga)) (hN : X.N.Nodup := by decide) (hi : X.N[i]? = some x := by rfl) (hx : Loc X.env.scope x := by first | exact Or.inl rfl | exact Or.inr rfl) (hs : swapsWith e (some (.Name x pos')) pos.line X.env = pure false := by rfl)
    (hf : X.fn x = true ∨ X.env.scope.names.lookup x = some .local := by first | exact .inl rfl | exact .inr rfl) : PS X (.Assign [.Name x pos'] e pos) (tS W F (sSet i ga)) := ds_set hN hi hx he hs hf np
theorem sown (i : Nat) (np : F.fre i) (he : PE X e (tD W F ga)) (hN : X.N.Nodup := by decide) (hi : X.N[i]? = some x := by rfl) (hx : Loc X.env.scope x := by first | exact Or.inl rfl | exact Or.inr rfl) (hs : swapsWith e (some (.Name x pos')) pos.line X.env = pure false := by rfl)
    (hf : X.fn x = true ∨ X.env.scope.names.lookup x = some .local := by first | exact .inl rfl | exact .inr rfl) : PS X (.Assign [.Name x pos'] e pos) (tS W F (sOwn i ga)) := ds_own hN hi hx he hs hf np
theorem sexpr (he : PE X e (tD W F ga)) (hs : swapsWith e none pos.line X.env = pure false := by rfl) : PS X (.Expr e pos) (tS W F (sDrop ga)) := ds_expr he hs
theorem sapp (i : Nat) (he : PE X e (tD W F ga)) (hN : X.N[i]? = some x := by rfl) (hv : Vis X.env.scope x := by first | exact Or.inl rfl | exact Or.inr (Or.inl rfl) | exact Or.inr (Or.inr rfl)) (hd : (x == ("__debug__" : Str)) = false := by decide) (hcd : (x == ("__classdict__" : Str)) = false := by decide) (hse : NoStar e := by intro _ _; rfl)
    (hbase : attributeBase (.Name x px) "append" X.env (eval (.Name x px) X.env) = eval (.Name x px) X.env := by rfl)
    (hfew : ((backTo c2 (starEach [e] X.env)).all (fun x => !x.1) && (backToKw c2 (keywordEach [] X.env)).all (fun x => x.1.isSome) && decide ([e].length + ([] : List Keyword).length + (if ([] : List Keyword).isEmpty then 0 else 1) < 30)) = true := by rfl)
    (hline : (apos.endLine == c2.line) = true := by rfl) (hplain : (backTo c2 (starEach [] X.env)).any (·.1) = false := by rfl) (hs : swapsWith (.Call (.Attribute (.Name x px) "append" apos) [e] [] c2) none pos.line X.env = pure false := by rfl) :
    PS X (.Expr (.Call (.Attribute (.Name x px) "append" apos) [e] [] c2) pos) (tS W F (sApp i ga)) := ds_app hN hv hd hcd he hse hbase hfew hline hplain hs
theorem sext (i : Nat) (he : PE X e (tD W F ga)) (hN : X.N[i]? = some x := by rfl) (hv : Vis X.env.scope x := by first | exact Or.inl rfl | exact Or.inr (Or.inl rfl) | exact Or.inr (Or.inr rfl)) (hd : (x == ("__debug__" : Str)) = false := by decide) (hcd : (x == ("__classdict__" : Str)) = false := by decide) (hse : NoStar e := by intro _ _; rfl)
    (hbase : attributeBase (.Name x px) "extend" X.env (eval (.Name x px) X.env) = eval (.Name x px) X.env := by rfl)
    (hfew : ((backTo c2 (starEach [e] X.env)).all (fun x => !x.1) && (backToKw c2 (keywordEach [] X.env)).all (fun x => x.1.isSome) && decide ([e].length + ([] : List Keyword).length + (if ([] : List Keyword).isEmpty then 0 else 1) < 30)) = true := by rfl)
    (hline : (apos.endLine == c2.line) = true := by rfl) (hplain : (backTo c2 (starEach [] X.env)).any (·.1) = false := by rfl) (hs : swapsWith (.Call (.Attribute (.Name x px) "extend" apos) [e] [] c2) none pos.line X.env = pure false := by rfl) :
    PS X (.Expr (.Call (.Attribute (.Name x px) "extend" apos) [e] [] c2) pos) (tS W F (sExt i ga)) := ds_ext hN hv hd hcd he hse hbase hfew hline hplain hs
theorem sixset (i : Nat) (he : PE X e (tD W F ga)) (hi : PE X ix (tD W F gi)) (hN : X.N[i]? = some x := by rfl) (hv : Vis X.env.scope x := by first | exact Or.inl rfl | exact Or.inr (Or.inl rfl) | exact Or.inr (Or.inr rfl)) (hd : (x == ("__debug__" : Str)) = false := by decide) (hcd : (x == ("__classdict__" : Str)) = false := by decide)
    (ha : ∀ v, assign (.Subscript (.Name x px) ix p2) X.env v = (do
      let ov ← holding [v] (eval (.Name x px) X.env)
      let iv ← holding [v, ov] (eval ix X.env)
      standAt p2
      holding [v, ov, iv] (setItem ov iv v)
      release [v, ov, iv] []) := by intro _; rfl)
    (hs : swapsWithSole [.Subscript (.Name x px) ix p2] e pos.line X.env = pure false := by rfl) (hw : swappedStores [.Subscript (.Name x px) ix p2] e X.env = pure none := by rfl) (h1 : (assignEach [.Subscript (.Name x px) ix p2] X.env).map (·.2) = [assign (.Subscript (.Name x px) ix p2) X.env] := by rfl) :
    PS X (.Assign [.Subscript (.Name x px) ix p2] e pos) (tS W F (sIxSet i gi ga)) := ds_ixset hN hv hd hcd he hi ha hs hw h1
theorem stg {tg : Expr} {gt : GDen} {vs : List Nat} (he : PE X e (tD W F ga)) (hg : PG X tg (tG F vs gt)) (hs : swapsWithSole [tg] e pos.line X.env = pure false := by rfl) (hw : swappedStores [tg] e X.env = pure none := by rfl) (h1 : (assignEach [tg] X.env).map (·.2) = [assign tg X.env] := by rfl) :
    PS X (.Assign [tg] e pos) (tS W F (sTg ga gt)) := ds_tg he hg hs hw h1
theorem spar (i j : Nat) {y : Str} {gl : LDen} {px py pt : Pos} {kt k2 pt2} (npi : F.fre i) (npj : F.fre j) (ha : PA X [a, b] (tL W F gl)) (hc : X.calm = true := by rfl) (hN : X.N.Nodup := by decide) (hi : X.N[i]? = some x := by rfl) (hj : X.N[j]? = some y := by rfl) (hij : i ≠ j := by decide)
    (hx : X.env.scope.names.lookup x = some .local := by rfl) (hy : X.env.scope.names.lookup y = some .local := by rfl)
    (hw : swappedStores [.Tuple [.Name x px, .Name y py] kt pt] (.Tuple [a, b] k2 pt2) X.env = pure (some [x, y]) := by rfl)
    (hs : swapsWithSole [.Tuple [.Name x px, .Name y py] kt pt] (.Tuple [a, b] k2 pt2) pos.line X.env = pure false := by rfl) :
    PS X (.Assign [.Tuple [.Name x px, .Name y py] kt pt] (.Tuple [a, b] k2 pt2) pos) (tS W F (sPar i j gl)) := ds_par hc hN hi hj hij hx hy ha npi npj hw hs
theorem gn (i : Nat) {vs : List Nat} (np : F.fre i) (hN : X.N.Nodup := by decide) (hi : X.N[i]? = some x := by rfl) (hx : Loc X.env.scope x := by first | exact Or.inl rfl | exact Or.inr rfl) (hf : X.fn x = true ∨ X.env.scope.names.lookup x = some .local := by first | exact .inl rfl | exact .inr rfl) (hv : i ∈ vs := by decide) :
    PG X (.Name x pos) (tG F vs (gSlot i)) := dg_name hN hi hx hf hv np
theorem gcs {vs : List Nat} {g : GDen} {gr : GsDen} {es : List Expr} (h1 : PG X e (tG F vs g)) (h2 : PGs X es (tGs F vs gr)) (hs : (assignEach (e :: es) X.env).map (·.2) = assign e X.env :: (assignEach es X.env).map (·.2) := by rfl) : PGs X (e :: es) (tGs F vs (gsCons g gr)) := dgs_cons h1 h2 hs
theorem gtp {vs : List Nat} {g : GsDen} {k n : Nat} {es : List Expr} (hK : F.K = X.K) (h : PGs X es (tGs F vs g)) (hc : X.calm = true := by rfl) (hn : (assignEach es X.env).length = n := by rfl) (hst : (assignEach es X.env).findIdx? (·.1) = none := by rfl) : PG X (.Tuple es k pos) (tG F vs (gTupD n g)) := dg_tup hK hc h hn hst
end
end DL
end
section -- DL20
set_option maxRecDepth 100000
set_option maxHeartbeats 2000000
/-! DL20: loops, comprehensions, raise, lambdas in short. -/
namespace DL
open PySem PySem.Spec PyProof.Rows L2 LamX

section
variable {X : Cx} {W : WX} {F : Fr} {a b e elt tg iter c : Expr} {ga gb gi : Den} {pos p rpos lpos apos dpos : Pos} {x : Str} {it : IDen} {g : GDen} {t : TDen} {ge : Den} {vs : List Nat}
theorem ir1 (hm : X.mg "range" = none) (he : PE X a (tD W F ga)) (hg : Gl X "range" := by rfl) (hs : NoStar a := by intro _ _; rfl) (hs1 : starEach [a] X.env = [(false, eval a X.env)] := by rfl) : PI X tg (.Call (.Name "range" p) [a] [] pos) (tI W F (iRng1D ga)) := di_range1 hg hm he hs hs1
theorem ir2 (hm : X.mg "range" = none) (he : PE X a (tD W F ga)) (hb : PE X b (tD W F gb)) (hg : Gl X "range" := by rfl) (hs : NoStar a := by intro _ _; rfl) (hs' : NoStar b := by intro _ _; rfl) (hs1 : starEach [a, b] X.env = [(false, eval a X.env), (false, eval b X.env)] := by rfl)
    (hs2 : starEach [b] X.env = [(false, eval b X.env)] := by rfl) : PI X tg (.Call (.Name "range" p) [a, b] [] pos) (tI W F (iRng2D ga gb)) := di_range2 hg hm he hb hs hs' hs1 hs2
theorem sfor {gb : SDen} {body : List Stmt} (hK : F.K = X.K) (hp : PassesOwn (model X.prog X.w) X.A X.env X.xe) (hi : PI X tg iter (tI W F it)) (hg : PG X tg (tG F vs g)) (hb : PSs X body (tS W F gb)) (hc : X.calm = true := by rfl) (hs : ∀ x, foldedSetIterable iter X.env x = pure x := by intro _; rfl) :
    PS X (.For tg iter body [] pos) (tS W F (sFor it g gb)) := ds_for hK hp hc hi hg hb hs
theorem xlcR {ifs : List Expr} {scope : Scope} (own : List (Str × Nat)) (hK : F.K = X.K) (hi : PI X tg iter (tI W F it))
    (hg : ∀ (s : Shared) (H : Hp) (C : Addr) (cl : List (Str × Addr)) (fp : List Addr) (F' : Fr), Sib F F' (own.map (·.2)) → PG (X.blk s H scope (compEnvC scope cl C X.env) fp) tg (tG F' (own.map (·.2)) g))
    (ht : ∀ (s : Shared) (H : Hp) (C : Addr) (cl : List (Str × Addr)) (fp : List Addr) (F' : Fr), Sib F F' (own.map (·.2)) → PTs (X.blk s H scope (compEnvC scope cl C X.env) fp) ifs (tT W0 F' t))
    (he : ∀ (s : Shared) (H : Hp) (C : Addr) (cl : List (Str × Addr)) (fp : List Addr) (F' : Fr), Sib F F' (own.map (·.2)) → PE (X.blk s H scope (compEnvC scope cl C X.env) fp) elt (tD W0 F' ge))
    (hc : X.calm = true := by rfl) (hN : X.N.Nodup := by decide) (ok : blkC X.N X.env.scope scope own = true := by rfl) (hs : ∀ x, foldedSetIterable iter X.env x = pure x := by intro _; rfl) :
    PE X (.ListComp elt [⟨tg, iter, ifs, 0⟩] scope pos) (tD W F (dLc it (own.map (·.2)) g t ge)) := de_lc hK hc hN hi (blkOk_by ok) rfl hg ht he hs
theorem slcS {ifs : List Expr} {scope : Scope} {y : Str} {py spos : Pos} (i : Nat) (own : List (Str × Nat)) (hK : F.K = X.K) (np : F.fre i) (hi : PI X tg iter (tI W F it))
    (hg : ∀ (s : Shared) (H : Hp) (C : Addr) (cl : List (Str × Addr)) (fp : List Addr) (F' : Fr), Sib F F' (own.map (·.2)) → PG (X.blk s H scope (compEnvC scope cl C X.env) fp) tg (tG F' (own.map (·.2)) g))
    (ht : ∀ (s : Shared) (H : Hp) (C : Addr) (cl : List (Str × Addr)) (fp : List Addr) (F' : Fr), Sib F F' (own.map (·.2)) → PTs (X.blk s H scope (compEnvC scope cl C X.env) fp) ifs (tT W0 F' t))
    (he : ∀ (s : Shared) (H : Hp) (C : Addr) (cl : List (Str × Addr)) (fp : List Addr) (F' : Fr), Sib F F' (own.map (·.2)) → PE (X.blk s H scope (compEnvC scope cl C X.env) fp) elt (tD W0 F' ge))
    (hc : X.calm = true := by rfl) (hN : X.N.Nodup := by decide) (hy : X.N[i]? = some y := by rfl) (hyl : X.env.scope.names.lookup y = some .local := by rfl)
    (hsw : swapsWith (.ListComp elt [⟨tg, iter, ifs, 0⟩] scope pos) (some (.Name y py)) spos.line X.env = pure true := by first | rfl | exact sw_true rfl rfl rfl rfl) (ok : blkC X.N X.env.scope scope own = true := by rfl) (hs : ∀ x, foldedSetIterable iter X.env x = pure x := by intro _; rfl) :
    PS X (.Assign [.Name y py] (.ListComp elt [⟨tg, iter, ifs, 0⟩] scope pos) spos) (tS W F (sSet i (dLc it (own.map (·.2)) g t ge))) := (ds_lc hK hc hN hy hyl np hsw hi (blkOk_by ok) rfl hg ht he hs).1
theorem slcO {ifs : List Expr} {scope : Scope} {y : Str} {py spos : Pos} (i : Nat) (own : List (Str × Nat)) (hK : F.K = X.K) (np : F.fre i) (hi : PI X tg iter (tI W F it))
    (hg : ∀ (s : Shared) (H : Hp) (C : Addr) (cl : List (Str × Addr)) (fp : List Addr) (F' : Fr), Sib F F' (own.map (·.2)) → PG (X.blk s H scope (compEnvC scope cl C X.env) fp) tg (tG F' (own.map (·.2)) g))
    (ht : ∀ (s : Shared) (H : Hp) (C : Addr) (cl : List (Str × Addr)) (fp : List Addr) (F' : Fr), Sib F F' (own.map (·.2)) → PTs (X.blk s H scope (compEnvC scope cl C X.env) fp) ifs (tT W0 F' t))
    (he : ∀ (s : Shared) (H : Hp) (C : Addr) (cl : List (Str × Addr)) (fp : List Addr) (F' : Fr), Sib F F' (own.map (·.2)) → PE (X.blk s H scope (compEnvC scope cl C X.env) fp) elt (tD W0 F' ge))
    (hc : X.calm = true := by rfl) (hN : X.N.Nodup := by decide) (hy : X.N[i]? = some y := by rfl) (hyl : X.env.scope.names.lookup y = some .local := by rfl)
    (hsw : swapsWith (.ListComp elt [⟨tg, iter, ifs, 0⟩] scope pos) (some (.Name y py)) spos.line X.env = pure true := by first | rfl | exact sw_true rfl rfl rfl rfl) (ok : blkC X.N X.env.scope scope own = true := by rfl) (hs : ∀ x, foldedSetIterable iter X.env x = pure x := by intro _; rfl) :
    PS X (.Assign [.Name y py] (.ListComp elt [⟨tg, iter, ifs, 0⟩] scope pos) spos) (tS W F (sOwn i (dLc it (own.map (·.2)) g t ge))) := (ds_lc hK hc hN hy hyl np hsw hi (blkOk_by ok) rfl hg ht he hs).2
theorem sraise {k j : Nat} {C : Addr} (hK : F.K = X.K) (tk : L2N.Takes X W) (hx : F.ex x = some C) (T : ExC1 X.prog X.w X.K X.mg X.base k x C) (hr : Room j X.A) (hk : k + 1 ≤ j) (he : PE X e (tD W F ga)) (hc : X.calm = true := by rfl) (hg : Gl X x := by rfl) (hse : NoStar e := by intro _ _; rfl)
    (hdb : (x == ("__debug__" : Str)) = false := by decide) (hpl : (backTo pos (starEach [] X.env)).any (·.1) = false := by rfl) : PS X (.Raise (some (.Call (.Name x p) [e] [] pos)) none rpos) (tS W F (sRaise x ga)) := ds_raise hK hc tk hx T (hr.mono hk) hg he hse hdb hpl
theorem xheard {told : Str} {n k : Nat} {isB : Str → Bool} {gs : Str → D → SDen} {gb : Den} {G : Gx} {cc P : Addr} {params : Arguments} {body : Expr} {scope : Scope} (hK : F.K = X.K) (hG : F.gx = G) (hd : HeardOk X.prog X.w X.K X.mg X.base G told isB gs x n)
    (TB : TabB X.base X.mg cc P) (hcode : X.env.code = .ref cc) (hmT : (P, X.env.qual ++ "<lambda>") ∈ G.T) (hu : ∀ p ∈ G.T, p.1 = P → p.2 = X.env.qual ++ "<lambda>") (hr : Room (k + 2) X.A)
    (walk : ∀ (A : Around) (outer : List Env) (s : Shared) (H : Hp) (E : XK) (f c' : Addr), Room k (A.deeper (lamEnv X scope s.heap.objs.size f c')) → PE (lamN X A outer s H E scope f c') body (tD (fun cls d _ H => E cls d H) F gb))
    (hg : Gl X x := by rfl) (hdb : (x == ("__debug__" : Str)) = false := by decide) (L : lamSB X.env.scope scope = true := by rfl) (hdef : defaultsOf params X.env = ([], []) := by rfl)
    (hbind : ∀ (q : Str) (cl : List (Str × Addr)) (pm cv ctv : Value), bindArgs (PySem.W.kla_fn "<lambda>" q params body scope cl pm cv ctv) ⟨[], []⟩ = pure [] := by intro _ _ _ _ _; rfl) :
    PE X (.Call (.Name x p) [.Lambda params body scope lpos] [] pos) (tD W F (dHeard told n isB gs gb)) := by
  subst hG
  exact de_heard hK hd hg hdb TB hcode hmT hu hr (lamS_by L) hdef hbind walk
theorem xget {keys : List (Option Expr)} {values : List Expr} (hK : F.K = X.K) (hu : X.A.units + 1 < cLine) (tb : List (Str × Int)) (hp : PPs X dpos keys values (trsOf tb)) (he : PE X e (tD W F ga)) (hf : PE X c (tD W F gb))
    (hall : keys.all (·.isSome) = true := by rfl) (hl : keys.length = values.length := by rfl) (h0 : keys ≠ [] := by intro z; cases z) (h15 : keys.length ≤ 15 := by decide) (ht : tb.length ≤ 15 := by decide)
    (m1 : attributeBase (.Dict keys values dpos) "get" X.env (eval (.Dict keys values dpos) X.env) = eval (.Dict keys values dpos) X.env := by rfl)
    (m2 : ((backTo pos (starEach [e, c] X.env)).all (fun x => !x.1) && (backToKw pos (keywordEach [] X.env)).all (fun x => x.1.isSome) && decide (([e, c] : List Expr).length + ([] : List Keyword).length + (if ([] : List Keyword).isEmpty then 0 else 1) < 30)) = true := by rfl)
    (m3 : (apos.endLine == pos.line) = true := by rfl) (m4 : backTo pos (starEach [e, c] X.env) = [(false, eval e X.env), (false, eval c X.env)] := by rfl) :
    PE X (.Call (.Attribute (.Dict keys values dpos) "get" apos) [e, c] [] pos) (tD W F (dGetTab tb ga gb)) := de_getTab hK hu hp hall hl h0 h15 ht he hf ⟨m1, m2, m3, m4⟩
end
end DL
end
section -- DL21
set_option maxRecDepth 100000
set_option maxHeartbeats 2000000
/-! DL21: a law's defs: how a body's rules become a promise. -/
namespace DL
open PySem PySem.Spec PyProof.Rows L2 LamX

/-- a body's rules: st the def, N its names, own the places of the lists that it is handed, k the room below, Cond what it leans on -/
def Body (P : Program) (st : Stmt) (N : List Str) (own : List Nat) (k : Nat) (Cond : World → PySem.W.Frag → (Str → Option Value) → Heap → Gx → Str → Value → Prop) (g : SDen) : Prop :=
  ∀ (w : World) (K : PySem.W.Frag) (mg : Str → Option Value) (base : Heap) (G : Gx) (qual : Str) (cdv : Value) (f : Addr) (A : Around) (outer : List Env) (s : Shared) (H : Hp) (E : XK) (F : Fr), G.K = K → Cond w K mg base G qual cdv → F.gx = G → (∀ i, i ∉ own → F.fre i) → (∀ i, F.raw i = none) →
    Room k (A.deeper (envOfC qual (defScope st) s.heap.objs.size f cdv)) → PSs (cxOf (L2N.CX P w) P w K mg base N qual (defScope st) f cdv A outer s H E) (defBody st) (tS (fun cls d _ H => E cls d H) F g)
theorem Body.fd {P : Program} {st : Stmt} {N ps : List Str} {own : List Nat} {k : Nat} {Cond : World → PySem.W.Frag → (Str → Option Value) → Heap → Gx → Str → Value → Prop} {g : SDen} (b : Body P st N own k Cond g) {w : World} {K : PySem.W.Frag} {mg : Str → Option Value} {base : Heap} {G : Gx} {x qual : Str} {f : Addr} {oc : Value}
    {od an : Option Addr} {osl : Array (Option Value)} {kV doc pm cdv ct : Value} (hG : G.K = K) (hm : mg x = some (.ref f)) (lk : K.lookup f = some ⟨oc, od, .func (PySem.W.fnOf x qual (defArgs st) (defBody st) (defScope st) .none kV doc pm an cdv ct), osl⟩) (hcd : PySem.W.codeIn K cdv qual = true) (kp : PySem.W.keepIn K (.ref f) = true)
    (S : FnScope N ps (defScope st)) (bd : L2.Binds K (PySem.W.fnOf x qual (defArgs st) (defBody st) (defScope st) .none kV doc pm an cdv ct) ps []) (hc : Cond w K mg base G qual cdv) : Fd P w K mg base G (k + 1) x (phiOf N.length ps.length own g) := by
  refine ⟨f, _, ps, hm, kp, bd, fn_of lk hcd S (fun vs H Q E h => ?_) fun A outer s H vs Q E hr h => ?_⟩
  · obtain ⟨F, sls, _, _, _, R, h⟩ := h
    unfold phiOf at h
    split at h
    · rename_i hok
      have := R.len
      rw [List.length_map] at this
      rw [this]
      exact (okArgs_par R hok).1
    · exact h.elim
  · obtain ⟨F, sls, gG, hH, hraw, R, h⟩ := h
    unfold phiOf at h
    split at h
    case isFalse => exact h.elim
    rename_i hok
    obtain ⟨hl, hp⟩ := okArgs_par R hok
    refine ⟨_, b w K mg base G qual cdv f A outer s H E F hG hc gG (fun i hi => ⟨hp i hi, hraw i⟩) hraw hr, F.par, sls ++ List.replicate (N.length - ps.length) .un, ?_, ?_⟩
    · have e : L2.start N vs = vs.map some ++ List.replicate (N.length - ps.length) none := by
        unfold L2.start
        have := R.len
        rw [List.length_map] at this
        rw [this, hl]
      rw [e]
      exact R.open' _
    · cases q : g (sls ++ List.replicate (N.length - ps.length) .un) with
      | nx δ' => rw [q] at h; exact fun ow' σ' H' R' _ => h .non H' R'.bk' ⟨.non, fun z => nomatch z⟩
      | rt a δ' => rw [q] at h; exact fun v ow' σ' H' R' r => h v H' R'.bk' r
      | exc c w δ' =>
        rw [q] at h
        refine fun cls dd ow' σ' H' R' z => h cls dd H' R'.bk' ?_
        obtain ⟨C, dx, v, e1, e2, e3, e4, e5, e6⟩ := z
        exact ⟨C, dx, v, e1, e2, e3, e4, fun q => e5 (par_A R' _ q), e6.avoid fun a _ q => par_A R' a q⟩
      | bk δ' => rw [q] at h; exact h.elim
      | ct δ' => rw [q] at h; exact h.elim
      | stuck => rw [q] at h; exact h.elim

/-- an own error -/
structure Ec (P : Program) (w : World) (K : PySem.W.Frag) (mg : Str → Option Value) (base : Heap) (G : Gx) (k : Nat) (x : Str) : Prop where
  ex : ∃ C, G.ex x = some C ∧ ExC1 P w K mg base k x C
/-- a written dict from texts -/
structure Tb (w : World) (K : PySem.W.Frag) (mg : Str → Option Value) (x : Str) (tab : List (Str × D)) : Prop where
  ex : ∃ dd, mg x = some (.ref dd) ∧ ∀ X : Cx, X.K = K → X.w = w → KTab X dd tab
/-- the lambdas of a def -/
structure Lm (mg : Str → Option Value) (base : Heap) (G : Gx) (qual : Str) (cdv : Value) : Prop where
  ex : ∃ c P, TabB base mg c P ∧ cdv = .ref c ∧ (P, qual ++ ".<locals>." ++ "<lambda>") ∈ G.T ∧ ∀ p ∈ G.T, p.1 = P → p.2 = qual ++ ".<locals>." ++ "<lambda>"
section
variable {X : Cx} {W : WX} {F : Fr} {G : Gx} {a e : Expr} {ga : Den} {x : Str} {p p2 pos rpos : Pos} {k j : Nat} {tab : List (Str × D)}
theorem srs (hK : F.K = X.K) (hG : F.gx = G) (tk : L2N.Takes X W) (T : Ec X.prog X.w X.K X.mg X.base G k x) (hr : Room j X.A) (hk : k + 1 ≤ j) (he : PE X e (tD W F ga)) (hc : X.calm = true := by rfl) (hg : Gl X x := by rfl) (hse : NoStar e := by intro _ _; rfl)
    (hdb : (x == ("__debug__" : Str)) = false := by decide) (hpl : (backTo pos (starEach [] X.env)).any (·.1) = false := by rfl) : PS X (.Raise (some (.Call (.Name x p) [e] [] pos)) none rpos) (tS W F (sRaise x ga)) := by
  obtain ⟨C, h1, h2⟩ := T.ex
  exact sraise hK tk (by rw [gx_ex hG]; exact h1) h2 hr hk he hc hg hse hdb hpl
theorem xin' (T : Tb X.w X.K X.mg x tab) (ha : PE X a (tD W F ga)) (hg : Gl X x := by rfl) (hdb : (x == ("__debug__" : Str)) = false := by decide) : PT X (.Compare a [.In] [.Name x p2] pos) (tT W F (dInTab tab false ga)) := by
  obtain ⟨dd, h1, h2⟩ := T.ex
  exact xin (h2 X rfl rfl) h1 ha hg hdb
theorem xnin' (T : Tb X.w X.K X.mg x tab) (ha : PE X a (tD W F ga)) (hg : Gl X x := by rfl) (hdb : (x == ("__debug__" : Str)) = false := by decide) : PT X (.Compare a [.NotIn] [.Name x p2] pos) (tT W F (dInTab tab true ga)) := by
  obtain ⟨dd, h1, h2⟩ := T.ex
  exact xnin (h2 X rfl rfl) h1 ha hg hdb
theorem xixt' (T : Tb X.w X.K X.mg x tab) (hK : F.K = X.K) (ha : PE X a (tD W F ga)) (hs : PlainIx a := by intro _ _; rfl) (hg : Gl X x := by rfl) (hdb : (x == ("__debug__" : Str)) = false := by decide) : PE X (.Subscript (.Name x p2) a pos) (tD W F (dIxTab tab ga)) := by
  obtain ⟨dd, h1, h2⟩ := T.ex
  exact xixt (h2 X rfl rfl) hK h1 ha hs hg hdb
theorem xhrd {told : Str} {n k : Nat} {isB : Str → Bool} {gs : Str → D → SDen} {gb : Den} {qual : Str} {cdv : Value} {params : Arguments} {body : Expr} {scope : Scope} {lpos : Pos} (hK : F.K = X.K) (hG : F.gx = G) (hd : HeardOk X.prog X.w X.K X.mg X.base G told isB gs x n)
    (L : Lm X.mg X.base G qual cdv) (hr : Room (k + 2) X.A)
    (walk : ∀ (A : Around) (outer : List Env) (s : Shared) (H : Hp) (E : XK) (f c' : Addr), Room k (A.deeper (lamEnv X scope s.heap.objs.size f c')) → PE (lamN X A outer s H E scope f c') body (tD (fun cls d _ H => E cls d H) F gb))
    (hcode : X.env.code = cdv := by rfl) (hq : X.env.qual ++ "<lambda>" = qual ++ ".<locals>." ++ "<lambda>" := by rfl)
    (hg : Gl X x := by rfl) (hdb : (x == ("__debug__" : Str)) = false := by decide) (Ls : lamSB X.env.scope scope = true := by rfl) (hdef : defaultsOf params X.env = ([], []) := by rfl)
    (hbind : ∀ (q : Str) (cl : List (Str × Addr)) (pm cv ctv : Value), bindArgs (PySem.W.kla_fn "<lambda>" q params body scope cl pm cv ctv) ⟨[], []⟩ = pure [] := by intro _ _ _ _ _; rfl) :
    PE X (.Call (.Name x p) [.Lambda params body scope lpos] [] pos) (tD W F (dHeard told n isB gs gb)) := by
  obtain ⟨c, P, h1, h2, h3, h4⟩ := L.ex
  exact xheard hK hG hd h1 (hcode.trans h2) (by rw [hq]; exact h3) (fun p hp e => by rw [hq]; exact h4 p hp e) hr walk hg hdb Ls hdef hbind
end
end DL
end
section -- DL22
set_option maxRecDepth 100000
set_option maxHeartbeats 2000000
/-! DL22: a suite that tells which error it holds. -/
namespace DL
open PySem PySem.Spec PyProof.Rows L2 LamX HotX L2H

/-- isinstance(.., x) of the own errors -/
structure IsC (K : PySem.W.Frag) (mg : Str → Option Value) (G : Gx) (x : Str) (isx : Str → Bool) : Prop where
  ex : ∃ B, mg x = some (.ref B) ∧ ∀ c C, G.ex c = some C → PySem.W.kitOne K (.ref C) (.ref B) = some (isx c)
/-- the own errors' classes -/
structure ExAll (K : PySem.W.Frag) (G : Gx) : Prop where
  all : ∀ c C, G.ex c = some C → ExC2 K C
section
variable {X : Cx} {W : WX} {F : Fr} {G : Gx} {a C : Addr} {oe : Obj} {pn : List (Addr × Obj)} {c : Str} {w : D} {cls : Value} {d : Option Addr} {x n f : Str} {p p1 p2 pos : Pos} {isx : Str → Bool}
theorem xisE (i : Nat) (hl : Held1 F cls d c w C) (hK : F.K = X.K) (hG : F.gx = G) (T : ExAll X.K G) (hz : L2N.Zn cls d oe) (hf : ∃ vs, oe.data = .fields vs) (I : IsC X.K X.mg G x isx) (hraw : F.raw i = some (.ref a)) (hm : X.mg f = none)
    (hg : Gl X f := by rfl) (hv : bootBuiltins f = some (.builtin "isinstance") := by rfl) (hnf : f ≠ "__name__" := by decide) (hdf : (f == ("__debug__" : Str)) = false := by decide)
    (hN : X.N[i]? = some n := by rfl) (hvn : Vis X.env.scope n := by first | exact Or.inl rfl | exact Or.inr (Or.inl rfl) | exact Or.inr (Or.inr rfl)) (hdn : (n == ("__debug__" : Str)) = false := by decide) (hcn : (n == ("__classdict__" : Str)) = false := by decide) (hgx : Gl X x := by rfl) (hdx : (x == ("__debug__" : Str)) = false := by decide)
    (hs : NoStar (.Name n p1) := by intro _ _; rfl) (hs2 : NoStar (.Name x p2) := by intro _ _; rfl) :
    PE (X.suite a ((a, oe) :: pn)) (.Call (.Name f p) [.Name n p1, .Name x p2] [] pos) (tD W F (dC (.bool (isx c)))) := by
  obtain ⟨B, h1, h2⟩ := I.ex
  have hx : G.ex c = some C := by rw [← gx_ex hG]; exact hl.ex
  exact de_isE hl hK (T.all c C hx) hz.zc hf (h2 c C hx) hraw hg hm hv hnf hdf hN hvn hdn hcn hgx h1 hdx hs hs2
theorem xwhat (i : Nat) (hl : Held1 F cls d c w C) (hK : F.K = X.K) (hG : F.gx = G) (T : ExAll X.K G) (hz : L2N.Zn cls d oe) (hf : ∃ vs, oe.data = .fields vs) (hraw : F.raw i = some (.ref a))
    (hN : X.N[i]? = some n := by rfl) (hvn : Vis X.env.scope n := by first | exact Or.inl rfl | exact Or.inr (Or.inl rfl) | exact Or.inr (Or.inr rfl)) (hdn : (n == ("__debug__" : Str)) = false := by decide) (hcn : (n == ("__classdict__" : Str)) = false := by decide)
    (hb : attributeBase (.Name n p1) "what" (X.suite a ((a, oe) :: pn)).env (eval (.Name n p1) (X.suite a ((a, oe) :: pn)).env) = eval (.Name n p1) (X.suite a ((a, oe) :: pn)).env := by rfl) :
    PE (X.suite a ((a, oe) :: pn)) (.Attribute (.Name n p1) "what" pos) (tD W F (dC w)) := by
  have hx : G.ex c = some C := by rw [← gx_ex hG]; exact hl.ex
  exact de_what hl hK (T.all c C hx) hz.zc hf hraw hN hvn hdn hcn hb
end
section
variable {X : Cx} {W : WX} {F : Fr} {elt tg iter : Expr} {ga ge : Den} {g : GDen} {t : TDen} {pos : Pos}
theorem xlcH {ifs : List Expr} {scope : Scope} (own : List (Str × Nat)) (hK : F.K = X.K) (hc : HotC X) (hi : PE X iter (tD W F ga))
    (hg : ∀ (s : Shared) (H : Hp) (C : Addr) (cl : List (Str × Addr)) (fp : List Addr) (F' : Fr), Sib F F' (own.map (·.2)) → HotZ (X.blk s H scope (compEnvC scope cl C X.env) fp) → PG (X.blk s H scope (compEnvC scope cl C X.env) fp) tg (tG F' (own.map (·.2)) g))
    (ht : ∀ (s : Shared) (H : Hp) (C : Addr) (cl : List (Str × Addr)) (fp : List Addr) (F' : Fr), Sib F F' (own.map (·.2)) → PTs (X.blk s H scope (compEnvC scope cl C X.env) fp) ifs (tT W0 F' t))
    (he : ∀ (s : Shared) (H : Hp) (C : Addr) (cl : List (Str × Addr)) (fp : List Addr) (F' : Fr), Sib F F' (own.map (·.2)) → PE (X.blk s H scope (compEnvC scope cl C X.env) fp) elt (tD W0 F' ge))
    (hN : X.N.Nodup := by decide) (ok : blkC X.N X.env.scope scope own = true := by rfl) (hs : ∀ x, foldedSetIterable iter X.env x = pure x := by intro _; rfl) :
    PE X (.ListComp elt [⟨tg, iter, ifs, 0⟩] scope pos) (tD W F (dLc (iLst ga) (own.map (·.2)) g t ge)) := de_lcH hK hc hN hi (blkOk_by ok) rfl hg ht he hs
theorem gtpH {vs : List Nat} {gg : GsDen} {k n : Nat} {es : List Expr} (hK : F.K = X.K) (hc : HotZ X) (h : PGs X es (tGs F vs gg)) (hn : (assignEach es X.env).length = n := by rfl) (hst : (assignEach es X.env).findIdx? (·.1) = none := by rfl) : PG X (.Tuple es k pos) (tG F vs (gTupD n gg)) := dg_tupH hK hc h hn hst
end
/-- what a suite's derivation is given -/
def Suite (P : Program) (wd : World) (K : PySem.W.Frag) (mg : Str → Option Value) (base : Heap) (G : Gx) (x : Str) (Ng : List Str) (i : Nat) (sg : Scope) (sts : List Stmt) (gs : Str → D → SDen) : Prop :=
  ∀ (g : Addr) (cdv : Value) (A : Around) (outer : List Env) (s : Shared) (H : Hp) (E : XK) (b : Addr) (oe : Obj) (cls : Value) (d : Option Addr) (pn : List (Addr × Obj)) (F' : Fr) (c : Str) (w : D) (C : Addr), L2N.Zn cls d oe → (∃ vs, oe.data = .fields vs) →
    HotC ((cxOf (L2N.CX P wd) P wd K mg base Ng x sg g cdv A outer s H E).suite b ((b, oe) :: pn)) → F'.gx = G → F'.raw i = some (.ref b) → (∀ j, j ≠ i → F'.fre j) → Held1 F' cls d c w C →
    PSs ((cxOf (L2N.CX P wd) P wd K mg base Ng x sg g cdv A outer s H E).suite b ((b, oe) :: pn)) sts (tS W0 F' (gs c w))
/-- the except suite of a def: try: .. / except .. as ..: suite -/
def suiteOf (st : Stmt) : List Stmt := match defBody st with
  | [.Try _ [.ExceptHandler _ _ s _] _ _ _] => s
  | _ => []
end DL
end
section -- DL23
set_option maxRecDepth 100000
set_option maxHeartbeats 2000000
/-! DL23: the top: where the defs and the errors' classes stand. -/
namespace DL
open PySem PySem.Spec PyProof.Rows L2 LamX

/-- the def x of the text st, its code object cdv -/
structure DefAt (K : PySem.W.Frag) (x : Str) (st : Stmt) (cdv : Value) : Prop where
  ex : ∃ (f : Addr) (oc : Value) (od an : Option Addr) (osl : Array (Option Value)) (kV doc pm ct : Value), PySem.W.nsIn K mainGlobals x = some (some (.ref f)) ∧
    K.lookup f = some ⟨oc, od, .func (PySem.W.fnOf x x (defArgs st) (defBody st) (defScope st) .none kV doc pm an cdv ct), osl⟩ ∧ PySem.W.codeIn K cdv x = true ∧ PySem.W.keepIn K (.ref f) = true
theorem defAt {K : PySem.W.Frag} {x : Str} {st : Stmt} {cdv : Value} {f : Addr} {oc : Value} {od an : Option Addr} {osl : Array (Option Value)} {kV doc pm ct : Value} (a : PySem.W.nsIn K mainGlobals x = some (some (.ref f)))
    (l : K.lookup f = some ⟨oc, od, .func (PySem.W.fnOf x x (defArgs st) (defBody st) (defScope st) .none kV doc pm an cdv ct), osl⟩) (c : PySem.W.codeIn K cdv x = true) (k : PySem.W.keepIn K (.ref f) = true) : DefAt K x st cdv := ⟨⟨f, oc, od, an, osl, kV, doc, pm, ct, a, l, c, k⟩⟩
theorem Body.at' {P : Program} {st : Stmt} {N ps : List Str} {own : List Nat} {k : Nat} {Cond : World → PySem.W.Frag → (Str → Option Value) → Heap → Gx → Str → Value → Prop} {g : SDen} (b : Body P st N own k Cond g) {w : World} {K : PySem.W.Frag} {mg : Str → Option Value} {base h : Heap} {G : Gx} {x : Str} {cdv : Value}
    (D : DefAt K x st cdv) (hG : G.K = K) (KX : K.In h) (Gn : h.Ns mainGlobals mg) (S : FnScope N ps (defScope st)) (bd : ∀ (kV doc pm : Value) (an : Option Addr) (cdv ct : Value) (us : List Value), us.length = ps.length → bindArgs (PySem.W.fnOf x x (defArgs st) (defBody st) (defScope st) .none kV doc pm an cdv ct) ⟨us, []⟩ = pure (ps.zip us))
    (hc : Cond w K mg base G x cdv) : Fd P w K mg base G (k + 1) x (phiOf N.length ps.length own g) := by
  obtain ⟨f, oc, od, an, osl, kV, doc, pm, ct, h1, h2, h3, h4⟩ := D.ex
  exact b.fd hG (PySem.W.mg_of KX Gn h1) h2 h3 h4 S (.all (bd kV doc pm an cdv ct)) hc
theorem Fd.mono {P : Program} {w : World} {K : PySem.W.Frag} {mg : Str → Option Value} {base : Heap} {G : Gx} {j k : Nat} {x : Str} {Φ : Phi} (d : Fd P w K mg base G j x Φ) (h : j ≤ k) : Fd P w K mg base G k x Φ := by
  obtain ⟨f, fd, ps, h1, h2, h3, h4⟩ := d.ex
  exact ⟨f, fd, ps, h1, h2, h3, h4.mono h⟩
/-- the promise that nothing is asked -/
theorem Fd.none {P : Program} {w : World} {K : PySem.W.Frag} {mg : Str → Option Value} {base : Heap} {G : Gx} {k : Nat} {x : Str} {Φ : Phi} (d : Fd P w K mg base G k x Φ) : Fd P w K mg base G 0 x (fun _ => .stuck) := by
  obtain ⟨f, fd, ps, h1, h2, h3, h4⟩ := d.ex
  have no : ∀ vs H Q E, ¬ spD G (fun _ => .stuck) vs H Q E := fun vs H Q E h => by
    obtain ⟨F, sls, _, _, _, _, z⟩ := h
    exact z
  exact ⟨f, fd, ps, h1, h2, h3, ⟨fun vs H Q E h => absurd h (no vs H Q E), fun A outer s H args us vs Q E _ _ _ _ h => absurd h (no vs H Q E)⟩⟩
theorem DefAt.none {P : Program} {w : World} {K : PySem.W.Frag} {mg : Str → Option Value} {base h : Heap} {G : Gx} {x : Str} {st : Stmt} {cdv : Value} {ps : List Str} (D : DefAt K x st cdv) (KX : K.In h) (Gn : h.Ns mainGlobals mg)
    (bd : ∀ (kV doc pm : Value) (an : Option Addr) (cdv ct : Value) (us : List Value), us.length = ps.length → bindArgs (PySem.W.fnOf x x (defArgs st) (defBody st) (defScope st) .none kV doc pm an cdv ct) ⟨us, []⟩ = pure (ps.zip us)) : Fd P w K mg base G 0 x (fun _ => .stuck) := by
  obtain ⟨f, oc, od, an, osl, kV, doc, pm, ct, h1, h2, h3, h4⟩ := D.ex
  have no : ∀ vs H Q E, ¬ spD G (fun _ => .stuck) vs H Q E := fun vs H Q E h => by
    obtain ⟨F, sls, _, _, _, _, z⟩ := h
    exact z
  exact ⟨f, _, ps, PySem.W.mg_of KX Gn h1, h4, .all (bd kV doc pm an cdv ct), ⟨fun vs H Q E h => absurd h (no vs H Q E), fun A outer s H args us vs Q E _ _ _ _ h => absurd h (no vs H Q E)⟩⟩
/-- an own error's class at C, its __init__ at f -/
structure ErrAt (K : PySem.W.Frag) (x : Str) (C f : Addr) : Prop where
  gx : PySem.W.nsIn K mainGlobals x = some (some (.ref C))
  cl : ∃ nm q N bs bm sn sub ab col dd k0 k1 k2 k3 k5, K.lookup C = some (excClassObj nm q C N bs bm true sn sub ab col dd k0 k1 k2 k3 k5 "ValueError.__new__") ∧ PySem.HandSPX.refsVE bm = true
  sa : PySem.W.findIn K (.ref C) "__setattr__" = some (some (.builtin "object.__setattr__"))
  eC : PySem.W.subIn K (.ref C) (.type "BaseException") = some true
  tC : PySem.W.typeIn K (.ref C) = some (.type "type")
  kC : PySem.W.keepIn K (.ref C) = true
  no : PySem.W.findIn K (.ref C) "what" = some none
  iC : PySem.W.findIn K (.ref C) "__init__" = some (some (.ref f))
  tI : PySem.W.typeIn K (.ref f) = some (.type "function")
  cc : (PySem.W.clsIn K C).isSome = true
  ga : PySem.W.findIn K (.ref C) "__getattribute__" = some (some (.builtin "BaseException.__getattribute__"))
  gt : PySem.W.findIn K (.ref C) "__getattr__" = some none
  cs : PySem.W.findIn K (.ref C) "__class__" = some (some (.builtin "object.__class__"))
  mr : PySem.W.mroIn K C (.type "object") = some true
  hd : PySem.W.hasDictIn K C = true
end DL
end
section -- DL24
set_option maxRecDepth 100000
set_option maxHeartbeats 2000000
/-! DL24: the script: a list of ints that stands behind the first name. -/
namespace DL
open PySem PySem.Spec PyProof.Rows L2 LamX

structure Scr (F : Fr) (a : Addr) (ns : List Int) : Prop where
  raw0 : F.raw 0 = some (.ref a)
  rest : ∀ i, i ≠ 0 → F.raw i = none
  seq : SqL F.K F.H0 a (ns.map V.int)
  np : ∀ i, F.par i ≠ some a
section
variable {X : Cx} {W : WX} {F : Fr} {ow : Ow} {δ : Sta} {σ : L2.St} {H : Hp} {a : Addr} {ns : List Int} {e : Expr} {ge : Den} {x y : Str} {p p1 pos : Pos}
theorem Scr.now (S : Scr F a ns) (R : Rel F NoB ow δ σ H) : SqL F.K H a (ns.map V.int) := by
  rcases S.seq with (h | ⟨o, h⟩) | h
  · exact .inl (.inl (R.frame _ _ h S.np nt_lst))
  · exact .inl (.inr ⟨o, R.frame _ _ h S.np nt_frz⟩)
  · exact .inr h
theorem xlenS (hK : F.K = X.K) (S : Scr F a ns) (hm : X.mg x = none) (hN : X.N[0]? = some y := by rfl) (hvy : Vis X.env.scope y := by first | exact Or.inl rfl | exact Or.inr (Or.inl rfl) | exact Or.inr (Or.inr rfl)) (hd : (y == ("__debug__" : Str)) = false := by decide) (hcd : (y == ("__classdict__" : Str)) = false := by decide)
    (hv : bootBuiltins x = some (.builtin "len") := by rfl) (hg : Gl X x := by rfl) (hs : NoStar (.Name y p1) := by intro _ _; rfl) (hn : x ≠ "__name__" := by decide) (hdb : (x == ("__debug__" : Str)) = false := by decide) :
    PE X (.Call (.Name x p) [.Name y p1] [] pos) (tD W F (dC (.int ns.length))) := by
  refine PE.imp (pe_callB call_len hg hm hv (pa_cons (pe_var (i := 0) hN hvy hd hcd) pa_nil (hs _ _)) hn hdb (hs _ _) rfl) fun σ H Q h => ?_
  obtain ⟨ow, δ, R, h⟩ := h
  refine ⟨.ref a, R.raw 0 _ S.raw0, .ref a, ns.length, rfl, .inl ⟨_, by rw [← hK]; exact S.now R, by rw [List.length_map]⟩, PostE.ret h R (.int _)⟩
def dIxS (ns : List Int) (ge : Den) : Den := fun δ => (ge δ).bind fun i δ1 => match i.1 with
  | .int j => match L2.atI ns j with
    | some z => .ok (.int z, false) δ1
    | none => .stuck
  | _ => .stuck
theorem atI_map {j : Int} {z : Int} (h : L2.atI ns j = some z) : L2.atI (ns.map V.int) j = some (.int z) := by
  unfold L2.atI at h ⊢
  rw [List.length_map]
  cases q : ixN ns.length j with
  | none => rw [q] at h; cases h
  | some k =>
    rw [q] at h
    have h : ns[k]? = some z := h
    show (ns.map V.int)[k]? = some (.int z)
    rw [List.getElem?_map, h]; rfl
theorem xixS (hK : F.K = X.K) (S : Scr F a ns) (he : PE X e (tD W F ge)) (hN : X.N[0]? = some y := by rfl) (hvy : Vis X.env.scope y := by first | exact Or.inl rfl | exact Or.inr (Or.inl rfl) | exact Or.inr (Or.inr rfl)) (hd : (y == ("__debug__" : Str)) = false := by decide) (hcd : (y == ("__classdict__" : Str)) = false := by decide)
    (hs : PlainIx e := by intro _ _; rfl) : PE X (.Subscript (.Name y p1) e pos) (tD W F (dIxS ns ge)) := by
  refine PE.imp (pe_ix ix_seq (pe_var (i := 0) hN hvy hd hcd) he hs) fun σ H Q h => ?_
  obtain ⟨ow, δ, R, h⟩ := h
  refine ⟨.ref a, R.raw 0 _ S.raw0, ow, δ, R, ?_⟩
  unfold dIxS at h
  cases q : ge δ with
  | exc c w δ' => rw [q] at h; exact h
  | stuck => rw [q] at h; exact h
  | ok i δ2 =>
    rw [q] at h
    intro v H2 R2 e2 r2 _
    have z := PostE.go R2 e2 h
    dsimp only [Rs.bind_ok] at z
    split at z
    case h_2 => exact z.elim
    rename_i j ej
    rw [ej] at r2
    split at z
    case h_2 => exact z.elim
    rename_i zz hz
    exact .inl ⟨a, _, _, _, rfl, r2.intE, by rw [← hK]; exact S.now R2, atI_map hz, PostE.ret z R2 (.int _)⟩
end
/-- a def of the script alone: n names -/
def phiS (n : Nat) (g : SDen) : Ret := match g (List.replicate n .un) with
  | .nx δ => .rt (.none, false) δ
  | .rt a δ => .rt a δ
  | .exc c w δ => .exc c w δ
  | _ => .stuck
def spS (G : Gx) (n : Nat) (g : List Int → SDen) : Sp := fun vs H Q E => ∃ (F : Fr) (a : Addr) (ns : List Int), F.gx = G ∧ F.H0 = H ∧ vs = [.ref a] ∧ (∀ i, F.par i = none) ∧ Scr F a ns ∧ Rel F NoB (fun _ => none) [.un] [some (.ref a)] H ∧ PostC F Q E (phiS n (g ns))
def BodyS (P : Program) (st : Stmt) (N : List Str) (k : Nat) (Cond : World → PySem.W.Frag → (Str → Option Value) → Heap → Gx → Str → Value → Prop) (g : List Int → SDen) : Prop :=
  ∀ (w : World) (K : PySem.W.Frag) (mg : Str → Option Value) (base : Heap) (G : Gx) (qual : Str) (cdv : Value) (f : Addr) (A : Around) (outer : List Env) (s : Shared) (H : Hp) (E : XK) (F : Fr) (a : Addr) (ns : List Int), G.K = K → Cond w K mg base G qual cdv → F.gx = G → (∀ i, i ≠ 0 → F.fre i) → Scr F a ns →
    Room k (A.deeper (envOfC qual (defScope st) s.heap.objs.size f cdv)) → PSs (cxOf (L2N.CX P w) P w K mg base N qual (defScope st) f cdv A outer s H E) (defBody st) (tS (fun cls d _ H => E cls d H) F (g ns))
theorem BodyS.ok {P : Program} {st : Stmt} {N ps : List Str} {k : Nat} {Cond : World → PySem.W.Frag → (Str → Option Value) → Heap → Gx → Str → Value → Prop} {g : List Int → SDen} (b : BodyS P st N k Cond g) {w : World} {K : PySem.W.Frag} {mg : Str → Option Value} {base : Heap} {G : Gx} {x qual : Str} {f : Addr} {oc : Value}
    {od an : Option Addr} {osl : Array (Option Value)} {kV doc pm cdv ct : Value} (hG : G.K = K) (lk : K.lookup f = some ⟨oc, od, .func (PySem.W.fnOf x qual (defArgs st) (defBody st) (defScope st) .none kV doc pm an cdv ct), osl⟩) (hcd : PySem.W.codeIn K cdv qual = true)
    (S : FnScope N ps (defScope st)) (h1 : ps.length = 1) (hc : Cond w K mg base G qual cdv) : FnOk P w K mg base (L2N.CX P w) (k + 1) f (PySem.W.fnOf x qual (defArgs st) (defBody st) (defScope st) .none kV doc pm an cdv ct) ps (spS G N.length g) := by
  refine fn_of lk hcd S (fun vs H Q E h => ?_) fun A outer s H vs Q E hr h => ?_
  · obtain ⟨F, a, ns, _, _, e, _⟩ := h
    rw [e, h1]; rfl
  · obtain ⟨F, a, ns, gG, hH, ev, hp, hS, R, h⟩ := h
    subst ev
    have hN : 1 ≤ N.length := by
      have := congrArg List.length S.pre
      rw [List.length_take, h1] at this
      omega
    refine ⟨_, b w K mg base G qual cdv f A outer s H E F a ns hG hc gG (fun i hi => ⟨hp i, hS.rest i hi⟩) hS hr, fun _ => none, List.replicate N.length .un, ?_, ?_⟩
    · have e1 : List.replicate N.length Sl.un = [.un] ++ List.replicate (N.length - 1) .un := by
        rw [show N.length = (N.length - 1) + 1 by omega, List.replicate_succ]
        simp
      have e2 : L2.start N [.ref a] = [V.ref a].map some ++ List.replicate (N.length - 1) none := rfl
      rw [e1, e2]
      exact Rel.open' (sls := [.un]) (vs := [.ref a]) R _
    · unfold phiS at h
      cases q : g ns (List.replicate N.length .un) with
      | nx δ' => rw [q] at h; exact fun ow' σ' H' R' _ => h .non H' R'.bk' ⟨.non, fun z => nomatch z⟩
      | rt z δ' => rw [q] at h; exact fun v ow' σ' H' R' r => h v H' R'.bk' r
      | exc c w δ' =>
        rw [q] at h
        refine fun cls dd ow' σ' H' R' z => h cls dd H' R'.bk' ?_
        obtain ⟨C, dx, v, e1, e2, e3, e4, e5, e6⟩ := z
        exact ⟨C, dx, v, e1, e2, e3, e4, fun q => e5 (par_A R' _ q), e6.avoid fun a _ q => par_A R' a q⟩
      | bk δ' => rw [q] at h; exact h.elim
      | ct δ' => rw [q] at h; exact h.elim
      | stuck => rw [q] at h; exact h.elim
/-- such a def in the law -/
structure FdS (P : Program) (w : World) (K : PySem.W.Frag) (mg : Str → Option Value) (base : Heap) (G : Gx) (k : Nat) (x : Str) (n : Nat) (g : List Int → SDen) : Prop where
  ex : ∃ (f : Addr) (fd : FuncData) (ps : List Str), mg x = some (.ref f) ∧ PySem.W.keepIn K (.ref f) = true ∧ L2.Binds K fd ps [] ∧ FnOk P w K mg base (L2N.CX P w) k f fd ps (spS G n g)
/-- f(script), where nothing is raised -/
def dCallS (r : Ret) : Den := fun δ => match r with
  | .rt a _ => .ok a δ
  | _ => .stuck
section
variable {X : Cx} {W : WX} {F : Fr} {G : Gx} {a : Addr} {ns : List Int} {x y : Str} {p p1 pos : Pos} {k j n : Nat} {g : List Int → SDen}
theorem xfS (hG : F.gx = G) (S : Scr F a ns) (D : FdS X.prog X.w X.K X.mg X.base G k x n g) (hr : Room j X.A) (hk : k ≤ j) (tk : L2N.Takes X W) (hN : X.N[0]? = some y := by rfl) (hvy : Vis X.env.scope y := by first | exact Or.inl rfl | exact Or.inr (Or.inl rfl) | exact Or.inr (Or.inr rfl)) (hd : (y == ("__debug__" : Str)) = false := by decide)
    (hcd : (y == ("__classdict__" : Str)) = false := by decide) (hg : Gl X x := by rfl) (hs : NoStar (.Name y p1) := by intro _ _; rfl) (hdb : (x == ("__debug__" : Str)) = false := by decide) (hpl : (backTo pos (starEach [] X.env)).any (·.1) = false := by rfl) :
    PE X (.Call (.Name x p) [.Name y p1] [] pos) (tD W F (dCallS (phiS n (g ns)))) := by
  obtain ⟨f, fd, ps, h1, h2, h3, h4⟩ := D.ex
  refine PE.imp (pe_callSD (E := WE W) (h4.mono hk) hr hg h1 h2 h3 .nil (L2N.passAt tk) (pa_cons (pe_var (i := 0) hN hvy hd hcd) pa_nil (hs _ _)) hdb (hs _ _) hpl) fun σ H Q h => ?_
  obtain ⟨ow, δ, R, h⟩ := h
  refine ⟨.ref a, R.raw 0 _ S.raw0, ?_⟩
  have sq := S.now R
  let F' : Fr := ⟨F.K, H, F.T, fun _ => none, F.A NoB ow, F.ex, fun i => if i = 0 then some (.ref a) else none⟩
  have S' : Scr F' a ns := ⟨rfl, fun i hi => (if_neg hi : (if i = 0 then some (V.ref a) else none) = none), sq, fun i z => nomatch z⟩
  have R' : Rel F' NoB (fun _ => none) [.un] [some (.ref a)] H := by
    refine ⟨rfl, fun i s q => ?_, fun _ _ => rfl, (fun _ _ _ z => nomatch z), fun b o e _ _ => e, (fun _ _ z => nomatch z), (fun _ _ z => nomatch z), fun b z => ⟨R.tracked z, (fun _ y => nomatch y)⟩, fun _ z => z.elim, R.kf, R.tabs, fun i v q => ?_⟩
    · cases i with
      | zero => simp at q; subst q; rfl
      | succ i => simp at q
    · have q : (if i = 0 then some (V.ref a) else none) = some v := q
      by_cases hi : i = 0
      · rw [if_pos hi] at q; cases q; rw [hi]; rfl
      · rw [if_neg hi] at q; cases q
  refine ⟨F', a, ns, hG, rfl, rfl, fun _ => rfl, S', R', ?_⟩
  unfold dCallS at h
  cases q : phiS n (g ns) with
  | stuck => rw [q] at h; exact h.elim
  | exc c w o => rw [q] at h; exact h.elim
  | rt z outs =>
    rw [q] at h
    intro v H' b rv
    have e2 : Ext NoB H H' := fun c o e _ t => b.frame c o e (fun _ z => nomatch z) t
    have av : ∀ c, F.A NoB ow c → (F'.amb c ∨ ∃ i, F'.par i = some c) := fun c y => .inl y
    refine h v H' (R.grow e2 (fun c z => z.elim) b.kf b.tabs) (e2.weak fun c z => z.elim) (rv.1.avoid fun c _ y => av c y) fun q2 => ?_
    obtain ⟨p, ws, ds, e1, e3, e4, e5, e6, e7, e8⟩ := rv.2 q2
    have R2 := R.grow e2 (fun c z => z.elim) b.kf b.tabs
    have nA : ¬ F.A NoB ow p := e6
    refine ⟨p, ws, ds, e1, e3, ?_, e4, e7.avoid fun c _ y => ?_, e5, fun z => nA (.inl z)⟩
    · have kp : F.K.lookup p = none := kf_none b.kf e4
      have ht : ∃ o, H' p = some o ∧ NT o := ⟨_, e4, nt_lst⟩
      have sub : ∀ c, Known F.K H c → F.A (· = p) ow c → F.A NoB ow c := fun c k y => by
        rcases y with y | y | y
        · exact .inl y
        · exact absurd y (known_ne k e5 kp)
        · exact .inr (.inr y)
      have nO : ∀ i c, ow i = some c → c ≠ p := fun i c q z => nA (.inr (.inr ⟨i, by rw [← z]; exact q⟩))
      refine ⟨R2.len, fun i s q => ?_, R2.out, R2.inj, R2.frame, fun i c q => ⟨(R2.fresh i c q).1, (R2.fresh i c q).2.1, nO i c q⟩, R2.par, R2.amb, fun c q => by rw [show c = p from q]; exact ht, R2.kf, R2.tabs, R2.raw⟩
      have z := R.slot i s q
      cases s with
      | un => exact z
      | val d => obtain ⟨z1, w, z2, z3⟩ := z; exact ⟨z1, w, z2, (z3.avoid sub).ext (e2.weak fun c z => z.elim)⟩
      | own u =>
        obtain ⟨c, z1, z2, z3⟩ := z
        refine ⟨c, z1, z2, (z3.avoid sub).ext (e2.weak fun c z => z.elim) ?_⟩
        obtain ⟨o, w1, w2⟩ := R.tracked (.inr (.inr ⟨i, z1⟩))
        rw [w1]
        exact e2 c o w1 (fun z => z) w2
    · rcases y with y | y | y
      · exact .inr (.inl (.inl y))
      · exact .inl y
      · exact .inr (.inl (.inr (.inr y)))
end
end DL
end
section -- DL25
set_option maxRecDepth 100000
set_option maxHeartbeats 2000000
/-! DL25: the top's tables; the law told to the top. -/
namespace DL
open PySem PySem.Spec PyProof.Rows L2 LamX

/-- the entries of a written dict from texts to ints -/
def EsOk (P : Params) : List DictEntry → List (Str × Int) → Prop
  | [], [] => True
  | e :: es, p :: ps => (∃ t, e.key = .str p.1 t) ∧ (∃ t, e.val = .int p.2 t) ∧ e.hash = PyData.keyHash P p.1 ∧ EsOk P es ps
  | _, _ => False
def tabD (tab : List (Str × Int)) : List (Str × D) := tab.map fun p => (p.1, .int p.2)
theorem esOk_lit {P : Params} : ∀ {es : List DictEntry} {tab : List (Str × Int)}, EsOk P es tab → PySem.W.KeysLit P es
  | [], _, _ => trivial
  | e :: es, [], h => h.elim
  | e :: es, p :: ps, ⟨⟨t, h1⟩, _, h3, h4⟩ => ⟨⟨p.1, t, h1, h3⟩, esOk_lit h4⟩
theorem esOk_get {P : Params} : ∀ {es : List DictEntry} {tab : List (Str × Int)} (z : Str), EsOk P es tab → match (tabD tab).lookup z with
    | some d => ∃ e i t, es.find? (·.key.isStr z) = some e ∧ e.val = .int i t ∧ d = .int i
    | none => es.find? (·.key.isStr z) = none ∧ es.any (·.refKey) = false
  | [], [], z, _ => ⟨rfl, rfl⟩
  | [], _ :: _, z, h => h.elim
  | e :: es, [], z, h => h.elim
  | e :: es, p :: ps, z, ⟨⟨t, h1⟩, ⟨u, h2⟩, _, h4⟩ => by
    have ih := esOk_get z h4
    have k : e.key.isStr z = (p.1 == z) := by rw [h1]; rfl
    have r : e.refKey = false := by unfold DictEntry.refKey; rw [h1]
    show match (tabD (p :: ps)).lookup z with
      | some d => _
      | none => _
    unfold tabD
    rw [List.map_cons, List.lookup_cons]
    by_cases c : z = p.1
    · subst c
      simp only [beq_self_eq_true]
      exact ⟨e, p.2, u, by rw [List.find?_cons, k, beq_self_eq_true], h2, rfl⟩
    · have c1 : (z == p.1) = false := by simpa using c
      have c2 : (p.1 == z) = false := by simpa using Ne.symm c
      simp only [c1]
      have f : (e :: es).find? (·.key.isStr z) = es.find? (·.key.isStr z) := by rw [List.find?_cons, k, c2]
      have a : (e :: es).any (·.refKey) = es.any (·.refKey) := by rw [List.any_cons, r, Bool.false_or]
      rw [f, a]
      exact ih
theorem tb_mk {w : World} {K : PySem.W.Frag} {h : Heap} {mg : Str → Option Value} {x : Str} {d : Addr} {es : Array DictEntry} {n : Nat} {tab : List (Str × Int)} (KX : K.In h) (Gn : h.Ns mainGlobals mg) (a : PySem.W.nsIn K mainGlobals x = some (some (.ref d)))
    (l : K.lookup d = some ⟨.type "dict", none, .dict es n, #[]⟩) (low : (d == sysModules) = false) (ok : EsOk w.params es.toList tab) : Tb w K mg x (tabD tab) := by
  refine ⟨d, PySem.W.mg_of KX Gn a, fun X hK hw => ⟨⟨es, n, by rw [hK]; exact l, by rw [hw]; exact esOk_lit ok, low⟩, fun z => ?_⟩⟩
  have g := esOk_get z ok
  rw [hK]
  split at g
  · rename_i d' q
    obtain ⟨e, i, t, g1, g2, g3⟩ := g
    try rw [q]
    refine ⟨.int i t, .int i, ?_, ⟨t, rfl⟩, fun _ _ => by rw [g3]; exact .int i⟩
    unfold PySem.W.nsIn
    rw [l]
    dsimp only
    rw [g1]
    dsimp only
    rw [g2]
  · rename_i q
    try rw [q]
    unfold PySem.W.nsIn
    rw [l]
    dsimp only
    rw [g.1]
    dsimp only
    rw [g.2]
    rfl
/-- the law's promise, told to the top -/
theorem law_at {l : PySem.W.OpenLaw} {w : World} {K : PySem.W.Frag} {k n : Nat} {x : Str} {mg : Str → Option Value} {fa : Addr} {h : Heap} {st : Stmt} {cdv : Value} {N : List Str} {g : List Int → SDen} {ex : Str → Option Addr} {T : List (Addr × Str)} (cs : List (Addr × Addr))
    (D : DefAt K "law" st cdv) (KX : K.In h) (Gn : h.Ns mainGlobals mg) (hfa : mg "law" = some (.ref fa))
    (c1 : ∀ p ∈ cs, h.get? p.2 = some { cls := .none, data := .fields #[] }) (c2 : ∀ p ∈ cs, List.lookup p.2 K = none) (c3 : ∀ p ∈ cs, PySem.W.CodeHd h p.1 p.2)
    (hT : ∀ p ∈ T, ∃ q ∈ cs, q.2 = p.1)
    (bd : ∀ (kV doc pm : Value) (an : Option Addr) (cdv ct : Value) (us : List Value), us.length = 1 → bindArgs (PySem.W.fnOf "law" "law" (defArgs st) (defBody st) (defScope st) .none kV doc pm an cdv ct) ⟨us, []⟩ = pure ([x].zip us))
    (plain : ∀ ns : List Int, ns.length ≤ n → (∀ z ∈ ns, Builtin.Int.intBits z ≤ 1048576) → ∃ fr outs, phiS N.length (g ns) = .rt (.bool true, fr) outs)
    (ok : ∀ base : Heap, K.In base → base.Ns mainGlobals mg → (∀ p ∈ cs, TabB base mg p.1 p.2) → ∀ (f : Addr) (oc : Value) (od an : Option Addr) (osl : Array (Option Value)) (kV doc pm ct : Value), K.lookup f = some ⟨oc, od, .func (PySem.W.fnOf "law" "law" (defArgs st) (defBody st) (defScope st) .none kV doc pm an cdv ct), osl⟩ → PySem.W.codeIn K cdv "law" = true →
      FnOk l.prog w K mg base (L2N.CX l.prog w) k f (PySem.W.fnOf "law" "law" (defArgs st) (defBody st) (defScope st) .none kV doc pm an cdv ct) [x] (spS ⟨K, T, ex⟩ N.length g)) :
    LawAtS l w K (L2N.CX l.prog w) k n x mg fa h := by
  obtain ⟨f, oc, od, an, osl, kV, doc, pm, ct, h1, h2, h3, h4⟩ := D.ex
  have e : fa = f := by
    have := hfa.symm.trans (PySem.W.mg_of KX Gn h1)
    cases this; rfl
  subst e
  refine ⟨PySem.W.fnOf "law" "law" (defArgs st) (defBody st) (defScope st) .none kV doc pm an cdv ct, cs, fun vs H Q E => vs.length = 1 ∧ (KF K H → spS ⟨K, T, ex⟩ N.length g vs H Q E), c1, c2, c3, fun s u => .of_eq (bd _ _ _ _ _ _ [u] rfl), fun H a ns hl hz hP hS => ⟨rfl, fun kf => ?_⟩, fun base kb nb tb => ?_⟩
  · obtain ⟨fr, outs, hp⟩ := plain ns hl hz
    let F : Fr := ⟨K, H, T, fun _ => none, NoB, ex, fun i => if i = 0 then some (.ref a) else none⟩
    have S : Scr F a ns := ⟨rfl, fun i hi => (if_neg hi : (if i = 0 then some (V.ref a) else none) = none), hS, fun i z => nomatch z⟩
    have R : Rel F NoB (fun _ => none) [.un] [some (.ref a)] H := by
      refine ⟨rfl, fun i s q => ?_, fun _ _ => rfl, (fun _ _ _ z => nomatch z), fun b o e _ _ => e, (fun _ _ z => nomatch z), (fun _ _ z => nomatch z), fun b z => z.elim, fun _ z => z.elim, kf, fun p hp => ?_, fun i v q => ?_⟩
      · cases i with
        | zero => simp at q; subst q; rfl
        | succ i => simp at q
      · obtain ⟨q, hq, e⟩ := hT p hp
        exact TabS.nil (by rw [← e]; exact hP q hq)
      · have q : (if i = 0 then some (V.ref a) else none) = some v := q
        by_cases hi : i = 0
        · rw [if_pos hi] at q; cases q; rw [hi]; rfl
        · rw [if_neg hi] at q; cases q
    refine ⟨F, a, ns, rfl, rfl, rfl, fun _ => rfl, S, R, ?_⟩
    rw [hp]
    intro v H' _ rv
    exact rv.1.blE
  · have F0 := ok base kb nb tb fa oc od an osl kV doc pm ct h2 h3
    refine ⟨fun vs H Q E z => z.1, fun A outer s H args us vs Q E hr e0 hb r z => F0.run A outer s H args us vs Q E hr e0 hb r (z.2 fun a o e => (e0.bs a o (e0.mod.kin a o e)).2)⟩
/-! ### the law's own helpers -/
theorem BodyS.at' {P : Program} {st : Stmt} {N ps : List Str} {k : Nat} {Cond : World → PySem.W.Frag → (Str → Option Value) → Heap → Gx → Str → Value → Prop} {g : List Int → SDen} (b : BodyS P st N k Cond g) {w : World} {K : PySem.W.Frag} {mg : Str → Option Value} {base h : Heap} {G : Gx} {x : Str} {cdv : Value}
    (D : DefAt K x st cdv) (hG : G.K = K) (KX : K.In h) (Gn : h.Ns mainGlobals mg) (S : FnScope N ps (defScope st)) (h1 : ps.length = 1) (bd : ∀ (kV doc pm : Value) (an : Option Addr) (cdv ct : Value) (us : List Value), us.length = ps.length → bindArgs (PySem.W.fnOf x x (defArgs st) (defBody st) (defScope st) .none kV doc pm an cdv ct) ⟨us, []⟩ = pure (ps.zip us))
    (hc : Cond w K mg base G x cdv) : FdS P w K mg base G (k + 1) x N.length g := by
  obtain ⟨f, oc, od, an, osl, kV, doc, pm, ct, a1, a2, a3, a4⟩ := D.ex
  exact ⟨f, _, ps, PySem.W.mg_of KX Gn a1, a4, .all (bd kV doc pm an cdv ct), b.ok hG a2 a3 S h1 hc⟩
section
variable {K : PySem.W.Frag} {mg : Str → Option Value} {h : Heap} {x : Str} {C f : Addr}
theorem ErrAt.exc1 {P : Program} {w : World} {base : Heap} {k : Nat} {fd : FuncData} (e : ErrAt K x C f) (KX : K.In h) (Gn : h.Ns mainGlobals mg) (F : FnOk P w K mg base (L2N.CX P w) k f fd [("self" : Str), ("what" : Str)] (spI K)) (b : L2.Binds K fd [("self" : Str), ("what" : Str)] []) : ExC1 P w K mg base k x C :=
  ⟨⟨e.cl, e.sa, e.eC, e.tC, e.kC⟩, e.no, PySem.W.mg_of KX Gn e.gx, f, fd, e.iC, e.tI, F, b⟩
theorem ErrAt.exc2 (e : ErrAt K x C f) (sp : PySem.W.specialIn K (.builtin "object.__class__") "__get__" = some (some (.builtin "getset_descriptor.__get__"))) (tk : PySem.W.takesIn K (.builtin "object.__class__") = some true) : ExC2 K C :=
  ⟨e.cc, e.ga, e.gt, e.eC, e.cs, sp, tk, e.mr, e.hd, e.no⟩
end
end DL
end
section -- K86a
set_option maxRecDepth 100000
set_option maxHeartbeats 4000000
namespace DL
open PySem PySem.Spec PyProof.Rows L2 LamX HotX L2H
abbrev P86 : Program := PySem.Challenge.pw_turnsonce_k86_deeds_lines
def at86 (i : Nat) : Stmt := P86.main.body.getD i (.Pass ⟨0, 0, 0, 0⟩)
def BL : List Str := ["isinstance", "int", "str", "tuple", "list", "bool", "len", "range", "min", "max", "all"]
structure B86 (K : PySem.W.Frag) (mg : Str → Option Value) : Prop where
  nb : ∀ x, x ∈ BL → mg x = none
  c_MOST_SPOTS_OF_WAY : ∃ t : Tok, mg "MOST_SPOTS_OF_WAY" = some (.int 40 t)
  c_MOST_SIGNS : ∃ t : Tok, mg "MOST_SIGNS" = some (.int 1000000 t)
  c_MOST_NUMBER : ∃ t : Tok, mg "MOST_NUMBER" = some (.int 99999999999999999999 t)
  c_NUMBER_FIGURES : ∃ t : Tok, mg "NUMBER_FIGURES" = some (.int 20 t)
  c_TEN_FIGURES : ∃ t : Tok, mg "TEN_FIGURES" = some (.str "0123456789" t)
def T_DEED_LENGTHS : List (Str × D) := tabD [("place", 1), ("move", 4), ("unmove", 4), ("changer", 2), ("plain", 2), ("run", 2), ("stop", 2)]
def T_DEED_NUMBERS : List (Str × D) := tabD [("place", 0), ("move", 3), ("unmove", 3), ("changer", 1), ("plain", 1), ("stop", 1)]
def isB86 (_ : Str) : Bool := true
def N_heard : List Str := ["deed", "refused_one", "some", "name", "is_one"]
def st_heard : Stmt := at86 39
structure H86 (K : PySem.W.Frag) (mg : Str → Option Value) (G : Gx) : Prop where
  gk : G.K = K
  all : ExAll K G
  i1 : IsC K mg G "BadDeed" (fun c => decide (c = "BadDeed"))
  i2 : IsC K mg G "BadText" (fun c => decide (c = "BadText"))
  i3 : IsC K mg G "TooMany" (fun c => decide (c = "TooMany"))
  i4 : IsC K mg G "WrongLine" (fun c => decide (c = "WrongLine"))
noncomputable def GS : { gs : Str → D → SDen // ∀ (wd : World) (K : PySem.W.Frag) (mg : Str → Option Value) (base : Heap) (G : Gx), B86 K mg → H86 K mg G → Suite P86 wd K mg base G "_law_dt_heard" N_heard 1 (defScope st_heard) (suiteOf st_heard) gs } := ⟨_, by
    intro wd K mg base G B h g cdv A outer s H E b oe cls d pn F c w C hz hf hot hG hraw hp hl
    have hK : F.K = K := (gx_K hG).trans h.gk
    have nd : N_heard.Nodup := by decide
    conv in (suiteOf _) => whnf
    exact (ds_cons (sown (hN := nd) 2 (hp _ (by decide)) (de_lst hK (lc (de_tup hK (lc (de_str hK) (lc (xisE 1 hl hK hG h.all hz hf h.i1 hraw (B.nb _ (by decide))) dl_nil))) (lc (de_tup hK (lc (de_str hK) (lc (xisE 1 hl hK hG h.all hz hf h.i2 hraw (B.nb _ (by decide))) dl_nil))) dl_nil))))
      (ds_cons (sapp 2 (de_tup hK (lc (de_str hK) (lc (xisE 1 hl hK hG h.all hz hf h.i3 hraw (B.nb _ (by decide))) dl_nil))))
      (ds_cons (sapp 2 (de_tup hK (lc (de_str hK) (lc (xisE 1 hl hK hG h.all hz hf h.i4 hraw (B.nb _ (by decide))) dl_nil))))
      (ds_one (ds_frz (i := 2) (hp _ (by decide)) (ds_ret (de_tup hK (lc (xjoin hK (de_str hK) (dr_lift (xlcH (hN := nd) [("name", 3), ("is_one", 4)] hK hot (xv 2) (fun _ _ _ _ _ F1 sb1 hz1 => (gtpH (n := 2) (sb1.1.trans hK) hz1 (gcs (gn 3 (sb1.2.2.2 _ (by decide)) (hN := nd)) (gcs (gn 4 (sb1.2.2.2 _ (by decide)) (hN := nd)) dgs_nil)))) (fun _ _ _ _ _ F1 sb1 => (dts_one (xt (sb1.1.trans hK) (xv 4)))) (fun _ _ _ _ _ F1 sb1 => (xv 3))))) (lc (xwhat 1 hl hK hG h.all hz hf hraw) dl_nil)))))))))⟩
def N_whole : List Str := ["thing", "least", "most"]
def st_whole : Stmt := at86 6
def C_whole (w : World) (K : PySem.W.Frag) (mg : Str → Option Value) (base : Heap) (G : Gx) (qual : Str) (cdv : Value) : Prop := B86 K mg
noncomputable def D_whole : { g : SDen // Body P86 st_whole N_whole [] 0 C_whole g } := ⟨_, by
    intro w K mg base G qual cdv f A outer s H E F gk B hG hp hraw hr
    have nd : N_whole.Nodup := by decide
    have hK : F.K = K := (gx_K hG).trans gk
    have hu := room65 hr
    have hu1 := room1 hr
    have B : B86 K mg := B
    conv in (defBody _) => whnf
    exact (ds_one (ds_ret (de_and (xisi hK (B.nb _ (by decide)) (B.nb _ (by decide)) (xr 0)) (de_and (de_not (xisi hK (B.nb _ (by decide)) (B.nb _ (by decide)) (xr 0))) (de_one (xchain hK hu (xv 1) (xv 0) (xv 2)))))))⟩
def N_asked_signs : List Str := ["text", "most"]
def st_asked_signs : Stmt := at86 13
def C_asked_signs (w : World) (K : PySem.W.Frag) (mg : Str → Option Value) (base : Heap) (G : Gx) (qual : Str) (cdv : Value) : Prop := B86 K mg ∧ Ec P86 w K mg base G 1 "BadText" ∧ Ec P86 w K mg base G 1 "TooMany"
noncomputable def D_asked_signs : { g : SDen // Body P86 st_asked_signs N_asked_signs [] 2 C_asked_signs g } := ⟨_, by
    intro w K mg base G qual cdv f A outer s H E F gk cn hG hp hraw hr
    obtain ⟨B, e_BadText, e_TooMany⟩ := cn
    have nd : N_asked_signs.Nodup := by decide
    have hK : F.K = K := (gx_K hG).trans gk
    have hu := room65 hr
    have hu1 := room1 hr
    have B : B86 K mg := B
    conv in (defBody _) => whnf
    exact (ds_cons (ds_if (dt_not (xt hK (xisi hK (B.nb _ (by decide)) (B.nb _ (by decide)) (xr 0)))) (ds_one (srs hK hG (L2N.takes_of rfl rfl rfl rfl) e_BadText hr (by decide) (de_neg (de_int hK)))) ds_nil) (ds_cons (ds_if (xcmpT hK hu (xb1 hK (b1_len hK) (B.nb _ (by decide)) (xr 0)) (xv 1)) (ds_one (srs hK hG (L2N.takes_of rfl rfl rfl rfl) e_TooMany hr (by decide) (xb1 hK (b1_len hK) (B.nb _ (by decide)) (xr 0)))) ds_nil) (ds_one (ds_ret (xv 0)))))⟩
def N_lines_of : List Str := ["text"]
def st_lines_of : Stmt := at86 14
def C_lines_of (w : World) (K : PySem.W.Frag) (mg : Str → Option Value) (base : Heap) (G : Gx) (qual : Str) (cdv : Value) : Prop := B86 K mg ∧ Fd P86 w K mg base G 3 "asked_signs" (phiOf 2 2 [] D_asked_signs.1)
noncomputable def D_lines_of : { g : SDen // Body P86 st_lines_of N_lines_of [] 3 C_lines_of g } := ⟨_, by
    intro w K mg base G qual cdv f A outer s H E F gk cn hG hp hraw hr
    obtain ⟨B, d_asked_signs⟩ := cn
    have nd : N_lines_of.Nodup := by decide
    have hK : F.K = K := (gx_K hG).trans gk
    have hu := room65 hr
    have hu1 := room1 hr
    have B : B86 K mg := B
    conv in (defBody _) => whnf
    exact (ds_one (ds_ret (xsplit hK (xf hG d_asked_signs hr (by decide) (L2N.takes_of rfl rfl rfl rfl) (ac (xv 0) (ac (xgiE B.c_MOST_SIGNS) da_nil))) (de_str hK))))⟩
def N_words_of : List Str := ["line"]
def st_words_of : Stmt := at86 15
def C_words_of (w : World) (K : PySem.W.Frag) (mg : Str → Option Value) (base : Heap) (G : Gx) (qual : Str) (cdv : Value) : Prop := B86 K mg
noncomputable def D_words_of : { g : SDen // Body P86 st_words_of N_words_of [] 0 C_words_of g } := ⟨_, by
    intro w K mg base G qual cdv f A outer s H E F gk B hG hp hraw hr
    have nd : N_words_of.Nodup := by decide
    have hK : F.K = K := (gx_K hG).trans gk
    have hu := room65 hr
    have hu1 := room1 hr
    have B : B86 K mg := B
    conv in (defBody _) => whnf
    exact (ds_one (ds_ret (xsplit hK (xv 0) (de_str hK))))⟩
def N_number_of : List Str := ["word", "sign"]
def st_number_of : Stmt := at86 16
def C_number_of (w : World) (K : PySem.W.Frag) (mg : Str → Option Value) (base : Heap) (G : Gx) (qual : Str) (cdv : Value) : Prop := B86 K mg
noncomputable def D_number_of : { g : SDen // Body P86 st_number_of N_number_of [] 0 C_number_of g } := ⟨_, by
    intro w K mg base G qual cdv f A outer s H E F gk B hG hp hraw hr
    have nd : N_number_of.Nodup := by decide
    have hK : F.K = K := (gx_K hG).trans gk
    have hu := room65 hr
    have hu1 := room1 hr
    have B : B86 K mg := B
    conv in (defBody _) => whnf
    exact (ds_cons (ds_if (PW.pt (dw_or (dt_not (xchainT hK hu (de_int hK) (xb1 hK (b1_len hK) (B.nb _ (by decide)) (xr 0)) (xgiE B.c_NUMBER_FIGURES))) (dw_or1 (PW.pt (dw_and (xcmpT hK hu (xix hK (xr 0) (de_int hK)) (de_str hK)) (dw_and1 (xcmpT hK hu (xv 0) (de_str hK)))))))) (ds_one (ds_ret (de_non hK))) ds_nil) (ds_one (ds_ret (de_if (xt hK (xb1 hK (b1_all rfl) (B.nb _ (by decide)) (dr_lift (xlcR (hN := nd) [("sign", 1)] hK (di_str (xv 0)) (fun _ _ _ _ _ F1 sb1 => (gn 1 (sb1.2.2.2 _ (by decide)) (hN := nd))) (fun _ _ _ _ _ F1 sb1 => dts_nil) (fun _ _ _ _ _ F1 sb1 => (xcmp (sb1.1.trans hK) hu (xv 1) (xgsE B.c_TEN_FIGURES))))))) (xt1 hK b1_int (B.nb _ (by decide)) (xr 0)) (de_non hK)))))⟩
def N_spot_of : List Str := ["word", "parts", "place", "slot"]
def st_spot_of : Stmt := at86 17
def C_spot_of (w : World) (K : PySem.W.Frag) (mg : Str → Option Value) (base : Heap) (G : Gx) (qual : Str) (cdv : Value) : Prop := B86 K mg ∧ Fd P86 w K mg base G 1 "number_of" (phiOf 2 1 [] D_number_of.1)
noncomputable def D_spot_of : { g : SDen // Body P86 st_spot_of N_spot_of [] 1 C_spot_of g } := ⟨_, by
    intro w K mg base G qual cdv f A outer s H E F gk cn hG hp hraw hr
    obtain ⟨B, d_number_of⟩ := cn
    have nd : N_spot_of.Nodup := by decide
    have hK : F.K = K := (gx_K hG).trans gk
    have hu := room65 hr
    have hu1 := room1 hr
    have B : B86 K mg := B
    conv in (defBody _) => whnf
    exact (ds_cons (sset (hN := nd) 1 (hp _ (by decide)) (xsplit hK (xv 0) (de_str hK))) (ds_cons (ds_if (xcmpT hK hu (xb1 hK (b1_len hK) (B.nb _ (by decide)) (xr 1)) (de_int hK)) (ds_one (ds_ret (de_non hK))) ds_nil) (ds_cons (spar (hN := nd) 2 3 (hp _ (by decide)) (hp _ (by decide)) (lc (xf hG d_number_of hr (by decide) (L2N.takes_of rfl rfl rfl rfl) (ac (xix hK (xr 1) (de_int hK)) da_nil)) (lc (xf hG d_number_of hr (by decide) (L2N.takes_of rfl rfl rfl rfl) (ac (xix hK (xr 1) (de_int hK)) da_nil)) dl_nil))) (ds_one (ds_ret (de_if (PW.pt (dw_or (xcmpT hK hu (xv 2) (de_non hK)) (dw_or1 (xcmpT hK hu (xv 3) (de_non hK))))) (de_non hK) (de_tup hK (lc (xv 2) (lc (xv 3) dl_nil)))))))))⟩
def N_asked_end : List Str := ["lines", "many"]
def st_asked_end : Stmt := at86 18
def C_asked_end (w : World) (K : PySem.W.Frag) (mg : Str → Option Value) (base : Heap) (G : Gx) (qual : Str) (cdv : Value) : Prop := B86 K mg ∧ Ec P86 w K mg base G 1 "WrongLine"
noncomputable def D_asked_end : { g : SDen // Body P86 st_asked_end N_asked_end [] 2 C_asked_end g } := ⟨_, by
    intro w K mg base G qual cdv f A outer s H E F gk cn hG hp hraw hr
    obtain ⟨B, e_WrongLine⟩ := cn
    have nd : N_asked_end.Nodup := by decide
    have hK : F.K = K := (gx_K hG).trans gk
    have hu := room65 hr
    have hu1 := room1 hr
    have B : B86 K mg := B
    conv in (defBody _) => whnf
    exact (ds_one (ds_if (xcmpT hK hu (xb1 hK (b1_len hK) (B.nb _ (by decide)) (xr 0)) (xv 1)) (ds_one (srs hK hG (L2N.takes_of rfl rfl rfl rfl) e_WrongLine hr (by decide) (de_tup hK (lc (xv 1) (lc (de_int hK) dl_nil))))) ds_nil))⟩
def N_are_numbers : List Str := ["things", "one"]
def st_are_numbers : Stmt := at86 21
def C_are_numbers (w : World) (K : PySem.W.Frag) (mg : Str → Option Value) (base : Heap) (G : Gx) (qual : Str) (cdv : Value) : Prop := B86 K mg ∧ Fd P86 w K mg base G 1 "whole" (phiOf 3 3 [] D_whole.1)
noncomputable def D_are_numbers : { g : SDen // Body P86 st_are_numbers N_are_numbers [] 1 C_are_numbers g } := ⟨_, by
    intro w K mg base G qual cdv f A outer s H E F gk cn hG hp hraw hr
    obtain ⟨B, d_whole⟩ := cn
    have nd : N_are_numbers.Nodup := by decide
    have hK : F.K = K := (gx_K hG).trans gk
    have hu := room65 hr
    have hu1 := room1 hr
    have B : B86 K mg := B
    conv in (defBody _) => whnf
    exact (ds_one (ds_ret (xb1 hK (b1_all rfl) (B.nb _ (by decide)) (dr_lift (xlcR (hN := nd) [("one", 1)] hK (di_tup hK (xv 0)) (fun _ _ _ _ _ F1 sb1 => (gn 1 (sb1.2.2.2 _ (by decide)) (hN := nd))) (fun _ _ _ _ _ F1 sb1 => dts_nil) (fun _ _ _ _ _ F1 sb1 => (xf (sb1.gx.trans hG) d_whole hr (by decide) takesN0 (ac (xv 1) (ac (de_int (sb1.1.trans hK)) (ac (xgiE B.c_MOST_NUMBER) da_nil))))))))))⟩
def N_are_pairs : List Str := ["thing", "pair"]
def st_are_pairs : Stmt := at86 22
def C_are_pairs (w : World) (K : PySem.W.Frag) (mg : Str → Option Value) (base : Heap) (G : Gx) (qual : Str) (cdv : Value) : Prop := B86 K mg ∧ Fd P86 w K mg base G 2 "are_numbers" (phiOf 2 1 [] D_are_numbers.1)
noncomputable def D_are_pairs : { g : SDen // Body P86 st_are_pairs N_are_pairs [] 2 C_are_pairs g } := ⟨_, by
    intro w K mg base G qual cdv f A outer s H E F gk cn hG hp hraw hr
    obtain ⟨B, d_are_numbers⟩ := cn
    have nd : N_are_pairs.Nodup := by decide
    have hK : F.K = K := (gx_K hG).trans gk
    have hu := room65 hr
    have hu1 := room1 hr
    have B : B86 K mg := B
    conv in (defBody _) => whnf
    exact (ds_cons (ds_if (PW.pt (dw_or (dt_not (xt hK (xisi hK (B.nb _ (by decide)) (B.nb _ (by decide)) (xr 0)))) (dw_or1 (dt_not (xchainT hK hu (de_int hK) (xb1 hK (b1_len hK) (B.nb _ (by decide)) (xr 0)) (xgiE B.c_MOST_SPOTS_OF_WAY)))))) (ds_one (ds_ret (de_bl hK))) ds_nil) (ds_one (ds_ret (xb1 hK (b1_all rfl) (B.nb _ (by decide)) (dr_lift (xlcR (hN := nd) [("pair", 1)] hK (di_tup hK (xv 0)) (fun _ _ _ _ _ F1 sb1 => (gn 1 (sb1.2.2.2 _ (by decide)) (hN := nd))) (fun _ _ _ _ _ F1 sb1 => dts_nil) (fun _ _ _ _ _ F1 sb1 => (de_and (xisi (sb1.1.trans hK) (B.nb _ (by decide)) (B.nb _ (by decide)) (xr 1)) (de_and (xcmp (sb1.1.trans hK) hu (xb1 (sb1.1.trans hK) (b1_len (sb1.1.trans hK)) (B.nb _ (by decide)) (xr 1)) (de_int (sb1.1.trans hK))) (de_one (xf (sb1.gx.trans hG) d_are_numbers hr (by decide) takesN0 (ac (xv 1) da_nil))))))))))))⟩
def N_is_deed : List Str := ["thing"]
def st_is_deed : Stmt := at86 23
def C_is_deed (w : World) (K : PySem.W.Frag) (mg : Str → Option Value) (base : Heap) (G : Gx) (qual : Str) (cdv : Value) : Prop := B86 K mg ∧ Fd P86 w K mg base G 3 "are_pairs" (phiOf 2 1 [] D_are_pairs.1) ∧ Fd P86 w K mg base G 2 "are_numbers" (phiOf 2 1 [] D_are_numbers.1) ∧ Tb w K mg "DEED_LENGTHS" T_DEED_LENGTHS
noncomputable def D_is_deed : { g : SDen // Body P86 st_is_deed N_is_deed [] 3 C_is_deed g } := ⟨_, by
    intro w K mg base G qual cdv f A outer s H E F gk cn hG hp hraw hr
    obtain ⟨B, d_are_pairs, d_are_numbers, t_DEED_LENGTHS⟩ := cn
    have nd : N_is_deed.Nodup := by decide
    have hK : F.K = K := (gx_K hG).trans gk
    have hu := room65 hr
    have hu1 := room1 hr
    have B : B86 K mg := B
    conv in (defBody _) => whnf
    exact (ds_cons (ds_if (PW.pt (dw_or (dt_not (xt hK (xisi hK (B.nb _ (by decide)) (B.nb _ (by decide)) (xr 0)))) (dw_or (xcmpT hK hu (xv 0) (de_tup hK dl_nil)) (dw_or1 (dt_not (xt hK (xisi hK (B.nb _ (by decide)) (B.nb _ (by decide)) (dr_lift (xix hK (xr 0) (de_int hK)))))))))) (ds_one (ds_ret (de_bl hK))) ds_nil) (ds_cons (ds_if (PW.pt (dw_or (xnin' t_DEED_LENGTHS (xix hK (xr 0) (de_int hK))) (dw_or1 (xcmpT hK hu (xb1 hK (b1_len hK) (B.nb _ (by decide)) (xr 0)) (xixt' t_DEED_LENGTHS hK (xix hK (xr 0) (de_int hK))))))) (ds_one (ds_ret (de_bl hK))) ds_nil) (ds_one (ds_ret (de_if (xcmpT hK hu (xix hK (xr 0) (de_int hK)) (de_str hK)) (xf hG d_are_pairs hr (by decide) (L2N.takes_of rfl rfl rfl rfl) (ac (xix hK (xr 0) (de_int hK)) da_nil)) (xf hG d_are_numbers hr (by decide) (L2N.takes_of rfl rfl rfl rfl) (ac (de_sl hK (xr 0) (do_some (de_int hK)) do_none) da_nil)))))))⟩
def N_deed_text : List Str := ["deed", "v", "t", "part"]
def st_deed_text : Stmt := at86 26
def C_deed_text (w : World) (K : PySem.W.Frag) (mg : Str → Option Value) (base : Heap) (G : Gx) (qual : Str) (cdv : Value) : Prop := B86 K mg ∧ Fd P86 w K mg base G 4 "is_deed" (phiOf 1 1 [] D_is_deed.1) ∧ Ec P86 w K mg base G 1 "BadDeed"
noncomputable def D_deed_text : { g : SDen // Body P86 st_deed_text N_deed_text [] 4 C_deed_text g } := ⟨_, by
    intro w K mg base G qual cdv f A outer s H E F gk cn hG hp hraw hr
    obtain ⟨B, d_is_deed, e_BadDeed⟩ := cn
    have nd : N_deed_text.Nodup := by decide
    have hK : F.K = K := (gx_K hG).trans gk
    have hu := room65 hr
    have hu1 := room1 hr
    have B : B86 K mg := B
    conv in (defBody _) => whnf
    exact (ds_cons (ds_if (dt_not (xt hK (xf hG d_is_deed hr (by decide) (L2N.takes_of rfl rfl rfl rfl) (ac (xv 0) da_nil)))) (ds_one (srs hK hG (L2N.takes_of rfl rfl rfl rfl) e_BadDeed hr (by decide) (de_int hK))) ds_nil) (ds_cons (ds_if (xcmpT hK hu (xix hK (xr 0) (de_int hK)) (de_str hK)) (ds_one (ds_ret (xjoin hK (de_str hK) (dr_lift (de_lst hK (lc (de_str hK) (dl_star hK (xlcR (hN := nd) [("v", 1), ("t", 2)] hK (di_tup hK (xix hK (xr 0) (de_int hK))) (fun _ _ _ _ _ F2 sb2 => (gtp (n := 2) (sb2.1.trans hK) (gcs (gn 1 (sb2.2.2.2 _ (by decide)) (hN := nd)) (gcs (gn 2 (sb2.2.2.2 _ (by decide)) (hN := nd)) dgs_nil)))) (fun _ _ _ _ _ F2 sb2 => dts_nil) (fun _ _ _ _ _ F2 sb2 => (de_joined (DJ.cons (de_fmt (xv 1)) (DJ.cons (de_str (sb2.1.trans hK)) (DJ.cons (de_fmt (xv 2)) DJ.nil)))))) dl_nil))))))) ds_nil) (ds_one (ds_ret (xjoin hK (de_str hK) (dr_lift (xlcR (hN := nd) [("part", 3)] hK (di_tup hK (xv 0)) (fun _ _ _ _ _ F1 sb1 => (gn 3 (sb1.2.2.2 _ (by decide)) (hN := nd))) (fun _ _ _ _ _ F1 sb1 => dts_nil) (fun _ _ _ _ _ F1 sb1 => (xt1 (sb1.1.trans hK) b1_str (B.nb _ (by decide)) (xr 3))))))))))⟩
def N_run_of : List Str := ["words", "pairs", "at", "pair"]
def st_run_of : Stmt := at86 27
def C_run_of (w : World) (K : PySem.W.Frag) (mg : Str → Option Value) (base : Heap) (G : Gx) (qual : Str) (cdv : Value) : Prop := B86 K mg ∧ Fd P86 w K mg base G 2 "spot_of" (phiOf 4 1 [] D_spot_of.1)
noncomputable def D_run_of : { g : SDen // Body P86 st_run_of N_run_of [] 2 C_run_of g } := ⟨_, by
    intro w K mg base G qual cdv f A outer s H E F gk cn hG hp hraw hr
    obtain ⟨B, d_spot_of⟩ := cn
    have nd : N_run_of.Nodup := by decide
    have hK : F.K = K := (gx_K hG).trans gk
    have hu := room65 hr
    have hu1 := room1 hr
    have B : B86 K mg := B
    conv in (defBody _) => whnf
    exact (ds_cons (sown (hN := nd) 1 (hp _ (by decide)) (de_lst hK dl_nil)) (ds_cons (sfor (vs := [2]) hK PassesOwn.leaving (ir2 (B.nb _ (by decide)) (de_int hK) (xb2 hK (b2_max rfl) (B.nb _ (by decide)) (de_int hK) (xb1 hK (b1_len hK) (B.nb _ (by decide)) (xr 0)))) (gn 2 (hp _ (by decide)) (hN := nd)) (ds_cons (sset (hN := nd) 3 (hp _ (by decide)) (de_if (PW.pt (dw_and (xcmpT hK hu (xv 2) (xb1 hK (b1_len hK) (B.nb _ (by decide)) (xr 0))) (dw_and1 (xcmpT hK hu (xv 2) (xgiE B.c_MOST_SPOTS_OF_WAY))))) (xf hG d_spot_of hr (by decide) (L2N.takes_of rfl rfl rfl rfl) (ac (xix hK (xr 0) (xv 2)) da_nil)) (de_non hK))) (ds_cons (ds_if (xcmpT hK hu (xv 3) (de_non hK)) (ds_one (ds_ret (de_tup hK (lc (de_non hK) (lc (xv 2) dl_nil))))) ds_nil) (ds_one (sapp 1 (xv 3)))))) (ds_one (ds_ret (de_tup hK (lc (de_tup hK (lc (de_str hK) (lc (xt1 hK (b1_tuple hK) (B.nb _ (by decide)) (xr 1)) dl_nil))) (lc (de_non hK) dl_nil)))))))⟩
def N_deed_of : List Str := ["words", "many", "numbers", "word"]
def st_deed_of : Stmt := at86 28
def C_deed_of (w : World) (K : PySem.W.Frag) (mg : Str → Option Value) (base : Heap) (G : Gx) (qual : Str) (cdv : Value) : Prop := B86 K mg ∧ Fd P86 w K mg base G 1 "number_of" (phiOf 2 1 [] D_number_of.1) ∧ Fd P86 w K mg base G 3 "run_of" (phiOf 4 1 [] D_run_of.1) ∧ Tb w K mg "DEED_NUMBERS" T_DEED_NUMBERS
noncomputable def D_deed_of : { g : SDen // Body P86 st_deed_of N_deed_of [] 3 C_deed_of g } := ⟨_, by
    intro w K mg base G qual cdv f A outer s H E F gk cn hG hp hraw hr
    obtain ⟨B, d_number_of, d_run_of, t_DEED_NUMBERS⟩ := cn
    have nd : N_deed_of.Nodup := by decide
    have hK : F.K = K := (gx_K hG).trans gk
    have hu := room65 hr
    have hu1 := room1 hr
    have B : B86 K mg := B
    conv in (defBody _) => whnf
    exact (ds_cons (ds_if (xcmpT hK hu (xix hK (xr 0) (de_int hK)) (de_str hK)) (ds_one (ds_ret (xf hG d_run_of hr (by decide) (L2N.takes_of rfl rfl rfl rfl) (ac (xv 0) da_nil)))) ds_nil) (ds_cons (ds_if (xnin' t_DEED_NUMBERS (xix hK (xr 0) (de_int hK))) (ds_one (ds_ret (de_tup hK (lc (de_non hK) (lc (de_int hK) dl_nil))))) ds_nil) (ds_cons (sset (hN := nd) 1 (hp _ (by decide)) (de_add hK (xixt' t_DEED_NUMBERS hK (xix hK (xr 0) (de_int hK))) (de_int hK))) (ds_cons (slcS (hN := nd) 2 [("word", 3)] hK (hp _ (by decide)) (di_list hK (de_sl hK (xr 0) (do_some (de_int hK)) (do_some (xv 1)))) (fun _ _ _ _ _ F1 sb1 => (gn 3 (sb1.2.2.2 _ (by decide)) (hN := nd))) (fun _ _ _ _ _ F1 sb1 => dts_nil) (fun _ _ _ _ _ F1 sb1 => (xf (sb1.gx.trans hG) d_number_of hr (by decide) takesN0 (ac (xv 3) da_nil)))) (ds_cons (ds_if (xcmpT hK hu (de_non hK) (xv 2)) (ds_one (ds_ret (de_tup hK (lc (de_non hK) (lc (de_add hK (xindex hK (xv 2) (de_non hK)) (de_int hK)) dl_nil))))) ds_nil) (ds_cons (ds_if (xcmpT hK hu (xb1 hK (b1_len hK) (B.nb _ (by decide)) (xr 0)) (xv 1)) (ds_one (ds_ret (de_tup hK (lc (de_non hK) (lc (xb2 hK (b2_min rfl) (B.nb _ (by decide)) (xb1 hK (b1_len hK) (B.nb _ (by decide)) (xr 0)) (xv 1)) dl_nil))))) ds_nil) (ds_one (ds_ret (de_tup hK (lc (de_tup hK (lc (xix hK (xr 0) (de_int hK)) (dl_star hK (xv 2) dl_nil))) (lc (de_non hK) dl_nil)))))))))))⟩
def N_read_deed : List Str := ["text", "lines", "deed", "wrong"]
def st_read_deed : Stmt := at86 29
def C_read_deed (w : World) (K : PySem.W.Frag) (mg : Str → Option Value) (base : Heap) (G : Gx) (qual : Str) (cdv : Value) : Prop := B86 K mg ∧ Fd P86 w K mg base G 3 "asked_end" (phiOf 2 2 [] D_asked_end.1) ∧ Fd P86 w K mg base G 4 "deed_of" (phiOf 4 1 [] D_deed_of.1) ∧ Fd P86 w K mg base G 1 "words_of" (phiOf 1 1 [] D_words_of.1) ∧ Fd P86 w K mg base G 4 "lines_of" (phiOf 1 1 [] D_lines_of.1) ∧ Ec P86 w K mg base G 1 "WrongLine"
noncomputable def D_read_deed : { g : SDen // Body P86 st_read_deed N_read_deed [] 4 C_read_deed g } := ⟨_, by
    intro w K mg base G qual cdv f A outer s H E F gk cn hG hp hraw hr
    obtain ⟨B, d_asked_end, d_deed_of, d_words_of, d_lines_of, e_WrongLine⟩ := cn
    have nd : N_read_deed.Nodup := by decide
    have hK : F.K = K := (gx_K hG).trans gk
    have hu := room65 hr
    have hu1 := room1 hr
    have B : B86 K mg := B
    conv in (defBody _) => whnf
    exact (ds_cons (sset (hN := nd) 1 (hp _ (by decide)) (xf hG d_lines_of hr (by decide) (L2N.takes_of rfl rfl rfl rfl) (ac (xv 0) da_nil))) (ds_cons (stg (vs := [2, 3]) (xf hG d_deed_of hr (by decide) (L2N.takes_of rfl rfl rfl rfl) (ac (xf hG d_words_of hr (by decide) (L2N.takes_of rfl rfl rfl rfl) (ac (xix hK (xr 1) (de_int hK)) da_nil)) da_nil)) (gtp (n := 2) hK (gcs (gn 2 (hp _ (by decide)) (hN := nd)) (gcs (gn 3 (hp _ (by decide)) (hN := nd)) dgs_nil)))) (ds_cons (ds_if (xcmpT hK hu (xv 3) (de_non hK)) (ds_one (srs hK hG (L2N.takes_of rfl rfl rfl rfl) e_WrongLine hr (by decide) (de_tup hK (lc (de_int hK) (lc (xv 3) dl_nil))))) ds_nil) (ds_cons (sexpr (xf hG d_asked_end hr (by decide) (L2N.takes_of rfl rfl rfl rfl) (ac (xv 1) (ac (de_int hK) da_nil)))) (ds_one (ds_ret (xv 2)))))))⟩
def N__law_xq_is_whole : List Str := ["thing"]
def st__law_xq_is_whole : Stmt := at86 31
def C__law_xq_is_whole (w : World) (K : PySem.W.Frag) (mg : Str → Option Value) (base : Heap) (G : Gx) (qual : Str) (cdv : Value) : Prop := B86 K mg
noncomputable def D__law_xq_is_whole : { g : SDen // Body P86 st__law_xq_is_whole N__law_xq_is_whole [] 0 C__law_xq_is_whole g } := ⟨_, by
    intro w K mg base G qual cdv f A outer s H E F gk B hG hp hraw hr
    have nd : N__law_xq_is_whole.Nodup := by decide
    have hK : F.K = K := (gx_K hG).trans gk
    have hu := room65 hr
    have hu1 := room1 hr
    have B : B86 K mg := B
    conv in (defBody _) => whnf
    exact (ds_one (ds_ret (de_and (xisi hK (B.nb _ (by decide)) (B.nb _ (by decide)) (xr 0)) (de_one (de_not (xisi hK (B.nb _ (by decide)) (B.nb _ (by decide)) (xr 0)))))))⟩
def N__law_xq_same : List Str := ["heard_one", "owed", "at"]
def st__law_xq_same : Stmt := at86 32
def C__law_xq_same (k : Nat) (Φ : Phi) (w : World) (K : PySem.W.Frag) (mg : Str → Option Value) (base : Heap) (G : Gx) (qual : Str) (cdv : Value) : Prop := B86 K mg ∧ Fd P86 w K mg base G (k + 1) "_law_xq_same" Φ ∧ Fd P86 w K mg base G 1 "_law_xq_is_whole" (phiOf 1 1 [] D__law_xq_is_whole.1)
noncomputable def D__law_xq_same (k : Nat) (Φ : Phi) : { g : SDen // Body P86 st__law_xq_same N__law_xq_same [] (k + 1) (C__law_xq_same k Φ) g } := ⟨_, by
    intro w K mg base G qual cdv f A outer s H E F gk cn hG hp hraw hr
    obtain ⟨B, d__law_xq_same, d__law_xq_is_whole⟩ := cn
    have nd : N__law_xq_same.Nodup := by decide
    have hK : F.K = K := (gx_K hG).trans gk
    have hu := room65 hr
    have hu1 := room1 hr
    have B : B86 K mg := B
    conv in (defBody _) => whnf
    exact (ds_cons (ds_if (xcmpT hK hu (xv 1) (de_non hK)) (ds_one (ds_ret (xcmp hK hu (xv 0) (de_non hK)))) ds_nil) (ds_cons (ds_if (xt hK (xisi hK (B.nb _ (by decide)) (B.nb _ (by decide)) (xr 1))) (ds_one (ds_ret (de_if (xt hK (xv 1)) (xcmp hK hu (xv 0) (de_bl hK)) (xcmp hK hu (xv 0) (de_bl hK))))) ds_nil) (ds_cons (ds_if (xt hK (xisi hK (B.nb _ (by decide)) (B.nb _ (by decide)) (xr 1))) (ds_one (ds_ret (de_and (xf hG d__law_xq_is_whole hr (by omega) (L2N.takes_of rfl rfl rfl rfl) (ac (xv 0) da_nil)) (de_one (xcmp hK hu (xv 0) (xv 1)))))) ds_nil) (ds_cons (ds_if (xt hK (xisi hK (B.nb _ (by decide)) (B.nb _ (by decide)) (xr 1))) (ds_one (ds_ret (de_and (xisi hK (B.nb _ (by decide)) (B.nb _ (by decide)) (xr 0)) (de_one (xcmp hK hu (xv 0) (xv 1)))))) ds_nil) (ds_cons (ds_if (PW.pt (dw_and (dt_not (xt hK (xisi hK (B.nb _ (by decide)) (B.nb _ (by decide)) (xr 1)))) (dw_and1 (dt_not (xt hK (xisi hK (B.nb _ (by decide)) (B.nb _ (by decide)) (xr 1))))))) (ds_one (ds_ret (xt1 hK b1_bool (B.nb _ (by decide)) (dr_lift (xcmp hK hu (xv 0) (xv 1)))))) ds_nil) (ds_cons (ds_if (xcmpT hK hu (xisi hK (B.nb _ (by decide)) (B.nb _ (by decide)) (xr 1)) (xisi hK (B.nb _ (by decide)) (B.nb _ (by decide)) (xr 0))) (ds_one (ds_ret (de_bl hK))) ds_nil) (ds_cons (ds_if (xcmpT hK hu (xisi hK (B.nb _ (by decide)) (B.nb _ (by decide)) (xr 1)) (xisi hK (B.nb _ (by decide)) (B.nb _ (by decide)) (xr 0))) (ds_one (ds_ret (de_bl hK))) ds_nil) (ds_cons (ds_if (xcmpT hK hu (xb1 hK (b1_len hK) (B.nb _ (by decide)) (xr 0)) (xb1 hK (b1_len hK) (B.nb _ (by decide)) (xr 1))) (ds_one (ds_ret (de_bl hK))) ds_nil) (ds_cons (sfor (vs := [2]) hK PassesOwn.leaving (ir1 (B.nb _ (by decide)) (xb1 hK (b1_len hK) (B.nb _ (by decide)) (xr 1))) (gn 2 (hp _ (by decide)) (hN := nd)) (ds_one (ds_if (dt_not (xt hK (xf hG d__law_xq_same hr (by omega) (L2N.takes_of rfl rfl rfl rfl) (ac (xix hK (xr 0) (xv 2)) (ac (xix hK (xr 1) (xv 2)) da_nil))))) (ds_one (ds_ret (de_bl hK))) ds_nil))) (ds_one (ds_ret (de_bl hK))))))))))))⟩
noncomputable def Φn__law_xq_same : Nat → Phi
  | 0 => fun _ => .stuck
  | n + 1 => phiOf 3 2 [] (D__law_xq_same n (Φn__law_xq_same n)).1
noncomputable def Φ__law_xq_same : Phi := Φn__law_xq_same 7
def N__law_pool : List Str := ["script", "digits", "stirred", "at", "cell"]
def st__law_pool : Stmt := at86 33
def C__law_pool (w : World) (K : PySem.W.Frag) (mg : Str → Option Value) (base : Heap) (G : Gx) (qual : Str) (cdv : Value) : Prop := B86 K mg
noncomputable def D__law_pool : { g : List Int → SDen // BodyS P86 st__law_pool N__law_pool 0 C__law_pool g } := ⟨_, by
    intro w K mg base G qual cdv f A outer s H E F sa ns gk B hG hp hS hr
    have nd : N__law_pool.Nodup := by decide
    have hK : F.K = K := (gx_K hG).trans gk
    have hu := room65 hr
    have hu1 := room1 hr
    have B : B86 K mg := B
    conv in (defBody _) => whnf
    exact (ds_cons (stg (vs := [1, 2]) (de_tup hK (lc (de_int hK) (lc (de_int hK) dl_nil))) (gtp (n := 2) hK (gcs (gn 1 (hp _ (by decide)) (hN := nd)) (gcs (gn 2 (hp _ (by decide)) (hN := nd)) dgs_nil)))) (ds_cons (sfor (vs := [3]) hK PassesOwn.leaving (ir1 (B.nb _ (by decide)) (xlenS hK hS (B.nb _ (by decide)))) (gn 3 (hp _ (by decide)) (hN := nd)) (ds_cons (sset (hN := nd) 4 (hp _ (by decide)) (xt1 hK b1_int (B.nb _ (by decide)) (dr_lift (xb2 hK (b2_max rfl) (B.nb _ (by decide)) (xixS hK hS (xv 3)) (de_sub hK (de_neg (de_int hK)) (xixS hK hS (xv 3))))))) (ds_cons (sset (hN := nd) 2 (hp _ (by decide)) (de_mod hK (xt1 hK b1_int (B.nb _ (by decide)) (dr_lift (de_add hK (de_add hK (de_mul hK (xv 2) (de_int hK)) (de_mod hK (xv 4) (de_int hK))) (de_int hK)))) (de_int hK))) (ds_one (sset (hN := nd) 1 (hp _ (by decide)) (de_if (PW.pt (dw_and (xcmpT hK hu (xv 4) (de_pow hK (de_int hK) (de_int hK))) (dw_and1 (xcmpT hK hu (xv 1) (de_pow hK (de_int hK) (de_int hK)))))) (xt1 hK b1_int (B.nb _ (by decide)) (dr_lift (de_add hK (de_mul hK (xv 1) (de_pow hK (de_int hK) (de_int hK))) (de_mod hK (xv 4) (de_pow hK (de_int hK) (de_int hK)))))) (xv 1))))))) (ds_one (ds_ret (de_lst hK (lc (xv 1) (lc (xv 2) (lc (de_int hK) dl_nil))))))))⟩
def N__law_take : List Str := ["jar", "many", "made"]
def st__law_take : Stmt := at86 34
def C__law_take (w : World) (K : PySem.W.Frag) (mg : Str → Option Value) (base : Heap) (G : Gx) (qual : Str) (cdv : Value) : Prop := B86 K mg
noncomputable def D__law_take : { g : SDen // Body P86 st__law_take N__law_take [0] 0 C__law_take g } := ⟨_, by
    intro w K mg base G qual cdv f A outer s H E F gk B hG hp hraw hr
    have nd : N__law_take.Nodup := by decide
    have hK : F.K = K := (gx_K hG).trans gk
    have hu := room65 hr
    have hu1 := room1 hr
    have B : B86 K mg := B
    conv in (defBody _) => whnf
    exact (ds_cons (ds_if (xcmpT hK hu (xix hK (xr 0) (de_int hK)) (de_int hK)) (ds_cons (sset (hN := nd) 2 (hp _ (by decide)) (de_mod hK (xt1 hK b1_int (B.nb _ (by decide)) (dr_lift (xix hK (xr 0) (de_int hK)))) (xv 1))) (ds_cons (sixset 0 (de_div hK (xix hK (xr 0) (de_int hK)) (xv 1)) (de_int hK)) (ds_one (ds_ret (xv 2))))) ds_nil) (ds_cons (sixset 0 (de_add hK (xix hK (xr 0) (de_int hK)) (de_int hK)) (de_int hK)) (ds_cons (sixset 0 (de_mod hK (xt1 hK b1_int (B.nb _ (by decide)) (dr_lift (de_add hK (de_add hK (de_mul hK (xix hK (xr 0) (de_int hK)) (de_int hK)) (de_mul hK (de_int hK) (xix hK (xr 0) (de_int hK)))) (de_int hK)))) (de_int hK)) (de_int hK)) (ds_one (ds_ret (de_mod hK (xt1 hK b1_int (B.nb _ (by decide)) (dr_lift (de_div hK (de_mod hK (xt1 hK b1_int (B.nb _ (by decide)) (dr_lift (de_mul hK (xix hK (xr 0) (de_int hK)) (xix hK (xr 0) (de_int hK))))) (de_int hK)) (de_int hK)))) (xv 1)))))))⟩
def N__law_one : List Str := ["jar", "things"]
def st__law_one : Stmt := at86 35
def C__law_one (w : World) (K : PySem.W.Frag) (mg : Str → Option Value) (base : Heap) (G : Gx) (qual : Str) (cdv : Value) : Prop := B86 K mg ∧ Fd P86 w K mg base G 1 "_law_take" (phiOf 3 2 [0] D__law_take.1)
noncomputable def D__law_one : { g : SDen // Body P86 st__law_one N__law_one [0] 1 C__law_one g } := ⟨_, by
    intro w K mg base G qual cdv f A outer s H E F gk cn hG hp hraw hr
    obtain ⟨B, d__law_take⟩ := cn
    have nd : N__law_one.Nodup := by decide
    have hK : F.K = K := (gx_K hG).trans gk
    have hu := room65 hr
    have hu1 := room1 hr
    have B : B86 K mg := B
    conv in (defBody _) => whnf
    exact (ds_one (ds_ret (xix hK (xr 1) (xf hG d__law_take hr (by decide) (L2N.takes_of rfl rfl rfl rfl) (ao 0 (ac (xb1 hK (b1_len hK) (B.nb _ (by decide)) (xr 1)) da_nil))))))⟩
def N__law_xa_line : List Str := ["deed", "v", "t", "one"]
def st__law_xa_line : Stmt := at86 36
def C__law_xa_line (w : World) (K : PySem.W.Frag) (mg : Str → Option Value) (base : Heap) (G : Gx) (qual : Str) (cdv : Value) : Prop := B86 K mg
noncomputable def D__law_xa_line : { g : SDen // Body P86 st__law_xa_line N__law_xa_line [] 0 C__law_xa_line g } := ⟨_, by
    intro w K mg base G qual cdv f A outer s H E F gk B hG hp hraw hr
    have nd : N__law_xa_line.Nodup := by decide
    have hK : F.K = K := (gx_K hG).trans gk
    have hu := room65 hr
    have hu1 := room1 hr
    have B : B86 K mg := B
    conv in (defBody _) => whnf
    exact (ds_cons (ds_if (xcmpT hK hu (xix hK (xr 0) (de_int hK)) (de_str hK)) (ds_one (ds_ret (xjoin hK (de_str hK) (dr_lift (de_add hK (de_lst hK (lc (de_str hK) dl_nil)) (xlcR (hN := nd) [("v", 1), ("t", 2)] hK (di_tup hK (xix hK (xr 0) (de_int hK))) (fun _ _ _ _ _ F2 sb2 => (gtp (n := 2) (sb2.1.trans hK) (gcs (gn 1 (sb2.2.2.2 _ (by decide)) (hN := nd)) (gcs (gn 2 (sb2.2.2.2 _ (by decide)) (hN := nd)) dgs_nil)))) (fun _ _ _ _ _ F2 sb2 => dts_nil) (fun _ _ _ _ _ F2 sb2 => (de_add (sb2.1.trans hK) (de_add (sb2.1.trans hK) (xt1 (sb2.1.trans hK) b1_str (B.nb _ (by decide)) (xr 1)) (de_str (sb2.1.trans hK))) (xt1 (sb2.1.trans hK) b1_str (B.nb _ (by decide)) (xr 2)))))))))) ds_nil) (ds_one (ds_ret (xjoin hK (de_str hK) (dr_lift (de_add hK (de_lst hK (lc (xix hK (xr 0) (de_int hK)) dl_nil)) (xlcR (hN := nd) [("one", 3)] hK (di_tup hK (de_sl hK (xr 0) (do_some (de_int hK)) do_none)) (fun _ _ _ _ _ F1 sb1 => (gn 3 (sb1.2.2.2 _ (by decide)) (hN := nd))) (fun _ _ _ _ _ F1 sb1 => dts_nil) (fun _ _ _ _ _ F1 sb1 => (xt1 (sb1.1.trans hK) b1_str (B.nb _ (by decide)) (xr 3))))))))))⟩
def N__law_xa_number_read : List Str := ["word", "one"]
def st__law_xa_number_read : Stmt := at86 37
def C__law_xa_number_read (w : World) (K : PySem.W.Frag) (mg : Str → Option Value) (base : Heap) (G : Gx) (qual : Str) (cdv : Value) : Prop := B86 K mg
noncomputable def D__law_xa_number_read : { g : SDen // Body P86 st__law_xa_number_read N__law_xa_number_read [] 0 C__law_xa_number_read g } := ⟨_, by
    intro w K mg base G qual cdv f A outer s H E F gk B hG hp hraw hr
    have nd : N__law_xa_number_read.Nodup := by decide
    have hK : F.K = K := (gx_K hG).trans gk
    have hu := room65 hr
    have hu1 := room1 hr
    have B : B86 K mg := B
    conv in (defBody _) => whnf
    exact (ds_cons (ds_if (PW.pt (dw_or (dt_not (xchainT hK hu (de_int hK) (xb1 hK (b1_len hK) (B.nb _ (by decide)) (xr 0)) (de_int hK))) (dw_or1 (xcmpT hK hu (xlcR (hN := nd) [("one", 1)] hK (di_str (xv 0)) (fun _ _ _ _ _ F1 sb1 => (gn 1 (sb1.2.2.2 _ (by decide)) (hN := nd))) (fun _ _ _ _ _ F1 sb1 => (dts_one (xcmpT (sb1.1.trans hK) hu (xv 1) (de_str (sb1.1.trans hK))))) (fun _ _ _ _ _ F1 sb1 => (xv 1))) (de_lst hK dl_nil))))) (ds_one (ds_ret (de_non hK))) ds_nil) (ds_one (ds_ret (de_if (xcmpT hK hu (xt1 hK b1_str (B.nb _ (by decide)) (dr_lift (xt1 hK b1_int (B.nb _ (by decide)) (xr 0)))) (xv 0)) (xt1 hK b1_int (B.nb _ (by decide)) (xr 0)) (de_non hK)))))⟩
def N__law_xa_odd_drawn : List Str := ["jar", "far", "odd"]
def st__law_xa_odd_drawn : Stmt := at86 38
def C__law_xa_odd_drawn (w : World) (K : PySem.W.Frag) (mg : Str → Option Value) (base : Heap) (G : Gx) (qual : Str) (cdv : Value) : Prop := B86 K mg ∧ Fd P86 w K mg base G 2 "_law_one" (phiOf 2 2 [0] D__law_one.1)
noncomputable def D__law_xa_odd_drawn : { g : SDen // Body P86 st__law_xa_odd_drawn N__law_xa_odd_drawn [0] 2 C__law_xa_odd_drawn g } := ⟨_, by
    intro w K mg base G qual cdv f A outer s H E F gk cn hG hp hraw hr
    obtain ⟨B, d__law_one⟩ := cn
    have nd : N__law_xa_odd_drawn.Nodup := by decide
    have hK : F.K = K := (gx_K hG).trans gk
    have hu := room65 hr
    have hu1 := room1 hr
    have B : B86 K mg := B
    conv in (defBody _) => whnf
    exact (ds_cons (sset (hN := nd) 1 (hp _ (by decide)) (de_pow hK (de_int hK) (de_int hK))) (ds_cons (sown (hN := nd) 2 (hp _ (by decide)) (de_lst hK (lc (de_non hK) (lc (de_tup hK (lc (de_str hK) dl_nil)) (lc (de_tup hK (lc (de_str hK) (lc (de_int hK) dl_nil))) (lc (de_lst hK (lc (de_str hK) dl_nil)) (lc (de_tup hK (lc (de_str hK) (lc (de_int hK) (lc (de_int hK) dl_nil)))) (lc (de_tup hK (lc (de_str hK) (lc (de_int hK) (lc (de_int hK) (lc (de_bl hK) dl_nil))))) (lc (de_tup hK (lc (de_str hK) (lc (de_int hK) (lc (de_int hK) (lc (de_neg (de_int hK)) dl_nil))))) (lc (de_int hK) (lc (de_tup hK dl_nil) dl_nil))))))))))) (ds_cons (sext 2 (de_lst hK (lc (de_tup hK (lc (de_str hK) (lc (de_int hK) (lc (de_int hK) (lc (de_non hK) dl_nil))))) (lc (de_tup hK (lc (de_str hK) dl_nil)) (lc (de_tup hK (lc (de_str hK) (lc (xv 1) dl_nil))) (lc (de_tup hK (lc (de_str hK) (lc (de_str hK) dl_nil))) (lc (de_tup hK (lc (de_str hK) (lc (de_tup hK dl_nil) dl_nil))) dl_nil))))))) (ds_cons (sext 2 (de_lst hK (lc (de_tup hK (lc (de_str hK) (lc (de_mul hK (de_tup hK (lc (de_tup hK (lc (de_int hK) (lc (de_int hK) dl_nil))) dl_nil)) (de_int hK)) dl_nil))) (lc (de_tup hK (lc (de_str hK) (lc (de_lst hK (lc (de_tup hK (lc (de_int hK) (lc (de_int hK) dl_nil))) dl_nil)) dl_nil))) (lc (de_tup hK (lc (de_str hK) (lc (de_tup hK (lc (de_tup hK (lc (de_int hK) dl_nil)) dl_nil)) dl_nil))) (lc (de_tup hK (lc (de_str hK) (lc (de_tup hK (lc (de_tup hK (lc (de_int hK) (lc (de_neg (de_int hK)) dl_nil))) dl_nil)) dl_nil))) (lc (de_tup hK (lc (de_str hK) (lc (de_tup hK (lc (de_int hK) (lc (de_int hK) dl_nil))) dl_nil))) dl_nil))))))) (ds_one (ds_frz (i := 2) (hp _ (by decide)) (ds_ret (xf hG d__law_one hr (by decide) (L2N.takes_of rfl rfl rfl rfl) (ao 0 (ac (de_add hK (xv 2) (de_lst hK (lc (de_tup hK (lc (de_str hK) (lc (de_int hK) (lc (de_int hK) dl_nil)))) (lc (de_tup hK (lc (de_str hK) dl_nil)) (lc (de_tup hK (lc (de_str hK) (lc (de_tup hK (lc (de_lst hK (lc (de_int hK) (lc (de_int hK) dl_nil))) dl_nil)) dl_nil))) (lc (de_tup hK (lc (de_str hK) (lc (de_bl hK) dl_nil))) (lc (de_tup hK (lc (de_str hK) (lc (de_neg (de_int hK)) dl_nil))) dl_nil))))))) da_nil))))))))))⟩
def N__law_dt_number_drawn : List Str := ["jar", "far", "some"]
def st__law_dt_number_drawn : Stmt := at86 40
def C__law_dt_number_drawn (w : World) (K : PySem.W.Frag) (mg : Str → Option Value) (base : Heap) (G : Gx) (qual : Str) (cdv : Value) : Prop := B86 K mg ∧ Fd P86 w K mg base G 2 "_law_one" (phiOf 2 2 [0] D__law_one.1) ∧ Fd P86 w K mg base G 1 "_law_take" (phiOf 3 2 [0] D__law_take.1)
noncomputable def D__law_dt_number_drawn : { g : SDen // Body P86 st__law_dt_number_drawn N__law_dt_number_drawn [0] 2 C__law_dt_number_drawn g } := ⟨_, by
    intro w K mg base G qual cdv f A outer s H E F gk cn hG hp hraw hr
    obtain ⟨B, d__law_one, d__law_take⟩ := cn
    have nd : N__law_dt_number_drawn.Nodup := by decide
    have hK : F.K = K := (gx_K hG).trans gk
    have hu := room65 hr
    have hu1 := room1 hr
    have B : B86 K mg := B
    conv in (defBody _) => whnf
    exact (ds_cons (sset (hN := nd) 1 (hp _ (by decide)) (de_pow hK (de_int hK) (de_int hK))) (ds_cons (sset (hN := nd) 2 (hp _ (by decide)) (de_lst hK (lc (de_int hK) (lc (de_int hK) (lc (de_int hK) (lc (de_int hK) (lc (de_int hK) (lc (de_int hK) (lc (de_pow hK (de_int hK) (de_int hK)) (lc (de_pow hK (de_int hK) (de_int hK)) (lc (de_sub hK (xv 1) (de_int hK)) dl_nil))))))))))) (ds_one (ds_ret (xf hG d__law_one hr (by decide) (L2N.takes_of rfl rfl rfl rfl) (ao 0 (ac (de_add hK (xv 2) (de_lst hK (lc (xf hG d__law_take hr (by decide) (L2N.takes_of rfl rfl rfl rfl) (ao 0 (ac (de_int hK) da_nil))) (lc (xf hG d__law_take hr (by decide) (L2N.takes_of rfl rfl rfl rfl) (ao 0 (ac (xv 1) da_nil))) dl_nil)))) da_nil)))))))⟩
def N__law_dt_deed_drawn : List Str := ["jar", "word", "many", "go"]
def st__law_dt_deed_drawn : Stmt := at86 41
def C__law_dt_deed_drawn (w : World) (K : PySem.W.Frag) (mg : Str → Option Value) (base : Heap) (G : Gx) (qual : Str) (cdv : Value) : Prop := B86 K mg ∧ Fd P86 w K mg base G 3 "_law_dt_number_drawn" (phiOf 3 1 [0] D__law_dt_number_drawn.1) ∧ Fd P86 w K mg base G 2 "_law_one" (phiOf 2 2 [0] D__law_one.1)
noncomputable def D__law_dt_deed_drawn : { g : SDen // Body P86 st__law_dt_deed_drawn N__law_dt_deed_drawn [0] 3 C__law_dt_deed_drawn g } := ⟨_, by
    intro w K mg base G qual cdv f A outer s H E F gk cn hG hp hraw hr
    obtain ⟨B, d__law_dt_number_drawn, d__law_one⟩ := cn
    have nd : N__law_dt_deed_drawn.Nodup := by decide
    have hK : F.K = K := (gx_K hG).trans gk
    have hu := room65 hr
    have hu1 := room1 hr
    have B : B86 K mg := B
    conv in (defBody _) => whnf
    exact (ds_cons (sset (hN := nd) 1 (hp _ (by decide)) (xf hG d__law_one hr (by decide) (L2N.takes_of rfl rfl rfl rfl) (ao 0 (ac (de_lst hK (lc (de_str hK) (lc (de_str hK) (lc (de_str hK) (lc (de_str hK) (lc (de_str hK) (lc (de_str hK) (lc (de_str hK) (lc (de_str hK) (lc (de_str hK) dl_nil)))))))))) da_nil)))) (ds_cons (ds_if (xcmpT hK hu (xv 1) (de_str hK)) (ds_cons (sset (hN := nd) 2 (hp _ (by decide)) (xf hG d__law_one hr (by decide) (L2N.takes_of rfl rfl rfl rfl) (ao 0 (ac (de_lst hK (lc (de_int hK) (lc (de_int hK) (lc (de_int hK) (lc (de_int hK) (lc (de_int hK) (lc (de_int hK) (lc (de_int hK) dl_nil)))))))) da_nil)))) (ds_one (ds_ret (de_tup hK (lc (de_str hK) (lc (xt1 hK (b1_tuple hK) (B.nb _ (by decide)) (dr_lift (xlcR (hN := nd) [("go", 3)] hK (ir1 (B.nb _ (by decide)) (xv 2)) (fun _ _ _ _ _ F2 sb2 => (gn 3 (sb2.2.2.2 _ (by decide)) (hN := nd))) (fun _ _ _ _ _ F2 sb2 => dts_nil) (fun _ _ _ _ _ F2 sb2 => (de_tup (sb2.1.trans hK) (lc (xf (sb2.gx.trans hG) d__law_dt_number_drawn hr (by decide) takesN0 (ao 0 da_nil)) (lc (xf (sb2.gx.trans hG) d__law_dt_number_drawn hr (by decide) takesN0 (ao 0 da_nil)) dl_nil))))))) dl_nil)))))) ds_nil) (ds_cons (sset (hN := nd) 2 (hp _ (by decide)) (de_if (xcmpT hK hu (xv 1) (de_str hK)) (de_int hK) (de_if (xcmpT hK hu (xv 1) (de_lst hK (lc (de_str hK) (lc (de_str hK) dl_nil)))) (de_int hK) (de_int hK)))) (ds_one (ds_ret (de_add hK (de_tup hK (lc (xv 1) dl_nil)) (xt1 hK (b1_tuple hK) (B.nb _ (by decide)) (dr_lift (xlcR (hN := nd) [("go", 3)] hK (ir1 (B.nb _ (by decide)) (xv 2)) (fun _ _ _ _ _ F1 sb1 => (gn 3 (sb1.2.2.2 _ (by decide)) (hN := nd))) (fun _ _ _ _ _ F1 sb1 => dts_nil) (fun _ _ _ _ _ F1 sb1 => (xf (sb1.gx.trans hG) d__law_dt_number_drawn hr (by decide) takesN0 (ao 0 da_nil))))))))))))⟩
def N__law_dt_spot_read : List Str := ["word", "nums", "one"]
def st__law_dt_spot_read : Stmt := at86 42
def C__law_dt_spot_read (w : World) (K : PySem.W.Frag) (mg : Str → Option Value) (base : Heap) (G : Gx) (qual : Str) (cdv : Value) : Prop := B86 K mg ∧ Fd P86 w K mg base G 1 "_law_xa_number_read" (phiOf 2 1 [] D__law_xa_number_read.1)
noncomputable def D__law_dt_spot_read : { g : SDen // Body P86 st__law_dt_spot_read N__law_dt_spot_read [] 1 C__law_dt_spot_read g } := ⟨_, by
    intro w K mg base G qual cdv f A outer s H E F gk cn hG hp hraw hr
    obtain ⟨B, d__law_xa_number_read⟩ := cn
    have nd : N__law_dt_spot_read.Nodup := by decide
    have hK : F.K = K := (gx_K hG).trans gk
    have hu := room65 hr
    have hu1 := room1 hr
    have B : B86 K mg := B
    conv in (defBody _) => whnf
    exact (ds_cons (slcS (hN := nd) 1 [("one", 2)] hK (hp _ (by decide)) (di_list hK (xsplit hK (xv 0) (de_str hK))) (fun _ _ _ _ _ F1 sb1 => (gn 2 (sb1.2.2.2 _ (by decide)) (hN := nd))) (fun _ _ _ _ _ F1 sb1 => dts_nil) (fun _ _ _ _ _ F1 sb1 => (xf (sb1.gx.trans hG) d__law_xa_number_read hr (by decide) takesN0 (ac (xv 2) da_nil)))) (ds_one (ds_ret (de_if (PW.pt (dw_and (xcmpT hK hu (xb1 hK (b1_len hK) (B.nb _ (by decide)) (xr 1)) (de_int hK)) (dw_and1 (xcmpT hK hu (de_non hK) (xv 1))))) (xt1 hK (b1_tuple hK) (B.nb _ (by decide)) (xr 1)) (de_non hK)))))⟩
def N__law_dt_line_read : List Str := ["line", "words_now", "spots_now", "word", "bad", "at", "many", "nums"]
def st__law_dt_line_read : Stmt := at86 43
def C__law_dt_line_read (w : World) (K : PySem.W.Frag) (mg : Str → Option Value) (base : Heap) (G : Gx) (qual : Str) (cdv : Value) : Prop := B86 K mg ∧ Fd P86 w K mg base G 1 "_law_xa_number_read" (phiOf 2 1 [] D__law_xa_number_read.1) ∧ Fd P86 w K mg base G 2 "_law_dt_spot_read" (phiOf 3 1 [] D__law_dt_spot_read.1)
noncomputable def D__law_dt_line_read : { g : SDen // Body P86 st__law_dt_line_read N__law_dt_line_read [] 2 C__law_dt_line_read g } := ⟨_, by
    intro w K mg base G qual cdv f A outer s H E F gk cn hG hp hraw hr
    obtain ⟨B, d__law_xa_number_read, d__law_dt_spot_read⟩ := cn
    have nd : N__law_dt_line_read.Nodup := by decide
    have hK : F.K = K := (gx_K hG).trans gk
    have hu := room65 hr
    have hu1 := room1 hr
    have B : B86 K mg := B
    conv in (defBody _) => whnf
    exact (ds_cons (sset (hN := nd) 1 (hp _ (by decide)) (xsplit hK (xv 0) (de_str hK))) (ds_cons (ds_if (xcmpT hK hu (xix hK (xr 1) (de_int hK)) (de_str hK)) (ds_cons (sset (hN := nd) 2 (hp _ (by decide)) (xlcR (hN := nd) [("word", 3)] hK (di_list hK (de_sl hK (xr 1) (do_some (de_int hK)) do_none)) (fun _ _ _ _ _ F4 sb4 => (gn 3 (sb4.2.2.2 _ (by decide)) (hN := nd))) (fun _ _ _ _ _ F4 sb4 => dts_nil) (fun _ _ _ _ _ F4 sb4 => (xf (sb4.gx.trans hG) d__law_dt_spot_read hr (by decide) takesN0 (ac (xv 3) da_nil))))) (ds_cons (slcS (hN := nd) 4 [("at", 5)] hK (hp _ (by decide)) (ir1 (B.nb _ (by decide)) (xb1 hK (b1_len hK) (B.nb _ (by decide)) (xr 2))) (fun _ _ _ _ _ F3 sb3 => (gn 5 (sb3.2.2.2 _ (by decide)) (hN := nd))) (fun _ _ _ _ _ F3 sb3 => (dts_one (PW.pt (dw_or (xcmpT (sb3.1.trans hK) hu (xix (sb3.1.trans hK) (xr 2) (xv 5)) (de_non (sb3.1.trans hK))) (dw_or1 (xcmpT (sb3.1.trans hK) hu (xv 5) (de_int (sb3.1.trans hK)))))))) (fun _ _ _ _ _ F3 sb3 => (de_add (sb3.1.trans hK) (xv 5) (de_int (sb3.1.trans hK))))) (ds_cons (ds_if (PW.pt (dw_or (xcmpT hK hu (xv 4) (de_lst hK dl_nil)) (dw_or1 (xcmpT hK hu (xv 2) (de_lst hK dl_nil))))) (ds_one (ds_ret (de_tup hK (lc (de_non hK) (lc (xix hK (dr_lift (de_add hK (xv 4) (de_lst hK (lc (de_int hK) dl_nil)))) (de_int hK)) dl_nil))))) ds_nil) (ds_one (ds_ret (de_tup hK (lc (de_tup hK (lc (de_str hK) (lc (xt1 hK (b1_tuple hK) (B.nb _ (by decide)) (xr 2)) dl_nil))) (lc (de_neg (de_int hK)) dl_nil)))))))) ds_nil) (ds_cons (sset (hN := nd) 6 (hp _ (by decide)) (xget hK hu1 [("place", 0), ("move", 3), ("unmove", 3), ("changer", 1), ("plain", 1), ("stop", 1)] (pps_cons pe_str pe_int (pps_cons pe_str pe_int (pps_cons pe_str pe_int (pps_cons pe_str pe_int (pps_cons pe_str pe_int (pps_cons pe_str pe_int pps_nil)))))) (xix hK (xr 1) (de_int hK)) (de_neg (de_int hK)))) (ds_cons (ds_if (xcmpT hK hu (xv 6) (de_int hK)) (ds_one (ds_ret (de_tup hK (lc (de_non hK) (lc (de_int hK) dl_nil))))) ds_nil) (ds_cons (sset (hN := nd) 7 (hp _ (by decide)) (xlcR (hN := nd) [("word", 3)] hK (di_list hK (de_sl hK (xr 1) (do_some (de_int hK)) do_none)) (fun _ _ _ _ _ F2 sb2 => (gn 3 (sb2.2.2.2 _ (by decide)) (hN := nd))) (fun _ _ _ _ _ F2 sb2 => dts_nil) (fun _ _ _ _ _ F2 sb2 => (xf (sb2.gx.trans hG) d__law_xa_number_read hr (by decide) takesN0 (ac (xv 3) da_nil))))) (ds_cons (slcS (hN := nd) 4 [("at", 5)] hK (hp _ (by decide)) (ir1 (B.nb _ (by decide)) (xb1 hK (b1_len hK) (B.nb _ (by decide)) (xr 7))) (fun _ _ _ _ _ F1 sb1 => (gn 5 (sb1.2.2.2 _ (by decide)) (hN := nd))) (fun _ _ _ _ _ F1 sb1 => (dts_one (PW.pt (dw_or (xcmpT (sb1.1.trans hK) hu (xix (sb1.1.trans hK) (xr 7) (xv 5)) (de_non (sb1.1.trans hK))) (dw_or1 (xcmpT (sb1.1.trans hK) hu (xv 5) (xv 6))))))) (fun _ _ _ _ _ F1 sb1 => (de_add (sb1.1.trans hK) (xv 5) (de_int (sb1.1.trans hK))))) (ds_cons (ds_if (PW.pt (dw_or (xcmpT hK hu (xv 4) (de_lst hK dl_nil)) (dw_or1 (xcmpT hK hu (xb1 hK (b1_len hK) (B.nb _ (by decide)) (xr 7)) (xv 6))))) (ds_one (ds_ret (de_tup hK (lc (de_non hK) (lc (xix hK (dr_lift (de_add hK (xv 4) (de_lst hK (lc (xb1 hK (b1_len hK) (B.nb _ (by decide)) (xr 1)) dl_nil)))) (de_int hK)) dl_nil))))) ds_nil) (ds_one (ds_ret (de_tup hK (lc (de_add hK (de_tup hK (lc (xix hK (xr 1) (de_int hK)) dl_nil)) (xt1 hK (b1_tuple hK) (B.nb _ (by decide)) (xr 7))) (lc (de_neg (de_int hK)) dl_nil))))))))))))⟩
def N__law_dt_owed : List Str := ["text", "lines", "deed", "wrong"]
def st__law_dt_owed : Stmt := at86 44
def C__law_dt_owed (w : World) (K : PySem.W.Frag) (mg : Str → Option Value) (base : Heap) (G : Gx) (qual : Str) (cdv : Value) : Prop := B86 K mg ∧ Fd P86 w K mg base G 3 "_law_dt_line_read" (phiOf 8 1 [] D__law_dt_line_read.1)
noncomputable def D__law_dt_owed : { g : SDen // Body P86 st__law_dt_owed N__law_dt_owed [] 3 C__law_dt_owed g } := ⟨_, by
    intro w K mg base G qual cdv f A outer s H E F gk cn hG hp hraw hr
    obtain ⟨B, d__law_dt_line_read⟩ := cn
    have nd : N__law_dt_owed.Nodup := by decide
    have hK : F.K = K := (gx_K hG).trans gk
    have hu := room65 hr
    have hu1 := room1 hr
    have B : B86 K mg := B
    conv in (defBody _) => whnf
    exact (ds_cons (sset (hN := nd) 1 (hp _ (by decide)) (xsplit hK (xv 0) (de_str hK))) (ds_cons (stg (vs := [2, 3]) (xf hG d__law_dt_line_read hr (by decide) (L2N.takes_of rfl rfl rfl rfl) (ac (xix hK (xr 1) (de_int hK)) da_nil)) (gtp (n := 2) hK (gcs (gn 2 (hp _ (by decide)) (hN := nd)) (gcs (gn 3 (hp _ (by decide)) (hN := nd)) dgs_nil)))) (ds_cons (ds_if (xcmpT hK hu (xv 3) (de_int hK)) (ds_one (ds_ret (de_tup hK (lc (de_str hK) (lc (de_tup hK (lc (de_int hK) (lc (xv 3) dl_nil))) dl_nil))))) ds_nil) (ds_one (ds_ret (de_if (xcmpT hK hu (xb1 hK (b1_len hK) (B.nb _ (by decide)) (xr 1)) (de_int hK)) (de_tup hK (lc (de_str hK) (lc (de_tup hK (lc (de_int hK) (lc (de_int hK) dl_nil))) dl_nil))) (de_tup hK (lc (de_str hK) (lc (xv 2) dl_nil)))))))))⟩
def N__law_dt_bent : List Str := ["jar", "line", "other", "at", "words_now", "k", "form", "sign", "odd"]
def st__law_dt_bent : Stmt := at86 45
def C__law_dt_bent (w : World) (K : PySem.W.Frag) (mg : Str → Option Value) (base : Heap) (G : Gx) (qual : Str) (cdv : Value) : Prop := B86 K mg ∧ Fd P86 w K mg base G 2 "_law_one" (phiOf 2 2 [0] D__law_one.1) ∧ Fd P86 w K mg base G 1 "_law_take" (phiOf 3 2 [0] D__law_take.1)
noncomputable def D__law_dt_bent : { g : SDen // Body P86 st__law_dt_bent N__law_dt_bent [0] 2 C__law_dt_bent g } := ⟨_, by
    intro w K mg base G qual cdv f A outer s H E F gk cn hG hp hraw hr
    obtain ⟨B, d__law_one, d__law_take⟩ := cn
    have nd : N__law_dt_bent.Nodup := by decide
    have hK : F.K = K := (gx_K hG).trans gk
    have hu := room65 hr
    have hu1 := room1 hr
    have B : B86 K mg := B
    conv in (defBody _) => whnf
    exact (ds_cons (spar (hN := nd) 3 4 (hp _ (by decide)) (hp _ (by decide)) (lc (xf hG d__law_take hr (by decide) (L2N.takes_of rfl rfl rfl rfl) (ao 0 (ac (de_add hK (xb1 hK (b1_len hK) (B.nb _ (by decide)) (xr 1)) (de_int hK)) da_nil))) (lc (xsplit hK (xv 1) (de_str hK)) dl_nil))) (ds_cons (spar (hN := nd) 5 6 (hp _ (by decide)) (hp _ (by decide)) (lc (xf hG d__law_take hr (by decide) (L2N.takes_of rfl rfl rfl rfl) (ao 0 (ac (xb1 hK (b1_len hK) (B.nb _ (by decide)) (xr 4)) da_nil))) (lc (xf hG d__law_take hr (by decide) (L2N.takes_of rfl rfl rfl rfl) (ao 0 (ac (de_int hK) da_nil))) dl_nil))) (ds_cons (sset (hN := nd) 7 (hp _ (by decide)) (xf hG d__law_one hr (by decide) (L2N.takes_of rfl rfl rfl rfl) (ao 0 (ac (de_lst hK (lc (de_str hK) (lc (de_str hK) (lc (de_str hK) (lc (de_str hK) (lc (de_str hK) (lc (de_str hK) (lc (de_str hK) (lc (de_str hK) (lc (de_str hK) (lc (de_str hK) (lc (de_str hK) (lc (de_str hK) dl_nil))))))))))))) da_nil)))) (ds_cons (ds_if (xcmpT hK hu (xv 6) (de_int hK)) (ds_one (ds_ret (de_add hK (de_add hK (de_sl hK (xr 1) do_none (do_some (xv 3))) (xv 7)) (de_sl hK (xr 1) (do_some (de_add hK (xv 3) (de_mod hK (xv 6) (de_int hK)))) do_none)))) ds_nil) (ds_cons (ds_if (xcmpT hK hu (xv 6) (de_int hK)) (ds_one (ds_ret (de_add hK (de_sl hK (xr 1) do_none (do_some (xv 3))) (de_sl hK (xr 1) (do_some (de_add hK (xv 3) (de_int hK))) do_none)))) ds_nil) (ds_cons (sown (hN := nd) 8 (hp _ (by decide)) (de_lst hK (lc (de_str hK) (lc (de_str hK) (lc (de_str hK) (lc (de_str hK) (lc (de_str hK) (lc (de_str hK) (lc (de_str hK) (lc (de_str hK) (lc (de_str hK) (lc (de_str hK) (lc (de_str hK) (lc (de_mul hK (de_str hK) (de_int hK)) (lc (de_mul hK (de_str hK) (de_int hK)) (lc (de_add hK (de_str hK) (de_mul hK (de_str hK) (de_int hK))) dl_nil)))))))))))))))) (ds_cons (sext 8 (de_lst hK (lc (de_add hK (de_str hK) (de_str hK)) (lc (de_str hK) (lc (de_str hK) (lc (de_str hK) (lc (de_str hK) (lc (de_str hK) (lc (de_str hK) (lc (de_str hK) (lc (de_str hK) (lc (de_str hK) (lc (de_str hK) (lc (de_str hK) dl_nil)))))))))))))) (ds_cons (ds_frz (i := 8) (hp _ (by decide)) (ds_if (xcmpT hK hu (xv 6) (de_int hK)) (ds_one (ds_ret (xjoin hK (de_str hK) (dr_lift (de_add hK (de_add hK (de_sl hK (xr 4) do_none (do_some (xv 5))) (de_lst hK (lc (xf hG d__law_one hr (by decide) (L2N.takes_of rfl rfl rfl rfl) (ao 0 (ac (xv 8) da_nil))) dl_nil))) (de_sl hK (xr 4) (do_some (de_add hK (xv 5) (de_int hK))) do_none)))))) ds_nil)) (ds_cons (ds_if (xcmpT hK hu (xv 6) (de_int hK)) (ds_one (ds_ret (xjoin hK (de_str hK) (dr_lift (de_add hK (de_sl hK (xr 4) do_none (do_some (xv 5))) (de_sl hK (xr 4) (do_some (de_add hK (xv 5) (de_int hK))) do_none)))))) ds_nil) (ds_cons (ds_if (xcmpT hK hu (xv 6) (de_int hK)) (ds_one (ds_ret (xjoin hK (de_str hK) (dr_lift (de_add hK (de_add hK (de_sl hK (xr 4) do_none (do_some (de_add hK (xv 5) (de_int hK)))) (de_lst hK (lc (xf hG d__law_one hr (by decide) (L2N.takes_of rfl rfl rfl rfl) (ao 0 (ac (de_add hK (xv 8) (de_lst hK (lc (de_str hK) (lc (de_str hK) (lc (de_str hK) dl_nil))))) da_nil))) dl_nil))) (de_sl hK (xr 4) (do_some (de_add hK (xv 5) (de_int hK))) do_none)))))) ds_nil) (ds_cons (ds_if (xcmpT hK hu (xv 6) (de_int hK)) (ds_one (ds_ret (xjoin hK (de_str hK) (dr_lift (de_add hK (xv 4) (de_mul hK (de_lst hK (lc (xix hK (xr 4) (de_neg (de_int hK))) dl_nil)) (xf hG d__law_one hr (by decide) (L2N.takes_of rfl rfl rfl rfl) (ao 0 (ac (de_lst hK (lc (de_int hK) (lc (de_int hK) (lc (de_int hK) (lc (de_int hK) dl_nil))))) da_nil))))))))) ds_nil) (ds_cons (ds_if (xcmpT hK hu (xv 6) (de_int hK)) (ds_one (ds_ret (de_add hK (xv 1) (xf hG d__law_one hr (by decide) (L2N.takes_of rfl rfl rfl rfl) (ao 0 (ac (de_lst hK (lc (de_str hK) (lc (de_add hK (de_str hK) (xv 2)) (lc (de_str hK) (lc (de_str hK) (lc (de_str hK) dl_nil)))))) da_nil)))))) ds_nil) (ds_one (ds_ret (de_add hK (xix hK (dr_lift (xsplit hK (xv 2) (de_str hK))) (de_int hK)) (de_sl hK (xr 1) (do_some (xv 3)) do_none))))))))))))))))⟩
def N__law_dt_fixed_right : List Str := ["jar", "much", "rows", "heard_now", "text", "odd"]
def st__law_dt_fixed_right : Stmt := at86 46
def C__law_dt_fixed_right (w : World) (K : PySem.W.Frag) (mg : Str → Option Value) (base : Heap) (G : Gx) (qual : Str) (cdv : Value) : Prop := B86 K mg ∧ Fd P86 w K mg base G 9 "_law_xq_same" Φ__law_xq_same ∧ Fd P86 w K mg base G 5 "read_deed" (phiOf 4 1 [] D_read_deed.1) ∧ Fd P86 w K mg base G 2 "_law_one" (phiOf 2 2 [0] D__law_one.1) ∧ Fd P86 w K mg base G 4 "_law_dt_owed" (phiOf 4 1 [] D__law_dt_owed.1) ∧ Fd P86 w K mg base G 1 "_law_take" (phiOf 3 2 [0] D__law_take.1) ∧ HeardOk P86 w K mg base G "told" isB86 GS.1 "_law_dt_heard" 5 ∧ Lm mg base G qual cdv
noncomputable def D__law_dt_fixed_right : { g : SDen // Body P86 st__law_dt_fixed_right N__law_dt_fixed_right [0] 9 C__law_dt_fixed_right g } := ⟨_, by
    intro w K mg base G qual cdv f A outer s H E F gk cn hG hp hraw hr
    obtain ⟨B, d__law_xq_same, d_read_deed, d__law_one, d__law_dt_owed, d__law_take, h__law_dt_heard, hl⟩ := cn
    have nd : N__law_dt_fixed_right.Nodup := by decide
    have hK : F.K = K := (gx_K hG).trans gk
    have hu := room65 hr
    have hu1 := room1 hr
    have B : B86 K mg := B
    conv in (defBody _) => whnf
    exact (ds_cons (sset (hN := nd) 1 (hp _ (by decide)) (xf hG d__law_take hr (by decide) (L2N.takes_of rfl rfl rfl rfl) (ao 0 (ac (de_pow hK (de_int hK) (de_int hK)) da_nil)))) (ds_cons (sown (hN := nd) 2 (hp _ (by decide)) (de_lst hK (lc (de_add hK (de_add hK (de_str hK) (xt1 hK b1_str (B.nb _ (by decide)) (xr 1))) (de_mul hK (de_str hK) (de_int hK))) (lc (de_add hK (de_str hK) (de_mul hK (de_str hK) (de_int hK))) (lc (de_add hK (de_add hK (de_str hK) (de_mul hK (de_str hK) (de_int hK))) (de_str hK)) (lc (de_str hK) (lc (de_str hK) dl_nil))))))) (ds_cons (sext 2 (de_lst hK (lc (de_str hK) (lc (de_str hK) (lc (de_str hK) (lc (de_str hK) (lc (de_str hK) (lc (de_str hK) (lc (de_str hK) (lc (de_str hK) (lc (de_str hK) (lc (de_str hK) dl_nil)))))))))))) (ds_cons (sext 2 (de_lst hK (lc (de_str hK) (lc (de_str hK) (lc (de_str hK) (lc (de_str hK) (lc (de_str hK) (lc (de_str hK) (lc (de_str hK) dl_nil))))))))) (ds_cons (sapp 2 (de_mul hK (de_str hK) (de_int hK))) (ds_cons (ds_frz (i := 2) (hp _ (by decide)) (slcS (hN := nd) 3 [("text", 4)] hK (hp _ (by decide)) (di_list hK (xv 2)) (fun _ _ _ _ _ F4 sb4 => (gn 4 (sb4.2.2.2 _ (by decide)) (hN := nd))) (fun _ _ _ _ _ F4 sb4 => dts_nil) (fun _ _ _ _ _ F4 sb4 => (xhrd (k := 5) (sb4.1.trans hK) (sb4.gx.trans hG) h__law_dt_heard hl (hr.mono (by decide)) (fun _ _ _ _ _ _ _ hr5 => (xf (sb4.gx.trans hG) d_read_deed hr5 (by decide) lamN_takes (ac (xv 4) da_nil))))))) (ds_cons (ds_if (dt_not (xt hK (xf hG d__law_xq_same hr (by decide) (L2N.takes_of rfl rfl rfl rfl) (ac (xv 3) (ac (xlcR (hN := nd) [("text", 4)] hK (di_list hK (xv 2)) (fun _ _ _ _ _ F3 sb3 => (gn 4 (sb3.2.2.2 _ (by decide)) (hN := nd))) (fun _ _ _ _ _ F3 sb3 => dts_nil) (fun _ _ _ _ _ F3 sb3 => (xf (sb3.gx.trans hG) d__law_dt_owed hr (by decide) takesN0 (ac (xv 4) da_nil)))) da_nil))))) (ds_one (ds_ret (de_bl hK))) ds_nil) (ds_cons (sset (hN := nd) 5 (hp _ (by decide)) (xf hG d__law_one hr (by decide) (L2N.takes_of rfl rfl rfl rfl) (ao 0 (ac (de_lst hK (lc (de_non hK) (lc (de_int hK) (lc (de_lst hK (lc (de_str hK) dl_nil)) (lc (de_tup hK (lc (de_str hK) dl_nil)) (lc (de_bl hK) dl_nil)))))) da_nil)))) (ds_cons (sown (hN := nd) 3 (hp _ (by decide)) (de_lst hK (lc (xhrd (k := 5) hK hG h__law_dt_heard hl (hr.mono (by decide)) (fun _ _ _ _ _ _ _ hr2 => (xf hG d_read_deed hr2 (by decide) lamN_takes (ac (xv 5) da_nil)))) dl_nil))) (ds_cons (sapp 3 (xhrd (k := 5) hK hG h__law_dt_heard hl (hr.mono (by decide)) (fun _ _ _ _ _ _ _ hr1 => (xf hG d_read_deed hr1 (by decide) lamN_takes (ac (de_mul hK (de_str hK) (de_int hK)) da_nil))))) (ds_one (ds_frz (i := 3) (hp _ (by decide)) (ds_ret (xf hG d__law_xq_same hr (by decide) (L2N.takes_of rfl rfl rfl rfl) (ac (xv 3) (ac (de_lst hK (lc (de_tup hK (lc (de_str hK) (lc (de_neg (de_int hK)) dl_nil))) (lc (de_tup hK (lc (de_str hK) (lc (de_int hK) dl_nil))) dl_nil))) da_nil))))))))))))))))⟩
def N_law : List Str := ["script", "jar", "go", "deed", "other", "line", "bad", "heard_now", "again", "text"]
def st_law : Stmt := at86 47
def C_law (w : World) (K : PySem.W.Frag) (mg : Str → Option Value) (base : Heap) (G : Gx) (qual : Str) (cdv : Value) : Prop := B86 K mg ∧ Fd P86 w K mg base G 10 "_law_dt_fixed_right" (phiOf 6 1 [0] D__law_dt_fixed_right.1) ∧ Fd P86 w K mg base G 9 "_law_xq_same" Φ__law_xq_same ∧ Fd P86 w K mg base G 4 "_law_dt_owed" (phiOf 4 1 [] D__law_dt_owed.1) ∧ Fd P86 w K mg base G 5 "read_deed" (phiOf 4 1 [] D_read_deed.1) ∧ Fd P86 w K mg base G 3 "_law_dt_bent" (phiOf 9 3 [0] D__law_dt_bent.1) ∧ Fd P86 w K mg base G 5 "deed_text" (phiOf 4 1 [] D_deed_text.1) ∧ Fd P86 w K mg base G 3 "_law_xa_odd_drawn" (phiOf 3 1 [0] D__law_xa_odd_drawn.1) ∧ Fd P86 w K mg base G 1 "_law_xa_line" (phiOf 4 1 [] D__law_xa_line.1) ∧ Fd P86 w K mg base G 4 "_law_dt_deed_drawn" (phiOf 4 1 [0] D__law_dt_deed_drawn.1) ∧ FdS P86 w K mg base G 1 "_law_pool" 5 D__law_pool.1 ∧ HeardOk P86 w K mg base G "told" isB86 GS.1 "_law_dt_heard" 5 ∧ Lm mg base G qual cdv
noncomputable def D_law : { g : List Int → SDen // BodyS P86 st_law N_law 10 C_law g } := ⟨_, by
    intro w K mg base G qual cdv f A outer s H E F sa ns gk cn hG hp hS hr
    obtain ⟨B, d__law_dt_fixed_right, d__law_xq_same, d__law_dt_owed, d_read_deed, d__law_dt_bent, d_deed_text, d__law_xa_odd_drawn, d__law_xa_line, d__law_dt_deed_drawn, d__law_pool, h__law_dt_heard, hl⟩ := cn
    have nd : N_law.Nodup := by decide
    have hK : F.K = K := (gx_K hG).trans gk
    have hu := room65 hr
    have hu1 := room1 hr
    have B : B86 K mg := B
    conv in (defBody _) => whnf
    exact (ds_cons (sown (hN := nd) 1 (hp _ (by decide)) (xfS hG hS d__law_pool hr (by decide) (L2N.takes_of rfl rfl rfl rfl))) (ds_cons (sfor (vs := [2]) hK PassesOwn.leaving (ir1 (B.nb _ (by decide)) (de_int hK)) (gn 2 (hp _ (by decide)) (hN := nd)) (ds_cons (stg (vs := [3, 4]) (de_tup hK (lc (xf hG d__law_dt_deed_drawn hr (by decide) (L2N.takes_of rfl rfl rfl rfl) (ao 1 da_nil)) (lc (xf hG d__law_xa_line hr (by decide) (L2N.takes_of rfl rfl rfl rfl) (ac (xf hG d__law_dt_deed_drawn hr (by decide) (L2N.takes_of rfl rfl rfl rfl) (ao 1 da_nil)) da_nil)) dl_nil))) (gtp (n := 2) hK (gcs (gn 3 (hp _ (by decide)) (hN := nd)) (gcs (gn 4 (hp _ (by decide)) (hN := nd)) dgs_nil)))) (ds_cons (stg (vs := [5, 6]) (de_tup hK (lc (xf hG d__law_xa_line hr (by decide) (L2N.takes_of rfl rfl rfl rfl) (ac (xv 3) da_nil)) (lc (xf hG d__law_xa_odd_drawn hr (by decide) (L2N.takes_of rfl rfl rfl rfl) (ao 1 da_nil)) dl_nil))) (gtp (n := 2) hK (gcs (gn 5 (hp _ (by decide)) (hN := nd)) (gcs (gn 6 (hp _ (by decide)) (hN := nd)) dgs_nil)))) (ds_cons (sown (hN := nd) 7 (hp _ (by decide)) (de_lst hK (lc (xhrd (k := 5) hK hG h__law_dt_heard hl (hr.mono (by decide)) (fun _ _ _ _ _ _ _ hr4 => (xf hG d_deed_text hr4 (by decide) lamN_takes (ac (xv 3) da_nil)))) dl_nil))) (ds_cons (sapp 7 (xhrd (k := 5) hK hG h__law_dt_heard hl (hr.mono (by decide)) (fun _ _ _ _ _ _ _ hr3 => (xf hG d_read_deed hr3 (by decide) lamN_takes (ac (xv 5) da_nil))))) (ds_cons (sapp 7 (xhrd (k := 5) hK hG h__law_dt_heard hl (hr.mono (by decide)) (fun _ _ _ _ _ _ _ hr2 => (xf hG d_deed_text hr2 (by decide) lamN_takes (ac (xv 6) da_nil))))) (ds_cons (ds_frz (i := 7) (hp _ (by decide)) (ds_if (dt_not (xt hK (xf hG d__law_xq_same hr (by decide) (L2N.takes_of rfl rfl rfl rfl) (ac (xv 7) (ac (de_lst hK (lc (de_tup hK (lc (de_str hK) (lc (xv 5) dl_nil))) (lc (de_tup hK (lc (de_str hK) (lc (xv 3) dl_nil))) (lc (de_tup hK (lc (de_str hK) (lc (de_int hK) dl_nil))) dl_nil)))) da_nil))))) (ds_one (ds_ret (de_bl hK))) ds_nil)) (ds_one (sfor (vs := [8]) hK PassesOwn.leaving (ir1 (B.nb _ (by decide)) (de_int hK)) (gn 8 (hp _ (by decide)) (hN := nd)) (ds_cons (sset (hN := nd) 9 (hp _ (by decide)) (xf hG d__law_dt_bent hr (by decide) (L2N.takes_of rfl rfl rfl rfl) (ao 1 (ac (xv 5) (ac (xv 4) da_nil))))) (ds_one (ds_if (dt_not (xt hK (xf hG d__law_xq_same hr (by decide) (L2N.takes_of rfl rfl rfl rfl) (ac (xhrd (k := 5) hK hG h__law_dt_heard hl (hr.mono (by decide)) (fun _ _ _ _ _ _ _ hr1 => (xf hG d_read_deed hr1 (by decide) lamN_takes (ac (xv 9) da_nil)))) (ac (xf hG d__law_dt_owed hr (by decide) (L2N.takes_of rfl rfl rfl rfl) (ac (xv 9) da_nil)) da_nil))))) (ds_one (ds_ret (de_bl hK))) ds_nil)))))))))))) (ds_one (ds_ret (xf hG d__law_dt_fixed_right hr (by decide) (L2N.takes_of rfl rfl rfl rfl) (ao 1 da_nil))))))⟩
end DL
end
section -- K86b
set_option maxRecDepth 100000
set_option maxHeartbeats 4000000
namespace DL
open PySem PySem.Spec PyProof.Rows L2 LamX HotX L2H
theorem sc_whole : FnScope N_whole [("thing" : Str), ("least" : Str), ("most" : Str)] (defScope st_whole) := ⟨rfl, rfl, rfl, by decide +kernel, rfl, by decide +kernel, by decide +kernel⟩
theorem sc_asked_signs : FnScope N_asked_signs [("text" : Str), ("most" : Str)] (defScope st_asked_signs) := ⟨rfl, rfl, rfl, by decide +kernel, rfl, by decide +kernel, by decide +kernel⟩
theorem sc_lines_of : FnScope N_lines_of [("text" : Str)] (defScope st_lines_of) := ⟨rfl, rfl, rfl, by decide +kernel, rfl, by decide +kernel, by decide +kernel⟩
theorem sc_words_of : FnScope N_words_of [("line" : Str)] (defScope st_words_of) := ⟨rfl, rfl, rfl, by decide +kernel, rfl, by decide +kernel, by decide +kernel⟩
theorem sc_number_of : FnScope N_number_of [("word" : Str)] (defScope st_number_of) := ⟨rfl, rfl, rfl, by decide +kernel, rfl, by decide +kernel, by decide +kernel⟩
theorem sc_spot_of : FnScope N_spot_of [("word" : Str)] (defScope st_spot_of) := ⟨rfl, rfl, rfl, by decide +kernel, rfl, by decide +kernel, by decide +kernel⟩
theorem sc_asked_end : FnScope N_asked_end [("lines" : Str), ("many" : Str)] (defScope st_asked_end) := ⟨rfl, rfl, rfl, by decide +kernel, rfl, by decide +kernel, by decide +kernel⟩
theorem sc_are_numbers : FnScope N_are_numbers [("things" : Str)] (defScope st_are_numbers) := ⟨rfl, rfl, rfl, by decide +kernel, rfl, by decide +kernel, by decide +kernel⟩
theorem sc_are_pairs : FnScope N_are_pairs [("thing" : Str)] (defScope st_are_pairs) := ⟨rfl, rfl, rfl, by decide +kernel, rfl, by decide +kernel, by decide +kernel⟩
theorem sc_is_deed : FnScope N_is_deed [("thing" : Str)] (defScope st_is_deed) := ⟨rfl, rfl, rfl, by decide +kernel, rfl, by decide +kernel, by decide +kernel⟩
theorem sc_deed_text : FnScope N_deed_text [("deed" : Str)] (defScope st_deed_text) := ⟨rfl, rfl, rfl, by decide +kernel, rfl, by decide +kernel, by decide +kernel⟩
theorem sc_run_of : FnScope N_run_of [("words" : Str)] (defScope st_run_of) := ⟨rfl, rfl, rfl, by decide +kernel, rfl, by decide +kernel, by decide +kernel⟩
theorem sc_deed_of : FnScope N_deed_of [("words" : Str)] (defScope st_deed_of) := ⟨rfl, rfl, rfl, by decide +kernel, rfl, by decide +kernel, by decide +kernel⟩
theorem sc_read_deed : FnScope N_read_deed [("text" : Str)] (defScope st_read_deed) := ⟨rfl, rfl, rfl, by decide +kernel, rfl, by decide +kernel, by decide +kernel⟩
theorem sc__law_xq_is_whole : FnScope N__law_xq_is_whole [("thing" : Str)] (defScope st__law_xq_is_whole) := ⟨rfl, rfl, rfl, by decide +kernel, rfl, by decide +kernel, by decide +kernel⟩
theorem sc__law_xq_same : FnScope N__law_xq_same [("heard_one" : Str), ("owed" : Str)] (defScope st__law_xq_same) := ⟨rfl, rfl, rfl, by decide +kernel, rfl, by decide +kernel, by decide +kernel⟩
theorem sc__law_pool : FnScope N__law_pool [("script" : Str)] (defScope st__law_pool) := ⟨rfl, rfl, rfl, by decide +kernel, rfl, by decide +kernel, by decide +kernel⟩
theorem sc__law_take : FnScope N__law_take [("jar" : Str), ("many" : Str)] (defScope st__law_take) := ⟨rfl, rfl, rfl, by decide +kernel, rfl, by decide +kernel, by decide +kernel⟩
theorem sc__law_one : FnScope N__law_one [("jar" : Str), ("things" : Str)] (defScope st__law_one) := ⟨rfl, rfl, rfl, by decide +kernel, rfl, by decide +kernel, by decide +kernel⟩
theorem sc__law_xa_line : FnScope N__law_xa_line [("deed" : Str)] (defScope st__law_xa_line) := ⟨rfl, rfl, rfl, by decide +kernel, rfl, by decide +kernel, by decide +kernel⟩
theorem sc__law_xa_number_read : FnScope N__law_xa_number_read [("word" : Str)] (defScope st__law_xa_number_read) := ⟨rfl, rfl, rfl, by decide +kernel, rfl, by decide +kernel, by decide +kernel⟩
theorem sc__law_xa_odd_drawn : FnScope N__law_xa_odd_drawn [("jar" : Str)] (defScope st__law_xa_odd_drawn) := ⟨rfl, rfl, rfl, by decide +kernel, rfl, by decide +kernel, by decide +kernel⟩
theorem sc__law_dt_number_drawn : FnScope N__law_dt_number_drawn [("jar" : Str)] (defScope st__law_dt_number_drawn) := ⟨rfl, rfl, rfl, by decide +kernel, rfl, by decide +kernel, by decide +kernel⟩
theorem sc__law_dt_deed_drawn : FnScope N__law_dt_deed_drawn [("jar" : Str)] (defScope st__law_dt_deed_drawn) := ⟨rfl, rfl, rfl, by decide +kernel, rfl, by decide +kernel, by decide +kernel⟩
theorem sc__law_dt_spot_read : FnScope N__law_dt_spot_read [("word" : Str)] (defScope st__law_dt_spot_read) := ⟨rfl, rfl, rfl, by decide +kernel, rfl, by decide +kernel, by decide +kernel⟩
theorem sc__law_dt_line_read : FnScope N__law_dt_line_read [("line" : Str)] (defScope st__law_dt_line_read) := ⟨rfl, rfl, rfl, by decide +kernel, rfl, by decide +kernel, by decide +kernel⟩
theorem sc__law_dt_owed : FnScope N__law_dt_owed [("text" : Str)] (defScope st__law_dt_owed) := ⟨rfl, rfl, rfl, by decide +kernel, rfl, by decide +kernel, by decide +kernel⟩
theorem sc__law_dt_bent : FnScope N__law_dt_bent [("jar" : Str), ("line" : Str), ("other" : Str)] (defScope st__law_dt_bent) := ⟨rfl, rfl, rfl, by decide +kernel, rfl, by decide +kernel, by decide +kernel⟩
theorem sc__law_dt_fixed_right : FnScope N__law_dt_fixed_right [("jar" : Str)] (defScope st__law_dt_fixed_right) := ⟨rfl, rfl, rfl, by decide +kernel, rfl, by decide +kernel, by decide +kernel⟩
theorem sc_law : FnScope N_law [("script" : Str)] (defScope st_law) := ⟨rfl, rfl, rfl, by decide +kernel, rfl, by decide +kernel, by decide +kernel⟩
theorem all86 {w : World} {K : PySem.W.Frag} {mg : Str → Option Value} {base h : Heap} {T : List (Addr × Str)} {ex : Str → Option Addr} (KX : K.In h) (Gn : h.Ns mainGlobals mg) (B : B86 K mg)
    (e_BadDeed : Ec P86 w K mg base ⟨K, T, ex⟩ 1 "BadDeed")
    (e_BadText : Ec P86 w K mg base ⟨K, T, ex⟩ 1 "BadText")
    (e_TooMany : Ec P86 w K mg base ⟨K, T, ex⟩ 1 "TooMany")
    (e_WrongLine : Ec P86 w K mg base ⟨K, T, ex⟩ 1 "WrongLine")
    (t_DEED_LENGTHS : Tb w K mg "DEED_LENGTHS" T_DEED_LENGTHS)
    (t_DEED_NUMBERS : Tb w K mg "DEED_NUMBERS" T_DEED_NUMBERS)
    (h__law_dt_heard : HeardOk P86 w K mg base ⟨K, T, ex⟩ "told" isB86 GS.1 "_law_dt_heard" 5)
    (a_whole : ∃ cdv, DefAt K "whole" st_whole cdv)
    (a_asked_signs : ∃ cdv, DefAt K "asked_signs" st_asked_signs cdv)
    (a_lines_of : ∃ cdv, DefAt K "lines_of" st_lines_of cdv)
    (a_words_of : ∃ cdv, DefAt K "words_of" st_words_of cdv)
    (a_number_of : ∃ cdv, DefAt K "number_of" st_number_of cdv)
    (a_spot_of : ∃ cdv, DefAt K "spot_of" st_spot_of cdv)
    (a_asked_end : ∃ cdv, DefAt K "asked_end" st_asked_end cdv)
    (a_are_numbers : ∃ cdv, DefAt K "are_numbers" st_are_numbers cdv)
    (a_are_pairs : ∃ cdv, DefAt K "are_pairs" st_are_pairs cdv)
    (a_is_deed : ∃ cdv, DefAt K "is_deed" st_is_deed cdv)
    (a_deed_text : ∃ cdv, DefAt K "deed_text" st_deed_text cdv)
    (a_run_of : ∃ cdv, DefAt K "run_of" st_run_of cdv)
    (a_deed_of : ∃ cdv, DefAt K "deed_of" st_deed_of cdv)
    (a_read_deed : ∃ cdv, DefAt K "read_deed" st_read_deed cdv)
    (a__law_xq_is_whole : ∃ cdv, DefAt K "_law_xq_is_whole" st__law_xq_is_whole cdv)
    (a__law_xq_same : ∃ cdv, DefAt K "_law_xq_same" st__law_xq_same cdv)
    (a__law_pool : ∃ cdv, DefAt K "_law_pool" st__law_pool cdv)
    (a__law_take : ∃ cdv, DefAt K "_law_take" st__law_take cdv)
    (a__law_one : ∃ cdv, DefAt K "_law_one" st__law_one cdv)
    (a__law_xa_line : ∃ cdv, DefAt K "_law_xa_line" st__law_xa_line cdv)
    (a__law_xa_number_read : ∃ cdv, DefAt K "_law_xa_number_read" st__law_xa_number_read cdv)
    (a__law_xa_odd_drawn : ∃ cdv, DefAt K "_law_xa_odd_drawn" st__law_xa_odd_drawn cdv)
    (a__law_dt_number_drawn : ∃ cdv, DefAt K "_law_dt_number_drawn" st__law_dt_number_drawn cdv)
    (a__law_dt_deed_drawn : ∃ cdv, DefAt K "_law_dt_deed_drawn" st__law_dt_deed_drawn cdv)
    (a__law_dt_spot_read : ∃ cdv, DefAt K "_law_dt_spot_read" st__law_dt_spot_read cdv)
    (a__law_dt_line_read : ∃ cdv, DefAt K "_law_dt_line_read" st__law_dt_line_read cdv)
    (a__law_dt_owed : ∃ cdv, DefAt K "_law_dt_owed" st__law_dt_owed cdv)
    (a__law_dt_bent : ∃ cdv, DefAt K "_law_dt_bent" st__law_dt_bent cdv)
    {cd__law_dt_fixed_right : Value} (a__law_dt_fixed_right : DefAt K "_law_dt_fixed_right" st__law_dt_fixed_right cd__law_dt_fixed_right) (hl__law_dt_fixed_right : Lm mg base ⟨K, T, ex⟩ "_law_dt_fixed_right" cd__law_dt_fixed_right)
    {cd_law : Value} (a_law : DefAt K "law" st_law cd_law) (hl_law : Lm mg base ⟨K, T, ex⟩ "law" cd_law) : C_law w K mg base ⟨K, T, ex⟩ "law" cd_law := by
  obtain ⟨cd_whole, a_whole⟩ := a_whole
  have d_whole := D_whole.2.at' (w := w) (base := base) (G := ⟨K, T, ex⟩) a_whole rfl KX Gn sc_whole (fun _ _ _ _ _ _ us hl => match us, hl with | [_, _, _], _ => rfl) B
  obtain ⟨cd_asked_signs, a_asked_signs⟩ := a_asked_signs
  have d_asked_signs := D_asked_signs.2.at' (w := w) (base := base) (G := ⟨K, T, ex⟩) a_asked_signs rfl KX Gn sc_asked_signs (fun _ _ _ _ _ _ us hl => match us, hl with | [_, _], _ => rfl) ⟨B, e_BadText, e_TooMany⟩
  obtain ⟨cd_lines_of, a_lines_of⟩ := a_lines_of
  have d_lines_of := D_lines_of.2.at' (w := w) (base := base) (G := ⟨K, T, ex⟩) a_lines_of rfl KX Gn sc_lines_of (fun _ _ _ _ _ _ us hl => match us, hl with | [_], _ => rfl) ⟨B, d_asked_signs⟩
  obtain ⟨cd_words_of, a_words_of⟩ := a_words_of
  have d_words_of := D_words_of.2.at' (w := w) (base := base) (G := ⟨K, T, ex⟩) a_words_of rfl KX Gn sc_words_of (fun _ _ _ _ _ _ us hl => match us, hl with | [_], _ => rfl) B
  obtain ⟨cd_number_of, a_number_of⟩ := a_number_of
  have d_number_of := D_number_of.2.at' (w := w) (base := base) (G := ⟨K, T, ex⟩) a_number_of rfl KX Gn sc_number_of (fun _ _ _ _ _ _ us hl => match us, hl with | [_], _ => rfl) B
  obtain ⟨cd_spot_of, a_spot_of⟩ := a_spot_of
  have d_spot_of := D_spot_of.2.at' (w := w) (base := base) (G := ⟨K, T, ex⟩) a_spot_of rfl KX Gn sc_spot_of (fun _ _ _ _ _ _ us hl => match us, hl with | [_], _ => rfl) ⟨B, d_number_of⟩
  obtain ⟨cd_asked_end, a_asked_end⟩ := a_asked_end
  have d_asked_end := D_asked_end.2.at' (w := w) (base := base) (G := ⟨K, T, ex⟩) a_asked_end rfl KX Gn sc_asked_end (fun _ _ _ _ _ _ us hl => match us, hl with | [_, _], _ => rfl) ⟨B, e_WrongLine⟩
  obtain ⟨cd_are_numbers, a_are_numbers⟩ := a_are_numbers
  have d_are_numbers := D_are_numbers.2.at' (w := w) (base := base) (G := ⟨K, T, ex⟩) a_are_numbers rfl KX Gn sc_are_numbers (fun _ _ _ _ _ _ us hl => match us, hl with | [_], _ => rfl) ⟨B, d_whole⟩
  obtain ⟨cd_are_pairs, a_are_pairs⟩ := a_are_pairs
  have d_are_pairs := D_are_pairs.2.at' (w := w) (base := base) (G := ⟨K, T, ex⟩) a_are_pairs rfl KX Gn sc_are_pairs (fun _ _ _ _ _ _ us hl => match us, hl with | [_], _ => rfl) ⟨B, d_are_numbers⟩
  obtain ⟨cd_is_deed, a_is_deed⟩ := a_is_deed
  have d_is_deed := D_is_deed.2.at' (w := w) (base := base) (G := ⟨K, T, ex⟩) a_is_deed rfl KX Gn sc_is_deed (fun _ _ _ _ _ _ us hl => match us, hl with | [_], _ => rfl) ⟨B, d_are_pairs, d_are_numbers, t_DEED_LENGTHS⟩
  obtain ⟨cd_deed_text, a_deed_text⟩ := a_deed_text
  have d_deed_text := D_deed_text.2.at' (w := w) (base := base) (G := ⟨K, T, ex⟩) a_deed_text rfl KX Gn sc_deed_text (fun _ _ _ _ _ _ us hl => match us, hl with | [_], _ => rfl) ⟨B, d_is_deed, e_BadDeed⟩
  obtain ⟨cd_run_of, a_run_of⟩ := a_run_of
  have d_run_of := D_run_of.2.at' (w := w) (base := base) (G := ⟨K, T, ex⟩) a_run_of rfl KX Gn sc_run_of (fun _ _ _ _ _ _ us hl => match us, hl with | [_], _ => rfl) ⟨B, d_spot_of⟩
  obtain ⟨cd_deed_of, a_deed_of⟩ := a_deed_of
  have d_deed_of := D_deed_of.2.at' (w := w) (base := base) (G := ⟨K, T, ex⟩) a_deed_of rfl KX Gn sc_deed_of (fun _ _ _ _ _ _ us hl => match us, hl with | [_], _ => rfl) ⟨B, d_number_of, d_run_of, t_DEED_NUMBERS⟩
  obtain ⟨cd_read_deed, a_read_deed⟩ := a_read_deed
  have d_read_deed := D_read_deed.2.at' (w := w) (base := base) (G := ⟨K, T, ex⟩) a_read_deed rfl KX Gn sc_read_deed (fun _ _ _ _ _ _ us hl => match us, hl with | [_], _ => rfl) ⟨B, d_asked_end, d_deed_of, d_words_of, d_lines_of, e_WrongLine⟩
  obtain ⟨cd__law_xq_is_whole, a__law_xq_is_whole⟩ := a__law_xq_is_whole
  have d__law_xq_is_whole := D__law_xq_is_whole.2.at' (w := w) (base := base) (G := ⟨K, T, ex⟩) a__law_xq_is_whole rfl KX Gn sc__law_xq_is_whole (fun _ _ _ _ _ _ us hl => match us, hl with | [_], _ => rfl) B
  obtain ⟨cd__law_xq_same, a__law_xq_same⟩ := a__law_xq_same
  have r__law_xq_same : ∀ n, Fd P86 w K mg base ⟨K, T, ex⟩ (n + 1) "_law_xq_same" (Φn__law_xq_same n) := by
    intro n
    induction n with
    | zero => exact (a__law_xq_same.none (ps := [("heard_one" : Str), ("owed" : Str)]) KX Gn (fun _ _ _ _ _ _ us hl => match us, hl with | [_, _], _ => rfl)).mono (by decide)
    | succ n i => exact (D__law_xq_same n (Φn__law_xq_same n)).2.at' a__law_xq_same rfl KX Gn sc__law_xq_same (fun _ _ _ _ _ _ us hl => match us, hl with | [_, _], _ => rfl) ⟨B, i, d__law_xq_is_whole⟩
  have d__law_xq_same : Fd P86 w K mg base ⟨K, T, ex⟩ 9 "_law_xq_same" Φ__law_xq_same := (r__law_xq_same _).mono (by decide)
  obtain ⟨cd__law_pool, a__law_pool⟩ := a__law_pool
  have d__law_pool := D__law_pool.2.at' (w := w) (base := base) (G := ⟨K, T, ex⟩) a__law_pool rfl KX Gn sc__law_pool rfl (fun _ _ _ _ _ _ us hl => match us, hl with | [_], _ => rfl) B
  obtain ⟨cd__law_take, a__law_take⟩ := a__law_take
  have d__law_take := D__law_take.2.at' (w := w) (base := base) (G := ⟨K, T, ex⟩) a__law_take rfl KX Gn sc__law_take (fun _ _ _ _ _ _ us hl => match us, hl with | [_, _], _ => rfl) B
  obtain ⟨cd__law_one, a__law_one⟩ := a__law_one
  have d__law_one := D__law_one.2.at' (w := w) (base := base) (G := ⟨K, T, ex⟩) a__law_one rfl KX Gn sc__law_one (fun _ _ _ _ _ _ us hl => match us, hl with | [_, _], _ => rfl) ⟨B, d__law_take⟩
  obtain ⟨cd__law_xa_line, a__law_xa_line⟩ := a__law_xa_line
  have d__law_xa_line := D__law_xa_line.2.at' (w := w) (base := base) (G := ⟨K, T, ex⟩) a__law_xa_line rfl KX Gn sc__law_xa_line (fun _ _ _ _ _ _ us hl => match us, hl with | [_], _ => rfl) B
  obtain ⟨cd__law_xa_number_read, a__law_xa_number_read⟩ := a__law_xa_number_read
  have d__law_xa_number_read := D__law_xa_number_read.2.at' (w := w) (base := base) (G := ⟨K, T, ex⟩) a__law_xa_number_read rfl KX Gn sc__law_xa_number_read (fun _ _ _ _ _ _ us hl => match us, hl with | [_], _ => rfl) B
  obtain ⟨cd__law_xa_odd_drawn, a__law_xa_odd_drawn⟩ := a__law_xa_odd_drawn
  have d__law_xa_odd_drawn := D__law_xa_odd_drawn.2.at' (w := w) (base := base) (G := ⟨K, T, ex⟩) a__law_xa_odd_drawn rfl KX Gn sc__law_xa_odd_drawn (fun _ _ _ _ _ _ us hl => match us, hl with | [_], _ => rfl) ⟨B, d__law_one⟩
  obtain ⟨cd__law_dt_number_drawn, a__law_dt_number_drawn⟩ := a__law_dt_number_drawn
  have d__law_dt_number_drawn := D__law_dt_number_drawn.2.at' (w := w) (base := base) (G := ⟨K, T, ex⟩) a__law_dt_number_drawn rfl KX Gn sc__law_dt_number_drawn (fun _ _ _ _ _ _ us hl => match us, hl with | [_], _ => rfl) ⟨B, d__law_one, d__law_take⟩
  obtain ⟨cd__law_dt_deed_drawn, a__law_dt_deed_drawn⟩ := a__law_dt_deed_drawn
  have d__law_dt_deed_drawn := D__law_dt_deed_drawn.2.at' (w := w) (base := base) (G := ⟨K, T, ex⟩) a__law_dt_deed_drawn rfl KX Gn sc__law_dt_deed_drawn (fun _ _ _ _ _ _ us hl => match us, hl with | [_], _ => rfl) ⟨B, d__law_dt_number_drawn, d__law_one⟩
  obtain ⟨cd__law_dt_spot_read, a__law_dt_spot_read⟩ := a__law_dt_spot_read
  have d__law_dt_spot_read := D__law_dt_spot_read.2.at' (w := w) (base := base) (G := ⟨K, T, ex⟩) a__law_dt_spot_read rfl KX Gn sc__law_dt_spot_read (fun _ _ _ _ _ _ us hl => match us, hl with | [_], _ => rfl) ⟨B, d__law_xa_number_read⟩
  obtain ⟨cd__law_dt_line_read, a__law_dt_line_read⟩ := a__law_dt_line_read
  have d__law_dt_line_read := D__law_dt_line_read.2.at' (w := w) (base := base) (G := ⟨K, T, ex⟩) a__law_dt_line_read rfl KX Gn sc__law_dt_line_read (fun _ _ _ _ _ _ us hl => match us, hl with | [_], _ => rfl) ⟨B, d__law_xa_number_read, d__law_dt_spot_read⟩
  obtain ⟨cd__law_dt_owed, a__law_dt_owed⟩ := a__law_dt_owed
  have d__law_dt_owed := D__law_dt_owed.2.at' (w := w) (base := base) (G := ⟨K, T, ex⟩) a__law_dt_owed rfl KX Gn sc__law_dt_owed (fun _ _ _ _ _ _ us hl => match us, hl with | [_], _ => rfl) ⟨B, d__law_dt_line_read⟩
  obtain ⟨cd__law_dt_bent, a__law_dt_bent⟩ := a__law_dt_bent
  have d__law_dt_bent := D__law_dt_bent.2.at' (w := w) (base := base) (G := ⟨K, T, ex⟩) a__law_dt_bent rfl KX Gn sc__law_dt_bent (fun _ _ _ _ _ _ us hl => match us, hl with | [_, _, _], _ => rfl) ⟨B, d__law_one, d__law_take⟩
  have d__law_dt_fixed_right := D__law_dt_fixed_right.2.at' (w := w) (base := base) (G := ⟨K, T, ex⟩) a__law_dt_fixed_right rfl KX Gn sc__law_dt_fixed_right (fun _ _ _ _ _ _ us hl => match us, hl with | [_], _ => rfl) ⟨B, d__law_xq_same, d_read_deed, d__law_one, d__law_dt_owed, d__law_take, h__law_dt_heard, hl__law_dt_fixed_right⟩
  exact ⟨B, d__law_dt_fixed_right, d__law_xq_same, d__law_dt_owed, d_read_deed, d__law_dt_bent, d_deed_text, d__law_xa_odd_drawn, d__law_xa_line, d__law_dt_deed_drawn, d__law_pool, h__law_dt_heard, hl_law⟩
end DL
end
section -- DL26
set_option maxRecDepth 100000
set_option maxHeartbeats 2000000
/-! DL26: the facts of the top, one by one (for k_is). -/
namespace DL
open PySem PySem.Spec PyProof.Rows L2 LamX
theorem errAt {K : PySem.W.Frag} {x : Str} {C f : Addr} {nm q : Str} {N : Addr} {bs bm : List Value} {sn : List Str} {sub : List Value} {ab : Bool} {col : Option Bool} {dd : Option Addr} {k0 k1 k2 k3 k5 : Option Value}
    (gx : PySem.W.nsIn K mainGlobals x = some (some (.ref C))) (cl : K.lookup C = some (excClassObj nm q C N bs bm true sn sub ab col dd k0 k1 k2 k3 k5 "ValueError.__new__")) (rv : PySem.HandSPX.refsVE bm = true)
    (sa : PySem.W.findIn K (.ref C) "__setattr__" = some (some (.builtin "object.__setattr__"))) (eC : PySem.W.subIn K (.ref C) (.type "BaseException") = some true) (tC : PySem.W.typeIn K (.ref C) = some (.type "type")) (kC : PySem.W.keepIn K (.ref C) = true)
    (no : PySem.W.findIn K (.ref C) "what" = some none) (iC : PySem.W.findIn K (.ref C) "__init__" = some (some (.ref f))) (tI : PySem.W.typeIn K (.ref f) = some (.type "function")) (cc : PySem.W.isClsIn K C = true)
    (ga : PySem.W.findIn K (.ref C) "__getattribute__" = some (some (.builtin "BaseException.__getattribute__"))) (gt : PySem.W.findIn K (.ref C) "__getattr__" = some none) (cs : PySem.W.findIn K (.ref C) "__class__" = some (some (.builtin "object.__class__")))
    (mr : PySem.W.mroIn K C (.type "object") = some true) (hd : PySem.W.hasDictIn K C = true) : ErrAt K x C f :=
  ⟨gx, ⟨nm, q, N, bs, bm, sn, sub, ab, col, dd, k0, k1, k2, k3, k5, cl, rv⟩, sa, eC, tC, kC, no, iC, tI, cc, ga, gt, cs, mr, hd⟩
/-- isinstance among the own errors, by what the written part says of them -/
theorem kit_ref {K : PySem.W.Frag} {C B : Addr} {b : Bool} (h : PySem.W.kitOne K (.ref C) (.ref B) = some b) : PySem.W.kitOne K (.ref C) (.ref B) = some b := h
theorem lmAt {mg : Str → Option Value} {base : Heap} {G : Gx} {qual : Str} {c P : Addr} (t : TabB base mg c P) (m : (P, qual ++ ".<locals>." ++ "<lambda>") ∈ G.T) (u : ∀ p ∈ G.T, p.1 = P → p.2 = qual ++ ".<locals>." ++ "<lambda>") : Lm mg base G qual (.ref c) := ⟨⟨c, P, t, rfl, m, u⟩⟩
end DL
namespace DL
open PySem PySem.Spec PyProof.Rows L2 LamX
theorem kit_of {K : PySem.W.Frag} {C B : Addr} {b : Bool} (hc : (PySem.W.clsIn K B).isSome = true) (ht : PySem.W.typeIn K (.ref B) = some (.type "type")) (hs : PySem.W.subIn K (.ref C) (.ref B) = some b) (hb : C = B → b = true) : PySem.W.kitOne K (.ref C) (.ref B) = some b := by
  unfold PySem.W.kitOne
  by_cases e : C = B
  · subst e
    rw [if_pos (by simp), hb rfl]
  · have ne : ¬ (Value.ref C == Value.ref B) = true := fun z => e (Value.ref.inj (beq_iff_eq.mp z))
    rw [if_neg ne]
    have e2 : ((PySem.W.clsIn K B).isSome && PySem.W.typeIn K (.ref B) == some (.type "type")) = true := by rw [hc, ht] <;> rfl
    show (if ((PySem.W.clsIn K B).isSome && PySem.W.typeIn K (.ref B) == some (.type "type")) = true then PySem.W.subIn K (.ref C) (.ref B) else none) = some b
    rw [if_pos e2]
    exact hs
theorem exm_of {K : PySem.W.Frag} {C : Addr} {cls : Value} {b : Bool} (h1 : PySem.W.subIn K (.ref C) (.type "BaseException") = some true) (hc : PySem.W.isClsIn K C = true) (ht : PySem.W.typeIn K (.ref C) = some (.type "type")) (h4 : PySem.W.subIn K cls (.ref C) = some b) : PySem.W.exmOne K cls (.ref C) = some b := by
  have hc' : (PySem.W.clsIn K C).isSome = true := hc
  have e1 : (PySem.W.subIn K (.ref C) (.type "BaseException") == some true) = true := by rw [h1] <;> rfl
  have e2 : ((PySem.W.clsIn K C).isSome && PySem.W.typeIn K (.ref C) == some (.type "type")) = true := by rw [hc', ht] <;> rfl
  show (if (PySem.W.subIn K (.ref C) (.type "BaseException") == some true) = true then (if ((PySem.W.clsIn K C).isSome && PySem.W.typeIn K (.ref C) == some (.type "type")) = true then PySem.W.subIn K cls (.ref C) else none) else none) = some b
  rw [if_pos e1, if_pos e2]
  exact h4
end DL
end
section -- K86c
set_option maxRecDepth 100000
set_option maxHeartbeats 4000000
namespace DL
open PySem PySem.Spec PyProof.Rows L2 LamX HotX L2H
theorem exTok {K : PySem.W.Frag} {x : Str} {v : Tok → Value} {t : Tok} (a : PySem.W.nsIn K mainGlobals x = some (some (v t))) : ∃ t : Tok, PySem.W.nsIn K mainGlobals x = some (some (v t)) := ⟨t, a⟩
theorem exDef {K : PySem.W.Frag} {x : Str} {st : Stmt} {cdv : Value} (a : DefAt K x st cdv) : ∃ cdv, DefAt K x st cdv := ⟨cdv, a⟩
theorem exFun {K : PySem.W.Frag} {x q : Str} {st : Stmt} {f : Addr} {fd : FuncData} (a : Fun K x q st f fd) : ∃ fd, Fun K x q st f fd := ⟨fd, a⟩
def st_init : Stmt := inClass (at86 1) 0
theorem sc_heard : FnScope N_heard [("deed" : Str)] (defScope st_heard) := ⟨rfl, rfl, rfl, by decide +kernel, rfl, by decide +kernel, by decide +kernel⟩
theorem sc_init : FnScope [("self" : Str), ("what" : Str)] [("self" : Str), ("what" : Str)] (defScope st_init) := ⟨rfl, rfl, rfl, by decide +kernel, rfl, by decide +kernel, by decide +kernel⟩
def ex86 (x : Str) : Option Addr := if x = "TooMany" then some 44 else if x = "BadDeed" then some 56 else if x = "BadText" then some 68 else if x = "WrongLine" then some 80 else none
def T86t : List (Addr × Str) := [(272, "law" ++ ".<locals>." ++ "<lambda>"), (267, "_law_dt_fixed_right" ++ ".<locals>." ++ "<lambda>")]
theorem tl1 : ((272, "law" ++ ".<locals>." ++ "<lambda>") : Addr × Str) ∈ T86t := by decide
theorem tl2 : ∀ p ∈ T86t, p.1 = 272 → p.2 = "law" ++ ".<locals>." ++ "<lambda>" := by decide
theorem tf1 : ((267, "_law_dt_fixed_right" ++ ".<locals>." ++ "<lambda>") : Addr × Str) ∈ T86t := by decide
theorem tf2 : ∀ p ∈ T86t, p.1 = 267 → p.2 = "_law_dt_fixed_right" ++ ".<locals>." ++ "<lambda>" := by decide
theorem ex86_some {c : Str} {C : Addr} (h : ex86 c = some C) : (c = "TooMany" ∧ C = 44) ∨ (c = "BadDeed" ∧ C = 56) ∨ (c = "BadText" ∧ C = 68) ∨ (c = "WrongLine" ∧ C = 80) := by
  unfold ex86 at h
  split at h
  · rename_i e; cases h; exact .inl ⟨e, rfl⟩
  · split at h
    · rename_i e; cases h; exact .inr (.inl ⟨e, rfl⟩)
    · split at h
      · rename_i e; cases h; exact .inr (.inr (.inl ⟨e, rfl⟩))
      · split at h
        · rename_i e; cases h; exact .inr (.inr (.inr ⟨e, rfl⟩))
        · cases h
theorem main86 (plain : ∀ ns : List Int, ns.length ≤ 63 → (∀ z ∈ ns, Builtin.Int.intBits z ≤ 1048576) → ∃ fr outs, phiS N_law.length (D_law.1 ns) = .rt (.bool true, fr) outs) : PySem.Challenge.rw_turnsonce_k86_deeds_lines.Holds := hd86 (by
  k_fill
  refine LamX.walk_ofTs (n := 63) (k := 100) (x := "script") (CX := fun w => L2N.CX PySem.Challenge.rw_turnsonce_k86_deeds_lines.prog w) rfl (by decide) rfl ⟨rfl, by decide, by decide⟩ (fun w h Y => PySem.W.km_in_of Y) ?F (fun w H s e s' h => by obtain ⟨_, _, _, _, _, _, _, _, _, _, _, _, z⟩ := h; exact z)
  case F =>
    intro w mg fa h Y KX G hmg
    have hT8 := PySem.W.km_tabs_of Y
    have z_isinstance : PySem.W.nsIn (hd86.heap_39 w.params) mainGlobals "isinstance" = some none := by k_is
    have z_int : PySem.W.nsIn (hd86.heap_39 w.params) mainGlobals "int" = some none := by k_is
    have z_str : PySem.W.nsIn (hd86.heap_39 w.params) mainGlobals "str" = some none := by k_is
    have z_tuple : PySem.W.nsIn (hd86.heap_39 w.params) mainGlobals "tuple" = some none := by k_is
    have z_list : PySem.W.nsIn (hd86.heap_39 w.params) mainGlobals "list" = some none := by k_is
    have z_bool : PySem.W.nsIn (hd86.heap_39 w.params) mainGlobals "bool" = some none := by k_is
    have z_len : PySem.W.nsIn (hd86.heap_39 w.params) mainGlobals "len" = some none := by k_is
    have z_range : PySem.W.nsIn (hd86.heap_39 w.params) mainGlobals "range" = some none := by k_is
    have z_min : PySem.W.nsIn (hd86.heap_39 w.params) mainGlobals "min" = some none := by k_is
    have z_max : PySem.W.nsIn (hd86.heap_39 w.params) mainGlobals "max" = some none := by k_is
    have z_all : PySem.W.nsIn (hd86.heap_39 w.params) mainGlobals "all" = some none := by k_is
    have z_ValueError : PySem.W.nsIn (hd86.heap_39 w.params) mainGlobals "ValueError" = some none := by k_is
    have v_MOST_SPOTS_OF_WAY : ∃ t : Tok, PySem.W.nsIn (hd86.heap_39 w.params) mainGlobals "MOST_SPOTS_OF_WAY" = some (some (.int 40 t)) := by
      refine' exTok ?a
      (case a => k_is)
    have v_MOST_SIGNS : ∃ t : Tok, PySem.W.nsIn (hd86.heap_39 w.params) mainGlobals "MOST_SIGNS" = some (some (.int 1000000 t)) := by
      refine' exTok ?a
      (case a => k_is)
    have v_MOST_NUMBER : ∃ t : Tok, PySem.W.nsIn (hd86.heap_39 w.params) mainGlobals "MOST_NUMBER" = some (some (.int 99999999999999999999 t)) := by
      refine' exTok ?a
      (case a => k_is)
    have v_NUMBER_FIGURES : ∃ t : Tok, PySem.W.nsIn (hd86.heap_39 w.params) mainGlobals "NUMBER_FIGURES" = some (some (.int 20 t)) := by
      refine' exTok ?a
      (case a => k_is)
    have v_TEN_FIGURES : ∃ t : Tok, PySem.W.nsIn (hd86.heap_39 w.params) mainGlobals "TEN_FIGURES" = some (some (.str "0123456789" t)) := by
      refine' exTok ?a
      (case a => k_is)
    have E_TooMany : ErrAt (hd86.heap_39 w.params) "TooMany" 44 28 := by
      refine' errAt ?gx ?cl ?rv ?sa ?eC ?tC ?kC ?no ?iC ?tI ?cc ?ga ?gt ?cs ?mr ?hd
      (case gx => k_is); (case cl => k_is); (case rv => decide +kernel); (case sa => k_is); (case eC => k_is); (case tC => k_is); (case kC => k_is); (case no => k_is); (case iC => k_is); (case tI => k_is); (case cc => k_is); (case ga => k_is); (case gt => k_is); (case cs => k_is); (case mr => k_is); (case hd => k_is)
    have E_BadDeed : ErrAt (hd86.heap_39 w.params) "BadDeed" 56 28 := by
      refine' errAt ?gx ?cl ?rv ?sa ?eC ?tC ?kC ?no ?iC ?tI ?cc ?ga ?gt ?cs ?mr ?hd
      (case gx => k_is); (case cl => k_is); (case rv => decide +kernel); (case sa => k_is); (case eC => k_is); (case tC => k_is); (case kC => k_is); (case no => k_is); (case iC => k_is); (case tI => k_is); (case cc => k_is); (case ga => k_is); (case gt => k_is); (case cs => k_is); (case mr => k_is); (case hd => k_is)
    have E_BadText : ErrAt (hd86.heap_39 w.params) "BadText" 68 28 := by
      refine' errAt ?gx ?cl ?rv ?sa ?eC ?tC ?kC ?no ?iC ?tI ?cc ?ga ?gt ?cs ?mr ?hd
      (case gx => k_is); (case cl => k_is); (case rv => decide +kernel); (case sa => k_is); (case eC => k_is); (case tC => k_is); (case kC => k_is); (case no => k_is); (case iC => k_is); (case tI => k_is); (case cc => k_is); (case ga => k_is); (case gt => k_is); (case cs => k_is); (case mr => k_is); (case hd => k_is)
    have E_WrongLine : ErrAt (hd86.heap_39 w.params) "WrongLine" 80 28 := by
      refine' errAt ?gx ?cl ?rv ?sa ?eC ?tC ?kC ?no ?iC ?tI ?cc ?ga ?gt ?cs ?mr ?hd
      (case gx => k_is); (case cl => k_is); (case rv => decide +kernel); (case sa => k_is); (case eC => k_is); (case tC => k_is); (case kC => k_is); (case no => k_is); (case iC => k_is); (case tI => k_is); (case cc => k_is); (case ga => k_is); (case gt => k_is); (case cs => k_is); (case mr => k_is); (case hd => k_is)
    have a_whole : ∃ cdv, DefAt (hd86.heap_39 w.params) "whole" st_whole cdv := by
      refine' exDef (defAt ?a ?l ?c ?k)
      (case a => k_is); (case l => k_is); (case c => k_is); (case k => k_is)
    have a_asked_signs : ∃ cdv, DefAt (hd86.heap_39 w.params) "asked_signs" st_asked_signs cdv := by
      refine' exDef (defAt ?a ?l ?c ?k)
      (case a => k_is); (case l => k_is); (case c => k_is); (case k => k_is)
    have a_lines_of : ∃ cdv, DefAt (hd86.heap_39 w.params) "lines_of" st_lines_of cdv := by
      refine' exDef (defAt ?a ?l ?c ?k)
      (case a => k_is); (case l => k_is); (case c => k_is); (case k => k_is)
    have a_words_of : ∃ cdv, DefAt (hd86.heap_39 w.params) "words_of" st_words_of cdv := by
      refine' exDef (defAt ?a ?l ?c ?k)
      (case a => k_is); (case l => k_is); (case c => k_is); (case k => k_is)
    have a_number_of : ∃ cdv, DefAt (hd86.heap_39 w.params) "number_of" st_number_of cdv := by
      refine' exDef (defAt ?a ?l ?c ?k)
      (case a => k_is); (case l => k_is); (case c => k_is); (case k => k_is)
    have a_spot_of : ∃ cdv, DefAt (hd86.heap_39 w.params) "spot_of" st_spot_of cdv := by
      refine' exDef (defAt ?a ?l ?c ?k)
      (case a => k_is); (case l => k_is); (case c => k_is); (case k => k_is)
    have a_asked_end : ∃ cdv, DefAt (hd86.heap_39 w.params) "asked_end" st_asked_end cdv := by
      refine' exDef (defAt ?a ?l ?c ?k)
      (case a => k_is); (case l => k_is); (case c => k_is); (case k => k_is)
    have a_are_numbers : ∃ cdv, DefAt (hd86.heap_39 w.params) "are_numbers" st_are_numbers cdv := by
      refine' exDef (defAt ?a ?l ?c ?k)
      (case a => k_is); (case l => k_is); (case c => k_is); (case k => k_is)
    have a_are_pairs : ∃ cdv, DefAt (hd86.heap_39 w.params) "are_pairs" st_are_pairs cdv := by
      refine' exDef (defAt ?a ?l ?c ?k)
      (case a => k_is); (case l => k_is); (case c => k_is); (case k => k_is)
    have a_is_deed : ∃ cdv, DefAt (hd86.heap_39 w.params) "is_deed" st_is_deed cdv := by
      refine' exDef (defAt ?a ?l ?c ?k)
      (case a => k_is); (case l => k_is); (case c => k_is); (case k => k_is)
    have a_deed_text : ∃ cdv, DefAt (hd86.heap_39 w.params) "deed_text" st_deed_text cdv := by
      refine' exDef (defAt ?a ?l ?c ?k)
      (case a => k_is); (case l => k_is); (case c => k_is); (case k => k_is)
    have a_run_of : ∃ cdv, DefAt (hd86.heap_39 w.params) "run_of" st_run_of cdv := by
      refine' exDef (defAt ?a ?l ?c ?k)
      (case a => k_is); (case l => k_is); (case c => k_is); (case k => k_is)
    have a_deed_of : ∃ cdv, DefAt (hd86.heap_39 w.params) "deed_of" st_deed_of cdv := by
      refine' exDef (defAt ?a ?l ?c ?k)
      (case a => k_is); (case l => k_is); (case c => k_is); (case k => k_is)
    have a_read_deed : ∃ cdv, DefAt (hd86.heap_39 w.params) "read_deed" st_read_deed cdv := by
      refine' exDef (defAt ?a ?l ?c ?k)
      (case a => k_is); (case l => k_is); (case c => k_is); (case k => k_is)
    have a__law_xq_is_whole : ∃ cdv, DefAt (hd86.heap_39 w.params) "_law_xq_is_whole" st__law_xq_is_whole cdv := by
      refine' exDef (defAt ?a ?l ?c ?k)
      (case a => k_is); (case l => k_is); (case c => k_is); (case k => k_is)
    have a__law_xq_same : ∃ cdv, DefAt (hd86.heap_39 w.params) "_law_xq_same" st__law_xq_same cdv := by
      refine' exDef (defAt ?a ?l ?c ?k)
      (case a => k_is); (case l => k_is); (case c => k_is); (case k => k_is)
    have a__law_pool : ∃ cdv, DefAt (hd86.heap_39 w.params) "_law_pool" st__law_pool cdv := by
      refine' exDef (defAt ?a ?l ?c ?k)
      (case a => k_is); (case l => k_is); (case c => k_is); (case k => k_is)
    have a__law_take : ∃ cdv, DefAt (hd86.heap_39 w.params) "_law_take" st__law_take cdv := by
      refine' exDef (defAt ?a ?l ?c ?k)
      (case a => k_is); (case l => k_is); (case c => k_is); (case k => k_is)
    have a__law_one : ∃ cdv, DefAt (hd86.heap_39 w.params) "_law_one" st__law_one cdv := by
      refine' exDef (defAt ?a ?l ?c ?k)
      (case a => k_is); (case l => k_is); (case c => k_is); (case k => k_is)
    have a__law_xa_line : ∃ cdv, DefAt (hd86.heap_39 w.params) "_law_xa_line" st__law_xa_line cdv := by
      refine' exDef (defAt ?a ?l ?c ?k)
      (case a => k_is); (case l => k_is); (case c => k_is); (case k => k_is)
    have a__law_xa_number_read : ∃ cdv, DefAt (hd86.heap_39 w.params) "_law_xa_number_read" st__law_xa_number_read cdv := by
      refine' exDef (defAt ?a ?l ?c ?k)
      (case a => k_is); (case l => k_is); (case c => k_is); (case k => k_is)
    have a__law_xa_odd_drawn : ∃ cdv, DefAt (hd86.heap_39 w.params) "_law_xa_odd_drawn" st__law_xa_odd_drawn cdv := by
      refine' exDef (defAt ?a ?l ?c ?k)
      (case a => k_is); (case l => k_is); (case c => k_is); (case k => k_is)
    have a__law_dt_number_drawn : ∃ cdv, DefAt (hd86.heap_39 w.params) "_law_dt_number_drawn" st__law_dt_number_drawn cdv := by
      refine' exDef (defAt ?a ?l ?c ?k)
      (case a => k_is); (case l => k_is); (case c => k_is); (case k => k_is)
    have a__law_dt_deed_drawn : ∃ cdv, DefAt (hd86.heap_39 w.params) "_law_dt_deed_drawn" st__law_dt_deed_drawn cdv := by
      refine' exDef (defAt ?a ?l ?c ?k)
      (case a => k_is); (case l => k_is); (case c => k_is); (case k => k_is)
    have a__law_dt_spot_read : ∃ cdv, DefAt (hd86.heap_39 w.params) "_law_dt_spot_read" st__law_dt_spot_read cdv := by
      refine' exDef (defAt ?a ?l ?c ?k)
      (case a => k_is); (case l => k_is); (case c => k_is); (case k => k_is)
    have a__law_dt_line_read : ∃ cdv, DefAt (hd86.heap_39 w.params) "_law_dt_line_read" st__law_dt_line_read cdv := by
      refine' exDef (defAt ?a ?l ?c ?k)
      (case a => k_is); (case l => k_is); (case c => k_is); (case k => k_is)
    have a__law_dt_owed : ∃ cdv, DefAt (hd86.heap_39 w.params) "_law_dt_owed" st__law_dt_owed cdv := by
      refine' exDef (defAt ?a ?l ?c ?k)
      (case a => k_is); (case l => k_is); (case c => k_is); (case k => k_is)
    have a__law_dt_bent : ∃ cdv, DefAt (hd86.heap_39 w.params) "_law_dt_bent" st__law_dt_bent cdv := by
      refine' exDef (defAt ?a ?l ?c ?k)
      (case a => k_is); (case l => k_is); (case c => k_is); (case k => k_is)
    have a__law_dt_fixed_right : DefAt (hd86.heap_39 w.params) "_law_dt_fixed_right" st__law_dt_fixed_right (.ref 269) := by
      refine' defAt ?a ?l ?c ?k
      (case a => k_is); (case l => k_is); (case c => k_is); (case k => k_is)
    have a_law : DefAt (hd86.heap_39 w.params) "law" st_law (.ref 276) := by
      refine' defAt ?a ?l ?c ?k
      (case a => k_is); (case l => k_is); (case c => k_is); (case k => k_is)
    have a__law_dt_heard : ∃ cdv, DefAt (hd86.heap_39 w.params) "_law_dt_heard" st_heard cdv := by
      refine' exDef (defAt ?a ?l ?c ?k)
      (case a => k_is); (case l => k_is); (case c => k_is); (case k => k_is)
    have a_init : ∃ (fd : FuncData), Fun (hd86.heap_39 w.params) "__init__" "Refused.__init__" st_init 28 fd := by
      refine' exFun (fun_mk ?l ?c ?k)
      (case l => k_is); (case c => k_is); (case k => k_is)
    have vV : PySem.W.findCls (hd86.heap_39 w.params) (.type "ValueError") (.type "type") "__init__" = some (.val (.builtin "ValueError.__init__")) := by k_is
    have s1 : PySem.W.specialIn (hd86.heap_39 w.params) (.builtin "object.__class__") "__get__" = some (some (.builtin "getset_descriptor.__get__")) := by k_is
    have s2 : PySem.W.takesIn (hd86.heap_39 w.params) (.builtin "object.__class__") = some true := by k_is
    have R1 : PySem.W.subIn (hd86.heap_39 w.params) (.ref 31) (.type "BaseException") = some true := by k_is
    have R2 : PySem.W.isClsIn (hd86.heap_39 w.params) 31 = true := by k_is
    have R3 : PySem.W.typeIn (hd86.heap_39 w.params) (.ref 31) = some (.type "type") := by k_is
    have R4 : PySem.W.nsIn (hd86.heap_39 w.params) mainGlobals "Refused" = some (some (.ref 31)) := by k_is
    have X_TooMany : PySem.W.exmOne (hd86.heap_39 w.params) (.ref 44) (.ref 31) = some true := exm_of R1 R2 R3 (by k_is)
    have I_TooMany_TooMany : PySem.W.kitOne (hd86.heap_39 w.params) (.ref 44) (.ref 44) = some true := kit_of E_TooMany.cc E_TooMany.tC (by first | rfl | k_is) (by decide)
    have I_TooMany_BadDeed : PySem.W.kitOne (hd86.heap_39 w.params) (.ref 44) (.ref 56) = some false := kit_of E_BadDeed.cc E_BadDeed.tC (by first | rfl | k_is) (by decide)
    have I_TooMany_BadText : PySem.W.kitOne (hd86.heap_39 w.params) (.ref 44) (.ref 68) = some false := kit_of E_BadText.cc E_BadText.tC (by first | rfl | k_is) (by decide)
    have I_TooMany_WrongLine : PySem.W.kitOne (hd86.heap_39 w.params) (.ref 44) (.ref 80) = some false := kit_of E_WrongLine.cc E_WrongLine.tC (by first | rfl | k_is) (by decide)
    have X_BadDeed : PySem.W.exmOne (hd86.heap_39 w.params) (.ref 56) (.ref 31) = some true := exm_of R1 R2 R3 (by k_is)
    have I_BadDeed_TooMany : PySem.W.kitOne (hd86.heap_39 w.params) (.ref 56) (.ref 44) = some false := kit_of E_TooMany.cc E_TooMany.tC (by first | rfl | k_is) (by decide)
    have I_BadDeed_BadDeed : PySem.W.kitOne (hd86.heap_39 w.params) (.ref 56) (.ref 56) = some true := kit_of E_BadDeed.cc E_BadDeed.tC (by first | rfl | k_is) (by decide)
    have I_BadDeed_BadText : PySem.W.kitOne (hd86.heap_39 w.params) (.ref 56) (.ref 68) = some false := kit_of E_BadText.cc E_BadText.tC (by first | rfl | k_is) (by decide)
    have I_BadDeed_WrongLine : PySem.W.kitOne (hd86.heap_39 w.params) (.ref 56) (.ref 80) = some false := kit_of E_WrongLine.cc E_WrongLine.tC (by first | rfl | k_is) (by decide)
    have X_BadText : PySem.W.exmOne (hd86.heap_39 w.params) (.ref 68) (.ref 31) = some true := exm_of R1 R2 R3 (by k_is)
    have I_BadText_TooMany : PySem.W.kitOne (hd86.heap_39 w.params) (.ref 68) (.ref 44) = some false := kit_of E_TooMany.cc E_TooMany.tC (by first | rfl | k_is) (by decide)
    have I_BadText_BadDeed : PySem.W.kitOne (hd86.heap_39 w.params) (.ref 68) (.ref 56) = some false := kit_of E_BadDeed.cc E_BadDeed.tC (by first | rfl | k_is) (by decide)
    have I_BadText_BadText : PySem.W.kitOne (hd86.heap_39 w.params) (.ref 68) (.ref 68) = some true := kit_of E_BadText.cc E_BadText.tC (by first | rfl | k_is) (by decide)
    have I_BadText_WrongLine : PySem.W.kitOne (hd86.heap_39 w.params) (.ref 68) (.ref 80) = some false := kit_of E_WrongLine.cc E_WrongLine.tC (by first | rfl | k_is) (by decide)
    have X_WrongLine : PySem.W.exmOne (hd86.heap_39 w.params) (.ref 80) (.ref 31) = some true := exm_of R1 R2 R3 (by k_is)
    have I_WrongLine_TooMany : PySem.W.kitOne (hd86.heap_39 w.params) (.ref 80) (.ref 44) = some false := kit_of E_TooMany.cc E_TooMany.tC (by first | rfl | k_is) (by decide)
    have I_WrongLine_BadDeed : PySem.W.kitOne (hd86.heap_39 w.params) (.ref 80) (.ref 56) = some false := kit_of E_BadDeed.cc E_BadDeed.tC (by first | rfl | k_is) (by decide)
    have I_WrongLine_BadText : PySem.W.kitOne (hd86.heap_39 w.params) (.ref 80) (.ref 68) = some false := kit_of E_BadText.cc E_BadText.tC (by first | rfl | k_is) (by decide)
    have I_WrongLine_WrongLine : PySem.W.kitOne (hd86.heap_39 w.params) (.ref 80) (.ref 80) = some true := kit_of E_WrongLine.cc E_WrongLine.tC (by first | rfl | k_is) (by decide)
    have t_DEED_LENGTHS : Tb w (hd86.heap_39 w.params) mg "DEED_LENGTHS" T_DEED_LENGTHS := by
      refine' tb_mk KX G ?a ?l ?b ?c
      (case a => k_is); (case l => k_is); (case b => decide +kernel); (case c => exact ⟨⟨_, rfl⟩, ⟨_, rfl⟩, rfl, ⟨⟨_, rfl⟩, ⟨_, rfl⟩, rfl, ⟨⟨_, rfl⟩, ⟨_, rfl⟩, rfl, ⟨⟨_, rfl⟩, ⟨_, rfl⟩, rfl, ⟨⟨_, rfl⟩, ⟨_, rfl⟩, rfl, ⟨⟨_, rfl⟩, ⟨_, rfl⟩, rfl, ⟨⟨_, rfl⟩, ⟨_, rfl⟩, rfl, trivial⟩⟩⟩⟩⟩⟩⟩)
    have t_DEED_NUMBERS : Tb w (hd86.heap_39 w.params) mg "DEED_NUMBERS" T_DEED_NUMBERS := by
      refine' tb_mk KX G ?a ?l ?b ?c
      (case a => k_is); (case l => k_is); (case b => decide +kernel); (case c => exact ⟨⟨_, rfl⟩, ⟨_, rfl⟩, rfl, ⟨⟨_, rfl⟩, ⟨_, rfl⟩, rfl, ⟨⟨_, rfl⟩, ⟨_, rfl⟩, rfl, ⟨⟨_, rfl⟩, ⟨_, rfl⟩, rfl, ⟨⟨_, rfl⟩, ⟨_, rfl⟩, rfl, ⟨⟨_, rfl⟩, ⟨_, rfl⟩, rfl, trivial⟩⟩⟩⟩⟩⟩)
    have hB : B86 (hd86.heap_39 w.params) mg := by
      refine ⟨fun x hx => ?_, ?_, ?_, ?_, ?_, ?_⟩
      · simp only [BL, List.mem_cons, List.not_mem_nil, or_false] at hx
        rcases hx with rfl | rfl | rfl | rfl | rfl | rfl | rfl | rfl | rfl | rfl | rfl
        · exact PySem.W.mg_none_of KX G z_isinstance
        · exact PySem.W.mg_none_of KX G z_int
        · exact PySem.W.mg_none_of KX G z_str
        · exact PySem.W.mg_none_of KX G z_tuple
        · exact PySem.W.mg_none_of KX G z_list
        · exact PySem.W.mg_none_of KX G z_bool
        · exact PySem.W.mg_none_of KX G z_len
        · exact PySem.W.mg_none_of KX G z_range
        · exact PySem.W.mg_none_of KX G z_min
        · exact PySem.W.mg_none_of KX G z_max
        · exact PySem.W.mg_none_of KX G z_all
      · obtain ⟨t, a⟩ := v_MOST_SPOTS_OF_WAY
        exact ⟨t, PySem.W.mg_of KX G a⟩
      · obtain ⟨t, a⟩ := v_MOST_SIGNS
        exact ⟨t, PySem.W.mg_of KX G a⟩
      · obtain ⟨t, a⟩ := v_MOST_NUMBER
        exact ⟨t, PySem.W.mg_of KX G a⟩
      · obtain ⟨t, a⟩ := v_NUMBER_FIGURES
        exact ⟨t, PySem.W.mg_of KX G a⟩
      · obtain ⟨t, a⟩ := v_TEN_FIGURES
        exact ⟨t, PySem.W.mg_of KX G a⟩
    have hall : ∀ T, ExAll (hd86.heap_39 w.params) ⟨hd86.heap_39 w.params, T, ex86⟩ := fun T => ⟨fun c C h => by
      rcases ex86_some h with ⟨_, rfl⟩ | ⟨_, rfl⟩ | ⟨_, rfl⟩ | ⟨_, rfl⟩
      · exact E_TooMany.exc2 s1 s2
      · exact E_BadDeed.exc2 s1 s2
      · exact E_BadText.exc2 s1 s2
      · exact E_WrongLine.exc2 s1 s2⟩
    have i_TooMany : ∀ T, IsC (hd86.heap_39 w.params) mg ⟨hd86.heap_39 w.params, T, ex86⟩ "TooMany" (fun c => decide (c = "TooMany")) := fun T => ⟨_, PySem.W.mg_of KX G E_TooMany.gx, fun c C h => by
      rcases ex86_some h with ⟨e, rfl⟩ | ⟨e, rfl⟩ | ⟨e, rfl⟩ | ⟨e, rfl⟩
      · rw [e]; exact I_TooMany_TooMany
      · rw [e]; exact I_BadDeed_TooMany
      · rw [e]; exact I_BadText_TooMany
      · rw [e]; exact I_WrongLine_TooMany⟩
    have i_BadDeed : ∀ T, IsC (hd86.heap_39 w.params) mg ⟨hd86.heap_39 w.params, T, ex86⟩ "BadDeed" (fun c => decide (c = "BadDeed")) := fun T => ⟨_, PySem.W.mg_of KX G E_BadDeed.gx, fun c C h => by
      rcases ex86_some h with ⟨e, rfl⟩ | ⟨e, rfl⟩ | ⟨e, rfl⟩ | ⟨e, rfl⟩
      · rw [e]; exact I_TooMany_BadDeed
      · rw [e]; exact I_BadDeed_BadDeed
      · rw [e]; exact I_BadText_BadDeed
      · rw [e]; exact I_WrongLine_BadDeed⟩
    have i_BadText : ∀ T, IsC (hd86.heap_39 w.params) mg ⟨hd86.heap_39 w.params, T, ex86⟩ "BadText" (fun c => decide (c = "BadText")) := fun T => ⟨_, PySem.W.mg_of KX G E_BadText.gx, fun c C h => by
      rcases ex86_some h with ⟨e, rfl⟩ | ⟨e, rfl⟩ | ⟨e, rfl⟩ | ⟨e, rfl⟩
      · rw [e]; exact I_TooMany_BadText
      · rw [e]; exact I_BadDeed_BadText
      · rw [e]; exact I_BadText_BadText
      · rw [e]; exact I_WrongLine_BadText⟩
    have i_WrongLine : ∀ T, IsC (hd86.heap_39 w.params) mg ⟨hd86.heap_39 w.params, T, ex86⟩ "WrongLine" (fun c => decide (c = "WrongLine")) := fun T => ⟨_, PySem.W.mg_of KX G E_WrongLine.gx, fun c C h => by
      rcases ex86_some h with ⟨e, rfl⟩ | ⟨e, rfl⟩ | ⟨e, rfl⟩ | ⟨e, rfl⟩
      · rw [e]; exact I_TooMany_WrongLine
      · rw [e]; exact I_BadDeed_WrongLine
      · rw [e]; exact I_BadText_WrongLine
      · rw [e]; exact I_WrongLine_WrongLine⟩
    have hH : H86 (hd86.heap_39 w.params) mg ⟨hd86.heap_39 w.params, T86t, ex86⟩ := ⟨rfl, hall _, i_BadDeed _, i_BadText _, i_TooMany _, i_WrongLine _⟩
    have hEx : ∀ c C, ex86 c = some C → PySem.W.exmOne (hd86.heap_39 w.params) (.ref C) (.ref 31) = some (isB86 c) := fun c C h => by
      rcases ex86_some h with ⟨_, rfl⟩ | ⟨_, rfl⟩ | ⟨_, rfl⟩ | ⟨_, rfl⟩
      · exact X_TooMany
      · exact X_BadDeed
      · exact X_BadText
      · exact X_WrongLine
    have hHd : ∀ base, HeardOk P86 w (hd86.heap_39 w.params) mg base ⟨hd86.heap_39 w.params, T86t, ex86⟩ "told" isB86 GS.1 "_law_dt_heard" 5 := fun base => by
      obtain ⟨cd, D⟩ := a__law_dt_heard
      obtain ⟨g, oc, od, an, osl, kV, doc, pm, ct, h1, h2, h3, h4⟩ := D.ex
      exact HeardOk.mk (i := 1) (PySem.W.mg_of KX G h1) h4 h2 h3 (.all fun us hl => match us, hl with | [_], _ => rfl) sc_heard rfl rfl (.inl rfl) (by decide) (by decide) rfl (by decide) rfl rfl (by decide) (PySem.W.mg_of KX G R4) hEx (fun A outer s H E b oe cls d pn F' c w' C => GS.2 w _ mg base _ hB hH g cd A outer s H E b oe cls d pn F' c w' C)
    have hI : ∀ base, ∃ fd, FnOk P86 w (hd86.heap_39 w.params) mg base (L2N.CX P86 w) 1 28 fd [("self" : Str), ("what" : Str)] (spI (hd86.heap_39 w.params)) ∧ L2.Binds (hd86.heap_39 w.params) fd [("self" : Str), ("what" : Str)] [] := fun base => by
      obtain ⟨fd, Fu⟩ := a_init
      exact ⟨fd, init_fn Fu sc_init rfl rfl rfl rfl (PySem.W.mg_none_of KX G z_ValueError) vV (fun _ => ⟨_, rfl⟩) (fun _ => rfl) (fun env he => by first | rfl | (rw [swapsWith]; rfl)), Fu.binds fun _ _ _ _ _ _ us hl => match us, hl with | [_, _], _ => rfl⟩
    have e_TooMany : ∀ base, Ec P86 w (hd86.heap_39 w.params) mg base ⟨hd86.heap_39 w.params, T86t, ex86⟩ 1 "TooMany" := fun base => by
      obtain ⟨fd, h1, h2⟩ := hI base
      exact ⟨44, rfl, E_TooMany.exc1 KX G h1 h2⟩
    have e_BadDeed : ∀ base, Ec P86 w (hd86.heap_39 w.params) mg base ⟨hd86.heap_39 w.params, T86t, ex86⟩ 1 "BadDeed" := fun base => by
      obtain ⟨fd, h1, h2⟩ := hI base
      exact ⟨56, rfl, E_BadDeed.exc1 KX G h1 h2⟩
    have e_BadText : ∀ base, Ec P86 w (hd86.heap_39 w.params) mg base ⟨hd86.heap_39 w.params, T86t, ex86⟩ 1 "BadText" := fun base => by
      obtain ⟨fd, h1, h2⟩ := hI base
      exact ⟨68, rfl, E_BadText.exc1 KX G h1 h2⟩
    have e_WrongLine : ∀ base, Ec P86 w (hd86.heap_39 w.params) mg base ⟨hd86.heap_39 w.params, T86t, ex86⟩ 1 "WrongLine" := fun base => by
      obtain ⟨fd, h1, h2⟩ := hI base
      exact ⟨80, rfl, E_WrongLine.exc1 KX G h1 h2⟩
    exact law_at (N := N_law) (g := D_law.1) (ex := ex86) (T := T86t) (k := 100) [(276, 272), (269, 267)] a_law KX G hmg (fun p hp => by
        have e : p.2 = 267 ∨ p.2 = 272 := by
          simp only [List.mem_cons, List.not_mem_nil, or_false] at hp
          rcases hp with rfl | rfl
          · exact .inr rfl
          · exact .inl rfl
        exact hT8 p.2 (by rcases e with e | e <;> rw [e] <;> decide)) (fun p hp => by
        simp only [List.mem_cons, List.not_mem_nil, or_false] at hp
        rcases hp with rfl | rfl
        · exact (by kernel_rfl)
        · exact (by kernel_rfl)) (fun p hp => by
        simp only [List.mem_cons, List.not_mem_nil, or_false] at hp
        rcases hp with rfl | rfl
        · exact PySem.W.codeHd_of_K KX (by kernel_rfl)
        · exact PySem.W.codeHd_of_K KX (by kernel_rfl)) (fun p hp => by
        simp only [T86t, List.mem_cons, List.not_mem_nil, or_false] at hp
        rcases hp with rfl | rfl
        · exact ⟨(276, 272), by decide, rfl⟩
        · exact ⟨(269, 267), by decide, rfl⟩) (fun _ _ _ _ _ _ us hl => match us, hl with | [_], _ => rfl) plain
      fun base kb nb tb f oc od an osl kV doc pm ct lk hcd => (D_law.2.ok (G := ⟨hd86.heap_39 w.params, T86t, ex86⟩) rfl lk hcd sc_law rfl (all86 KX G hB (e_BadDeed base) (e_BadText base) (e_TooMany base) (e_WrongLine base) t_DEED_LENGTHS t_DEED_NUMBERS (hHd base) a_whole a_asked_signs a_lines_of a_words_of a_number_of a_spot_of a_asked_end a_are_numbers a_are_pairs a_is_deed a_deed_text a_run_of a_deed_of a_read_deed a__law_xq_is_whole a__law_xq_same a__law_pool a__law_take a__law_one a__law_xa_line a__law_xa_number_read a__law_xa_odd_drawn a__law_dt_number_drawn a__law_dt_deed_drawn a__law_dt_spot_read a__law_dt_line_read a__law_dt_owed a__law_dt_bent a__law_dt_fixed_right (lmAt (P := 267) (tb (269, 267) (by decide)) tf1 tf2) a_law (lmAt (P := 272) (tb (276, 272) (by decide)) tl1 tl2))).mono (by decide))
end DL
end
section -- DL27
set_option maxRecDepth 100000
set_option maxHeartbeats 2000000
/-! DL27: what denotations come to: plain facts. -/
namespace DL
open PySem PySem.Spec PyProof.Rows L2

theorem lc_gen {vs : List Nat} {g : GDen} {t : TDen} {e : Den} (p : D → Bool) (f : D → D) {δ : Sta} (ho : offs δ vs = true) : ∀ (ds acc : List D), acc.length + ds.length ≤ LIM →
    (∀ d ∈ ds, ∃ δ1, g d (dwipe δ vs) = some δ1 ∧ t δ1 = .ok (p d) δ1 ∧ (p d = true → ∃ fr, e δ1 = .ok (f d, fr) δ1) ∧ dback δ δ1 vs = δ) → lcLoop vs g t e acc ds δ = .ok (.list (acc ++ (ds.filter p).map f), true) δ
  | [], acc, _, _ => by simp [lcLoop]
  | d :: ds, acc, hz, h => by
    obtain ⟨δ1, h1, h2, h3, h4⟩ := h d List.mem_cons_self
    have ih := lc_gen (g := g) (t := t) (e := e) p f ho ds
    unfold lcLoop
    rw [if_pos ho, h1]
    dsimp only
    rw [h2]
    dsimp only
    rw [List.length_cons] at hz
    cases hp : p d with
    | true =>
      obtain ⟨fr, h5⟩ := h3 hp
      rw [if_pos rfl, h5]
      dsimp only
      rw [if_pos (by omega), h4, ih _ (by rw [List.length_append, List.length_singleton]; omega) fun x hx => h x (List.mem_cons_of_mem _ hx)]
      simp [List.filter_cons, hp]
    | false =>
      rw [if_neg Bool.false_ne_true, h4, ih _ (by omega) fun x hx => h x (List.mem_cons_of_mem _ hx)]
      simp [List.filter_cons, hp]
/-- a promise kept -/
def Tells (Φ : Phi) (sls : Sta) (a : D) : Prop := ∃ fr outs, Φ sls = .rt (a, fr) outs
def Errs (Φ : Phi) (sls : Sta) (c : Str) (w : D) : Prop := ∃ outs, Φ sls = .exc c w outs
theorem Tells.call {Φ : Phi} {a d : D} {δ : Sta} (h : Tells Φ [.val d] a) : ∃ fr, kCall Φ [.val d] δ = .ok (a, fr) δ := by
  obtain ⟨fr, outs, h⟩ := h
  exact ⟨fr, by simp [kCall, owns, nodupB, slsOf, h, upds]⟩
theorem Tells.call2 {Φ : Phi} {a d e : D} {δ : Sta} (h : Tells Φ [.val d, .val e] a) : ∃ fr, kCall Φ [.val d, .val e] δ = .ok (a, fr) δ := by
  obtain ⟨fr, outs, h⟩ := h
  exact ⟨fr, by simp [kCall, owns, nodupB, slsOf, h, upds]⟩
theorem Tells.call3 {Φ : Phi} {a d e f : D} {δ : Sta} (h : Tells Φ [.val d, .val e, .val f] a) : ∃ fr, kCall Φ [.val d, .val e, .val f] δ = .ok (a, fr) δ := by
  obtain ⟨fr, outs, h⟩ := h
  exact ⟨fr, by simp [kCall, owns, nodupB, slsOf, h, upds]⟩
theorem Errs.call {Φ : Phi} {c : Str} {w d : D} {δ : Sta} (h : Errs Φ [.val d] c w) : kCall Φ [.val d] δ = .exc c w δ := by
  obtain ⟨outs, h⟩ := h
  simp [kCall, owns, nodupB, slsOf, h, upds]
theorem Errs.call2 {Φ : Phi} {c : Str} {w d e : D} {δ : Sta} (h : Errs Φ [.val d, .val e] c w) : kCall Φ [.val d, .val e] δ = .exc c w δ := by
  obtain ⟨outs, h⟩ := h
  simp [kCall, owns, nodupB, slsOf, h, upds]
end DL
end
section -- DL28
set_option maxRecDepth 100000
set_option maxHeartbeats 2000000
/-! DL28: what a denotation must meet (a post for each end), rules by simp. -/
namespace DL
open PySem PySem.Spec PyProof.Rows L2

def Rs.W0 {α : Type} (r : Rs α) (Q : α → Sta → Prop) (E : Str → D → Sta → Prop) : Prop := match r with
  | .ok a δ => Q a δ
  | .exc c w δ => E c w δ
  | .stuck => False
/-- sealed, so that nothing is run when two such are compared -/
structure Rs.W {α : Type} (r : Rs α) (Q : α → Sta → Prop) (E : Str → D → Sta → Prop) : Prop where
  out : r.W0 Q E
structure FP where
  N : Sta → Prop
  B : Sta → Prop
  C : Sta → Prop
  R : EV → Sta → Prop
  E : Str → D → Sta → Prop
def Fl.W0 (f : Fl) (P : FP) : Prop := match f with
  | .nx δ => P.N δ
  | .rt a δ => P.R a δ
  | .bk δ => P.B δ
  | .ct δ => P.C δ
  | .exc c w δ => P.E c w δ
  | .stuck => False
structure Fl.W (f : Fl) (P : FP) : Prop where
  out : f.W0 P
def Ret.W0 (r : Ret) (R : EV → Sta → Prop) (E : Str → D → Sta → Prop) : Prop := match r with
  | .rt a δ => R a δ
  | .exc c w δ => E c w δ
  | .stuck => False
structure Ret.W (r : Ret) (R : EV → Sta → Prop) (E : Str → D → Sta → Prop) : Prop where
  out : r.W0 R E
theorem Rs.W_eq {α : Type} {r : Rs α} {Q : α → Sta → Prop} {E : Str → D → Sta → Prop} : r.W Q E = r.W0 Q E := propext ⟨fun h => h.out, fun h => ⟨h⟩⟩
theorem Fl.W_eq {f : Fl} {P : FP} : f.W P = f.W0 P := propext ⟨fun h => h.out, fun h => ⟨h⟩⟩
theorem Ret.W_eq {r : Ret} {R : EV → Sta → Prop} {E : Str → D → Sta → Prop} : r.W R E = r.W0 R E := propext ⟨fun h => h.out, fun h => ⟨h⟩⟩
section
variable {α β : Type} {Q : α → Sta → Prop} {E : Str → D → Sta → Prop} {δ : Sta} {P : FP}
@[simp] theorem R_rt {a : EV} {R : EV → Sta → Prop} : (Ret.rt a δ).W R E = R a δ := Ret.W_eq
@[simp] theorem R_exc {c : Str} {w : D} {R : EV → Sta → Prop} : (Ret.exc c w δ).W R E = E c w δ := Ret.W_eq
@[simp] theorem R_stuck {R : EV → Sta → Prop} : (Ret.stuck).W R E = False := Ret.W_eq
@[simp] theorem W_ok (a : α) : (Rs.ok a δ).W Q E = Q a δ := Rs.W_eq
@[simp] theorem W_exc (c : Str) (w : D) : (Rs.exc c w δ : Rs α).W Q E = E c w δ := Rs.W_eq
@[simp] theorem W_stuck : (Rs.stuck : Rs α).W Q E = False := Rs.W_eq
@[simp] theorem W_bind (r : Rs β) (k : β → Sta → Rs α) : (r.bind k).W Q E = r.W (fun a δ => (k a δ).W Q E) E := by cases r <;> simp only [Rs.W_eq, Fl.W_eq] <;> rfl
@[simp] theorem W_ite {c : Prop} [Decidable c] (x y : Rs α) : (if c then x else y).W Q E = if c then x.W Q E else y.W Q E := by split <;> rfl
@[simp] theorem W_toEV {r : Rs Bool} {Q : EV → Sta → Prop} : (Rs.toEV r).W Q E = r.W (fun k δ => Q (.bool k, false) δ) E := by cases r <;> simp only [Rs.W_eq, Fl.W_eq] <;> rfl
@[simp] theorem W_fl (r : Rs α) (k : α → Sta → Fl) : (r.fl k).W P = r.W (fun a δ => (k a δ).W P) P.E := by cases r <;> simp only [Rs.W_eq, Fl.W_eq] <;> rfl
@[simp] theorem F_nx : (Fl.nx δ).W P = P.N δ := Fl.W_eq
@[simp] theorem F_bk : (Fl.bk δ).W P = P.B δ := Fl.W_eq
@[simp] theorem F_ct : (Fl.ct δ).W P = P.C δ := Fl.W_eq
@[simp] theorem F_rt (a : EV) : (Fl.rt a δ).W P = P.R a δ := Fl.W_eq
@[simp] theorem F_exc (c : Str) (w : D) : (Fl.exc c w δ).W P = P.E c w δ := Fl.W_eq
@[simp] theorem F_stuck : Fl.stuck.W P = False := Fl.W_eq
@[simp] theorem F_ite {c : Prop} [Decidable c] (x y : Fl) : (if c then x else y).W P = if c then x.W P else y.W P := by split <;> rfl
@[simp] theorem F_seq (g g' : SDen) : (sSeq g g' δ).W P = (g δ).W { P with N := fun δ1 => (g' δ1).W P } := by
  unfold sSeq
  cases g δ <;> simp only [Fl.W_eq] <;> rfl
@[simp] theorem F_skip : (sSkip δ).W P = P.N δ := Fl.W_eq
@[simp] theorem F_brk : (sBk δ).W P = P.B δ := Fl.W_eq
@[simp] theorem F_cnt : (sCt δ).W P = P.C δ := Fl.W_eq
@[simp] theorem F_if (t : TDen) (g g' : SDen) : (sIf t g g' δ).W P = (t δ).W (fun k δ1 => if k = true then (g δ1).W P else (g' δ1).W P) P.E := by
  unfold sIf; simp
@[simp] theorem F_drop (g : Den) : (sDrop g δ).W P = (g δ).W (fun _ δ1 => P.N δ1) P.E := by unfold sDrop; simp
@[simp] theorem F_ret (g : Den) : (sRet g δ).W P = (g δ).W P.R P.E := by unfold sRet; simp
@[simp] theorem F_retN : (sRetN δ).W P = P.R (.none, false) δ := Fl.W_eq
@[simp] theorem F_set (i : Nat) (g : Den) : (sSet i g δ).W P = (g δ).W (fun a δ1 => P.N (δ1.set i (.val a.1))) P.E := by unfold sSet; simp
@[simp] theorem F_raise (c : Str) (g : Den) : (sRaise c g δ).W P = (g δ).W (fun a δ1 => P.E c a.1 δ1) P.E := by unfold sRaise; simp
@[simp] theorem F_frz (i : Nat) (g : SDen) : (sFrz i g δ).W P = (g (frz i δ)).W P := rfl
@[simp] theorem F_tg (g : Den) (gt : GDen) : (sTg g gt δ).W P = (g δ).W (fun a δ1 => ∃ δ2, gt a.1 δ1 = some δ2 ∧ P.N δ2) P.E := by
  unfold sTg
  rw [W_fl]
  congr 1
  funext a δ1
  cases gt a.1 δ1 <;> simp
@[simp] theorem F_par (i j : Nat) (gl : LDen) : (sPar i j gl δ).W P = (gl δ).W (fun ds δ1 => match ds with
    | [a, b] => P.N ((δ1.set i (.val a)).set j (.val b))
    | _ => False) P.E := by
  unfold sPar
  rw [W_fl]
  congr 1
  funext ds δ1
  split
  · rw [F_nx]
  · rename_i h
    rw [F_stuck]
    try
      split
      · rename_i a b
        exact absurd rfl (h a b)
      · rfl
@[simp] theorem F_for (it : IDen) (g : GDen) (b : SDen) : (sFor it g b δ).W P = (it δ).W (fun ds δ1 => (forLoop g b ds δ1).W P) P.E := by unfold sFor; simp
end
section
variable {Q : EV → Sta → Prop} {E : Str → D → Sta → Prop} {δ : Sta} {P : FP} {QB : Bool → Sta → Prop} {QR : RV → Sta → Prop} {QL : List D → Sta → Prop} {QO : Option Int → Sta → Prop}
@[simp] theorem W_dC (d : D) : (dC d δ).W Q E = Q (d, false) δ := Rs.W_eq
@[simp] theorem W_dVar (i : Nat) : (dVar i δ).W Q E = ∃ d, δ[i]? = some (.val d) ∧ Q (d, false) δ := by
  unfold dVar
  split <;> simp_all
@[simp] theorem W_dVarR (i : Nat) : (dVarR i δ).W QR E = ∃ d, δ[i]?.bind slD = some d ∧ QR (fun δ2 => δ2[i]?.bind slD) δ := by
  unfold dVarR
  split
  · simp_all [slD]
  · rename_i o _
    cases o
    simp_all [slD]
  · rename_i h1 h2
    cases h : δ[i]? with
    | none => simp
    | some s =>
      cases s with
      | val d => exact absurd h (h1 d)
      | own o => exact absurd h (h2 o)
      | un => simp [slD]
@[simp] theorem W_dLift (g : Den) : (dLift g δ).W QR E = (g δ).W (fun a δ1 => QR (fun _ => some a.1) δ1) E := by unfold dLift; simp
@[simp] theorem W_dRd (gr : RDen) (k : D → Sta → Rs EV) : (dRd gr k δ).W Q E = (gr δ).W (fun r δ1 => ∃ d, r δ1 = some d ∧ (k d δ1).W Q E) E := by
  unfold dRd
  rw [W_bind]
  congr 1
  funext r δ1
  cases r δ1 <;> simp
@[simp] theorem W_dIx (gr : RDen) (gi : Den) : (dIx gr gi δ).W Q E = (gr δ).W (fun r δ1 => (gi δ1).W (fun i δ2 => ∃ d, r δ2 = some d ∧ (kIx d i.1 δ2).W Q E) E) E := by
  unfold dIx
  rw [W_bind]
  congr 1
  funext r δ1
  rw [W_bind]
  congr 1
  funext i δ2
  cases r δ2 <;> simp
@[simp] theorem W_ixL (xs : List D) (i : Int) : (kIx (.list xs) (.int i) δ).W Q E = ∃ d, atI xs i = some d ∧ Q (d, false) δ := by
  unfold kIx
  dsimp only
  cases atI xs i <;> simp
@[simp] theorem W_ixT (xs : List D) (i : Int) : (kIx (.tuple xs) (.int i) δ).W Q E = ∃ d, atI xs i = some d ∧ Q (d, false) δ := by
  unfold kIx
  dsimp only
  cases atI xs i <;> simp
@[simp] theorem W_ixS (x : Str) (i : Int) : (kIx (.str x) (.int i) δ).W Q E = (x.length ≤ LIM ∧ ∃ c, atI x.cps.toList i = some c ∧ Q (.str ⟨#[c]⟩, false) δ) := by
  unfold kIx
  dsimp only
  cases atI x.cps.toList i <;> simp
@[simp] theorem W_cmp (op : CmpOp) (a b : EV) : (kCmp op a b δ).W QB E = ∃ k, cmpD op a.1 b.1 = some k ∧ QB k δ := by
  unfold kCmp
  split <;> simp_all
@[simp] theorem W_dCmp (op : CmpOp) (ga gb : Den) : (dCmp op ga gb δ).W QB E = (ga δ).W (fun a δ1 => (gb δ1).W (fun b δ2 => ∃ k, cmpD op a.1 b.1 = some k ∧ QB k δ2) E) E := by unfold dCmp; simp
@[simp] theorem W_dVal (g : TDen) : (dVal g δ).W Q E = (g δ).W (fun k δ1 => Q (.bool k, false) δ1) E := by unfold dVal; simp
@[simp] theorem W_dTru (g : Den) : (dTru g δ).W QB E = (g δ).W (fun a δ1 => ∃ k, truD a.1 = some k ∧ QB k δ1) E := by
  unfold dTru
  rw [W_bind]
  congr 1
  funext a δ1
  cases truD a.1 <;> simp
@[simp] theorem W_dAnd (ga gb : TDen) : (dAnd ga gb δ).W QB E = (ga δ).W (fun k δ1 => if k = true then (gb δ1).W QB E else QB false δ1) E := by unfold dAnd; simp
@[simp] theorem W_dOr (ga gb : TDen) : (dOr ga gb δ).W QB E = (ga δ).W (fun k δ1 => if k = true then QB true δ1 else (gb δ1).W QB E) E := by unfold dOr; simp
@[simp] theorem W_dNot (ga : TDen) : (dNot ga δ).W QB E = (ga δ).W (fun k δ1 => QB (!k) δ1) E := by unfold dNot; simp
@[simp] theorem W_dIf (gc : TDen) (ga gb : Den) : (dIf gc ga gb δ).W Q E = (gc δ).W (fun k δ1 => if k = true then (ga δ1).W Q E else (gb δ1).W Q E) E := by unfold dIf; simp
@[simp] theorem W_dAndV (ga gb : Den) : (dAndV ga gb δ).W Q E = (ga δ).W (fun a δ1 => ∃ k, a.1 = .bool k ∧ if k = true then (gb δ1).W Q E else Q (.bool false, false) δ1) E := by
  unfold dAndV
  rw [W_bind]
  congr 1
  funext a δ1
  obtain ⟨a, f⟩ := a
  cases a <;> simp
@[simp] theorem W_dOrV (ga gb : Den) : (dOrV ga gb δ).W Q E = (ga δ).W (fun a δ1 => ∃ k, a.1 = .bool k ∧ if k = true then Q (.bool true, false) δ1 else (gb δ1).W Q E) E := by
  unfold dOrV
  rw [W_bind]
  congr 1
  funext a δ1
  obtain ⟨a, f⟩ := a
  cases a <;> simp
@[simp] theorem W_dNotV (ga : Den) : (dNotV ga δ).W Q E = (ga δ).W (fun a δ1 => ∃ k, a.1 = .bool k ∧ Q (.bool (!k), false) δ1) E := by
  unfold dNotV
  rw [W_bind]
  congr 1
  funext a δ1
  obtain ⟨a, f⟩ := a
  cases a <;> simp
@[simp] theorem W_dChain (op op' : CmpOp) (ga gb gc : Den) : (dChain op op' ga gb gc δ).W QB E = (ga δ).W (fun a δ1 => (gb δ1).W (fun b δ2 => ∃ k, cmpD op a.1 b.1 = some k ∧ if k = true then (gc δ2).W (fun c δ3 => ∃ k, cmpD op' b.1 c.1 = some k ∧ QB k δ3) E else QB false δ2) E) E := by
  unfold dChain; simp
@[simp] theorem W_dNil : (dNil δ).W QL E = QL [] δ := Rs.W_eq
@[simp] theorem W_dCons (g : Den) (gs : LDen) : (dCons g gs δ).W QL E = (g δ).W (fun a δ1 => (gs δ1).W (fun ds δ2 => QL (a.1 :: ds) δ2) E) E := by unfold dCons; simp
def starL : D → Option (List D)
  | .list xs => some xs
  | .tuple xs => some xs
  | _ => none
@[simp] theorem W_dStar (g : Den) (gs : LDen) : (dStar g gs δ).W QL E = (g δ).W (fun a δ1 => ∃ xs, starL a.1 = some xs ∧ (gs δ1).W (fun ds δ2 => QL (xs ++ ds) δ2) E) E := by
  unfold dStar
  rw [W_bind]
  congr 1
  funext a δ1
  obtain ⟨a, f⟩ := a
  cases a <;> simp [starL]
@[simp] theorem W_dTupD (gs : LDen) : (dTupD gs δ).W Q E = (gs δ).W (fun ds δ1 => ds.length ≤ LIM ∧ Q (.tuple ds, false) δ1) E := by unfold dTupD; simp
@[simp] theorem W_dLstD (gs : LDen) : (dLstD gs δ).W Q E = (gs δ).W (fun ds δ1 => ds.length ≤ LIM ∧ Q (.list ds, true) δ1) E := by unfold dLstD; simp
@[simp] theorem W_noPart : (dNoPart δ).W QO E = QO none δ := Rs.W_eq
@[simp] theorem W_part (g : Den) : (dPart g δ).W QO E = (g δ).W (fun a δ1 => ∃ i, a.1 = .int i ∧ QO (some i) δ1) E := by
  unfold dPart
  rw [W_bind]
  congr 1
  funext a δ1
  obtain ⟨a, f⟩ := a
  cases a <;> simp
@[simp] theorem W_dSl (gr : RDen) (gl gh : ODen) : (dSl gr gl gh δ).W Q E = (gr δ).W (fun r δ1 => (gl δ1).W (fun lo δ2 => (gh δ2).W (fun hi δ3 => ∃ d, r δ3 = some d ∧ (kSl d lo hi δ3).W Q E) E) E) E := by
  unfold dSl
  rw [W_bind]
  congr 1
  funext r δ1
  rw [W_bind]
  congr 1
  funext lo δ2
  rw [W_bind]
  congr 1
  funext hi δ3
  cases r δ3 <;> simp
@[simp] theorem slS (x : Str) (lo hi : Option Int) : (kSl (.str x) lo hi δ).W Q E = (x.length ≤ LIM ∧ Q (.str (cutS x lo hi), false) δ) := by unfold kSl; simp
@[simp] theorem slL (x : List D) (lo hi : Option Int) : (kSl (.list x) lo hi δ).W Q E = Q (.list (cutD x lo hi), true) δ := Rs.W_eq
@[simp] theorem slT (x : List D) (lo hi : Option Int) : (kSl (.tuple x) lo hi δ).W Q E = Q (.tuple (cutD x lo hi), false) δ := Rs.W_eq
@[simp] theorem W_m1 (ga gb : Den) (k : Str → EV → Sta → Rs EV) : (dM1 ga gb k δ).W Q E = (ga δ).W (fun a δ1 => ∃ x, a.1 = .str x ∧ (gb δ1).W (fun b δ2 => (k x b δ2).W Q E) E) E := by
  unfold dM1
  rw [W_bind]
  congr 1
  funext a δ1
  obtain ⟨a, f⟩ := a
  cases a <;> simp
@[simp] theorem W_split (a b : Str) (f : Bool) : (kSplit a (.str b, f) δ).W Q E = (b.length ≠ 0 ∧ a.length + 2 ≤ LIM ∧ Q (.list ((Txt.split a b).map PyData.str), true) δ) := by
  unfold kSplit
  simp [and_assoc]
@[simp] theorem W_join (ga : Den) (gr : RDen) : (dJoin ga gr δ).W Q E = (ga δ).W (fun a δ1 => ∃ x, a.1 = .str x ∧ (gr δ1).W (fun r δ2 => ∃ d, r δ2 = some d ∧ (kJoin x d δ2).W Q E) E) E := by
  unfold dJoin
  rw [W_bind]
  congr 1
  funext a δ1
  obtain ⟨a, f⟩ := a
  cases a with
  | str x =>
    dsimp only
    rw [W_bind]
    have e : (gr δ1).W (fun a δ => (match a δ with
            | some d => kJoin x d δ
            | none => Rs.stuck).W Q E) E = (gr δ1).W (fun r δ2 => ∃ d, r δ2 = some d ∧ (kJoin x d δ2).W Q E) E := by
      congr 1
      funext r δ2
      cases r δ2 <;> simp
    refine Eq.trans e ?_
    apply propext
    constructor
    · intro h; exact ⟨x, rfl, h⟩
    · rintro ⟨y, e, h⟩
      cases e
      exact h
  | _ => simp
@[simp] theorem W_joinL (x : Str) (xs : List D) : (kJoin x (.list xs) δ).W Q E = ∃ ys, strsD xs = some ys ∧ joinN x ys ≤ LIM ∧ Q (.str (Txt.join x ys), false) δ := by
  unfold kJoin
  dsimp only
  cases strsD xs <;> simp
@[simp] theorem W_joinT (x : Str) (xs : List D) : (kJoin x (.tuple xs) δ).W Q E = ∃ ys, strsD xs = some ys ∧ joinN x ys ≤ LIM ∧ Q (.str (Txt.join x ys), false) δ := by
  unfold kJoin
  dsimp only
  cases strsD xs <;> simp
@[simp] theorem W_dInTab (tab : List (Str × D)) (neg : Bool) (ga : Den) : (dInTab tab neg ga δ).W QB E = (ga δ).W (fun a δ1 => ∃ z, a.1 = .str z ∧ QB (if neg then !(tab.lookup z).isSome else (tab.lookup z).isSome) δ1) E := by
  unfold dInTab
  rw [W_bind]
  congr 1
  funext a δ1
  obtain ⟨a, f⟩ := a
  cases a <;> simp
@[simp] theorem W_dIxTab (tab : List (Str × D)) (ga : Den) : (dIxTab tab ga δ).W Q E = (ga δ).W (fun a δ1 => ∃ z d, a.1 = .str z ∧ tab.lookup z = some d ∧ Q (d, false) δ1) E := by
  unfold dIxTab
  rw [W_bind]
  congr 1
  funext a δ1
  obtain ⟨a, f⟩ := a
  cases a <;> simp
  rename_i z
  cases tab.lookup z <;> simp
@[simp] theorem W_iLst (g : Den) : (iLst g δ).W QL E = (g δ).W (fun a δ1 => ∃ xs, a.1 = .list xs ∧ QL xs δ1) E := by
  unfold iLst
  rw [W_bind]
  congr 1
  funext a δ1
  obtain ⟨a, f⟩ := a
  cases a <;> simp
@[simp] theorem W_iTup (g : Den) : (iTup g δ).W QL E = (g δ).W (fun a δ1 => ∃ xs, a.1 = .tuple xs ∧ QL xs δ1) E := by
  unfold iTup
  rw [W_bind]
  congr 1
  funext a δ1
  obtain ⟨a, f⟩ := a
  cases a <;> simp
@[simp] theorem W_iStr (g : Den) : (iStrD g δ).W QL E = (g δ).W (fun a δ1 => ∃ xs, a.1 = .str xs ∧ QL (chrs xs) δ1) E := by
  unfold iStrD
  rw [W_bind]
  congr 1
  funext a δ1
  obtain ⟨a, f⟩ := a
  cases a <;> simp
@[simp] theorem W_dLc (it : IDen) (vs : List Nat) (g : GDen) (t : TDen) (e : Den) : (dLc it vs g t e δ).W Q E = (it δ).W (fun ds δ1 => (lcLoop vs g t e [] ds δ1).W Q E) E := by unfold dLc; simp
@[simp] theorem W_yes : (dYes δ).W QB E = QB true δ := Rs.W_eq
@[simp] theorem k_lenS (x : Str) : (kLen (.str x) δ).W Q E = (x.length ≤ LIM ∧ Q (.int x.length, false) δ) := by unfold kLen; simp
@[simp] theorem k_lenL (x : List D) : (kLen (.list x) δ).W Q E = Q (.int x.length, false) δ := Rs.W_eq
@[simp] theorem k_lenT (x : List D) : (kLen (.tuple x) δ).W Q E = Q (.int x.length, false) δ := Rs.W_eq
@[simp] theorem k_intI (x : Int) : (kInt (.int x) δ).W Q E = Q (.int x, false) δ := Rs.W_eq
@[simp] theorem k_intS (x : Str) : (kInt (.str x) δ).W Q E = ∃ n, intText? x = some n ∧ x.length ≤ 640 ∧ Q (.int n, false) δ := by
  unfold kInt
  dsimp only
  cases intText? x <;> simp
@[simp] theorem k_boolB (x : Bool) : (kBool (.bool x) δ).W Q E = Q (.bool x, false) δ := Rs.W_eq
@[simp] theorem k_strI (x : Int) : (kStr (.int x) δ).W Q E = (x.natAbs.log2 < 1920 ∧ Q (.str (strI x), false) δ) := by unfold kStr; simp
@[simp] theorem k_strS (x : Str) : (kStr (.str x) δ).W Q E = Q (.str x, false) δ := Rs.W_eq
@[simp] theorem k_tupL (x : List D) : (kTup (.list x) δ).W Q E = Q (.tuple x, false) δ := Rs.W_eq
@[simp] theorem k_tupT (x : List D) : (kTup (.tuple x) δ).W Q E = Q (.tuple x, false) δ := Rs.W_eq
@[simp] theorem k_all (x : List D) : (kAll (.list x) δ).W Q E = ∃ bs, bls x = some bs ∧ Q (.bool (bs.all id), false) δ := by
  unfold kAll
  dsimp only
  cases bls x <;> simp
@[simp] theorem k_isi (T : String) (d : D) : (kIsi T d δ).W Q E = ∃ k, isiT T d = some k ∧ Q (.bool k, false) δ := by
  unfold kIsi
  cases isiT T d <;> simp
@[simp] theorem k_fmtI (x : Int) (f : Bool) : (kFmt (.int x, f) δ).W Q E = (x.natAbs.log2 < 1920 ∧ Q (.str (strI x), false) δ) := by unfold kFmt; simp
@[simp] theorem k_fmtS (x : Str) (f : Bool) : (kFmt (.str x, f) δ).W Q E = (x.length ≤ LIM ∧ Q (.str x, false) δ) := by unfold kFmt; simp
@[simp] theorem k_addI (x y : Int) (f g : Bool) : kAdd (.int x, f) (.int y, g) δ = .ok (.int (x + y), false) δ := rfl
@[simp] theorem k_addS (x y : Str) (f g : Bool) : (kAdd (.str x, f) (.str y, g) δ).W Q E = (x.length + y.length ≤ LIM ∧ Q (.str (x ++ y), false) δ) := by unfold kAdd; simp
@[simp] theorem k_addT (x y : List D) (f g : Bool) : (kAdd (.tuple x, f) (.tuple y, g) δ).W Q E = (x.length + y.length ≤ LIM ∧ Q (.tuple (x ++ y), false) δ) := by unfold kAdd; simp
@[simp] theorem k_addL (x y : List D) (f g : Bool) : (kAdd (.list x, f) (.list y, g) δ).W Q E = (x.length + y.length ≤ LIM ∧ Q (.list (x ++ y), true) δ) := by unfold kAdd; simp
@[simp] theorem k_sub (x y : Int) (f g : Bool) : kSub (.int x, f) (.int y, g) δ = .ok (.int (x - y), false) δ := rfl
@[simp] theorem k_neg (x : Int) (f : Bool) : kNeg (.int x, f) δ = .ok (.int (-x), false) δ := rfl
@[simp] theorem k_max (x y : Int) (f g : Bool) : kMax2 (.int x, f) (.int y, g) δ = .ok (.int (if y > x then y else x), false) δ := rfl
@[simp] theorem k_min (x y : Int) (f g : Bool) : kMin2 (.int x, f) (.int y, g) δ = .ok (.int (if y < x then y else x), false) δ := rfl
@[simp] theorem k_mod (x y : Int) (f g : Bool) : (kMod (.int x, f) (.int y, g) δ).W Q E = (0 < y ∧ Q (.int (x % y), false) δ) := by unfold kMod; simp
@[simp] theorem k_div (x y : Int) (f g : Bool) : (kDiv (.int x, f) (.int y, g) δ).W Q E = (0 < y ∧ y.natAbs.log2 < 9000 ∧ Q (.int (x / y), false) δ) := by unfold kDiv; simp [and_assoc]
@[simp] theorem k_mulI (x y : Int) (f g : Bool) : (kMul (.int x, f) (.int y, g) δ).W Q E = ((x.natAbs.log2 + y.natAbs.log2 < 1000000 ∨ x.natAbs < 2 ^ 64 ∨ y.natAbs < 2 ^ 64) ∧ Q (.int (x * y), false) δ) := by unfold kMul; simp
@[simp] theorem k_mulS (x : Str) (y : Int) (f g : Bool) : (kMul (.str x, f) (.int y, g) δ).W Q E = ((0 ≤ y ∧ x.length * y.toNat ≤ LIM ∧ y.toNat ≤ LIM) ∧ Q (.str (srep x y.toNat), false) δ) := by unfold kMul; simp
@[simp] theorem k_mulT (x : List D) (y : Int) (f g : Bool) : (kMul (.tuple x, f) (.int y, g) δ).W Q E = ((x ≠ [] ∧ 2 ≤ y ∧ y ≤ 1000 ∧ x.length ≤ 1000) ∧ Q (.tuple (List.replicate y.toNat x).flatten, false) δ) := by unfold kMul; simp
@[simp] theorem k_mulL (x : List D) (y : Int) (f g : Bool) : (kMul (.list x, f) (.int y, g) δ).W Q E = ((0 ≤ y ∧ x.length * y.toNat ≤ LIM ∧ y.toNat ≤ LIM) ∧ Q (.list (List.replicate y.toNat x).flatten, true) δ) := by unfold kMul; simp
@[simp] theorem k_pow (x y : Int) (f g : Bool) : (kPow (.int x, f) (.int y, g) δ).W Q E = ((0 ≤ y ∧ y ≤ 1000000 ∧ x.natAbs < 2 ^ 64) ∧ Q (.int (x ^ y.toNat), false) δ) := by unfold kPow; simp
/-! ### calls -/
@[simp] theorem W_aNil {QA : List AV → Sta → Prop} : (aNil δ).W QA E = QA [] δ := Rs.W_eq
@[simp] theorem W_aVal {QA : List AV → Sta → Prop} (g : Den) (gs : ADen) : (aVal g gs δ).W QA E = (g δ).W (fun a δ1 => (gs δ1).W (fun xs δ2 => QA (.val a.1 :: xs) δ2) E) E := by unfold aVal; simp
@[simp] theorem W_dCall (Φ : Phi) (gs : ADen) : (dCall Φ gs δ).W Q E = (gs δ).W (fun xs δ1 => (kCall Φ xs δ1).W Q E) E := by unfold dCall; simp
theorem kc_val {Φ : Phi} {xs : List AV} {sls : Sta} (h1 : owns xs = []) (h2 : slsOf δ xs = some sls) (h3 : ∀ outs, upds xs outs δ = δ) : (kCall Φ xs δ).W Q E = (Φ sls).W (fun a _ => Q a δ) (fun c w _ => E c w δ) := by
  unfold kCall
  rw [h1, h2, if_pos (show nodupB [] = true from rfl)]
  dsimp only
  cases Φ sls with
  | rt a o => dsimp only; rw [W_ok, h3, R_rt]
  | exc c w o => dsimp only; rw [W_exc, h3, R_exc]
  | stuck => rw [W_stuck, R_stuck]
@[simp] theorem W_c1 (Φ : Phi) (a : D) : (kCall Φ [.val a] δ).W Q E = (Φ [.val a]).W (fun a _ => Q a δ) (fun c w _ => E c w δ) := kc_val rfl rfl fun _ => rfl
@[simp] theorem W_c2 (Φ : Phi) (a b : D) : (kCall Φ [.val a, .val b] δ).W Q E = (Φ [.val a, .val b]).W (fun a _ => Q a δ) (fun c w _ => E c w δ) := kc_val rfl rfl fun _ => rfl
@[simp] theorem W_c3 (Φ : Phi) (a b c : D) : (kCall Φ [.val a, .val b, .val c] δ).W Q E = (Φ [.val a, .val b, .val c]).W (fun a _ => Q a δ) (fun c w _ => E c w δ) := kc_val rfl rfl fun _ => rfl
@[simp] theorem W_c4 (Φ : Phi) (a b c d : D) : (kCall Φ [.val a, .val b, .val c, .val d] δ).W Q E = (Φ [.val a, .val b, .val c, .val d]).W (fun a _ => Q a δ) (fun c w _ => E c w δ) := kc_val rfl rfl fun _ => rfl
end
theorem Rs.W.mono {α : Type} {r : Rs α} {Q Q' : α → Sta → Prop} {E E' : Str → D → Sta → Prop} (h : r.W Q E) (hq : ∀ a δ, Q a δ → Q' a δ) (he : ∀ c w δ, E c w δ → E' c w δ) : r.W Q' E' := by
  cases r with
  | ok a δ => rw [W_ok] at h ⊢; exact hq _ _ h
  | exc c w δ => rw [W_exc] at h ⊢; exact he _ _ _ h
  | stuck => rw [W_stuck] at h; exact h.elim
theorem Ret.W.mono {r : Ret} {Q Q' : EV → Sta → Prop} {E E' : Str → D → Sta → Prop} (h : r.W Q E) (hq : ∀ a δ, Q a δ → Q' a δ) (he : ∀ c w δ, E c w δ → E' c w δ) : r.W Q' E' := by
  cases r with
  | rt a δ => rw [R_rt] at h ⊢; exact hq _ _ h
  | exc c w δ => rw [R_exc] at h ⊢; exact he _ _ _ h
  | stuck => rw [R_stuck] at h; exact h.elim
theorem Fl.W.mono {r : Fl} {P P' : FP} (h : r.W P) (hn : ∀ δ, P.N δ → P'.N δ) (hb : ∀ δ, P.B δ → P'.B δ) (hc : ∀ δ, P.C δ → P'.C δ) (hr : ∀ a δ, P.R a δ → P'.R a δ) (he : ∀ c w δ, P.E c w δ → P'.E c w δ) : r.W P' := by
  cases r with
  | nx δ => rw [F_nx] at h ⊢; exact hn _ h
  | rt a δ => rw [F_rt] at h ⊢; exact hr _ _ h
  | bk δ => rw [F_bk] at h ⊢; exact hb _ h
  | ct δ => rw [F_ct] at h ⊢; exact hc _ h
  | exc c w δ => rw [F_exc] at h ⊢; exact he _ _ _ h
  | stuck => rw [F_stuck] at h; exact h.elim
/-- a def that hands back v -/
theorem Tells.W {Φ : Phi} {sls : Sta} {v : D} {R : EV → Sta → Prop} {E : Str → D → Sta → Prop} (h : Tells Φ sls v) (hr : ∀ f outs, R (v, f) outs) : (Φ sls).W R E := by
  obtain ⟨f, o, h⟩ := h
  rw [h, R_rt]
  exact hr f o
theorem Errs.W {Φ : Phi} {sls : Sta} {c : Str} {w : D} {R : EV → Sta → Prop} {E : Str → D → Sta → Prop} (h : Errs Φ sls c w) (hr : ∀ outs, E c w outs) : (Φ sls).W R E := by
  obtain ⟨o, h⟩ := h
  rw [h, R_exc]
  exact hr o
/-- by a def's body -/
theorem phi_W {n np : Nat} {own : List Nat} {g : SDen} {sls : Sta} {R : EV → Sta → Prop} {E : Str → D → Sta → Prop} (ho : okArgs np own sls = true) (h : (g (sls ++ List.replicate (n - np) .un)).W ⟨fun δ => R (.none, false) δ, fun _ => False, fun _ => False, R, E⟩) : (phiOf n np own g sls).W R E := by
  unfold phiOf
  rw [if_pos ho]
  rw [Ret.W_eq]
  rw [Fl.W_eq] at h
  cases q : g (sls ++ List.replicate (n - np) .un) <;> rw [q] at h <;> exact h
theorem tells_of {Φ : Phi} {sls : Sta} {v : D} (h : (Φ sls).W (fun a _ => a.1 = v) fun _ _ _ => False) : Tells Φ sls v := by
  rw [Ret.W_eq] at h
  cases q : Φ sls with
  | rt a o =>
    rw [q] at h
    obtain ⟨a, f⟩ := a
    cases h
    exact ⟨f, o, q⟩
  | exc c w o => rw [q] at h; exact h.elim
  | stuck => rw [q] at h; exact h.elim
theorem errs_of {Φ : Phi} {sls : Sta} {c : Str} {w : D} (h : (Φ sls).W (fun _ _ => False) fun c' w' _ => c' = c ∧ w' = w) : Errs Φ sls c w := by
  rw [Ret.W_eq] at h
  cases q : Φ sls with
  | rt a o => rw [q] at h; exact h.elim
  | exc c w o => rw [q] at h; obtain ⟨rfl, rfl⟩ := h; exact ⟨o, q⟩
  | stuck => rw [q] at h; exact h.elim
/-- a comprehension, by an invariant -/
theorem lc_W {vs : List Nat} {g : GDen} {t : TDen} {e : Den} {Q : EV → Sta → Prop} {E : Str → D → Sta → Prop} (I : List D → List D → Sta → Prop)
    (hs : ∀ acc d ds δ, I acc (d :: ds) δ → offs δ vs = true ∧ ∃ δ1, g d (dwipe δ vs) = some δ1 ∧ (t δ1).W (fun k δ2 => if k = true then (e δ2).W (fun a δ3 => acc.length < LIM ∧ I (acc ++ [a.1]) ds (dback δ δ3 vs)) (fun _ _ _ => False) else I acc ds (dback δ δ2 vs)) fun _ _ _ => False)
    (hq : ∀ acc δ, I acc [] δ → Q (.list acc, true) δ) : ∀ {ds acc : List D} {δ : Sta}, I acc ds δ → (lcLoop vs g t e acc ds δ).W Q E
  | [], acc, δ, h => ⟨hq _ _ h⟩
  | d :: ds, acc, δ, h => by
    obtain ⟨h1, δ1, h2, h3⟩ := hs _ _ _ _ h
    unfold lcLoop
    rw [if_pos h1, h2]
    dsimp only
    cases q : t δ1 with
    | exc c w o => rw [q, W_exc] at h3; exact h3.elim
    | stuck => rw [q, W_stuck] at h3; exact h3.elim
    | ok k δ2 =>
      rw [q, W_ok] at h3
      dsimp only
      cases k with
      | false =>
        rw [if_neg Bool.false_ne_true] at h3 ⊢
        exact lc_W I hs hq h3
      | true =>
        rw [if_pos rfl] at h3 ⊢
        cases q2 : e δ2 with
        | exc c w o => rw [q2, W_exc] at h3; exact h3.elim
        | stuck => rw [q2, W_stuck] at h3; exact h3.elim
        | ok a δ3 =>
          rw [q2, W_ok] at h3
          obtain ⟨h4, h5⟩ := h3
          dsimp only
          rw [if_pos h4]
          exact lc_W I hs hq h5
/-- one that only reads: of those that p names, f -/
theorem lc_R {vs : List Nat} {g : GDen} {t : TDen} {e : Den} {Q : EV → Sta → Prop} {E : Str → D → Sta → Prop} {δ : Sta} {ds : List D} (p : D → Bool) (f : D → D) (ho : offs δ vs = true) (hl : ds.length ≤ LIM)
    (h : ∀ d ∈ ds, ∃ δ1, g d (dwipe δ vs) = some δ1 ∧ dback δ δ1 vs = δ ∧ (t δ1).W (fun k δ2 => δ2 = δ1 ∧ k = p d) (fun _ _ _ => False) ∧ (p d = true → (e δ1).W (fun a δ3 => δ3 = δ1 ∧ a.1 = f d) fun _ _ _ => False))
    (hq : Q (.list ((ds.filter p).map f), true) δ) : (lcLoop vs g t e [] ds δ).W Q E := by
  have z := lc_gen (e := e) (t := t) p f ho ds [] (by simpa using hl) fun d hd => by
    obtain ⟨δ1, h1, h2, h3, h4⟩ := h d hd
    refine ⟨δ1, h1, ?_, ?_, h2⟩
    · cases q : t δ1 with
      | exc c w o => rw [q, W_exc] at h3; exact h3.elim
      | stuck => rw [q, W_stuck] at h3; exact h3.elim
      | ok k δ2 => rw [q, W_ok] at h3; obtain ⟨rfl, rfl⟩ := h3; rfl
    · intro hp
      have h4 := h4 hp
      cases q : e δ1 with
      | exc c w o => rw [q, W_exc] at h4; exact h4.elim
      | stuck => rw [q, W_stuck] at h4; exact h4.elim
      | ok a δ2 => rw [q, W_ok] at h4; obtain ⟨rfl, e4⟩ := h4; exact ⟨a.2, by rw [← e4]⟩
  rw [z]
  simpa using hq
/-- a loop, by an invariant -/
theorem for_W {g : GDen} {b : SDen} {P : FP} (I : List D → Sta → Prop) (hs : ∀ d ds δ, I (d :: ds) δ → ∃ δ1, g d δ = some δ1 ∧ (b δ1).W ⟨I ds, P.N, I ds, P.R, P.E⟩) (hq : ∀ δ, I [] δ → P.N δ) : ∀ {ds : List D} {δ : Sta}, I ds δ → (forLoop g b ds δ).W P
  | [], δ, h => ⟨hq _ h⟩
  | d :: ds, δ, h => by
    obtain ⟨δ1, h1, h2⟩ := hs _ _ _ h
    unfold forLoop
    rw [h1]
    dsimp only
    cases q : b δ1 with
    | nx o => rw [q, F_nx] at h2; exact for_W I hs hq h2
    | ct o => rw [q, F_ct] at h2; exact for_W I hs hq h2
    | bk o => rw [q, F_bk] at h2; rw [F_nx]; exact h2
    | rt a o => rw [q, F_rt] at h2; rw [F_rt]; exact h2
    | exc c w o => rw [q, F_exc] at h2; rw [F_exc]; exact h2
    | stuck => rw [q, F_stuck] at h2; exact h2.elim
end DL
end
section -- DL29
set_option maxRecDepth 100000
set_option maxHeartbeats 2000000
/-! DL29: simp rules of data. -/
namespace DL
open PySem PySem.Spec PyProof.Rows L2
theorem isi_int (T : String) (i : Int) : isiT T (.int i) = kitB "int" T := rfl
@[simp] theorem isi_ii (i : Int) : isiT "int" (.int i) = some true := by rfl
@[simp] theorem isi_ib (i : Int) : isiT "bool" (.int i) = some false := by rfl
@[simp] theorem isi_is (i : Int) : isiT "str" (.int i) = some false := by rfl
@[simp] theorem isi_it (i : Int) : isiT "tuple" (.int i) = some false := by rfl
@[simp] theorem isi_il (i : Int) : isiT "list" (.int i) = some false := by rfl
@[simp] theorem isi_bi (i : Bool) : isiT "int" (.bool i) = some true := by rfl
@[simp] theorem isi_bb (i : Bool) : isiT "bool" (.bool i) = some true := by rfl
@[simp] theorem isi_bs (i : Bool) : isiT "str" (.bool i) = some false := by rfl
@[simp] theorem isi_bt (i : Bool) : isiT "tuple" (.bool i) = some false := by rfl
@[simp] theorem isi_bl (i : Bool) : isiT "list" (.bool i) = some false := by rfl
@[simp] theorem isi_si (i : Str) : isiT "int" (.str i) = some false := by rfl
@[simp] theorem isi_sb (i : Str) : isiT "bool" (.str i) = some false := by rfl
@[simp] theorem isi_ss (i : Str) : isiT "str" (.str i) = some true := by rfl
@[simp] theorem isi_st (i : Str) : isiT "tuple" (.str i) = some false := by rfl
@[simp] theorem isi_sl (i : Str) : isiT "list" (.str i) = some false := by rfl
@[simp] theorem isi_ti (i : List D) : isiT "int" (.tuple i) = some false := by rfl
@[simp] theorem isi_tb (i : List D) : isiT "bool" (.tuple i) = some false := by rfl
@[simp] theorem isi_ts (i : List D) : isiT "str" (.tuple i) = some false := by rfl
@[simp] theorem isi_tt (i : List D) : isiT "tuple" (.tuple i) = some true := by rfl
@[simp] theorem isi_tl (i : List D) : isiT "list" (.tuple i) = some false := by rfl
@[simp] theorem isi_li (i : List D) : isiT "int" (.list i) = some false := by rfl
@[simp] theorem isi_lb (i : List D) : isiT "bool" (.list i) = some false := by rfl
@[simp] theorem isi_ls (i : List D) : isiT "str" (.list i) = some false := by rfl
@[simp] theorem isi_lt (i : List D) : isiT "tuple" (.list i) = some false := by rfl
@[simp] theorem isi_ll (i : List D) : isiT "list" (.list i) = some true := by rfl
@[simp] theorem isi_ni : isiT "int" .none = some false := by rfl
@[simp] theorem isi_nb : isiT "bool" .none = some false := by rfl
@[simp] theorem isi_ns : isiT "str" .none = some false := by rfl
@[simp] theorem isi_nt : isiT "tuple" .none = some false := by rfl
@[simp] theorem isi_nl : isiT "list" .none = some false := by rfl
@[simp] theorem dwipe_n (δ : Sta) : dwipe δ [] = δ := rfl
@[simp] theorem dwipe_c (δ : Sta) (v : Nat) (vs : List Nat) : dwipe δ (v :: vs) = (dwipe δ vs).set v .un := rfl
@[simp] theorem dback_n (δ0 δ : Sta) : dback δ0 δ [] = δ := rfl
@[simp] theorem dback_c (δ0 δ : Sta) (v : Nat) (vs : List Nat) : dback δ0 δ (v :: vs) = (dback δ0 δ vs).set v (δ0[v]?.getD .un) := rfl
@[simp] theorem slD_val (d : D) : slD (.val d) = some d := rfl
@[simp] theorem slD_own (ds : List D) : slD (.own (.lst ds)) = some (.list ds) := rfl
@[simp] theorem cd_Eq (a b : D) : cmpD .Eq a b = eqD a b := by cases a <;> cases b <;> rfl
@[simp] theorem cd_NotEq (a b : D) : cmpD .NotEq a b = (eqD a b).map (!·) := by cases a <;> cases b <;> rfl
@[simp] theorem cd_Lt (a b : Int) : cmpD .Lt (.int a) (.int b) = some (decide (a < b)) := rfl
@[simp] theorem cd_LtE (a b : Int) : cmpD .LtE (.int a) (.int b) = some (decide (a ≤ b)) := rfl
@[simp] theorem cd_Gt (a b : Int) : cmpD .Gt (.int a) (.int b) = some (decide (b < a)) := rfl
@[simp] theorem cd_GtE (a b : Int) : cmpD .GtE (.int a) (.int b) = some (decide (b ≤ a)) := rfl
@[simp] theorem cd_IsN (a : D) : cmpD .Is a .none = some (isNon a) := by cases a <;> rfl
@[simp] theorem cd_IsB (a b : Bool) : cmpD .Is (.bool a) (.bool b) = some (decide (a = b)) := rfl
@[simp] theorem cd_IsNotN (a : D) : cmpD .IsNot a .none = some (!isNon a) := by cases a <;> rfl
@[simp] theorem eqD_ss (a b : Str) : eqD (.str a) (.str b) = some (decide (a = b)) := rfl
@[simp] theorem eqD_ii (a b : Int) : eqD (.int a) (.int b) = some (decide (a = b)) := rfl
@[simp] theorem isNon_none : isNon .none = true := rfl
@[simp] theorem isNon_i (i : Int) : isNon (.int i) = false := rfl
@[simp] theorem isNon_b (i : Bool) : isNon (.bool i) = false := rfl
@[simp] theorem isNon_s (i : Str) : isNon (.str i) = false := rfl
@[simp] theorem isNon_t (i : List D) : isNon (.tuple i) = false := rfl
@[simp] theorem isNon_l (i : List D) : isNon (.list i) = false := rfl
@[simp] theorem truD_b (b : Bool) : truD (.bool b) = some b := rfl

@[simp] theorem atI_z {α : Type} (x : α) (r : List α) : L2.atI (x :: r) 0 = some x := by
  simp [L2.atI, L2.ixN]
theorem atI_n {α : Type} (l : List α) (n : Nat) (h : n < l.length) : L2.atI l (n : Int) = l[n]? := by
  simp [L2.atI, L2.ixN, h]
theorem fil_true {α : Type} (l : List α) : l.filter (fun _ => true) = l := List.filter_eq_self.mpr fun _ _ => rfl
/-- one of all -/
theorem lc_M {vs : List Nat} {g : GDen} {e : Den} {Q : EV → Sta → Prop} {E : Str → D → Sta → Prop} {δ : Sta} {ds : List D} (f : D → D) (ho : offs δ vs = true) (hl : ds.length ≤ LIM)
    (h : ∀ d ∈ ds, ∃ δ1, g d (dwipe δ vs) = some δ1 ∧ dback δ δ1 vs = δ ∧ (e δ1).W (fun a δ3 => δ3 = δ1 ∧ a.1 = f d) fun _ _ _ => False)
    (hq : Q (.list (ds.map f), true) δ) : (lcLoop vs g dYes e [] ds δ).W Q E := by
  refine lc_R (fun _ => true) f ho hl (fun d hd => ?_) (by rw [fil_true]; exact hq)
  obtain ⟨δ1, h1, h2, h3⟩ := h d hd
  exact ⟨δ1, h1, h2, ⟨rfl, rfl⟩, fun _ => h3⟩
/-- those that p names -/
theorem lc_F {vs : List Nat} {g : GDen} {t : TDen} {e : Den} {Q : EV → Sta → Prop} {E : Str → D → Sta → Prop} {δ : Sta} {ds : List D} (p : D → Bool) (ho : offs δ vs = true) (hl : ds.length ≤ LIM)
    (h : ∀ d ∈ ds, ∃ δ1, g d (dwipe δ vs) = some δ1 ∧ dback δ δ1 vs = δ ∧ (t δ1).W (fun k δ2 => δ2 = δ1 ∧ k = p d) (fun _ _ _ => False) ∧ (p d = true → (e δ1).W (fun a δ3 => δ3 = δ1 ∧ a.1 = d) fun _ _ _ => False))
    (hq : Q (.list (ds.filter p), true) δ) : (lcLoop vs g t e [] ds δ).W Q E :=
  lc_R p (fun d => d) ho hl h (by rw [List.map_id']; exact hq)
section
variable {Q : EV → Sta → Prop} {E : Str → D → Sta → Prop} {δ : Sta} {QL : List D → Sta → Prop}
@[simp] theorem W_getTab (tab : List (Str × Int)) (ga gb : Den) : (dGetTab tab ga gb δ).W Q E = (ga δ).W (fun a δ1 => (gb δ1).W (fun b δ2 => (kGetTab tab a b δ2).W Q E) E) E := by unfold dGetTab; simp
@[simp] theorem W_getS (tab : List (Str × Int)) (z : Str) (f : Bool) (b : EV) : (kGetTab tab (.str z, f) b δ).W Q E = Q ((match lastI tab z with | some i => .int i | none => b.1), false) δ := by
  unfold kGetTab
  dsimp only
  cases lastI tab z <;> simp
@[simp] theorem W_rng1 (g : Den) : (iRng1D g δ).W QL E = (g δ).W (fun a δ1 => ∃ j, a.1 = .int j ∧ (-(2 ^ 62) ≤ j ∧ j < 2 ^ 62) ∧ QL (rng 0 j.toNat) δ1) E := by
  unfold iRng1D
  rw [W_bind]
  congr 1
  funext a δ1
  obtain ⟨a, f⟩ := a
  cases a <;> simp
@[simp] theorem W_rng2 (ga gb : Den) : (iRng2D ga gb δ).W QL E = (ga δ).W (fun a δ1 => (gb δ1).W (fun b δ2 => ∃ i j, a.1 = .int i ∧ b.1 = .int j ∧ (-(2 ^ 62) ≤ i ∧ i < 2 ^ 62 ∧ -(2 ^ 62) ≤ j ∧ j < 2 ^ 62) ∧ QL (rng i (j - i).toNat) δ2) E) E := by
  unfold iRng2D
  rw [W_bind]
  congr 1
  funext a δ1
  rw [W_bind]
  congr 1
  funext b δ2
  obtain ⟨a, f⟩ := a
  obtain ⟨b, f'⟩ := b
  cases a <;> cases b <;> simp
theorem cut_from {xs : List D} (k : Nat) (h : k ≤ xs.length) : cutD xs (some (k : Int)) none = xs.drop k := by
  unfold cutD
  rw [HT.sIx_nat, HT.sIx_none, Nat.min_eq_left h]
  exact List.take_of_length_le (by rw [List.length_drop]; omega)
theorem cut_to {xs : List D} (k : Nat) (h : k ≤ xs.length) : cutD xs none (some (k : Int)) = xs.take k := by
  unfold cutD
  rw [HT.sIx_nat, HT.sIx_none, Nat.min_eq_left h]
  simp
theorem cut_mid {xs : List D} (j k : Nat) : cutD xs (some (j : Int)) (some (k : Int)) = (xs.drop (min j xs.length)).take (min k xs.length - min j xs.length) := by
  unfold cutD
  rw [HT.sIx_nat, HT.sIx_nat]
@[simp] theorem cut_one (x : D) (xs : List D) : cutD (x :: xs) (some 1) none = xs := cut_from (xs := x :: xs) 1 (by simp)
end
section
variable {δ : Sta} {P : FP}
theorem W_congr {α : Type} {r : Rs α} {Q Q' : α → Sta → Prop} {E : Str → D → Sta → Prop} (h : ∀ a δ, Q a δ ↔ Q' a δ) : r.W Q E ↔ r.W Q' E := by
  cases r with
  | ok a δ => rw [W_ok, W_ok]; exact h a δ
  | exc c w δ => rw [W_exc, W_exc]
  | stuck => rw [W_stuck, W_stuck]
@[simp] theorem F_own (i : Nat) (g : Den) : (sOwn i g δ).W P ↔ (g δ).W (fun a δ1 => ∃ ds, a = (.list ds, true) ∧ P.N (δ1.set i (.own (.lst ds)))) P.E := by
  unfold sOwn
  rw [W_fl]
  refine W_congr fun a δ1 => ?_
  obtain ⟨a, f⟩ := a
  cases a <;> simp
  rename_i ds
  cases f <;> simp
@[simp] theorem F_app (i : Nat) (g : Den) : (sApp i g δ).W P ↔ ∃ o, δ[i]? = some (.own o) ∧ (g δ).W (fun a δ1 => ∃ ds, δ1[i]? = some (.own (.lst ds)) ∧ ds.length < LIM ∧ P.N (δ1.set i (.own (.lst (ds ++ [a.1]))))) P.E := by
  unfold sApp
  cases h : δ[i]? with
  | none => simp
  | some s =>
    cases s with
    | un => simp
    | val d => simp
    | own o =>
      have e : (∃ o_1, some (Sl.own o) = some (Sl.own o_1) ∧ (g δ).W (fun a δ1 => ∃ ds, δ1[i]? = some (.own (.lst ds)) ∧ ds.length < LIM ∧ P.N (δ1.set i (.own (.lst (ds ++ [a.1]))))) P.E) ↔ (g δ).W (fun a δ1 => ∃ ds, δ1[i]? = some (.own (.lst ds)) ∧ ds.length < LIM ∧ P.N (δ1.set i (.own (.lst (ds ++ [a.1]))))) P.E := by simp
      rw [e]
      dsimp only
      rw [W_fl]
      refine W_congr fun a δ1 => ?_
      cases h2 : δ1[i]? with
      | none => simp
      | some s =>
        cases s with
        | un => simp
        | val d => simp
        | own o => cases o; simp
@[simp] theorem F_ext (i : Nat) (g : Den) : (sExt i g δ).W P ↔ ∃ o, δ[i]? = some (.own o) ∧ (g δ).W (fun a δ1 => ∃ ds es, δ1[i]? = some (.own (.lst ds)) ∧ a.1 = .list es ∧ ds.length + es.length ≤ LIM ∧ P.N (δ1.set i (.own (.lst (ds ++ es))))) P.E := by
  unfold sExt
  cases h : δ[i]? with
  | none => simp
  | some s =>
    cases s with
    | un => simp
    | val d => simp
    | own o =>
      have e : (∃ o_1, some (Sl.own o) = some (Sl.own o_1) ∧ (g δ).W (fun a δ1 => ∃ ds es, δ1[i]? = some (.own (.lst ds)) ∧ a.1 = .list es ∧ ds.length + es.length ≤ LIM ∧ P.N (δ1.set i (.own (.lst (ds ++ es))))) P.E) ↔ (g δ).W (fun a δ1 => ∃ ds es, δ1[i]? = some (.own (.lst ds)) ∧ a.1 = .list es ∧ ds.length + es.length ≤ LIM ∧ P.N (δ1.set i (.own (.lst (ds ++ es))))) P.E := by simp
      rw [e]
      dsimp only
      rw [W_fl]
      refine W_congr fun a δ1 => ?_
      obtain ⟨a, f⟩ := a
      cases h2 : δ1[i]? with
      | none => simp
      | some s =>
        cases s with
        | un => simp
        | val d => simp
        | own o => cases o; cases a <;> simp
@[simp] theorem F_ixset (i : Nat) (gi g : Den) : (sIxSet i gi g δ).W P ↔ (g δ).W (fun a δ1 => ∃ o, δ1[i]? = some (.own o) ∧ (gi δ1).W (fun b δ2 => ∃ ds n j, δ2[i]? = some (.own (.lst ds)) ∧ b.1 = .int n ∧ ixN ds.length n = some j ∧ P.N (δ2.set i (.own (.lst (ds.set j a.1))))) P.E) P.E := by
  unfold sIxSet
  rw [W_fl]
  refine W_congr fun a δ1 => ?_
  cases h : δ1[i]? with
  | none => simp
  | some s =>
    cases s with
    | un => simp
    | val d => simp
    | own o =>
      have e : ∀ p : Prop, (∃ o_1, some (Sl.own o) = some (Sl.own o_1) ∧ p) ↔ p := by simp
      rw [e]
      dsimp only
      rw [W_fl]
      refine W_congr fun b δ2 => ?_
      obtain ⟨b, f⟩ := b
      cases h2 : δ2[i]? with
      | none => simp
      | some s =>
        cases s with
        | un => simp
        | val d => simp
        | own o =>
          cases o
          rename_i ds
          cases b <;> simp
          rename_i n
          cases ixN ds.length n <;> simp
end
/-! ### laid data -/
def Lay (k : Nat) (d : D) : Prop := d.canLay0 = true ∧ d.depth ≤ k
theorem Lay.up {k n : Nat} {d : D} (h : Lay k d) (e : k ≤ n) : Lay n d := ⟨h.1, Nat.le_trans h.2 e⟩
theorem lay_none {k : Nat} : Lay k .none := ⟨by simp [PyData.canLay0], by simp [PyData.depth]⟩
theorem lay_int {k : Nat} (i : Int) : Lay k (.int i) := ⟨by simp [PyData.canLay0], by simp [PyData.depth]⟩
theorem lay_bool {k : Nat} (i : Bool) : Lay k (.bool i) := ⟨by simp [PyData.canLay0], by simp [PyData.depth]⟩
theorem lay_all {k : Nat} : ∀ {ds : List D}, (∀ d ∈ ds, Lay k d) → PyData.canLayAll0 ds = true ∧ PyData.depthAll ds ≤ k
  | [], _ => ⟨by simp [PyData.canLayAll0], by simp [PyData.depthAll]⟩
  | d :: ds, h => by
    obtain ⟨h1, h2⟩ := h d List.mem_cons_self
    obtain ⟨h3, h4⟩ := lay_all fun x hx => h x (List.mem_cons_of_mem _ hx)
    exact ⟨by simp [PyData.canLayAll0, h1, h3], by simp only [PyData.depthAll]; omega⟩
theorem lay_list {k : Nat} {ds : List D} (h : ∀ d ∈ ds, Lay k d) : Lay (k + 1) (.list ds) := by
  obtain ⟨h3, h4⟩ := lay_all h
  exact ⟨by simp [PyData.canLay0, h3], by simp only [PyData.depth]; omega⟩
theorem lay_tuple {k : Nat} {ds : List D} (h : ∀ d ∈ ds, Lay k d) : Lay (k + 1) (.tuple ds) := by
  obtain ⟨h3, h4⟩ := lay_all h
  exact ⟨by simp [PyData.canLay0, h3], by simp only [PyData.depth]; omega⟩
theorem Lay.shaped {d : D} (h : Lay 64 d) : SeqAt.shaped d = true := by
  unfold SeqAt.shaped
  rw [h.1, Bool.true_and]
  exact decide_eq_true h.2
theorem eqD_nilL {ds : List D} (h : ∀ d ∈ ds, Lay 63 d) : eqD (.list ds) (.list []) = some ds.isEmpty := by
  have h1 := (lay_list h).shaped
  have h2 := (lay_list (k := 0) (ds := []) (fun _ z => by simp at z)).up (n := 64) (by omega) |>.shaped
  unfold eqD
  simp only [eqS, h1, h2, Bool.and_self, if_true]
  cases ds <;> simp [PyData.eqv, PyData.eqvAll]
theorem eqD_nilT {ds : List D} (h : ∀ d ∈ ds, Lay 63 d) : eqD (.tuple ds) (.tuple []) = some ds.isEmpty := by
  have h1 := (lay_tuple h).shaped
  have h2 := (lay_tuple (k := 0) (ds := []) (fun _ z => by simp at z)).up (n := 64) (by omega) |>.shaped
  unfold eqD
  simp only [eqS, h1, h2, Bool.and_self, if_true]
  cases ds <;> simp [PyData.eqv, PyData.eqvAll]
end DL
end
section -- DL30
set_option maxRecDepth 100000
set_option maxHeartbeats 2000000
/-! DL30: split and join: sizes and signs. -/
namespace DL
open PySem PySem.Spec PyProof.Rows L2 TL
/-- the text of one sign -/
def sg (s : Nat) : Str := ⟨#[s]⟩
theorem spl_len (s : Nat) : ∀ (l acc : List Nat), (spl [s] 0 acc l).length ≤ l.length + 1
  | [], acc => by rw [spl_nil]; simp
  | c :: r, acc => by
    cases h : pre [s] (c :: r) with
    | true =>
      rw [spl_hit h]
      have := spl_len s r []
      simp only [List.length_cons, List.length_nil, Nat.sub_self] at this ⊢
      omega
    | false =>
      rw [spl_miss h]
      have := spl_len s r (acc ++ [c])
      simp only [List.length_cons]
      omega
theorem spl_ne (s : Nat) : ∀ (l acc : List Nat), spl [s] 0 acc l ≠ []
  | [], acc => by rw [spl_nil]; simp
  | c :: r, acc => by
    cases h : pre [s] (c :: r) with
    | true => rw [spl_hit h]; simp
    | false => rw [spl_miss h]; exact spl_ne s r _
theorem spl_mem (s : Nat) : ∀ (l acc : List Nat), ∀ p ∈ spl [s] 0 acc l, p.length ≤ acc.length + l.length ∧ ∀ c ∈ p, c ∈ acc ∨ c ∈ l
  | [], acc, p, h => by
    rw [spl_nil] at h
    rw [List.mem_singleton.mp h]
    exact ⟨by simp, fun c hc => .inl hc⟩
  | d :: r, acc, p, h => by
    cases hh : pre [s] (d :: r) with
    | true =>
      rw [spl_hit hh] at h
      rcases List.mem_cons.mp h with h | h
      · rw [h]; exact ⟨by simp, fun c hc => .inl hc⟩
      · obtain ⟨h1, h2⟩ := spl_mem s r [] p h
        refine ⟨by simp only [List.length_cons, List.length_nil] at h1 ⊢; omega, fun c hc => .inr ?_⟩
        rcases h2 c hc with q | q
        · simp at q
        · exact List.mem_cons_of_mem _ q
    | false =>
      rw [spl_miss hh] at h
      obtain ⟨h1, h2⟩ := spl_mem s r (acc ++ [d]) p h
      refine ⟨by simp only [List.length_cons, List.length_append, List.length_nil] at h1 ⊢; omega, fun c hc => ?_⟩
      rcases h2 c hc with q | q
      · rcases List.mem_append.mp q with q | q
        · exact .inl q
        · rw [List.mem_singleton.mp q]; exact .inr List.mem_cons_self
      · exact .inr (List.mem_cons_of_mem _ q)
theorem sg_kind {s : Nat} (h : s < 256) (x : Str) : ¬ Builtin.Str.strKind x < Builtin.Str.strKind (sg s) := kind_ok (by
  unfold sg
  simp [h])
theorem split_sg {s : Nat} (h : s < 256) (x : Str) : (Txt.split x (sg s)).map tl = spl [s] 0 [] (tl x) := split_spl x (sg s) (by simp [sg, tl]) (sg_kind h x)
theorem split_ne {s : Nat} (h : s < 256) (x : Str) : Txt.split x (sg s) ≠ [] := fun e => by
  have := split_sg h x
  rw [e] at this
  exact spl_ne s _ _ this.symm
theorem split_len {s : Nat} (h : s < 256) (x : Str) : (Txt.split x (sg s)).length ≤ x.length + 1 := by
  have := congrArg List.length (split_sg h x)
  rw [List.length_map] at this
  rw [this, len_tl x]
  exact spl_len s _ _
theorem split_mem {s : Nat} (h : s < 256) {x p : Str} (hp : p ∈ Txt.split x (sg s)) : p.length ≤ x.length ∧ ∀ c ∈ p.cps.toList, c ∈ x.cps.toList := by
  have : tl p ∈ spl [s] 0 [] (tl x) := by rw [← split_sg h x]; exact List.mem_map_of_mem hp
  obtain ⟨h1, h2⟩ := spl_mem s _ _ _ this
  refine ⟨by rw [len_tl p, len_tl x]; simpa using h1, fun c hc => ?_⟩
  rcases h2 c hc with q | q
  · simp at q
  · exact q
def Cs (w : Str) : Prop := ∀ c ∈ w.cps.toList, c < 0x110000
theorem Cs.ok {w : Str} (h : Cs w) : PyData.strOk w = true := by
  unfold PyData.strOk
  rw [← Array.all_toList]
  exact List.all_eq_true.mpr fun c hc => decide_eq_true (h c hc)
theorem Cs.lay {w : Str} {k : Nat} (h : Cs w) : Lay k (.str w) := ⟨by simp [PyData.canLay0, h.ok], by simp [PyData.depth]⟩
theorem Cs.split {s : Nat} (h : s < 256) {x p : Str} (hx : Cs x) (hp : p ∈ Txt.split x (sg s)) : Cs p := fun c hc => hx c ((split_mem h hp).2 c hc)
theorem Cs.app {x y : Str} (hx : Cs x) (hy : Cs y) : Cs (x ++ y) := fun c hc => by
  have hc : c ∈ tl (x ++ y) := hc
  rw [tl_append] at hc
  rcases List.mem_append.mp hc with q | q
  · exact hx c q
  · exact hy c q
theorem Cs.cut {x : Str} {lo hi : Option Int} (hx : Cs x) : Cs (cutS x lo hi) := fun c hc => by
  unfold cutS at hc
  exact hx c (List.mem_of_mem_drop (List.mem_of_mem_take (by simpa using hc)))
theorem Cs.lit (s : String) : Cs (Str.ofString s) := fun c hc => by
  have hc : c ∈ tl (Str.ofString s) := hc
  rw [tl_ofString] at hc
  obtain ⟨d, _, rfl⟩ := List.mem_map.mp hc
  have := d.valid
  show d.val.toNat < _
  rcases this with h | h
  · have : d.val.toNat < 0xd800 := h
    omega
  · exact h.2
theorem joinL_mem (S : List Nat) : ∀ (ps : List (List Nat)), ∀ c ∈ joinL S ps, c ∈ S ∨ ∃ p ∈ ps, c ∈ p
  | [], c, h => by simp [joinL] at h
  | [p], c, h => by
    simp [joinL] at h
    exact .inr ⟨p, by simp, h⟩
  | p :: q :: r, c, h => by
    simp only [joinL, List.mem_append] at h
    rcases h with h | h | h
    · exact .inr ⟨p, by simp, h⟩
    · exact .inl h
    · rcases joinL_mem S (q :: r) c h with h | ⟨z, h1, h2⟩
      · exact .inl h
      · exact .inr ⟨z, List.mem_cons_of_mem _ h1, h2⟩
theorem Cs.join {y : Str} {ps : List Str} (hy : Cs y) (hp : ∀ p ∈ ps, Cs p) : Cs (Txt.join y ps) := fun c hc => by
  have hc : c ∈ tl (Txt.join y ps) := hc
  rw [join_eq, tl_join] at hc
  rcases joinL_mem _ _ c hc with q | ⟨p, h1, h2⟩
  · exact hy c q
  · obtain ⟨z, hz, rfl⟩ := List.mem_map.mp h1
    exact hp z hz c h2
theorem join_len (y : Str) (ps : List Str) : (Txt.join y ps).length ≤ joinN y ps := by
  rw [join_eq]
  exact PySem.StrLaws.join_length_le y ps
theorem app_len (x y : Str) : (x ++ y).length = x.length + y.length := by
  rw [len_tl, tl_append, List.length_append, ← len_tl, ← len_tl]
theorem split_join' {s : Nat} (h : s < 256) {parts : List Str} (hne : parts ≠ []) (hp : ∀ p ∈ parts, s ∉ p.cps.toList) : Txt.split (Txt.join (sg s) parts) (sg s) = parts :=
  split_join (y := sg s) (s := s) (S := []) rfl (by unfold sg; simp [h]) hne hp
/-- a text without the sign is one part -/
theorem split_one {s : Nat} (h : s < 256) {x : Str} (hx : s ∉ x.cps.toList) : Txt.split x (sg s) = [x] := by
  have := split_join' h (parts := [x]) (by simp) (fun p hp => by rw [List.mem_singleton.mp hp]; exact hx)
  have e : Txt.join (sg s) [x] = x := by rw [join_eq]; rfl
  rwa [e] at this
end DL
end
section -- P1
set_option maxRecDepth 100000
set_option maxHeartbeats 2000000
namespace DL
open PySem PySem.Spec PyProof.Rows L2 TL
noncomputable abbrev Φ_whole : Phi := phiOf 3 3 [] D_whole.1
theorem whole_int (i lo hi : Int) : Tells Φ_whole [.val (.int i), .val (.int lo), .val (.int hi)] (.bool (decide (lo ≤ i) && decide (i ≤ hi))) := by
  refine tells_of (phi_W rfl ?_)
  simp [D_whole]
  by_cases h : lo ≤ i <;> simp [h] <;> omega

noncomputable abbrev Φ_number : Phi := phiOf 2 1 [] D_number_of.1
def isDig (c : Nat) : Bool := decide (c ∈ (Str.ofString "0123456789").cps.toList)
theorem isDig_iff {c : Nat} : isDig c = true ↔ 48 ≤ c ∧ c ≤ 57 := by
  have e : (Str.ofString "0123456789").cps.toList = [48, 49, 50, 51, 52, 53, 54, 55, 56, 57] := by decide
  unfold isDig
  rw [e, decide_eq_true_eq]
  simp only [List.mem_cons, List.not_mem_nil, or_false]
  omega
/-- the number that a text is, or None -/
def numOf (w : Str) : D := if 1 ≤ w.length ∧ w.length ≤ 20 ∧ ¬ (w.cps.toList.head? = some 48 ∧ w ≠ "0") ∧ w.cps.toList.all isDig = true then .int (NumText.digitsVal w.cps.toList : Nat) else .none
theorem chrs_len (w : Str) : (chrs w).length = w.length := by unfold chrs; simp [Str.length]
def digB : D → D
  | .str x => .bool (isDig (x.cps.getD 0 0))
  | d => d
theorem digs_bls (w : Str) : bls ((chrs w).map digB) = some (w.cps.toList.map isDig) := by
  have e : (chrs w).map digB = (w.cps.toList.map isDig).map PyData.bool := by
    unfold chrs
    rw [List.map_map, List.map_map]
    rfl
  rw [e, bls_map]
theorem figs_W (w : Str) (hw : w.length ≤ LIM) {Q : EV → Sta → Prop} {E : Str → D → Sta → Prop} (hq : Q (.list ((chrs w).map digB), true) [.val (.str w), .un]) : (lcLoop [1] (gSlot 1) dYes (dVal (dCmp .In (dVar 1) (dC (.str "0123456789")))) [] (chrs w) [.val (.str w), .un]).W Q E := by
  refine lc_M digB rfl (by rw [chrs_len]; exact hw) (fun d hd => ?_) hq
  unfold chrs at hd
  obtain ⟨c, _, rfl⟩ := List.mem_map.mp hd
  refine ⟨[.val (.str w), .val (.str ⟨#[c]⟩)], rfl, rfl, ?_⟩
  simp [cmpD, inS, digB, isDig]
theorem one_eq0 (c : Nat) : ((⟨#[c]⟩ : Str) = ("0" : Str)) ↔ c = 48 := by
  constructor
  · intro z
    have := congrArg (fun x : Str => x.cps.toList) z
    have e : (Str.ofString "0").cps.toList = [48] := by decide
    change [c] = (Str.ofString "0").cps.toList at this
    rw [e] at this
    simpa using this
  · intro z; subst z; decide
theorem allDig {l : List Nat} (h : l.all isDig = true) : NumText.AllDigits l := fun c hc => isDig_iff.mp (List.all_eq_true.mp h c hc)
theorem ofNat_back {c : Nat} (h : c ≤ 57) : (Char.ofNat c).toNat = c := by
  have : ∀ c : Nat, c ≤ 57 → (Char.ofNat c).toNat = c := by decide
  exact this c h
theorem numL_back {cs : List Nat} (h : NumText.AllDigits cs) : numL (NumText.digitsVal cs) = match cs.dropWhile (· == 48) with
    | [] => [48]
    | c :: r => c :: r := by
  unfold numL
  rw [NumText.toDigits_all cs h]
  have hm : ∀ c ∈ cs.dropWhile (· == 48), c ≤ 57 := fun c hc => (h c ((List.dropWhile_sublist _).subset hc)).2
  cases e : cs.dropWhile (· == 48) with
  | nil => rfl
  | cons c r =>
    rw [e] at hm
    dsimp only
    rw [List.map_map]
    conv => rhs; rw [← List.map_id (c :: r)]
    exact List.map_congr_left fun d hd => ofNat_back (hm d hd)
theorem drop_len (cs : List Nat) : (cs.dropWhile (· == 48)).length ≤ cs.length := (List.dropWhile_sublist _).length_le
/-- a row of figures is its number's own, if it begins with no 0 or is that alone -/
theorem numL_iff {cs : List Nat} (h : NumText.AllDigits cs) (h0 : cs ≠ []) : numL (NumText.digitsVal cs) = cs ↔ (cs = [48] ∨ cs.head? ≠ some 48) := by
  rw [numL_back h]
  cases cs with
  | nil => exact absurd rfl h0
  | cons c r =>
    by_cases e : c = 48
    · subst e
      rw [List.dropWhile_cons, if_pos (by simp)]
      have hl := drop_len r
      constructor
      · intro z
        split at z
        · exact .inl z.symm
        · rename_i d s e
          rw [e] at hl
          have := congrArg List.length z
          simp only [List.length_cons] at this hl
          omega
      · intro z
        rcases z with z | z
        · cases z; rfl
        · exact absurd rfl z
    · rw [List.dropWhile_cons, if_neg (by simpa using e)]
      exact ⟨fun _ => .inr (by simpa using e), fun _ => rfl⟩
theorem eq0_iff (w : Str) : w = ("0" : Str) ↔ w.cps.toList = [48] := by
  have e : (Str.ofString "0").cps.toList = [48] := by decide
  constructor
  · intro h; subst h; exact e
  · intro h
    refine TL.ext_tl ?_
    show w.cps.toList = (Str.ofString "0").cps.toList
    rw [h, e]
theorem len_ne {w : Str} (h : 1 ≤ w.length) : w.cps.toList ≠ [] := by
  intro e
  have : w.length = 0 := by simp [Str.length, ← Array.length_toList, e]
  omega
theorem number_tells (w : Str) (h : w.length ≤ LIM) : Tells Φ_number [.val (.str w)] (numOf w) := by
  refine tells_of (phi_W rfl ?_)
  simp [D_number_of, h]
  by_cases c1 : 1 ≤ w.length
  case neg => exact .inl ⟨by omega, by rw [numOf, if_neg (fun z => c1 z.1)]⟩
  refine .inr ⟨by omega, ?_⟩
  by_cases c2 : w.length ≤ 20
  case neg => exact .inl ⟨by omega, by rw [numOf, if_neg (fun z => c2 z.2.1)]⟩
  refine .inr ⟨by omega, ?_⟩
  have hne := len_ne c1
  obtain ⟨c, r, hr⟩ : ∃ c r, w.cps.toList = c :: r := by
    cases e : w.cps.toList with
    | nil => exact absurd e hne
    | cons c r => exact ⟨c, r, rfl⟩
  refine ⟨c, by rw [hr]; simp, ?_⟩
  have main : ¬ (w.cps.toList.head? = some 48 ∧ w ≠ "0") → (lcLoop [1] (gSlot 1) dYes (dVal (dCmp .In (dVar 1) (dC (.str "0123456789")))) [] (chrs w) [.val (.str w), .un]).W
      (fun a δ1 => (kAll a.fst δ1).W (fun a δ1 => truD a.fst = some false ∧ PyData.none = numOf w ∨ truD a.fst = some true ∧ (∃ x, δ1[0]?.bind slD = some x) ∧ ∃ d, δ1[0]?.bind slD = some d ∧ (kInt d δ1).W (fun a x => a.fst = numOf w) fun x x_1 x_2 => False) fun x x_1 x_2 => False) fun x x_1 x_2 => False := by
    intro hz
    refine figs_W w h ?_
    simp [digs_bls]
    by_cases ha : w.cps.toList.all isDig = true
    · refine .inr ⟨fun x hx => List.all_eq_true.mp ha x (by simpa using hx), _, PySem.intText_digits (allDig ha) hne (by omega), by omega, ?_⟩
      rw [numOf, if_pos ⟨c1, c2, hz, ha⟩]
    · refine .inl ⟨?_, by rw [numOf, if_neg (fun z => ha z.2.2.2)]⟩
      have ha' : ¬ ∀ x ∈ w.cps.toList, isDig x = true := fun z => ha (List.all_eq_true.mpr z)
      simpa using ha'
  by_cases c3 : c = 48
  · refine .inr ⟨(one_eq0 c).mpr c3, ?_⟩
    by_cases c4 : w = ("0" : Str)
    · exact .inl ⟨c4, main fun z => z.2 c4⟩
    · refine .inr ⟨c4, ?_⟩
      rw [numOf, if_neg]
      intro z
      exact z.2.2.1 ⟨by rw [hr, c3]; rfl, c4⟩
  · refine .inl ⟨fun z => c3 ((one_eq0 c).mp z), main fun z => c3 ?_⟩
    have := z.1
    rw [hr] at this
    simpa using this
theorem strI_tl (n : Nat) : (strI ((n : Nat) : Int)).cps.toList = numL n := TL.tl_num n
theorem dv_lt : ∀ (cs : List Nat) (a : Nat), NumText.AllDigits cs → cs.foldl (fun acc c => acc * 10 + (c - 48)) a < (a + 1) * 10 ^ cs.length
  | [], a, _ => by simp
  | c :: cs, a, h => by
    have h1 := h.head
    have ih := dv_lt cs (a * 10 + (c - 48)) h.tail
    rw [List.foldl_cons, List.length_cons]
    refine Nat.lt_of_lt_of_le ih ?_
    rw [Nat.pow_succ, Nat.mul_comm (10 ^ cs.length) 10, ← Nat.mul_assoc]
    exact Nat.mul_le_mul_right _ (by omega)
theorem dig_lt {cs : List Nat} (h : NumText.AllDigits cs) : NumText.digitsVal cs < 10 ^ cs.length := by
  have := dv_lt cs 0 h
  simpa [NumText.digitsVal] using this
theorem dig_lt20 {cs : List Nat} (h : NumText.AllDigits cs) (hl : cs.length ≤ 20) : NumText.digitsVal cs < 10 ^ 20 := Nat.lt_of_lt_of_le (dig_lt h) (Nat.pow_le_pow_right (by decide) hl)
theorem log_of {n : Nat} (h : n < 10 ^ 20) : n.log2 < 1920 := by
  by_cases e : n = 0
  · subst e; decide
  · exact Nat.lt_of_lt_of_le ((Nat.log2_lt e).mpr (Nat.lt_of_lt_of_le h (show 10 ^ 20 ≤ 2 ^ 70 by decide))) (by decide)
noncomputable abbrev Φ_xnumber : Phi := phiOf 2 1 [] D__law_xa_number_read.1
def oddC : D → Bool
  | .str x => !isDig (x.cps.getD 0 0)
  | _ => false
theorem odd_empty (w : Str) : ((chrs w).filter oddC).isEmpty = w.cps.toList.all isDig := by
  unfold chrs
  induction w.cps.toList with
  | nil => rfl
  | cons c r ih =>
    rw [List.map_cons, List.filter_cons]
    cases h : isDig c with
    | true => simp [oddC, h] at ih ⊢; exact ih
    | false => simp [oddC, h]
theorem xnumber_tells (w : Str) (h : w.length ≤ LIM) (hc : Cs w) : Tells Φ_xnumber [.val (.str w)] (numOf w) := by
  refine tells_of (phi_W rfl ?_)
  simp [D__law_xa_number_read, h]
  by_cases c1 : 1 ≤ w.length
  case neg => exact .inl ⟨by omega, by rw [numOf, if_neg (fun z => c1 z.1)]⟩
  refine .inr ⟨by omega, ?_⟩
  by_cases c2 : w.length ≤ 20
  case neg => exact .inl ⟨by omega, by rw [numOf, if_neg (fun z => c2 z.2.1)]⟩
  refine .inr ⟨by omega, ?_⟩
  have hne := len_ne c1
  refine lc_F oddC rfl (by rw [chrs_len]; exact h) (fun d hd => ?_) ?_
  · unfold chrs at hd
    obtain ⟨c, _, rfl⟩ := List.mem_map.mp hd
    refine ⟨[.val (.str w), .val (.str ⟨#[c]⟩)], rfl, rfl, ?_, fun _ => ?_⟩
    · simp [cmpD, inS, isDig, oddC]
    · simp
  · have e := eqD_nilL (ds := (chrs w).filter oddC) fun d hd => by
      have hd := (List.mem_filter.mp hd).1
      unfold chrs at hd
      obtain ⟨c, h1, rfl⟩ := List.mem_map.mp hd
      exact Cs.lay fun d hd => by
        have : d = c := by simpa using hd
        subst this
        exact hc _ h1
    rw [odd_empty] at e
    dsimp only
    rw [e]
    by_cases ha : w.cps.toList.all isDig = true
    case neg => exact .inr ⟨by simpa using ha, by rw [numOf, if_neg (fun z => ha z.2.2.2)]⟩
    refine .inl ⟨by rw [ha], ?_⟩
    have had := allDig ha
    have hl := log_of (dig_lt20 had (show w.cps.toList.length ≤ 20 by simpa [Str.length] using c2))
    simp [PySem.intText_digits had hne (by omega), hl, show w.length ≤ 640 by omega]
    have key := numL_iff had hne
    by_cases hw : strI ((NumText.digitsVal w.cps.toList : Nat) : Int) = w
    · refine .inr ⟨hw, ?_⟩
      have : numL (NumText.digitsVal w.cps.toList) = w.cps.toList := by rw [← strI_tl, hw]
      have hz : ¬ (w.cps.toList.head? = some 48 ∧ w ≠ "0") := fun z => by
        rcases key.mp this with k | k
        · exact z.2 ((eq0_iff w).mpr k)
        · exact k z.1
      rw [numOf, if_pos ⟨c1, c2, hz, ha⟩]
    · refine .inl ⟨hw, ?_⟩
      rw [numOf, if_neg]
      intro z
      refine hw (TL.ext_tl ?_)
      refine (strI_tl _).trans (key.mpr ?_)
      by_cases k : w.cps.toList.head? = some 48
      · left
        exact (eq0_iff w).mp (Classical.byContradiction fun q => z.2.2.1 ⟨k, q⟩)
      · exact .inr k
end DL
end
section -- P2
set_option maxRecDepth 100000
set_option maxHeartbeats 2000000
namespace DL
open PySem PySem.Spec PyProof.Rows L2 TL
theorem dot_eq : Str.ofString "." = sg 46 := by decide
theorem sp_eq : Str.ofString " " = sg 32 := by decide
theorem nl_eq : Str.ofString "\n" = sg 10 := by decide
theorem numOf_two (w : Str) : numOf w = .none ∨ ∃ n : Nat, numOf w = .int n := by
  unfold numOf
  split
  · exact .inr ⟨_, rfl⟩
  · exact .inl rfl
def spotOf (w : Str) : D := match Txt.split w (sg 46) with
  | [a, b] => if isNon (numOf a) || isNon (numOf b) then .none else .tuple [numOf a, numOf b]
  | _ => .none
def sF (f : Str → D) : D → D
  | .str p => f p
  | d => d
theorem sF_map (f : Str → D) (ps : List Str) : (ps.map PyData.str).map (sF f) = ps.map f := by
  rw [List.map_map]; rfl
theorem lim_val : LIM = 16777216 := rfl
noncomputable abbrev Φ_spot : Phi := phiOf 4 1 [] D_spot_of.1
theorem spot_tells (w : Str) (h : w.length + 2 ≤ LIM) : Tells Φ_spot [.val (.str w)] (spotOf w) := by
  have hl := split_len (s := 46) (by decide) w
  have hm := fun p hp => (split_mem (s := 46) (by decide) (x := w) (p := p) hp).1
  refine tells_of (phi_W rfl ?_)
  simp [D_spot_of, h, dot_eq]
  refine ⟨by decide, ?_⟩
  have e : spotOf w = match Txt.split w (sg 46) with
    | [a, b] => if isNon (numOf a) || isNon (numOf b) then .none else .tuple [numOf a, numOf b]
    | _ => .none := rfl
  rw [e]
  generalize Txt.split w (sg 46) = ps at hl hm
  match ps, hm with
  | [], _ => right; simp
  | [a], _ => right; simp
  | a :: b :: c :: r, _ => right; simp; omega
  | [a, b], hm =>
    left
    simp
    refine (number_tells a (by have := hm a (by simp); omega)).W fun f o => ?_
    refine ⟨.str b, by simpa using atI_n [PyData.str a, .str b] 1 (by simp), ?_⟩
    refine (number_tells b (by have := hm b (by simp); omega)).W fun f o => ?_
    cases h1 : isNon (numOf a) <;> cases h2 : isNon (numOf b) <;> simp [lim_val]
theorem notin_none {xs : List D} (h : ∀ x ∈ xs, x = .none ∨ ∃ n : Nat, x = .int n) : cmpD .NotIn .none (.list xs) = some (!xs.any isNon) := by
  have h1 : xs.all flatD = true := List.all_eq_true.mpr fun x hx => by
    rcases h x hx with rfl | ⟨n, rfl⟩ <;> rfl
  have h2 : (xs.any fun y => eqF y .none) = xs.any isNon := by
    induction xs with
    | nil => rfl
    | cons y r ih =>
      rw [List.any_cons, List.any_cons, ih (fun x hx => h x (List.mem_cons_of_mem _ hx)) (by simp only [List.all_cons, Bool.and_eq_true] at h1; exact h1.2)]
      rcases h y List.mem_cons_self with rfl | ⟨n, rfl⟩ <;> rfl
  have h3 : inD .none xs = some (xs.any isNon) := by
    unfold inD
    rw [h1, h2]
    rfl
  simp [cmpD, h3]
noncomputable abbrev Φ_xspot : Phi := phiOf 3 1 [] D__law_dt_spot_read.1
theorem xspot_tells (w : Str) (h : w.length + 2 ≤ LIM) (hc : Cs w) : Tells Φ_xspot [.val (.str w)] (spotOf w) := by
  have hl := split_len (s := 46) (by decide) w
  have hm := fun p hp => (split_mem (s := 46) (by decide) (x := w) (p := p) hp).1
  have hcs := fun p hp => Cs.split (s := 46) (by decide) (x := w) (p := p) hc hp
  refine tells_of (phi_W rfl ?_)
  simp [D__law_dt_spot_read, h, dot_eq]
  refine ⟨by decide, ?_⟩
  have e : spotOf w = match Txt.split w (sg 46) with
    | [a, b] => if isNon (numOf a) || isNon (numOf b) then .none else .tuple [numOf a, numOf b]
    | _ => .none := rfl
  rw [e]
  generalize Txt.split w (sg 46) = ps at hl hm hcs
  refine lc_M (sF numOf) rfl (by rw [List.length_map]; omega) (fun d hd => ?_) ?_
  · obtain ⟨p, hp, rfl⟩ := List.mem_map.mp hd
    refine ⟨[.val (.str w), .un, .val (.str p)], rfl, rfl, ?_⟩
    simp
    exact (xnumber_tells p (by have := hm p hp; omega) (hcs p hp)).W fun f o => rfl
  · rw [sF_map]
    simp
    have nn := notin_none (xs := ps.map numOf) fun x hx => by
      obtain ⟨p, _, rfl⟩ := List.mem_map.mp hx
      exact numOf_two p
    match ps, nn with
    | [], _ => simp
    | [a], _ => simp
    | a :: b :: c :: r, _ => left; simp; omega
    | [a, b], nn =>
      right
      simp at nn ⊢
      rw [nn]
      cases h1 : isNon (numOf a) <;> cases h2 : isNon (numOf b) <;> simp
end DL
end
section -- P3
set_option maxRecDepth 100000
set_option maxHeartbeats 2000000
namespace DL
open PySem PySem.Spec PyProof.Rows L2 TL
/-- the places (from k on) that are no number, or beyond m -/
def bads (m : Nat) : List D → Nat → List Nat
  | [], _ => []
  | d :: r, k => if (isNon d || decide (m < k)) = true then k :: bads m r (k + 1) else bads m r (k + 1)
def pB (m : Nat) (nums : List D) : D → Bool
  | .int i => match nums[i.toNat]? with
    | some d => isNon d || decide ((m : Int) ≤ i)
    | none => false
  | _ => false
def fB : D → D
  | .int i => .int (i + 1)
  | d => d
theorem rng_succ (lo : Int) (n : Nat) : rng lo (n + 1) = .int lo :: rng (lo + 1) n := by
  unfold rng
  rw [List.range_succ_eq_map, List.map_cons, List.map_map]
  congr 1
  · simp
  · apply List.map_congr_left
    intro i _
    simp
    omega
theorem rng_zero (lo : Int) : rng lo 0 = [] := rfl
theorem bads_eq (m : Nat) (nums : List D) : ∀ (q p : List D), nums = p ++ q → ((rng p.length q.length).filter (pB m nums)).map fB = (bads m q (p.length + 1)).map fun k => .int (k : Nat)
  | [], p, h => by simp [rng_zero, bads]
  | d :: q, p, h => by
    have ih := bads_eq m nums q (p ++ [d]) (by rw [h]; simp)
    rw [List.length_cons, rng_succ, List.filter_cons]
    have e : pB m nums (.int p.length) = (isNon d || decide (m < p.length + 1)) := by
      have g : nums[p.length]? = some d := by rw [h]; simp
      simp only [pB, Int.toNat_natCast, g]
      congr 1
      simp only [decide_eq_decide]
      omega
    have e2 : ((p.length : Int) + 1) = (((p ++ [d]).length : Nat) : Int) := by simp
    rw [e, e2]
    unfold bads
    have e3 : (p ++ [d]).length = p.length + 1 := by simp
    rw [e3] at ih ⊢
    split
    · rw [List.map_cons, List.map_cons, ih]
      simp [fB]
    · exact ih
theorem bads_len (m : Nat) : ∀ (ds : List D) (k : Nat), (bads m ds k).length ≤ ds.length
  | [], _ => by simp [bads]
  | d :: r, k => by
    have ih := bads_len m r (k + 1)
    unfold bads
    split
    · simp only [List.length_cons]; omega
    · simp only [List.length_cons]; omega
theorem num_lay (w : Str) : Lay 0 (numOf w) := by
  rcases numOf_two w with h | ⟨n, h⟩
  · rw [h]; exact lay_none
  · rw [h]; exact lay_int _
theorem spot_lay (w : Str) : Lay 1 (spotOf w) := by
  unfold spotOf
  split
  · split
    · exact lay_none
    · refine lay_tuple fun d hd => ?_
      rcases List.mem_cons.mp hd with rfl | hd
      · exact num_lay _
      · rw [List.mem_singleton.mp hd]; exact num_lay _
  · exact lay_none
def manyOf (w : Str) : Option Nat := if w = "place" then some 0 else if w = "move" then some 3 else if w = "unmove" then some 3 else if w = "changer" then some 1 else if w = "plain" then some 1 else if w = "stop" then some 1 else none
def lawTab : List (Str × Int) := [(PySem.Str.ofString "place", 0), (PySem.Str.ofString "move", 3), (PySem.Str.ofString "unmove", 3), (PySem.Str.ofString "changer", 1), (PySem.Str.ofString "plain", 1), (PySem.Str.ofString "stop", 1)]
theorem lawTab_get (w : Str) : lastI lawTab w = (manyOf w).map fun (n : Nat) => (n : Int) := by
  unfold manyOf lawTab
  by_cases h1 : w = Str.ofString "place"
  · subst h1; decide
  by_cases h2 : w = Str.ofString "move"
  · subst h2; decide
  by_cases h3 : w = Str.ofString "unmove"
  · subst h3; decide
  by_cases h4 : w = Str.ofString "changer"
  · subst h4; decide
  by_cases h5 : w = Str.ofString "plain"
  · subst h5; decide
  by_cases h6 : w = Str.ofString "stop"
  · subst h6; decide
  simp [lastI, h1, h2, h3, h4, h5, h6]
theorem numTab_get (w : Str) : T_DEED_NUMBERS.lookup w = (manyOf w).map fun (n : Nat) => PyData.int (n : Int) := by
  unfold manyOf T_DEED_NUMBERS
  by_cases h1 : w = Str.ofString "place"
  · subst h1; rfl
  by_cases h2 : w = Str.ofString "move"
  · subst h2; rfl
  by_cases h3 : w = Str.ofString "unmove"
  · subst h3; rfl
  by_cases h4 : w = Str.ofString "changer"
  · subst h4; rfl
  by_cases h5 : w = Str.ofString "plain"
  · subst h5; rfl
  by_cases h6 : w = Str.ofString "stop"
  · subst h6; rfl
  have b : ∀ x : Str, w ≠ x → (w == x) = false := fun x h => beq_eq_false_iff_ne.mpr h
  simp only [tabD, List.map_cons, List.map_nil, List.lookup, b _ h1, b _ h2, b _ h3, b _ h4, b _ h5, b _ h6, if_neg h1, if_neg h2, if_neg h3, if_neg h4, if_neg h5, if_neg h6]
  rfl
def runRes (sp : List D) : Except Nat D := match bads 40 sp 1 with
  | k :: _ => .error k
  | [] => if sp = [] then .error 1 else .ok (.tuple [.str "run", .tuple sp])
def numRes (w : Str) (m : Nat) (nums : List D) : Except Nat D := match bads m nums 1 with
  | k :: _ => .error k
  | [] => if nums.length < m then .error (nums.length + 1) else .ok (.tuple (.str w :: nums))
def lineRes : List Str → Except Nat D
  | [] => .error 0
  | w :: r => if w = "run" then runRes (r.map spotOf) else match manyOf w with
    | none => .error 0
    | some m => numRes w m (r.map numOf)
def lineD (ws : List Str) : D := match lineRes ws with
  | .error k => .tuple [.none, .int (k : Nat)]
  | .ok d => .tuple [d, .int (-1)]
noncomputable abbrev Φ_xline : Phi := phiOf 8 1 [] D__law_dt_line_read.1
theorem xline_tells (w : Str) (h : w.length + 100 ≤ LIM) (hc : Cs w) : Tells Φ_xline [.val (.str w)] (lineD (Txt.split w (sg 32))) := by
  have hl := split_len (s := 32) (by decide) w
  have hn := split_ne (s := 32) (by decide) w
  have hm := fun p hp => (split_mem (s := 32) (by decide) (x := w) (p := p) hp).1
  have hcs := fun p hp => Cs.split (s := 32) (by decide) (x := w) (p := p) hc hp
  refine tells_of (phi_W rfl ?_)
  simp [D__law_dt_line_read, show w.length + 2 ≤ LIM by omega, sp_eq]
  refine ⟨by decide, ?_⟩
  generalize Txt.split w (sg 32) = ws at hl hn hm hcs
  cases ws with
  | nil => exact absurd rfl hn
  | cons w0 r =>
    rw [List.length_cons] at hl
    refine ⟨.str w0, by simp, ?_⟩
    by_cases hw : w0 = Str.ofString "run"
    · simp [hw]
      refine lc_M (sF spotOf) rfl (by rw [List.length_map]; omega) (fun d hd => ?_) ?_
      · obtain ⟨p, hp, rfl⟩ := List.mem_map.mp hd
        refine ⟨_, rfl, rfl, ?_⟩
        simp
        exact (xspot_tells p (by have := hm p (List.mem_cons_of_mem _ hp); omega) (hcs p (List.mem_cons_of_mem _ hp))).W fun f o => rfl
      · rw [sF_map]
        simp
        rw [lim_val] at h
        refine ⟨by omega, ?_⟩
        refine lc_R (pB 40 (r.map spotOf)) fB rfl (by unfold rng; simp [lim_val]; omega) (fun d hd => ?_) ?_
        · unfold rng at hd
          obtain ⟨i, hi, rfl⟩ := List.mem_map.mp hd
          have hi : i < r.length := List.mem_range.mp hi
          refine ⟨_, rfl, rfl, ?_, fun hp => ?_⟩
          · simp
            have g : (r.map spotOf)[i]? = some (spotOf r[i]) := by simp [hi]
            refine ⟨spotOf r[i], by rw [atI_n _ _ (by simpa using hi), g], ?_⟩
            simp only [pB, Int.toNat_natCast, g]
            cases isNon (spotOf r[i]) <;> simp
            omega
          · simp [fB]
        · have be := bads_eq 40 (r.map spotOf) (r.map spotOf) [] rfl
          rw [List.length_map] at be
          have be : ((rng 0 r.length).filter (pB 40 (r.map spotOf))).map fB = (bads 40 (r.map spotOf) 1).map fun (k : Nat) => PyData.int (k : Int) := be
          rw [be]
          have e1 := eqD_nilL (ds := (bads 40 (r.map spotOf) 1).map fun (k : Nat) => PyData.int (k : Int)) fun x hx => by
            obtain ⟨k, _, rfl⟩ := List.mem_map.mp hx
            exact lay_int _
          have e2 := eqD_nilL (ds := r.map spotOf) fun x hx => by
            obtain ⟨k, _, rfl⟩ := List.mem_map.mp hx
            exact (spot_lay k).up (by decide)
          have hb := bads_len 40 (r.map spotOf) 1
          rw [List.length_map] at hb
          have el : lineD (Str.ofString "run" :: r) = match runRes (r.map spotOf) with
            | .error k => .tuple [.none, .int (k : Nat)]
            | .ok d => .tuple [d, .int (-1)] := by
            simp [lineD, lineRes]
          rw [el]
          unfold runRes
          simp [e1, e2]
          cases q : bads 40 (r.map spotOf) 1 with
          | nil =>
            left
            cases r with
            | nil => simp [lim_val]
            | cons a r => simp [lim_val]
          | cons k t =>
            right
            rw [q] at hb
            simp [lim_val]
            simp at hb
            omega
    · simp [hw]
      have ht : lastI [(PySem.Str.ofString "place", 0), (PySem.Str.ofString "move", 3), (PySem.Str.ofString "unmove", 3), (PySem.Str.ofString "changer", 1), (PySem.Str.ofString "plain", 1), (PySem.Str.ofString "stop", 1)] w0 = _ := lawTab_get w0
      rw [ht]
      have el : lineD (w0 :: r) = match manyOf w0 with
        | none => .tuple [.none, .int 0]
        | some m => match numRes w0 m (r.map numOf) with
          | .error k => .tuple [.none, .int (k : Nat)]
          | .ok d => .tuple [d, .int (-1)] := by
        simp [lineD, lineRes, hw]
        cases manyOf w0 <;> rfl
      rw [el]
      cases hm0 : manyOf w0 with
      | none =>
        right
        simp [lim_val]
      | some m =>
        left
        simp
        rw [lim_val] at h
        refine lc_M (sF numOf) rfl (by rw [List.length_map, lim_val]; omega) (fun d hd => ?_) ?_
        · obtain ⟨p, hp, rfl⟩ := List.mem_map.mp hd
          refine ⟨_, rfl, rfl, ?_⟩
          simp
          exact (xnumber_tells p (by have := hm p (List.mem_cons_of_mem _ hp); rw [lim_val]; omega) (hcs p (List.mem_cons_of_mem _ hp))).W fun f o => rfl
        · rw [sF_map]
          simp
          refine ⟨by omega, ?_⟩
          refine lc_R (pB m (r.map numOf)) fB rfl (by unfold rng; simp [lim_val]; omega) (fun d hd => ?_) ?_
          · unfold rng at hd
            obtain ⟨i, hi, rfl⟩ := List.mem_map.mp hd
            have hi : i < r.length := List.mem_range.mp hi
            refine ⟨_, rfl, rfl, ?_, fun hp => ?_⟩
            · simp
              have g : (r.map numOf)[i]? = some (numOf r[i]) := by simp [hi]
              refine ⟨numOf r[i], by rw [atI_n _ _ (by simpa using hi), g], ?_⟩
              simp only [pB, Int.toNat_natCast, g]
              cases isNon (numOf r[i]) <;> simp
            · simp [fB]
          · have be := bads_eq m (r.map numOf) (r.map numOf) [] rfl
            rw [List.length_map] at be
            have be : ((rng 0 r.length).filter (pB m (r.map numOf))).map fB = (bads m (r.map numOf) 1).map fun (k : Nat) => PyData.int (k : Int) := be
            rw [be]
            have e1 := eqD_nilL (ds := (bads m (r.map numOf) 1).map fun (k : Nat) => PyData.int (k : Int)) fun x hx => by
              obtain ⟨k, _, rfl⟩ := List.mem_map.mp hx
              exact lay_int _
            have hb := bads_len m (r.map numOf) 1
            rw [List.length_map] at hb
            unfold numRes
            simp [e1]
            cases q : bads m (r.map numOf) 1 with
            | nil =>
              by_cases hlt : r.length < m
              · simp [lim_val, hlt]
              · simp [lim_val, hlt]; omega
            | cons k t =>
              rw [q] at hb
              simp [lim_val]
              simp at hb
              omega
/-- what is owed for a text -/
def owedD (t : Str) : D := match Txt.split t (sg 10) with
  | [] => .none
  | l :: ls => match lineRes (Txt.split l (sg 32)) with
    | .error k => .tuple [.str "WrongLine", .tuple [.int 0, .int (k : Nat)]]
    | .ok d => if ls = [] then .tuple [.str "told", d] else .tuple [.str "WrongLine", .tuple [.int 1, .int 0]]
noncomputable abbrev Φ_owed : Phi := phiOf 4 1 [] D__law_dt_owed.1
theorem owed_tells (t : Str) (h : t.length + 200 ≤ LIM) (hc : Cs t) : Tells Φ_owed [.val (.str t)] (owedD t) := by
  have hl := split_len (s := 10) (by decide) t
  have hn := split_ne (s := 10) (by decide) t
  have hm := fun p hp => (split_mem (s := 10) (by decide) (x := t) (p := p) hp).1
  have hcs := fun p hp => Cs.split (s := 10) (by decide) (x := t) (p := p) hc hp
  refine tells_of (phi_W rfl ?_)
  simp [D__law_dt_owed, show t.length + 2 ≤ LIM by omega, nl_eq]
  refine ⟨by decide, ?_⟩
  unfold owedD
  generalize Txt.split t (sg 10) = ws at hl hn hm hcs
  cases ws with
  | nil => exact absurd rfl hn
  | cons l ls =>
    refine ⟨.str l, by simp, ?_⟩
    refine (xline_tells l (by have := hm l (by simp); omega) (hcs l (by simp))).W fun f o => ?_
    unfold lineD
    cases q : lineRes (Txt.split l (sg 32)) with
    | error k =>
      simp [gTupD, gsCons, gsNil, gSlot, lim_val, q]
    | ok d =>
      simp [gTupD, gsCons, gsNil, gSlot, lim_val, q]
      cases ls with
      | nil => simp
      | cons a b => simp; omega
end DL
end
section -- P4
set_option maxRecDepth 100000
set_option maxHeartbeats 2000000
namespace DL
open PySem PySem.Spec PyProof.Rows L2 TL
@[simp] theorem F_for_nil {g : GDen} {b : SDen} {δ : Sta} {P : FP} : (forLoop g b [] δ).W P = P.N δ := F_nx
theorem F_for_cons {g : GDen} {b : SDen} {d : D} {ds : List D} {δ : Sta} {P : FP} : (forLoop g b (d :: ds) δ).W P ↔ ∃ δ1, g d δ = some δ1 ∧ (b δ1).W ⟨fun δ2 => (forLoop g b ds δ2).W P, P.N, fun δ2 => (forLoop g b ds δ2).W P, P.R, P.E⟩ := by
  conv => lhs; unfold forLoop
  cases g d δ with
  | none => simp
  | some δ1 =>
    simp
    cases b δ1 <;> simp only [Fl.W_eq] <;> exact Iff.rfl
noncomputable def runBody : SDen := (sSeq
          (sSet 3
            (dIf
              (dAnd (dCmp PySem.CmpOp.Lt (dVar 2) (dRd (dVarR 0) kLen))
                (dCmp PySem.CmpOp.LtE (dVar 2) (dC (PySem.PyData.int 40))))
              (dCall (phiOf 4 1 [] D_spot_of.val) (aVal (dIx (dVarR 0) (dVar 2)) aNil)) (dC PySem.PyData.none)))
          (sSeq
            (sIf (dCmp PySem.CmpOp.Is (dVar 3) (dC PySem.PyData.none))
              (sRet (dTupD (dCons (dC PySem.PyData.none) (dCons (dVar 2) dNil)))) sSkip)
            (sApp 1 (dVar 3))))
theorem run_loop (w0 : Str) {P : FP} (r : List Str) (hr : ∀ p ∈ r, p.length + 2 ≤ LIM) (hl : r.length + 10 ≤ LIM) : ∀ (q p : List Str) (a b : Sl), r = p ++ q →
    (match bads 40 (q.map spotOf) (p.length + 1) with
      | k :: _ => ∀ a δ, a.1 = .tuple [.none, .int (k : Nat)] → P.R a δ
      | [] => ∀ x y, P.N [.val (.list ((w0 :: r).map .str)), .own (.lst (r.map spotOf)), x, y]) →
    (forLoop (gSlot 2) runBody (rng ((p.length + 1 : Nat) : Int) q.length) [.val (.list ((w0 :: r).map .str)), .own (.lst (p.map spotOf)), a, b]).W P
  | [], p, a, b, h, hP => by
    rw [List.append_nil] at h
    subst h
    exact ⟨hP a b⟩
  | w :: q, p, a, b, h, hP => by
    have ih := run_loop w0 (P := P) r hr hl q (p ++ [w])
    rw [List.length_cons, rng_succ]
    have hlen : p.length + 1 + q.length = r.length := by rw [h]; simp; omega
    have hg : L2.atI (.str w0 :: r.map PyData.str) ((p.length : Int) + 1) = some (.str w) := by
      have := atI_n (.str w0 :: r.map PyData.str) (p.length + 1) (by simp; omega)
      rw [show ((p.length + 1 : Nat) : Int) = (p.length : Int) + 1 by omega] at this
      rw [this, h]; simp
    have e2 : (((p.length + 1 : Nat) : Int) + 1) = (((p ++ [w]).length + 1 : Nat) : Int) := by simp
    have hw := hr w (by rw [h]; simp)
    have e3 : (p ++ [w]).length = p.length + 1 := by simp
    rw [List.map_cons] at hP
    unfold bads at hP
    have key : (runBody [.val (.list ((w0 :: r).map .str)), .own (.lst (p.map spotOf)), .val (.int ((p.length + 1 : Nat) : Int)), b]).W ⟨fun δ => (forLoop (gSlot 2) runBody (rng (((p.length + 1 : Nat) : Int) + 1) q.length) δ).W P, fun δ => P.N δ, fun δ => (forLoop (gSlot 2) runBody (rng (((p.length + 1 : Nat) : Int) + 1) q.length) δ).W P, P.R, P.E⟩ := by
      obtain ⟨N, eN⟩ : ∃ N : Sta → Prop, N = fun δ => (forLoop (gSlot 2) runBody (rng (((p.length + 1 : Nat) : Int) + 1) q.length) δ).W P := ⟨_, rfl⟩
      have hN : ∀ x y, isNon (spotOf w) = false → p.length + 1 ≤ 40 → N [.val (.list ((w0 :: r).map .str)), .own (.lst (p.map spotOf ++ [spotOf w])), x, y] := by
        intro x y h1 h2
        rw [h1, if_neg (by simp; omega)] at hP
        rw [eN, e2]
        have := ih x y (by rw [h]; simp) (by rw [e3]; exact hP)
        rw [List.map_append] at this
        exact this
      rw [← eN]
      unfold runBody
      simp [hg]
      by_cases h40 : p.length + 1 ≤ 40
      · refine .inr ⟨by omega, .inr ⟨by omega, ?_⟩⟩
        refine (spot_tells w hw).W fun f o => ?_
        simp
        cases h1 : isNon (spotOf w) with
        | false =>
          left
          refine ⟨rfl, by rw [lim_val] at hl ⊢; omega, ?_⟩
          simpa using hN _ _ h1 h40
        | true =>
          right
          rw [h1, Bool.true_or, if_pos rfl] at hP
          exact ⟨rfl, by decide, hP _ _ (by simp)⟩
      · refine .inr ⟨by omega, .inl ⟨by omega, by decide, ?_⟩⟩
        rw [if_pos (by simp; omega)] at hP
        exact hP _ _ (by simp)
    exact F_for_cons.mpr ⟨_, rfl, key⟩
/-- a deed or the wrong word's place -/
def deedD : Except Nat D → D
  | .error k => .tuple [.none, .int (k : Nat)]
  | .ok d => .tuple [d, .none]
noncomputable abbrev Φ_run : Phi := phiOf 4 1 [] D_run_of.1
theorem run_tells (w0 : Str) (r : List Str) (hr : ∀ p ∈ r, p.length + 2 ≤ LIM) (hl : r.length + 10 ≤ LIM) : Tells Φ_run [.val (.list ((w0 :: r).map .str))] (deedD (runRes (r.map spotOf))) := by
  refine tells_of (phi_W rfl ?_)
  rw [lim_val] at hl
  cases r with
  | nil =>
    have e1 : rng 1 1 = [.int 1] := rfl
    simp [D_run_of, e1, F_for_cons, gSlot, lim_val]
    rfl
  | cons a r =>
    have e : ((if (2 : Int) < (r.length : Int) + 1 + 1 then (r.length : Int) + 1 + 1 else 2)).toNat - 1 = (a :: r).length := by
      rw [List.length_cons]
      split <;> omega
    simp [D_run_of]
    rw [List.length_cons] at hl
    refine ⟨⟨by split <;> omega, by split <;> omega⟩, ?_⟩
    rw [e]
    refine run_loop w0 (a :: r) hr (by rw [lim_val]; exact hl) (a :: r) [] .un .un rfl ?_
    unfold runRes
    rw [← List.map_cons]
    simp only [List.length_nil, Nat.zero_add]
    cases bads 40 (List.map spotOf (a :: r)) 1 with
    | nil => simp [deedD, lim_val]
    | cons k t => intro x y h; exact h
@[simp] theorem W_dIndex {Q : EV → Sta → Prop} {E : Str → D → Sta → Prop} {δ : Sta} (ga gb : Den) : (dIndex ga gb δ).W Q E = (ga δ).W (fun a δ1 => ∃ ds, a.1 = .list ds ∧ (gb δ1).W (fun b δ2 => (kIndex a b δ2).W Q E) E) E := by
  unfold dIndex
  rw [W_bind]
  congr 1
  funext a δ1
  obtain ⟨a, f⟩ := a
  cases a <;> simp [isLst]
theorem bads_head (m : Nat) : ∀ (ds : List D) (k : Nat), k ≤ m + 1 → match (ds.take (m + 1 - k)).findIdx? isNon with
    | some j => ∃ t, bads m ds k = (k + j) :: t
    | none => if m + 1 - k < ds.length then ∃ t, bads m ds k = (m + 1) :: t else bads m ds k = []
  | [], k, h => by simp [bads]
  | d :: r, k, h => by
    by_cases e : k = m + 1
    · subst e
      simp [bads]
    · have ih := bads_head m r (k + 1) (by omega)
      obtain ⟨n, hn⟩ : ∃ n, m + 1 - k = n + 1 := ⟨m - k, by omega⟩
      have hn2 : m + 1 - (k + 1) = n := by omega
      rw [hn2] at ih
      rw [hn, List.take_succ_cons, List.findIdx?_cons]
      cases h1 : isNon d with
      | true => simp [bads, h1]
      | false =>
        have e3 : bads m (d :: r) k = bads m r (k + 1) := by
          conv => lhs; unfold bads
          rw [if_neg (by simp [h1]; omega)]
        rw [e3]
        cases q : (r.take n).findIdx? isNon with
        | some j =>
          rw [q] at ih
          obtain ⟨t, ht⟩ := ih
          simp
          exact ⟨t, by rw [ht]; congr 1; omega⟩
        | none =>
          rw [q] at ih
          simp at ih ⊢
          exact ih
theorem in_none {xs : List D} (h : ∀ x ∈ xs, x = .none ∨ ∃ n : Nat, x = .int n) : cmpD .In .none (.list xs) = some (xs.any isNon) := by
  have := notin_none h
  simp only [cmpD] at this ⊢
  cases q : inD .none xs with
  | some k => rw [q] at this; simpa using this
  | none =>
    rw [q] at this
    cases q2 : inDD .none xs with
    | none => rw [q2] at this; simp at this
    | some k => rw [q2] at this; simpa using this
theorem index_none {xs : List D} {f : Bool} {δ : Sta} (h : ∀ x ∈ xs, x = .none ∨ ∃ n : Nat, x = .int n) {j : Nat} (hj : xs.findIdx? isNon = some j) : kIndex (.list xs, f) (.none, false) δ = .ok (.int (j : Nat), false) δ := by
  have h1 : xs.all flatD = true := List.all_eq_true.mpr fun x hx => by
    rcases h x hx with rfl | ⟨n, rfl⟩ <;> rfl
  have h2 : xs.findIdx? (fun z => eqF z .none) = xs.findIdx? isNon := by
    clear hj
    induction xs with
    | nil => rfl
    | cons y r ih =>
      rw [List.findIdx?_cons, List.findIdx?_cons, ih (fun x hx => h x (List.mem_cons_of_mem _ hx)) (by simp only [List.all_cons, Bool.and_eq_true] at h1; exact h1.2)]
      rcases h y List.mem_cons_self with rfl | ⟨n, rfl⟩ <;> rfl
  unfold kIndex
  dsimp only
  rw [if_pos (by rw [h1]; rfl), h2, hj]
noncomputable abbrev Φ_deed : Phi := phiOf 4 1 [] D_deed_of.1
theorem deed_tells (ws : List Str) (h0 : ws ≠ []) (hr : ∀ p ∈ ws, p.length + 2 ≤ LIM) (hl : ws.length + 10 ≤ LIM) : Tells Φ_deed [.val (.list (ws.map .str))] (deedD (lineRes ws)) := by
  refine tells_of (phi_W rfl ?_)
  cases ws with
  | nil => exact absurd rfl h0
  | cons w0 r =>
    rw [List.length_cons] at hl
    by_cases hw : w0 = Str.ofString "run"
    · simp [D_deed_of, hw]
      refine (run_tells _ r (fun p hp => hr p (List.mem_cons_of_mem _ hp)) (by omega)).W fun f o => ?_
      simp [lineRes]
    · have el : lineRes (w0 :: r) = match manyOf w0 with
        | none => .error 0
        | some m => numRes w0 m (r.map numOf) := by
        first
          | (simp [lineRes, hw]; done)
          | (simp [lineRes, hw]; cases manyOf w0 <;> rfl)
      rw [el]
      cases hm : manyOf w0 with
      | none => simp [D_deed_of, hw, numTab_get, hm, lim_val, deedD]
      | some m =>
        simp [D_deed_of, hw, numTab_get, hm]
        have hcut : cutD (PyData.str w0 :: r.map PyData.str) (some 1) (some ((m : Int) + 1)) = (r.take m).map PyData.str := by
          have := cut_mid (xs := PyData.str w0 :: r.map PyData.str) 1 (m + 1)
          rw [show ((m + 1 : Nat) : Int) = (m : Int) + 1 by omega] at this
          refine this.trans ?_
          rw [List.length_cons, List.length_map, show min 1 (r.length + 1) = 1 by omega, show min (m + 1) (r.length + 1) - 1 = min m r.length by omega, List.drop_one, List.tail_cons, List.map_take]
          by_cases hh : m ≤ r.length
          · rw [Nat.min_eq_left hh]
          · rw [Nat.min_eq_right (by omega), List.take_of_length_le (by simp), List.take_of_length_le (by simp; omega)]
        rw [hcut]
        refine lc_M (sF numOf) rfl (by rw [List.length_map, List.length_take]; omega) (fun d hd => ?_) ?_
        · obtain ⟨p, hp, rfl⟩ := List.mem_map.mp hd
          refine ⟨_, rfl, rfl, ?_⟩
          simp
          exact (number_tells p (by have := hr p (List.mem_cons_of_mem _ (List.mem_of_mem_take hp)); omega)).W fun f o => rfl
        · rw [sF_map, List.map_take]
          have nn : ∀ x ∈ (r.map numOf).take m, x = .none ∨ ∃ n : Nat, x = .int n := fun x hx => by
            obtain ⟨p, _, rfl⟩ := List.mem_map.mp (List.mem_of_mem_take hx)
            exact numOf_two p
          have hin := in_none nn
          have hix := fun f δ j hj => index_none (f := f) (δ := δ) nn (j := j) hj
          have hb := bads_head m (r.map numOf) 1 (by omega)
          rw [show m + 1 - 1 = m by omega] at hb
          rw [lim_val] at hl
          cases q : ((r.map numOf).take m).findIdx? isNon with
          | some j =>
            rw [q] at hb
            obtain ⟨t, ht⟩ := hb
            have hany : ((r.map numOf).take m).any isNon = true := by
              rw [List.any_eq_true]
              obtain ⟨hj, h1, _⟩ := List.findIdx?_eq_some_iff_getElem.mp q
              exact ⟨_, List.getElem_mem hj, h1⟩
            rw [hany] at hin
            dsimp only
            simp [hin, hix _ _ _ q, numRes, ht, deedD, lim_val]
            omega
          | none =>
            rw [q] at hb
            have hany : ((r.map numOf).take m).any isNon = false := by
              rw [List.any_eq_false]
              intro x hx
              have := List.findIdx?_eq_none_iff.mp q x hx
              simp [this]
            rw [hany] at hin
            dsimp only at hb
            rw [List.length_map] at hb
            simp [hin]
            by_cases hlt : m < r.length
            · rw [if_pos hlt] at hb
              obtain ⟨t, ht⟩ := hb
              right
              refine ⟨by omega, by decide, ?_⟩
              simp [numRes, ht, deedD, hlt]
            · rw [if_neg hlt] at hb
              by_cases he : r.length = m
              · left
                refine ⟨by omega, _, rfl, ?_, by decide, ?_⟩
                · simp [lim_val]; omega
                · simp [numRes, hb, deedD, he]
                  rw [List.take_of_length_le (by simp; omega)]
              · right
                refine ⟨by omega, by decide, ?_⟩
                simp [numRes, hb, deedD, hlt, show r.length < m by omega]
noncomputable abbrev Φ_signs : Phi := phiOf 2 2 [] D_asked_signs.1
noncomputable abbrev Φ_lines : Phi := phiOf 1 1 [] D_lines_of.1
noncomputable abbrev Φ_words : Phi := phiOf 1 1 [] D_words_of.1
noncomputable abbrev Φ_end : Phi := phiOf 2 2 [] D_asked_end.1
noncomputable abbrev Φ_read : Phi := phiOf 4 1 [] D_read_deed.1
theorem signs_tells (t : Str) (h : t.length ≤ 1000000) : Tells Φ_signs [.val (.str t), .val (.int 1000000)] (.str t) := by
  refine tells_of (phi_W rfl ?_)
  simp [D_asked_signs, lim_val, show t.length ≤ 16777216 by omega]
  omega
theorem signs_long (t : Str) (h : 1000000 < t.length) (h2 : t.length ≤ LIM) : Errs Φ_signs [.val (.str t), .val (.int 1000000)] "TooMany" (.int t.length) := by
  refine errs_of (phi_W rfl ?_)
  simp [D_asked_signs, h2]
  omega
theorem lines_tells (t : Str) (h : t.length ≤ 1000000) : Tells Φ_lines [.val (.str t)] (.list ((Txt.split t (sg 10)).map .str)) := by
  refine tells_of (phi_W rfl ?_)
  simp [D_lines_of, nl_eq]
  refine (signs_tells t h).W fun f o => ?_
  simp [lim_val]
  exact ⟨by decide, by omega⟩
theorem words_tells (t : Str) (h : t.length ≤ 1000000) : Tells Φ_words [.val (.str t)] (.list ((Txt.split t (sg 32)).map .str)) := by
  refine tells_of (phi_W rfl ?_)
  simp [D_words_of, sp_eq, lim_val]
  exact ⟨by decide, by omega⟩
/-- what the program answers for a text: a deed or the wrong place -/
def readR (t : Str) : Except D D := match Txt.split t (sg 10) with
  | [] => .error .none
  | l :: ls => match lineRes (Txt.split l (sg 32)) with
    | .error k => .error (.tuple [.int 0, .int (k : Nat)])
    | .ok d => if ls = [] then .ok d else .error (.tuple [.int 1, .int 0])
theorem end_ok (l : D) : Tells Φ_end [.val (.list [l]), .val (.int 1)] .none := by
  refine tells_of (phi_W rfl ?_)
  simp [D_asked_end]
theorem end_bad (l m : D) (ls : List D) : Errs Φ_end [.val (.list (l :: m :: ls)), .val (.int 1)] "WrongLine" (.tuple [.int 1, .int 0]) := by
  refine errs_of (phi_W rfl ?_)
  simp [D_asked_end, lim_val]
  omega
theorem read_all (t : Str) (h : t.length ≤ 1000000) {R : EV → Sta → Prop} {E : Str → D → Sta → Prop} (hR : ∀ d f o, readR t = .ok d → R (d, f) o) (hE : ∀ w o, readR t = .error w → E "WrongLine" w o) : (Φ_read [.val (.str t)]).W R E := by
  refine phi_W rfl ?_
  simp [D_read_deed]
  refine (lines_tells t h).W fun f o => ?_
  have hn := split_ne (s := 10) (by decide) t
  have hl := split_len (s := 10) (by decide) t
  have hm := fun p hp => (split_mem (s := 10) (by decide) (x := t) (p := p) hp).1
  have er : readR t = match Txt.split t (sg 10) with
    | [] => .error .none
    | l :: ls => match lineRes (Txt.split l (sg 32)) with
      | .error k => .error (.tuple [.int 0, .int (k : Nat)])
      | .ok d => if ls = [] then .ok d else .error (.tuple [.int 1, .int 0]) := rfl
  rw [er] at hR hE
  generalize Txt.split t (sg 10) = ps at hn hm hl hR hE ⊢
  cases ps with
  | nil => exact absurd rfl hn
  | cons l ls =>
    have hll := hm l (by simp)
    simp
    refine (words_tells l (by omega)).W fun f o => ?_
    have hn2 := split_ne (s := 32) (by decide) l
    have hl2 := split_len (s := 32) (by decide) l
    have hm2 := fun p hp => (split_mem (s := 32) (by decide) (x := l) (p := p) hp).1
    refine (deed_tells _ hn2 (fun p hp => by have := hm2 p hp; rw [lim_val]; omega) (by rw [lim_val]; omega)).W fun f o => ?_
    dsimp only at hR hE
    cases q : lineRes (Txt.split l (sg 32)) with
    | error k =>
      rw [q] at hE
      simp [deedD, gTupD, gsCons, gsNil, gSlot, lim_val]
      exact hE _ _ rfl
    | ok d =>
      rw [q] at hE hR
      simp [deedD, gTupD, gsCons, gsNil, gSlot, lim_val]
      cases ls with
      | nil => exact (end_ok _).W fun f o => hR _ _ _ rfl
      | cons m ls => exact (end_bad _ _ _).W fun o => hE _ _ rfl
end DL
end
section -- P5
set_option maxRecDepth 100000
set_option maxHeartbeats 2000000
namespace DL
open PySem PySem.Spec PyProof.Rows L2 TL
@[simp] theorem lc_nil {vs : List Nat} {g : GDen} {t : TDen} {e : Den} {acc : List D} {δ : Sta} {Q : EV → Sta → Prop} {E : Str → D → Sta → Prop} : (lcLoop vs g t e acc [] δ).W Q E = Q (.list acc, true) δ := W_ok _
theorem lc_step {vs : List Nat} {g : GDen} {t : TDen} {e : Den} {acc ds : List D} {d : D} {δ : Sta} {Q : EV → Sta → Prop} {E : Str → D → Sta → Prop} : (lcLoop vs g t e acc (d :: ds) δ).W Q E ↔ offs δ vs = true ∧ ∃ δ1, g d (dwipe δ vs) = some δ1 ∧
    (t δ1).W (fun k δ2 => if k = true then (e δ2).W (fun a δ3 => acc.length < LIM ∧ (lcLoop vs g t e (acc ++ [a.1]) ds (dback δ δ3 vs)).W Q E) (fun _ _ _ => False) else (lcLoop vs g t e acc ds (dback δ δ2 vs)).W Q E) fun _ _ _ => False := by
  conv => lhs; unfold lcLoop
  by_cases h : offs δ vs = true
  case neg => simp [h]
  rw [if_pos h]
  cases g d (dwipe δ vs) with
  | none => simp
  | some δ1 =>
    simp [h]
    cases t δ1 with
    | exc c w o => simp
    | stuck => simp
    | ok k δ2 =>
      cases k
      · simp
      · simp
        cases e δ2 with
        | exc c w o => simp
        | stuck => simp
        | ok a δ3 =>
          by_cases h : acc.length < LIM <;> simp [h]
/-- what the except suite makes of an error -/
theorem gs_W (c : Str) (w : D) (hc : c = "BadDeed" ∨ c = "BadText" ∨ c = "TooMany" ∨ c = "WrongLine") : (GS.1 c w (List.replicate 5 .un)).W ⟨fun _ => False, fun _ => False, fun _ => False, fun b _ => b.1 = .tuple [.str c, w], fun _ _ _ => False⟩ := by
  have n1 : (Str.ofString "BadDeed" = Str.ofString "BadText") = False := eq_false (by decide)
  have n2 : (Str.ofString "BadDeed" = Str.ofString "TooMany") = False := eq_false (by decide)
  have n3 : (Str.ofString "BadDeed" = Str.ofString "WrongLine") = False := eq_false (by decide)
  have n4 : (Str.ofString "BadText" = Str.ofString "BadDeed") = False := eq_false (by decide)
  have n5 : (Str.ofString "BadText" = Str.ofString "TooMany") = False := eq_false (by decide)
  have n6 : (Str.ofString "BadText" = Str.ofString "WrongLine") = False := eq_false (by decide)
  have n7 : (Str.ofString "TooMany" = Str.ofString "BadDeed") = False := eq_false (by decide)
  have n8 : (Str.ofString "TooMany" = Str.ofString "BadText") = False := eq_false (by decide)
  have n9 : (Str.ofString "TooMany" = Str.ofString "WrongLine") = False := eq_false (by decide)
  have n10 : (Str.ofString "WrongLine" = Str.ofString "BadDeed") = False := eq_false (by decide)
  have n11 : (Str.ofString "WrongLine" = Str.ofString "BadText") = False := eq_false (by decide)
  have n12 : (Str.ofString "WrongLine" = Str.ofString "TooMany") = False := eq_false (by decide)
  have j1 : ∀ x : Str, Txt.join (Str.ofString " ") [x] = x := fun x => by rw [join_eq]; rfl
  rcases hc with rfl | rfl | rfl | rfl <;> simp [GS, lim_val, List.replicate, frz, lc_step, offs, isOwn, gTupD, gsCons, gsNil, gSlot, strsD, j1, n1, n2, n3, n4, n5, n6, n7, n8, n9, n10, n11, n12] <;> decide
/-- what is heard of a call: ('told', v), or the error's name and what it says -/
theorem heard_W {g : Den} {δ : Sta} {Q : EV → Sta → Prop} {E : Str → D → Sta → Prop} (h : (g δ).W (fun a δ1 => Q (.tuple [.str "told", a.1], false) δ1) fun c w δ1 => (c = "BadDeed" ∨ c = "BadText" ∨ c = "TooMany" ∨ c = "WrongLine") ∧ Q (.tuple [.str c, w], false) δ1) : (dHeard "told" 5 isB86 GS.1 g δ).W Q E := by
  unfold dHeard
  rw [Rs.W_eq] at h ⊢
  cases q : g δ with
  | ok a δ1 => rw [q] at h; exact h
  | stuck => rw [q] at h; exact h
  | exc c w δ1 =>
    rw [q] at h
    obtain ⟨h1, h2⟩ := h
    have z := gs_W c w h1
    rw [Fl.W_eq] at z
    dsimp only
    rw [if_pos (show isB86 c = true from rfl)]
    cases q2 : GS.1 c w (List.replicate 5 .un) <;> rw [q2] at z
    case rt b o =>
      have z : b.1 = _ := z
      show Q (b.1, false) δ1
      rw [z]
      exact h2
    all_goals exact z.elim
end DL
end
section -- P6
set_option maxRecDepth 100000
set_option maxHeartbeats 2000000
namespace DL
open PySem PySem.Spec PyProof.Rows L2 TL
theorem owed_read (t : Str) : owedD t = match readR t with
    | .ok d => .tuple [.str "told", d]
    | .error w => .tuple [.str "WrongLine", w] := by
  have hn := split_ne (s := 10) (by decide) t
  unfold owedD readR
  generalize Txt.split t (sg 10) = ps at hn
  cases ps with
  | nil => exact absurd rfl hn
  | cons l ls =>
    dsimp only
    cases lineRes (Txt.split l (sg 32)) with
    | error k => rfl
    | ok d =>
      dsimp only
      by_cases h : ls = []
      · rw [if_pos h, if_pos h]
      · rw [if_neg h, if_neg h]
/-- what is heard of read_deed is what is owed -/
theorem heard_read {t : Str} (h : t.length ≤ 1000000) {δ : Sta} {g : Den} {Q : EV → Sta → Prop} {E : Str → D → Sta → Prop} (hg : g δ = .ok (.str t, false) δ) (hq : Q (owedD t, false) δ) : (dHeard "told" 5 isB86 GS.1 (dCall (phiOf 4 1 [] D_read_deed.1) (aVal g aNil)) δ).W Q E := by
  refine heard_W ?_
  rw [owed_read] at hq
  simp [hg]
  refine read_all t h (fun d f o e => ?_) fun w o e => ?_
  · rw [e] at hq; exact hq
  · rw [e] at hq; exact ⟨by simp, hq⟩
end DL
end
section -- P7
set_option maxRecDepth 100000
set_option maxHeartbeats 2000000
namespace DL
open PySem PySem.Spec PyProof.Rows L2 TL
noncomputable abbrev Φ_isw : Phi := phiOf 1 1 [] D__law_xq_is_whole.1
theorem isw_int (i : Int) : Tells Φ_isw [.val (.int i)] (.bool true) := by
  refine tells_of (phi_W rfl ?_)
  simp [D__law_xq_is_whole]
/-- data of depth n at most, its rows of a size that may be walked -/
def Tidy : Nat → D → Prop
  | _, .dict _ => False
  | 0, .list _ => False
  | 0, .tuple _ => False
  | n + 1, .list ds => ds.length ≤ LIM ∧ ∀ x ∈ ds, Tidy n x
  | n + 1, .tuple ds => ds.length ≤ LIM ∧ ∀ x ∈ ds, Tidy n x
  | _, _ => True
@[simp] theorem eqD_bb (a b : Bool) : eqD (.bool a) (.bool b) = some (decide (a = b)) := rfl
theorem same_refl : ∀ (n : Nat) (x : D), Tidy n x → Tells (Φn__law_xq_same (n + 1)) [.val x, .val x] (.bool true) := by
  intro n
  induction n with
  | zero =>
    intro x h
    refine tells_of (phi_W rfl ?_)
    cases x with
    | dict d => exact h.elim
    | none => simp [D__law_xq_same]
    | bool b => cases b <;> simp [D__law_xq_same]
    | int i =>
      simp [D__law_xq_same]
      refine (isw_int i).W fun f o => ?_
      simp
    | str x => simp [D__law_xq_same]
    | list ds => exact h.elim
    | tuple ds => exact h.elim
  | succ n ih =>
    intro x h
    refine tells_of (phi_W rfl ?_)
    have walk : ∀ (w : D) (ds : List D), (∀ i : Nat, i < ds.length → ∀ δ : Sta, ∀ (Q : EV → Sta → Prop) (E : Str → D → Sta → Prop), (∀ d, ds[i]? = some d → Q (d, false) δ) → (kIx w (.int (i : Nat)) δ).W Q E) → (∀ x ∈ ds, Tidy n x) → ∀ P : FP, (∀ y, P.N [.val w, .val w, y]) → ∀ (m k : Nat) (y : Sl), k + m = ds.length → (forLoop (gSlot 2)
              (sIf (dNot (dTru (dCall (Φn__law_xq_same (n + 1)) (aVal (dIx (dVarR 0) (dVar 2)) (aVal (dIx (dVarR 1) (dVar 2)) aNil))))) (sRet (dC (PyData.bool false))) sSkip)
              (rng (k : Nat) m) [.val w, .val w, y]).W P := by
      intro w ds hix ht P hP m
      induction m with
      | zero => intro k y _; exact ⟨hP y⟩
      | succ m ihm =>
        intro k y hk
        rw [rng_succ, F_for_cons]
        refine ⟨_, rfl, ?_⟩
        simp
        refine hix k (by omega) _ _ _ fun d hd => ?_
        simp
        refine hix k (by omega) _ _ _ fun d' hd' => ?_
        rw [hd] at hd'
        cases hd'
        refine (ih d (ht d (List.mem_of_getElem? hd))).W fun f o => ?_
        simp
        have := ihm (k + 1) (.val (.int k)) (by omega)
        simpa using this
    cases x with
    | dict d => exact h.elim
    | none => simp [D__law_xq_same]
    | bool b => cases b <;> simp [D__law_xq_same]
    | int i =>
      simp [D__law_xq_same]
      refine (isw_int i).W fun f o => ?_
      simp
    | str x => simp [D__law_xq_same]
    | list ds =>
      obtain ⟨h1, h2⟩ := h
      rw [lim_val] at h1
      simp [D__law_xq_same]
      refine ⟨by omega, walk (.list ds) ds (fun i hi δ Q E hq => ?_) h2 _ (fun y => trivial) ds.length 0 .un (by omega)⟩
      rw [W_ixL, atI_n _ _ hi]
      exact ⟨_, List.getElem?_eq_getElem hi, hq _ (List.getElem?_eq_getElem hi)⟩
    | tuple ds =>
      obtain ⟨h1, h2⟩ := h
      rw [lim_val] at h1
      simp [D__law_xq_same]
      refine ⟨by omega, walk (.tuple ds) ds (fun i hi δ Q E hq => ?_) h2 _ (fun y => trivial) ds.length 0 .un (by omega)⟩
      rw [W_ixT, atI_n _ _ hi]
      exact ⟨_, List.getElem?_eq_getElem hi, hq _ (List.getElem?_eq_getElem hi)⟩
end DL
end
section -- P8
set_option maxRecDepth 100000
set_option maxHeartbeats 2000000
namespace DL
open PySem PySem.Spec PyProof.Rows L2 TL
@[simp] theorem W_aOwn {QA : List AV → Sta → Prop} {E : Str → D → Sta → Prop} {δ : Sta} (i : Nat) (gs : ADen) : (aOwn i gs δ).W QA E ↔ ∃ o, δ[i]? = some (.own o) ∧ (gs δ).W (fun xs δ2 => QA (.own i :: xs) δ2) E := by
  unfold aOwn
  cases h : δ[i]? with
  | none => simp
  | some s =>
    cases s with
    | un => simp
    | val d => simp
    | own o => simp
/-- a call that hands an own list over -/
theorem kc_own {Q : EV → Sta → Prop} {E : Str → D → Sta → Prop} {δ : Sta} {Φ : Phi} {i : Nat} {o : OO} {vs : List D} (h : δ[i]? = some (.own o)) : (kCall Φ (.own i :: vs.map AV.val) δ).W Q E = (Φ (.own o :: vs.map Sl.val)).W (fun a outs => Q a (match outs[0]? with | some s => δ.set i s | none => δ)) (fun c w outs => E c w (match outs[0]? with | some s => δ.set i s | none => δ)) := by
  have o1 : ∀ vs : List D, owns (vs.map AV.val) = [] := fun vs => by
    induction vs with
    | nil => rfl
    | cons v r ih => exact ih
  have o2 : ∀ vs : List D, slsOf δ (vs.map AV.val) = some (vs.map Sl.val) := fun vs => by
    induction vs with
    | nil => rfl
    | cons v r ih => simp [slsOf, ih]
  have o3 : ∀ (vs : List D) (outs δ : Sta), upds (vs.map AV.val) outs δ = δ := fun vs => by
    induction vs with
    | nil => intro outs δ; rfl
    | cons v r ih => intro outs δ; exact ih _ _
  unfold kCall
  have e1 : owns (.own i :: vs.map AV.val) = [i] := by simp [owns, o1]
  have e2 : slsOf δ (.own i :: vs.map AV.val) = some (.own o :: vs.map Sl.val) := by simp [slsOf, h, o2]
  rw [e1, e2, if_pos (show nodupB [i] = true by simp [nodupB])]
  dsimp only
  cases Φ (.own o :: vs.map Sl.val) with
  | rt a outs => first | (simp only [R_rt, W_ok, upds, o3]; done) | (simp only [R_rt, W_ok, upds, o3]; rfl)
  | exc c w outs => first | (simp only [R_exc, W_exc, upds, o3]; done) | (simp only [R_exc, W_exc, upds, o3]; rfl)
  | stuck => rw [R_stuck, W_stuck]
/-- a jar of drawn numbers -/
def Jar (o : OO) : Prop := ∃ a b c : Int, o = .lst [.int a, .int b, .int c] ∧ b.natAbs < 2 ^ 31
/-- what a def that draws promises -/
def Draws (Φ : Phi) (vs : List D) (R : D → Prop) : Prop := ∀ o, Jar o → (Φ (.own o :: vs.map Sl.val)).W (fun a outs => ∃ o', outs[0]? = some (.own o') ∧ Jar o' ∧ R a.1) fun _ _ _ => False
theorem Draws.call {Φ : Phi} {vs : List D} {R : D → Prop} (h : Draws Φ vs R) {δ : Sta} {i : Nat} {o : OO} (hi : δ[i]? = some (.own o)) (hj : Jar o) {Q : EV → Sta → Prop} {E : Str → D → Sta → Prop} (hq : ∀ d f o', Jar o' → R d → Q (d, f) (δ.set i (.own o'))) : (kCall Φ (.own i :: vs.map AV.val) δ).W Q E := by
  rw [kc_own hi]
  refine (h o hj).mono (fun a outs z => ?_) fun _ _ _ z => z.elim
  obtain ⟨o', e, j, r⟩ := z
  rw [e]
  exact hq _ _ _ j r
noncomputable abbrev Φ_take : Phi := phiOf 3 2 [0] D__law_take.1
theorem at1 {α : Type} (x y : α) (r : List α) : L2.atI (x :: y :: r) 1 = some y := by
  have := atI_n (x :: y :: r) 1 (by simp)
  simpa using this
theorem at2 {α : Type} (x y z : α) (r : List α) : L2.atI (x :: y :: z :: r) 2 = some z := by
  have := atI_n (x :: y :: z :: r) 2 (by simp)
  simpa using this
theorem ix3_0 : ixN 3 0 = some 0 := by decide
theorem ix3_1 : ixN 3 1 = some 1 := by decide
theorem ix3_2 : ixN 3 2 = some 2 := by decide
theorem take_W {o : OO} (hj : Jar o) (m : Int) (hm : 0 < m) (hl : m.natAbs.log2 < 9000) : (Φ_take [.own o, .val (.int m)]).W (fun a outs => ∃ o', outs[0]? = some (.own o') ∧ Jar o' ∧ ∃ k : Int, a.1 = .int k ∧ 0 ≤ k ∧ k < m) fun _ _ _ => False := by
  obtain ⟨a, b, c, rfl, hb⟩ := hj
  refine phi_W rfl ?_
  simp [D__law_take, ix3_0, ix3_1, ix3_2, at1, at2, hm, hl]
  have p1 := Int.emod_nonneg a (show m ≠ 0 by omega)
  have p2 := Int.emod_lt_of_pos a hm
  by_cases ha : 0 < a
  · exact .inr ⟨ha, ⟨_, _, _, rfl, hb⟩, p1, p2⟩
  · have q1 := Int.emod_nonneg (b * 39373 + 7919 * (c + 1) + 7) (show (2147483647 : Int) ≠ 0 by decide)
    have q2 := Int.emod_lt_of_pos (b * 39373 + 7919 * (c + 1) + 7) (show (0 : Int) < 2147483647 by decide)
    generalize (b * 39373 + 7919 * (c + 1) + 7) % 2147483647 = z at q1 q2 ⊢
    refine .inl ⟨by omega, .inr (by omega), by decide, ⟨_, _, _, rfl, by omega⟩, Int.emod_nonneg _ (by omega), Int.emod_lt_of_pos _ hm⟩
theorem take_D (m : Int) (hm : 0 < m) (hl : m.natAbs.log2 < 9000) : Draws Φ_take [.int m] fun d => ∃ k : Int, d = .int k ∧ 0 ≤ k ∧ k < m := fun o hj => take_W hj m hm hl
noncomputable abbrev Φ_one : Phi := phiOf 2 2 [0] D__law_one.1
theorem one_D (ds : List D) (h0 : ds ≠ []) (hl : ds.length ≤ LIM) : Draws Φ_one [.list ds] fun d => d ∈ ds := fun o hj => by
  refine phi_W rfl ?_
  simp [D__law_one]
  have hl' : 0 < ds.length := List.length_pos_iff.mpr h0
  refine Draws.call (take_D (ds.length : Nat) (by omega) ?_) (vs := [.int (ds.length : Nat)]) rfl hj fun d f o' hj' hd => ?_
  · rw [lim_val] at hl
    rw [Int.natAbs_natCast]
    exact Nat.lt_of_lt_of_le ((Nat.log2_lt (by omega)).mpr (show ds.length < 2 ^ 25 by omega)) (by decide)
  · obtain ⟨k, rfl, h1, h2⟩ := hd
    obtain ⟨n, rfl⟩ := Int.eq_ofNat_of_zero_le h1
    have hn : n < ds.length := by omega
    simp [atI_n _ _ hn]
    exact ⟨_, List.getElem?_eq_getElem hn, hj', List.getElem_mem hn⟩
end DL
end
section -- P9
set_option maxRecDepth 100000
set_option maxHeartbeats 2000000
namespace DL
open PySem PySem.Spec PyProof.Rows L2 TL
/-- a number as drawn -/
def NumD (d : D) : Prop := ∃ n : Nat, d = .int (n : Nat) ∧ n < 10 ^ 20
noncomputable abbrev Φ_num : Phi := phiOf 3 1 [0] D__law_dt_number_drawn.1
theorem num_D : Draws Φ_num [] NumD := fun o hj => by
  refine phi_W rfl ?_
  simp [D__law_dt_number_drawn, lim_val]
  refine Draws.call (take_D 60 (by decide) (by decide)) (vs := [.int 60]) rfl hj fun d f o1 j1 hd => ?_
  obtain ⟨k1, rfl, a1, b1⟩ := hd
  simp
  refine Draws.call (take_D 100000000000000000000 (by decide) (by decide)) (vs := [.int 100000000000000000000]) rfl j1 fun d f o2 j2 hd => ?_
  obtain ⟨k2, rfl, a2, b2⟩ := hd
  simp
  refine Draws.call (one_D _ (by simp) (by simp [lim_val])) (vs := [.list _]) rfl j2 fun d f o3 j3 hd => ?_
  refine ⟨o3, rfl, j3, ?_⟩
  obtain ⟨n1, rfl⟩ := Int.eq_ofNat_of_zero_le a1
  obtain ⟨n2, rfl⟩ := Int.eq_ofNat_of_zero_le a2
  simp only [List.mem_cons, List.not_mem_nil, or_false] at hd
  rcases hd with rfl | rfl | rfl | rfl | rfl | rfl | rfl | rfl | rfl | rfl | rfl
  · exact ⟨0, rfl, by decide⟩
  · exact ⟨1, rfl, by decide⟩
  · exact ⟨7, rfl, by decide⟩
  · exact ⟨10, rfl, by decide⟩
  · exact ⟨100, rfl, by decide⟩
  · exact ⟨999999, rfl, by decide⟩
  · exact ⟨1000000, rfl, by decide⟩
  · exact ⟨10000000000000000000, rfl, by decide⟩
  · exact ⟨99999999999999999999, rfl, by decide⟩
  · exact ⟨n1, rfl, by omega⟩
  · exact ⟨n2, rfl, by omega⟩
end DL
end
section -- P10
set_option maxRecDepth 100000
set_option maxHeartbeats 2000000
namespace DL
open PySem PySem.Spec PyProof.Rows L2 TL
/-! numbers as texts -/
theorem tl_strI (n : Nat) : tl (strI ((n : Nat) : Int)) = numL n := TL.tl_num n
theorem strI_free {n s : Nat} (h : s < 48 ∨ 57 < s) : s ∉ (strI ((n : Nat) : Int)).cps.toList := fun hm => by
  rw [strI_tl] at hm
  exact numL_free h hm
theorem cs_of_free {w : Str} (h : ∀ c ∈ w.cps.toList, c < 256) : Cs w := fun c hc => Nat.lt_trans (h c hc) (by decide)
theorem strI_lt (n : Nat) : ∀ c ∈ (strI ((n : Nat) : Int)).cps.toList, c < 256 := fun c hc => by
  rw [strI_tl] at hc
  have := numL_digits n c hc
  omega
theorem strI_len {n k : Nat} (hk : 0 < k) (h : n < 10 ^ k) : (strI ((n : Nat) : Int)).length ≤ k := by
  rw [len_tl, tl_strI]
  exact numL_len hk h
theorem numOf_strI {n : Nat} (h : n < 10 ^ 20) : numOf (strI ((n : Nat) : Int)) = .int n := by
  have hl := strI_len (k := 20) (by decide) h
  have hne := numL_ne n
  have had := numL_digits n
  have hv := numL_val n
  have h1 : 1 ≤ (strI ((n : Nat) : Int)).length := by
    rw [len_tl, tl_strI]
    exact List.length_pos_iff.mpr hne
  have c3 : ¬ ((strI ((n : Nat) : Int)).cps.toList.head? = some 48 ∧ strI ((n : Nat) : Int) ≠ "0") := by
    rw [strI_tl]
    intro z
    have key := (numL_iff had hne).mp (by rw [hv])
    rcases key with k | k
    · exact z.2 ((eq0_iff _).mpr (by rw [strI_tl, k]))
    · exact k z.1
  have c4 : (strI ((n : Nat) : Int)).cps.toList.all isDig = true := by
    rw [strI_tl]
    exact List.all_eq_true.mpr fun c hc => isDig_iff.mpr (had c hc)
  unfold numOf
  rw [if_pos ⟨h1, hl, c3, c4⟩, strI_tl, hv]
/-- a spot as a word -/
def spotW (p : Nat × Nat) : Str := strI (p.1 : Nat) ++ Str.ofString "." ++ strI (p.2 : Nat)
theorem tl_spotW (p : Nat × Nat) : (spotW p).cps.toList = numL p.1 ++ [46] ++ numL p.2 := by
  have e : tl (Str.ofString ".") = [46] := by decide
  show tl (strI (p.1 : Nat) ++ Str.ofString "." ++ strI (p.2 : Nat)) = _
  rw [tl_append, tl_append, tl_strI, tl_strI, e]
theorem spotW_lt (p : Nat × Nat) : ∀ c ∈ (spotW p).cps.toList, c < 58 ∧ 45 < c := fun c hc => by
  rw [tl_spotW] at hc
  have h1 := numL_digits p.1
  have h2 := numL_digits p.2
  simp only [List.mem_append, List.mem_singleton] at hc
  rcases hc with (hc | hc) | hc
  · have := h1 c hc; omega
  · omega
  · have := h2 c hc; omega
theorem spotW_len {p : Nat × Nat} (h1 : p.1 < 10 ^ 20) (h2 : p.2 < 10 ^ 20) : (spotW p).length ≤ 41 := by
  have e : (Str.ofString ".").length = 1 := by decide
  unfold spotW
  rw [app_len, app_len, e]
  have a := strI_len (k := 20) (by decide) h1
  have b := strI_len (k := 20) (by decide) h2
  omega
theorem spotOf_W {p : Nat × Nat} (h1 : p.1 < 10 ^ 20) (h2 : p.2 < 10 ^ 20) : spotOf (spotW p) = .tuple [.int (p.1 : Nat), .int (p.2 : Nat)] := by
  have e : spotW p = Txt.join (sg 46) [strI (p.1 : Nat), strI (p.2 : Nat)] := by
    refine TL.ext_tl ?_
    rw [join_eq, tl_join]
    show (spotW p).cps.toList = tl (strI (p.1 : Nat)) ++ ([46] ++ tl (strI (p.2 : Nat)))
    rw [tl_spotW, tl_strI, tl_strI, List.append_assoc]
  unfold spotOf
  rw [e, split_join' (by decide) (by simp) (fun q hq => by
    simp only [List.mem_cons, List.not_mem_nil, or_false] at hq
    rcases hq with rfl | rfl
    · exact strI_free (by decide)
    · exact strI_free (by decide))]
  dsimp only
  rw [numOf_strI h1, numOf_strI h2]
  rfl
/-! deeds -/
inductive Deed where
  | run (ps : List (Nat × Nat))
  | num (w : Str) (ns : List Nat)
def pairD (p : Nat × Nat) : D := .tuple [.int (p.1 : Nat), .int (p.2 : Nat)]
def natD (n : Nat) : D := .int (n : Nat)
def Deed.d : Deed → D
  | .run ps => .tuple [.str "run", .tuple (ps.map pairD)]
  | .num w ns => .tuple (.str w :: ns.map natD)
def Deed.words : Deed → List Str
  | .run ps => Str.ofString "run" :: ps.map spotW
  | .num w ns => w :: ns.map fun n => strI (n : Nat)
def Deed.line (x : Deed) : Str := Txt.join (sg 32) x.words
def Deed.Ok : Deed → Prop
  | .run ps => 1 ≤ ps.length ∧ ps.length ≤ 40 ∧ ∀ p ∈ ps, p.1 < 10 ^ 20 ∧ p.2 < 10 ^ 20
  | .num w ns => manyOf w = some ns.length ∧ ∀ n ∈ ns, n < 10 ^ 20
theorem manyOf_mem {w : Str} {m : Nat} (h : manyOf w = some m) : (w = "place" ∧ m = 0) ∨ (w = "move" ∧ m = 3) ∨ (w = "unmove" ∧ m = 3) ∨ (w = "changer" ∧ m = 1) ∨ (w = "plain" ∧ m = 1) ∨ (w = "stop" ∧ m = 1) := by
  unfold manyOf at h
  split at h
  · exact .inl ⟨by assumption, by cases h; rfl⟩
  split at h
  · exact .inr (.inl ⟨by assumption, by cases h; rfl⟩)
  split at h
  · exact .inr (.inr (.inl ⟨by assumption, by cases h; rfl⟩))
  split at h
  · exact .inr (.inr (.inr (.inl ⟨by assumption, by cases h; rfl⟩)))
  split at h
  · exact .inr (.inr (.inr (.inr (.inl ⟨by assumption, by cases h; rfl⟩))))
  split at h
  · exact .inr (.inr (.inr (.inr (.inr ⟨by assumption, by cases h; rfl⟩))))
  cases h
theorem manyOf_sign {w : Str} {m : Nat} (h : manyOf w = some m) : w.length ≤ 7 ∧ m ≤ 3 ∧ ∀ c ∈ w.cps.toList, 45 < c ∧ c < 256 := by
  rcases manyOf_mem h with ⟨rfl, rfl⟩ | ⟨rfl, rfl⟩ | ⟨rfl, rfl⟩ | ⟨rfl, rfl⟩ | ⟨rfl, rfl⟩ | ⟨rfl, rfl⟩ <;> decide
theorem Deed.word_sign {x : Deed} (h : x.Ok) : ∀ w ∈ x.words, w.length ≤ 41 ∧ ∀ c ∈ w.cps.toList, 45 < c ∧ c < 256 := by
  intro w hw
  cases x with
  | run ps =>
    obtain ⟨h1, h2, h3⟩ := h
    rcases List.mem_cons.mp hw with rfl | hw
    · decide
    · obtain ⟨p, hp, rfl⟩ := List.mem_map.mp hw
      obtain ⟨a, b⟩ := h3 p hp
      exact ⟨spotW_len a b, fun c hc => by have := spotW_lt p c hc; omega⟩
  | num v ns =>
    obtain ⟨h1, h2⟩ := h
    have hs := manyOf_sign h1
    rcases List.mem_cons.mp hw with rfl | hw
    · exact ⟨by omega, hs.2.2⟩
    · obtain ⟨n, hn, rfl⟩ := List.mem_map.mp hw
      refine ⟨Nat.le_trans (strI_len (k := 20) (by decide) (h2 n hn)) (by decide), fun c hc => ?_⟩
      rw [strI_tl] at hc
      have := numL_digits n c hc
      omega
theorem Deed.words_ne (x : Deed) : x.words ≠ [] := by cases x <;> simp [Deed.words]
theorem Deed.words_len {x : Deed} (h : x.Ok) : x.words.length ≤ 41 := by
  cases x with
  | run ps => obtain ⟨h1, h2, h3⟩ := h; simp [Deed.words]; omega
  | num v ns => have := manyOf_sign h.1; simp [Deed.words]; omega
theorem join_sign {s : Nat} {ps : List Str} {P : Nat → Prop} (hs : P s) (hp : ∀ p ∈ ps, ∀ c ∈ p.cps.toList, P c) : ∀ c ∈ (Txt.join (sg s) ps).cps.toList, P c := fun c hc => by
  have hc : c ∈ tl (Txt.join (sg s) ps) := hc
  rw [join_eq, tl_join] at hc
  rcases joinL_mem _ _ c hc with q | ⟨p, h1, h2⟩
  · have : c = s := by simpa [sg, tl] using q
    rw [this]; exact hs
  · obtain ⟨z, hz, rfl⟩ := List.mem_map.mp h1
    exact hp z hz c h2
theorem joinN_le (y : Str) (m : Nat) : ∀ (ps : List Str), (∀ p ∈ ps, p.length ≤ m) → joinN y ps ≤ ps.length * (m + y.length) := by
  intro ps
  induction ps with
  | nil => intro _; simp [joinN]
  | cons p r ih =>
    intro h
    have ih := ih fun q hq => h q (List.mem_cons_of_mem _ hq)
    have h0 := h p List.mem_cons_self
    rw [List.length_cons, Nat.succ_mul]
    unfold joinN at ih ⊢
    simp only [List.map_cons, List.foldl_cons, List.sum_cons] at ih ⊢
    have e : (p :: r).length * y.length = r.length * y.length + y.length := by rw [List.length_cons, Nat.succ_mul]
    omega
end DL
end
section -- P11
set_option maxRecDepth 100000
set_option maxHeartbeats 2000000
namespace DL
open PySem PySem.Spec PyProof.Rows L2 TL
/-- a loop that draws: of n things -/
theorem draw_loop {e : Den} {R : D → Prop} (he : ∀ o x y z, Jar o → (e [.own o, x, y, z]).W (fun a δ => R a.1 ∧ ∃ o', Jar o' ∧ δ = [.own o', x, y, z]) fun _ _ _ => False) {Q : EV → Sta → Prop} {E : Str → D → Sta → Prop} {n : Nat} (hn : n ≤ LIM) {x y z : Sl} (hz : isOwn (some z) = false) {o : OO} (hj : Jar o)
    (hq : ∀ ds o', ds.length = n → (∀ d ∈ ds, R d) → Jar o' → Q (.list ds, true) [.own o', x, y, z]) : (lcLoop [3] (gSlot 3) dYes e [] (rng 0 n) [.own o, x, y, z]).W Q E := by
  refine lc_W (fun acc ds δ => acc.length + ds.length = n ∧ (∀ d ∈ acc, R d) ∧ ∃ o', Jar o' ∧ δ = [.own o', x, y, z]) ?_ ?_ ⟨by simp [rng], by simp, o, hj, rfl⟩
  · rintro acc d ds δ ⟨h1, h2, o1, j1, rfl⟩
    refine ⟨by simp [offs, hz], _, rfl, ?_⟩
    simp
    refine (he o1 x y _ j1).mono (fun a δ h => ?_) fun _ _ _ h => h.elim
    obtain ⟨r, o2, j2, rfl⟩ := h
    simp at h1
    refine ⟨by omega, by omega, fun d hd => ?_, o2, j2, rfl⟩
    rcases hd with hd | hd
    · exact h2 d hd
    · rw [hd]; exact r
  · rintro acc δ ⟨h1, h2, o1, j1, rfl⟩
    exact hq acc o1 (by simpa using h1) h2 j1
theorem num_step {o : OO} {x y z : Sl} (hj : Jar o) : (dCall Φ_num (aOwn 0 aNil) [.own o, x, y, z]).W (fun a δ => NumD a.1 ∧ ∃ o', Jar o' ∧ δ = [.own o', x, y, z]) fun _ _ _ => False := by
  simp
  exact Draws.call num_D (vs := []) rfl hj fun d f o' j' h => ⟨h, o', j', rfl⟩
theorem nums_of : ∀ {ds : List D}, (∀ d ∈ ds, NumD d) → ∃ ns : List Nat, ds = ns.map natD ∧ ∀ n ∈ ns, n < 10 ^ 20
  | [], _ => ⟨[], rfl, by simp⟩
  | d :: ds, h => by
    obtain ⟨n, rfl, hn⟩ := h d List.mem_cons_self
    obtain ⟨ns, rfl, h2⟩ := nums_of fun x hx => h x (List.mem_cons_of_mem _ hx)
    refine ⟨n :: ns, rfl, fun m hm => ?_⟩
    rcases List.mem_cons.mp hm with rfl | hm
    · exact hn
    · exact h2 m hm
def PairD (d : D) : Prop := ∃ p : Nat × Nat, d = pairD p ∧ p.1 < 10 ^ 20 ∧ p.2 < 10 ^ 20
theorem pairs_of : ∀ {ds : List D}, (∀ d ∈ ds, PairD d) → ∃ ns : List (Nat × Nat), ds = ns.map pairD ∧ ∀ n ∈ ns, n.1 < 10 ^ 20 ∧ n.2 < 10 ^ 20
  | [], _ => ⟨[], rfl, by simp⟩
  | d :: ds, h => by
    obtain ⟨n, rfl, hn⟩ := h d List.mem_cons_self
    obtain ⟨ns, rfl, h2⟩ := pairs_of fun x hx => h x (List.mem_cons_of_mem _ hx)
    refine ⟨n :: ns, rfl, fun m hm => ?_⟩
    rcases List.mem_cons.mp hm with rfl | hm
    · exact hn
    · exact h2 m hm
def IsDeed (d : D) : Prop := ∃ x : Deed, x.Ok ∧ d = x.d
noncomputable abbrev Φ_dd : Phi := phiOf 4 1 [0] D__law_dt_deed_drawn.1
theorem dd_D : Draws Φ_dd [] IsDeed := fun o hj => by
  refine phi_W rfl ?_
  simp [D__law_dt_deed_drawn, lim_val]
  refine Draws.call (one_D _ (by simp) (by simp [lim_val])) (vs := [.list _]) rfl hj fun d f o1 j1 hd => ?_
  have rest : ∀ (w : Str) (m : Nat) (x y z : Sl) (hz : isOwn (some z) = false) (o1 : OO), Jar o1 → manyOf w = some m → (lcLoop [3] (gSlot 3) dYes (dCall (phiOf 3 1 [0] D__law_dt_number_drawn.val) (aOwn 0 aNil)) [] (rng 0 m) [.own o1, x, y, z]).W
      (fun a δ1 => (kTup a.fst δ1).W (fun a δ => (kAdd (PyData.tuple [.str w], false) a δ).W (fun a outs => ∃ o', outs[0]? = some (Sl.own o') ∧ Jar o' ∧ IsDeed a.fst) fun x x_1 x_2 => False) fun x x_1 x_2 => False) fun x x_1 x_2 => False := by
    intro w m x y z hz o1 j1 hw
    have hm := (manyOf_sign hw).2.1
    refine draw_loop (fun o x y z j => num_step j) (by rw [lim_val]; omega) hz j1 fun ds o' hl hr j' => ?_
    obtain ⟨ns, rfl, h2⟩ := nums_of hr
    simp at hl
    simp [lim_val]
    exact ⟨by omega, j', .num w ns, ⟨by rw [hl]; exact hw, h2⟩, rfl⟩
  have e1 : cmpD CmpOp.In (PyData.str (Str.ofString "changer")) (PyData.list [PyData.str (Str.ofString "move"), PyData.str (Str.ofString "unmove")]) = some false := by decide
  have e2 : cmpD CmpOp.In (PyData.str (Str.ofString "plain")) (PyData.list [PyData.str (Str.ofString "move"), PyData.str (Str.ofString "unmove")]) = some false := by decide
  have e3 : cmpD CmpOp.In (PyData.str (Str.ofString "stop")) (PyData.list [PyData.str (Str.ofString "move"), PyData.str (Str.ofString "unmove")]) = some false := by decide
  have e4 : cmpD CmpOp.In (PyData.str (Str.ofString "move")) (PyData.list [PyData.str (Str.ofString "move"), PyData.str (Str.ofString "unmove")]) = some true := by decide
  have e5 : cmpD CmpOp.In (PyData.str (Str.ofString "unmove")) (PyData.list [PyData.str (Str.ofString "move"), PyData.str (Str.ofString "unmove")]) = some true := by decide
  have n0 : ∀ a b : String, Str.ofString a = Str.ofString b ↔ a = b := fun a b => by
    constructor
    · intro h
      have := congrArg tl h
      rw [tl_ofString, tl_ofString] at this
      exact String.toList_inj.mp (List.map_inj_right (fun x y h => Char.toNat_inj.mp h) |>.mp this)
    · intro h; rw [h]
  simp only [List.mem_cons, List.not_mem_nil, or_false] at hd
  rcases hd with rfl | rfl | rfl | rfl | rfl | rfl | rfl | rfl | rfl
  · simp [n0]; exact rest "place" 0 _ _ _ rfl _ j1 rfl
  · simp [n0, e4]; exact rest "move" 3 _ _ _ rfl _ j1 rfl
  · simp [n0, e5]; exact rest "unmove" 3 _ _ _ rfl _ j1 rfl
  · simp [n0, e1]; exact rest "changer" 1 _ _ _ rfl _ j1 rfl
  · simp [n0, e2]; exact rest "plain" 1 _ _ _ rfl _ j1 rfl
  iterate 3
    · simp [n0]
      refine Draws.call (one_D _ (by simp) (by simp [lim_val])) (vs := [.list _]) rfl j1 fun d f o2 j2 hd => ?_
      obtain ⟨m, hm1, hm2, rfl⟩ : ∃ m : Nat, 1 ≤ m ∧ m ≤ 40 ∧ d = .int (m : Nat) := by
        simp only [List.mem_cons, List.not_mem_nil, or_false] at hd
        rcases hd with rfl | rfl | rfl | rfl | rfl | rfl | rfl
        · exact ⟨1, by decide, by decide, rfl⟩
        · exact ⟨1, by decide, by decide, rfl⟩
        · exact ⟨2, by decide, by decide, rfl⟩
        · exact ⟨3, by decide, by decide, rfl⟩
        · exact ⟨5, by decide, by decide, rfl⟩
        · exact ⟨39, by decide, by decide, rfl⟩
        · exact ⟨40, by decide, by decide, rfl⟩
      simp
      refine ⟨by omega, ?_⟩
      refine draw_loop (R := PairD) (fun o x y z j => ?_) (by rw [lim_val]; omega) rfl j2 fun ds o' hl hr j' => ?_
      · have a1 := fun o x y z (j : Jar o) => num_step (o := o) (x := x) (y := y) (z := z) j
        simp at a1 ⊢
        refine (a1 o x y z j).mono (fun a δ h => ?_) fun _ _ _ h => h.elim
        obtain ⟨⟨n1, q1, r1⟩, o2, j2, rfl⟩ := h
        refine ⟨⟨_, rfl⟩, (a1 o2 x y z j2).mono (fun b δ h => ?_) fun _ _ _ h => h.elim⟩
        obtain ⟨⟨n2, q2, r2⟩, o3, j3, rfl⟩ := h
        refine ⟨by decide, ⟨(n1, n2), ?_, r1, r2⟩, o3, j3, rfl⟩
        rw [q1, q2]; rfl
      · obtain ⟨ns, rfl, h2⟩ := pairs_of hr
        simp at hl
        simp [lim_val]
        exact ⟨j', .run ns, ⟨by omega, by omega, h2⟩, rfl⟩
  · simp [n0, e3]; exact rest "stop" 1 _ _ _ rfl _ j1 rfl
end DL
end
section -- P12
set_option maxRecDepth 100000
set_option maxHeartbeats 2000000
namespace DL
open PySem PySem.Spec PyProof.Rows L2 TL
noncomputable abbrev Φ_isd : Phi := phiOf 1 1 [] D_is_deed.1
noncomputable abbrev Φ_nums : Phi := phiOf 2 1 [] D_are_numbers.1
noncomputable abbrev Φ_prs : Phi := phiOf 2 1 [] D_are_pairs.1
noncomputable abbrev Φ_dtx : Phi := phiOf 4 1 [] D_deed_text.1
def wholeB (d : D) (lo hi : Int) : Bool := match d with
  | .int i => decide (lo ≤ i) && decide (i ≤ hi)
  | _ => false
theorem whole_all (d : D) (lo hi : Int) (hd : ∀ x, d ≠ .dict x) : Tells Φ_whole [.val d, .val (.int lo), .val (.int hi)] (.bool (wholeB d lo hi)) := by
  cases d with
  | int i => exact whole_int i lo hi
  | dict x => exact absurd rfl (hd x)
  | _ =>
    refine tells_of (phi_W rfl ?_)
    simp [D_whole, wholeB]
abbrev isN (d : D) : Bool := wholeB d 0 99999999999999999999
def noDict : D → Bool
  | .dict _ => false
  | _ => true
theorem noDict_ne {d : D} (h : noDict d = true) : ∀ x, d ≠ .dict x := fun x e => by rw [e] at h; cases h
theorem nums_tells (xs : List D) (hl : xs.length ≤ LIM) (h : ∀ x ∈ xs, noDict x = true) : Tells Φ_nums [.val (.tuple xs)] (.bool (xs.all isN)) := by
  refine tells_of (phi_W rfl ?_)
  simp [D_are_numbers]
  refine lc_M (fun d => .bool (isN d)) rfl hl (fun d hd => ⟨_, rfl, rfl, ?_⟩) ?_
  · simp
    exact (whole_all d _ _ (noDict_ne (h d hd))).W fun f o => rfl
  · have e : xs.map (fun d => PyData.bool (isN d)) = (xs.map isN).map PyData.bool := by rw [List.map_map]; rfl
    rw [e]
    simp only [k_all]
    exact ⟨_, bls_map _, by simp⟩
def isPair : D → Bool
  | .tuple xs => decide (xs.length = 2) && xs.all isN
  | _ => false
def isPairs : D → Bool
  | .tuple xs => decide (1 ≤ xs.length) && decide (xs.length ≤ 40) && xs.all isPair
  | _ => false
def plainD : Nat → D → Bool
  | _, .dict _ => false
  | 0, .list _ => false
  | 0, .tuple _ => false
  | n + 1, .list xs => xs.all (plainD n)
  | n + 1, .tuple xs => xs.all (plainD n)
  | _, _ => true
theorem plain_noDict {n : Nat} {d : D} (h : plainD n d = true) : noDict d = true := by
  cases d with
  | dict x => cases n <;> simp [plainD] at h
  | _ => rfl
theorem prs_tells (d : D) (h : plainD 3 d = true) : Tells Φ_prs [.val d] (.bool (isPairs d)) := by
  refine tells_of (phi_W rfl ?_)
  cases d with
  | dict x => simp [plainD] at h
  | tuple xs =>
    simp [D_are_pairs]
    by_cases h1 : 1 ≤ xs.length
    case neg =>
      left
      refine ⟨by omega, ?_⟩
      simp [isPairs, h1]
    by_cases h2 : xs.length ≤ 40
    case neg =>
      right
      refine ⟨by omega, .inl ⟨by omega, ?_⟩⟩
      simp [isPairs, h2]
    right
    refine ⟨by omega, .inr ⟨by omega, ?_⟩⟩
    refine lc_M (fun d => .bool (isPair d)) rfl (by rw [lim_val]; omega) (fun d hd => ⟨_, rfl, rfl, ?_⟩) ?_
    · have hp : plainD 2 d = true := by
        unfold plainD at h
        exact List.all_eq_true.mp h d hd
      cases d with
      | dict x => simp [plainD] at hp
      | tuple ys =>
        simp
        by_cases h3 : ys.length = 2
        case neg =>
          left
          refine ⟨by omega, ?_⟩
          simp [isPair, h3]
        right
        refine ⟨by omega, ?_⟩
        have hy : ∀ y ∈ ys, noDict y = true := fun y hy => by
          unfold plainD at hp
          exact plain_noDict (List.all_eq_true.mp hp y hy)
        refine (nums_tells ys (by rw [lim_val]; omega) hy).W fun f o => ?_
        simp [isPair, h3]
      | _ => simp [isPair]
    · have e : xs.map (fun d => PyData.bool (isPair d)) = (xs.map isPair).map PyData.bool := by rw [List.map_map]; rfl
      rw [e]
      simp only [k_all]
      exact ⟨_, bls_map _, by simp [isPairs, h1, h2]⟩
  | _ => simp [D_are_pairs, isPairs]
def lenOf (w : Str) : Option Nat := if w = "run" then some 2 else (manyOf w).map (· + 1)
theorem lenTab_get (w : Str) : T_DEED_LENGTHS.lookup w = (lenOf w).map fun (n : Nat) => PyData.int (n : Int) := by
  unfold lenOf manyOf T_DEED_LENGTHS
  by_cases h1 : w = Str.ofString "place"
  · subst h1; rfl
  by_cases h2 : w = Str.ofString "move"
  · subst h2; rfl
  by_cases h3 : w = Str.ofString "unmove"
  · subst h3; rfl
  by_cases h4 : w = Str.ofString "changer"
  · subst h4; rfl
  by_cases h5 : w = Str.ofString "plain"
  · subst h5; rfl
  by_cases h6 : w = Str.ofString "stop"
  · subst h6; rfl
  by_cases h7 : w = Str.ofString "run"
  · subst h7; rfl
  have b : ∀ x : Str, w ≠ x → (w == x) = false := fun x h => beq_eq_false_iff_ne.mpr h
  simp only [tabD, List.map_cons, List.map_nil, List.lookup, b _ h1, b _ h2, b _ h3, b _ h4, b _ h5, b _ h6, b _ h7, if_neg h1, if_neg h2, if_neg h3, if_neg h4, if_neg h5, if_neg h6, if_neg h7]
  rfl
def isDeedB : D → Bool
  | .tuple (.str w :: r) => match lenOf w with
    | some n => decide (r.length + 1 = n) && (if w = "run" then (match r with
      | [x] => isPairs x
      | _ => false) else r.all isN)
    | none => false
  | _ => false
theorem isd_tells (d : D) (h : plainD 4 d = true) (hl : ∀ ds, d = .tuple ds → ∀ x ∈ ds, Lay 63 x) : Tells Φ_isd [.val d] (.bool (isDeedB d)) := by
  refine tells_of (phi_W rfl ?_)
  cases d with
  | dict x => simp [plainD] at h
  | tuple xs =>
    have e := eqD_nilT (hl xs rfl)
    cases xs with
    | nil => simp [D_is_deed, e, isDeedB]
    | cons x r =>
      have hx : plainD 3 x = true := by
        unfold plainD at h
        exact List.all_eq_true.mp h x (by simp)
      have hr : ∀ y ∈ r, plainD 3 y = true := fun y hy => by
        unfold plainD at h
        exact List.all_eq_true.mp h y (by simp [hy])
      cases x with
      | str w =>
        simp [D_is_deed, e, lenTab_get]
        cases q : lenOf w with
        | none => simp [isDeedB, q]
        | some n =>
          simp
          by_cases hn : r.length + 1 = n
          case neg =>
            right
            refine ⟨by omega, ?_⟩
            simp [isDeedB, q, hn]
          left
          refine ⟨by omega, ?_⟩
          by_cases hw : w = Str.ofString "run"
          · right
            refine ⟨hw, ?_⟩
            have : n = 2 := by
              unfold lenOf at q
              rw [if_pos hw] at q
              cases q; rfl
            obtain ⟨y, rfl⟩ : ∃ y, r = [y] := by
              match r, hn with
              | [], hn => simp at hn; omega
              | [y], _ => exact ⟨y, rfl⟩
              | a :: b :: c, hn => simp at hn; omega
            refine ⟨y, by have := atI_n [.str w, y] 1 (by simp); simpa using this, ?_⟩
            refine (prs_tells y (hr y (by simp))).W fun f o => ?_
            simp [isDeedB, hw, show lenOf (Str.ofString "run") = some 2 from rfl]
          · left
            refine ⟨hw, ?_⟩
            have : r.length ≤ 3 := by
              unfold lenOf at q
              rw [if_neg hw] at q
              cases q2 : manyOf w with
              | none => rw [q2] at q; cases q
              | some m =>
                have := (manyOf_sign q2).2.1
                rw [q2] at q
                simp at q
                omega
            refine (nums_tells r (by rw [lim_val]; omega) fun y hy => plain_noDict (hr y hy)).W fun f o => ?_
            simp [isDeedB, q, hn, hw]
      | dict y => simp [plainD] at hx
      | _ => simp [D_is_deed, e, isDeedB]
  | _ => simp [D_is_deed, isDeedB]
end DL
end
section -- P13
set_option maxRecDepth 100000
set_option maxHeartbeats 2000000
namespace DL
open PySem PySem.Spec PyProof.Rows L2 TL
theorem natD_isN {n : Nat} (h : n < 10 ^ 20) : isN (natD n) = true := by
  unfold isN wholeB natD
  simp
  omega
theorem pairD_isPair {p : Nat × Nat} (h1 : p.1 < 10 ^ 20) (h2 : p.2 < 10 ^ 20) : isPair (pairD p) = true := by
  have a := natD_isN h1
  have b := natD_isN h2
  unfold natD at a b
  simp [isPair, pairD]
  exact ⟨a, b⟩
theorem deed_isB {x : Deed} (h : x.Ok) : isDeedB x.d = true := by
  cases x with
  | run ps =>
    obtain ⟨h1, h2, h3⟩ := h
    simp [Deed.d, isDeedB, show lenOf (Str.ofString "run") = some 2 from rfl, isPairs]
    exact ⟨⟨by omega, h2⟩, fun a b hp => pairD_isPair (h3 _ hp).1 (h3 _ hp).2⟩
  | num w ns =>
    obtain ⟨h1, h2⟩ := h
    have hw : w ≠ Str.ofString "run" := fun e => by rw [e, show manyOf (Str.ofString "run") = none from rfl] at h1; cases h1
    simp [Deed.d, isDeedB, lenOf, hw, h1]
    exact fun a ha => natD_isN (h2 a ha)
theorem deed_plain (x : Deed) : plainD 4 x.d = true := by
  cases x with
  | run ps => simp [Deed.d, plainD, pairD]
  | num w ns => simp [Deed.d, plainD, natD]
theorem deed_lay {x : Deed} (h : x.Ok) : Lay 3 x.d := by
  cases x with
  | run ps =>
    refine lay_tuple fun y hy => ?_
    simp only [List.mem_cons, List.not_mem_nil, or_false] at hy
    rcases hy with rfl | rfl
    · exact (Cs.lit "run").lay
    · refine lay_tuple fun y hy => ?_
      obtain ⟨p, hp, rfl⟩ := List.mem_map.mp hy
      refine lay_tuple fun y hy => ?_
      simp only [List.mem_cons, List.not_mem_nil, or_false] at hy
      rcases hy with rfl | rfl <;> exact lay_int _
  | num w ns =>
    refine lay_tuple fun y hy => ?_
    rcases List.mem_cons.mp hy with rfl | hy
    · exact (cs_of_free fun c hc => ((manyOf_sign h.1).2.2 c hc).2).lay
    · obtain ⟨n, hn, rfl⟩ := List.mem_map.mp hy
      exact lay_int _
theorem lay_kid {k : Nat} {ds : List D} (h : Lay (k + 1) (.tuple ds)) {x : D} (hx : x ∈ ds) : Lay k x := by
  obtain ⟨h1, h2⟩ := h
  have key : ∀ ds : List D, PyData.canLayAll0 ds = true → PyData.depthAll ds ≤ k → ∀ x ∈ ds, Lay k x := by
    intro ds
    induction ds with
    | nil => intro _ _ x hx; simp at hx
    | cons y r ih =>
      intro a b x hx
      simp only [PyData.canLayAll0, Bool.and_eq_true] at a
      simp only [PyData.depthAll] at b
      rcases List.mem_cons.mp hx with rfl | hx
      · exact ⟨a.1, by omega⟩
      · exact ih a.2 (by omega) x hx
  refine key ds (by simpa [PyData.canLay0] using h1) (by simp only [PyData.depth] at h2; omega) x hx
/-! the words of a drawn deed -/
def wordD : D → D
  | .int i => .str (strI i)
  | .tuple [.int a, .int b] => .str (strI a ++ Str.ofString "." ++ strI b)
  | d => d
theorem deed_join {x : Deed} (h : x.Ok) : joinN (sg 32) x.words ≤ 41 * 42 := by
  refine Nat.le_trans (joinN_le _ 41 _ fun w hw => (Deed.word_sign h w hw).1) ?_
  rw [show (sg 32).length = 1 from rfl]
  exact Nat.mul_le_mul_right _ (Deed.words_len h)
@[simp] theorem W_jsNil {acc : Str} {δ : Sta} {Q : EV → Sta → Prop} {E : Str → D → Sta → Prop} : (dJs [] acc δ).W Q E = Q (.str acc, false) δ := W_ok _
@[simp] theorem W_jsCons {g : Den} {gs : List Den} {acc : Str} {δ : Sta} {Q : EV → Sta → Prop} {E : Str → D → Sta → Prop} : (dJs (g :: gs) acc δ).W Q E = (g δ).W (fun a δ1 => ∃ y, a.1 = .str y ∧ (acc ++ y).length ≤ LIM ∧ (dJs gs (acc ++ y) δ1).W Q E) E := by
  have e : dJs (g :: gs) acc δ = (g δ).bind fun a δ1 => match a.1 with
    | .str y => if (acc ++ y).length ≤ LIM then dJs gs (acc ++ y) δ1 else .stuck
    | _ => .stuck := rfl
  rw [e, W_bind]
  congr 1
  funext a δ1
  obtain ⟨a, f⟩ := a
  cases a <;> simp
theorem empty_app (x : Str) : Str.empty ++ x = x := TL.ext_tl (by rw [tl_append]; rfl)
theorem words_map {x : Deed} : (match x.d with
    | .tuple (.str w :: r) => PyData.str w :: (match x with
      | .run _ => (match r with
        | [.tuple ps] => ps.map wordD
        | _ => [])
      | .num _ _ => r.map wordD)
    | _ => []) = x.words.map PyData.str := by
  cases x with
  | run ps => simp [Deed.d, Deed.words, pairD, wordD, spotW]
  | num w ns => simp [Deed.d, Deed.words, natD, wordD]
noncomputable abbrev Φ_xl : Phi := phiOf 4 1 [] D__law_xa_line.1
theorem xl_tells {x : Deed} (h : x.Ok) : Tells Φ_xl [.val x.d] (.str x.line) := by
  have hj := deed_join h
  have hw := Deed.words_len h
  refine tells_of (phi_W rfl ?_)
  cases x with
  | run ps =>
    obtain ⟨h1, h2, h3⟩ := h
    simp [D__law_xa_line, lim_val, Deed.d, at1]
    refine lc_M wordD rfl (by rw [List.length_map, lim_val]; omega) (fun d hd => ?_) ?_
    · obtain ⟨p, hp, rfl⟩ := List.mem_map.mp hd
      refine ⟨_, rfl, rfl, ?_⟩
      have a := log_of (h3 p hp).1
      have b := log_of (h3 p hp).2
      have la := strI_len (k := 20) (by decide) (h3 p hp).1
      have lb := strI_len (k := 20) (by decide) (h3 p hp).2
      have ld : (Str.ofString ".").length = 1 := rfl
      simp [a, b, lim_val, pairD, wordD, app_len]
      omega
    · simp [lim_val]
      refine ⟨by omega, (Deed.run ps).words, ?_, ?_, ?_⟩
      · rw [← strsD_map, ← words_map]; simp [Deed.d]
      · rw [sp_eq]; omega
      · rw [sp_eq]; rfl
  | num w ns =>
    have hs := manyOf_sign h.1
    have hne : w ≠ Str.ofString "run" := fun e => by have h1 := h.1; rw [e, show manyOf (Str.ofString "run") = none from rfl] at h1; cases h1
    simp [D__law_xa_line, lim_val, Deed.d, hne]
    refine lc_M wordD rfl (by rw [List.length_map, lim_val]; omega) (fun d hd => ?_) ?_
    · obtain ⟨n, hn, rfl⟩ := List.mem_map.mp hd
      have a := log_of (h.2 n hn)
      refine ⟨_, rfl, rfl, ?_⟩
      simp [a, natD, wordD]
    · simp [lim_val]
      refine ⟨by omega, (Deed.num w ns).words, ?_, ?_, ?_⟩
      · rw [← strsD_map, ← words_map]; simp [Deed.d]
      · rw [sp_eq]; omega
      · rw [sp_eq]; rfl
theorem dtx_tells {x : Deed} (h : x.Ok) : Tells Φ_dtx [.val x.d] (.str x.line) := by
  have hj := deed_join h
  have hw := Deed.words_len h
  have hi := isd_tells x.d (deed_plain x) fun ds e y hy => by
    have := deed_lay h
    rw [e] at this
    exact (lay_kid this hy).up (by decide)
  rw [deed_isB h] at hi
  refine tells_of (phi_W rfl ?_)
  simp [D_deed_text, lim_val]
  refine hi.W fun f o => ?_
  cases x with
  | run ps =>
    obtain ⟨h1, h2, h3⟩ := h
    simp [lim_val, Deed.d, at1]
    refine lc_M wordD rfl (by rw [List.length_map, lim_val]; omega) (fun d hd => ?_) ?_
    · obtain ⟨p, hp, rfl⟩ := List.mem_map.mp hd
      refine ⟨_, rfl, rfl, ?_⟩
      have a := log_of (h3 p hp).1
      have b := log_of (h3 p hp).2
      have la := strI_len (k := 20) (by decide) (h3 p hp).1
      have lb := strI_len (k := 20) (by decide) (h3 p hp).2
      have ld : (Str.ofString ".").length = 1 := rfl
      simp [a, b, lim_val, pairD, wordD, app_len, empty_app]
      omega
    · simp [lim_val, starL]
      refine ⟨by omega, (Deed.run ps).words, ?_, ?_, ?_⟩
      · rw [← strsD_map, ← words_map]; simp [Deed.d]
      · rw [sp_eq]; omega
      · rw [sp_eq]; rfl
  | num w ns =>
    have hs := manyOf_sign h.1
    have hne : w ≠ Str.ofString "run" := fun e => by have h1 := h.1; rw [e, show manyOf (Str.ofString "run") = none from rfl] at h1; cases h1
    simp [lim_val, Deed.d, hne]
    refine lc_M wordD rfl (by rw [List.length_cons, List.length_map, lim_val]; omega) (fun d hd => ?_) ?_
    · rcases List.mem_cons.mp hd with rfl | hd
      · refine ⟨_, rfl, rfl, ?_⟩
        simp [wordD]
      obtain ⟨n, hn, rfl⟩ := List.mem_map.mp hd
      have a := log_of (h.2 n hn)
      refine ⟨_, rfl, rfl, ?_⟩
      simp [a, natD, wordD]
    · simp [lim_val]
      refine ⟨(Deed.num w ns).words, ?_, ?_, ?_⟩
      · rw [← strsD_map, ← words_map]; simp [Deed.d, wordD]
      · rw [sp_eq]; omega
      · rw [sp_eq]; rfl
end DL
end
section -- P14
set_option maxRecDepth 100000
set_option maxHeartbeats 2000000
namespace DL
open PySem PySem.Spec PyProof.Rows L2 TL
/-! there and back -/
theorem deed_split {x : Deed} (h : x.Ok) : Txt.split x.line (sg 32) = x.words :=
  split_join' (by decide) x.words_ne fun w hw hc => by
    have := (Deed.word_sign h w hw).2 _ hc
    omega
theorem deed_line1 {x : Deed} (h : x.Ok) : Txt.split x.line (sg 10) = [x.line] :=
  split_one (by decide) fun hc => by
    have := join_sign (P := fun c => c ≠ 10) (by decide) (fun p hp c hc => by
      have := (Deed.word_sign h p hp).2 c hc
      omega) 10 hc
    exact this rfl
theorem bads_nil (m : Nat) : ∀ (ds : List D) (k : Nat), (∀ d ∈ ds, isNon d = false) → ds.length + k ≤ m + 1 → bads m ds k = []
  | [], _, _, _ => rfl
  | d :: r, k, h, hl => by
    simp only [List.length_cons] at hl
    unfold bads
    rw [if_neg (by rw [h d List.mem_cons_self]; simp; omega)]
    exact bads_nil m r (k + 1) (fun x hx => h x (List.mem_cons_of_mem _ hx)) (by omega)
theorem deed_back {x : Deed} (h : x.Ok) : lineRes x.words = .ok x.d := by
  cases x with
  | run ps =>
    obtain ⟨h1, h2, h3⟩ := h
    have e : (ps.map spotW).map spotOf = ps.map pairD := by
      rw [List.map_map]
      exact List.map_congr_left fun p hp => spotOf_W (h3 p hp).1 (h3 p hp).2
    have e0 : lineRes (Deed.run ps).words = runRes ((ps.map spotW).map spotOf) := by simp [Deed.words, lineRes]
    rw [e0, e]
    unfold runRes
    rw [bads_nil 40 _ 1 (fun d hd => by
      obtain ⟨p, _, rfl⟩ := List.mem_map.mp hd
      rfl) (by rw [List.length_map]; omega)]
    dsimp only
    rw [if_neg (by intro e; have := congrArg List.length e; simp at this; simp [this] at h1)]
    rfl
  | num w ns =>
    obtain ⟨h1, h2⟩ := h
    have hne : w ≠ Str.ofString "run" := fun e => by rw [e, show manyOf (Str.ofString "run") = none from rfl] at h1; cases h1
    have e : (ns.map fun n => strI (n : Nat)).map numOf = ns.map natD := by
      rw [List.map_map]
      exact List.map_congr_left fun n hn => numOf_strI (h2 n hn)
    have e0 : lineRes (Deed.num w ns).words = match manyOf w with
      | none => Except.error 0
      | some m => numRes w m ((ns.map fun n => strI (n : Nat)).map numOf) := by
        first
          | (simp [Deed.words, lineRes, hne]; done)
          | (simp [Deed.words, lineRes, hne]; cases manyOf w <;> rfl)
    rw [e0, h1]
    dsimp only
    rw [e]
    unfold numRes
    rw [bads_nil _ _ 1 (fun d hd => by
      obtain ⟨p, _, rfl⟩ := List.mem_map.mp hd
      rfl) (by rw [List.length_map]; omega)]
    dsimp only
    rw [if_neg (by rw [List.length_map]; omega)]
    rfl
theorem deed_owed {x : Deed} (h : x.Ok) : owedD x.line = .tuple [.str "told", x.d] := by
  unfold owedD
  rw [deed_line1 h]
  dsimp only
  rw [deed_split h, deed_back h]
  rfl
theorem line_len {x : Deed} (h : x.Ok) : x.line.length ≤ 1722 := by
  have a := deed_join h
  have b := join_len (sg 32) x.words
  unfold Deed.line
  omega
theorem line_cs {x : Deed} (h : x.Ok) : Cs x.line := cs_of_free fun c hc =>
  join_sign (P := fun c => c < 256) (by decide) (fun p hp c hc => ((Deed.word_sign h p hp).2 c hc).2) c hc
/-! what is no deed -/
def NoDeed (d : D) : Prop := plainD 4 d = true ∧ (∀ ds, d = .tuple ds → ∀ x ∈ ds, Lay 63 x) ∧ isDeedB d = false
theorem dtx_bad {d : D} (h : NoDeed d) : Errs Φ_dtx [.val d] "BadDeed" (.int 0) := by
  have hi := isd_tells d h.1 h.2.1
  rw [h.2.2] at hi
  refine errs_of (phi_W rfl ?_)
  simp [D_deed_text, lim_val]
  refine hi.W fun f o => ?_
  simp
/-- may be laid, by looking -/
def layB : Nat → D → Bool
  | _, .none => true
  | _, .bool _ => true
  | _, .int _ => true
  | _, .str x => x.cps.toList.all (· < 0x110000)
  | n + 1, .list xs => xs.all (layB n)
  | n + 1, .tuple xs => xs.all (layB n)
  | _, _ => false
theorem layB_ok : ∀ {n : Nat} {d : D}, layB n d = true → Lay n d
  | _, .none, _ => lay_none
  | _, .bool _, _ => lay_bool _
  | _, .int _, _ => lay_int _
  | _, .str x, h => by
    refine Cs.lay fun c hc => ?_
    simp only [layB] at h
    simpa using List.all_eq_true.mp h c hc
  | 0, .dict _, h => by simp [layB] at h
  | _ + 1, .dict _, h => by simp [layB] at h
  | 0, .list _, h => by simp [layB] at h
  | 0, .tuple _, h => by simp [layB] at h
  | n + 1, .list xs, h => by
    simp only [layB] at h
    exact lay_list fun x hx => layB_ok (List.all_eq_true.mp h x hx)
  | n + 1, .tuple xs, h => by
    simp only [layB] at h
    exact lay_tuple fun x hx => layB_ok (List.all_eq_true.mp h x hx)
theorem noDeed_of {d : D} (h1 : plainD 4 d = true) (h2 : layB 5 d = true) (h3 : isDeedB d = false) : NoDeed d := ⟨h1, fun ds e x hx => by
  rw [e] at h2
  exact (lay_kid (layB_ok h2) hx).up (by decide), h3⟩
@[simp] theorem frz_2 (a b : Sl) (ds : List D) (r : Sta) : frz 2 (a :: b :: .own (.lst ds) :: r) = a :: b :: .val (.list ds) :: r := rfl
def noDeedB (d : D) : Bool := plainD 4 d && layB 5 d && !isDeedB d
theorem noDeedB_all {ds : List D} (h : ds.all noDeedB = true) : ∀ d ∈ ds, NoDeed d := fun d hd => by
  have := List.all_eq_true.mp h d hd
  simp only [noDeedB, Bool.and_eq_true, Bool.not_eq_true'] at this
  exact noDeed_of this.1.1 this.1.2 this.2
noncomputable abbrev Φ_odd : Phi := phiOf 3 1 [0] D__law_xa_odd_drawn.1
theorem odd_D : Draws Φ_odd [] NoDeed := fun o hj => by
  refine phi_W rfl ?_
  simp [D__law_xa_odd_drawn, lim_val]
  refine Draws.call (one_D _ (by simp) (by simp [lim_val])) (vs := [.list _]) rfl hj fun d f o1 j1 hd => ?_
  exact ⟨o1, rfl, j1, noDeedB_all (by decide +kernel) _ hd⟩
end DL
end
section -- P15
set_option maxRecDepth 100000
set_option maxHeartbeats 2000000
namespace DL
open PySem PySem.Spec PyProof.Rows L2 TL
theorem seq_hide {g g' : SDen} {δ : Sta} {P : FP} (h : ∀ G, G = g' → (g δ).W { P with N := fun δ1 => (G δ1).W P }) : (sSeq g g' δ).W P := by
  rw [F_seq]
  exact h g' rfl
/-- a text of so many signs -/
def Tx (m : Nat) (d : D) : Prop := ∃ t, d = .str t ∧ t.length ≤ m ∧ Cs t
def txB (m : Nat) : D → Bool
  | .str t => decide (t.length ≤ m) && t.cps.toList.all (· < 0x110000)
  | _ => false
theorem tx_all {m : Nat} {ds : List D} (h : ds.all (txB m) = true) : ∀ d ∈ ds, Tx m d := fun d hd => by
  have := List.all_eq_true.mp h d hd
  cases d with
  | str t =>
    simp only [txB, Bool.and_eq_true, decide_eq_true_eq] at this
    exact ⟨t, rfl, this.1, fun c hc => by simpa using List.all_eq_true.mp this.2 c hc⟩
  | _ => simp [txB] at this
/-- words of a line -/
structure Wds (line : Str) (ws : List Str) : Prop where
  sp : Txt.split line (sg 32) = ws
  ne : ws ≠ []
  len : ws.length ≤ 41
  each : ∀ w ∈ ws, w.length ≤ 41 ∧ Cs w
  ll : line.length ≤ 2000
  cs : Cs line
theorem deed_wds {x : Deed} (h : x.Ok) : Wds x.line x.words := ⟨deed_split h, x.words_ne, Deed.words_len h, fun w hw => ⟨(Deed.word_sign h w hw).1, cs_of_free fun c hc => ((Deed.word_sign h w hw).2 c hc).2⟩, by have := line_len h; omega, line_cs h⟩
theorem join_tx {xs : List D} {ys : List Str} {J : Prop} (hJ : J) (e : xs = ys.map .str) (hl : ys.length ≤ 100) (hy : ∀ w ∈ ys, w.length ≤ 41 ∧ Cs w) : ∃ ys, strsD xs = some ys ∧ joinN (Str.ofString " ") ys ≤ 16777216 ∧ J ∧ Tx 20000 (.str (Txt.join (Str.ofString " ") ys)) := by
  have a := joinN_le (sg 32) 41 ys fun w hw => (hy w hw).1
  have b := join_len (sg 32) ys
  rw [show (sg 32).length = 1 from rfl] at a
  have c := Nat.mul_le_mul_right (41 + 1) hl
  rw [e, strsD_map, sp_eq]
  refine ⟨ys, rfl, by omega, hJ, _, rfl, by omega, ?_⟩
  exact Cs.join (fun c hc => by
    have : c = 32 := by simpa [sg] using hc
    rw [this]; decide) fun w hw => (hy w hw).2
theorem at_last {α : Type} (l : List α) (h : l ≠ []) : L2.atI l (-1) = some (l.getLast h) := by
  have h1 : 0 < l.length := List.length_pos_iff.mpr h
  have e : L2.ixN l.length (-1) = some (l.length - 1) := by
    unfold L2.ixN
    simp
    omega
  simp [L2.atI, e, List.getLast_eq_getElem]
theorem hide_odd {G : SDen} {s0 s1 s2 s3 s4 s5 s6 s7 : Sl} {L : List D} {P : FP} (hL : (L.all (txB 41) && decide (L ≠ []) && decide (L.length ≤ 50)) = true) (h : ∀ L, (∀ d ∈ L, Tx 41 d) → L ≠ [] → L.length ≤ 50 → (G [s0, s1, s2, s3, s4, s5, s6, s7, .own (.lst L)]).W P) : (G [s0, s1, s2, s3, s4, s5, s6, s7, .own (.lst L)]).W P := by
  simp only [Bool.and_eq_true, decide_eq_true_eq] at hL
  exact h L (tx_all hL.1.1) hL.1.2 hL.2
noncomputable abbrev Φ_bent : Phi := phiOf 9 3 [0] D__law_dt_bent.1
theorem bent_D {line other : Str} {ws vs : List Str} (h1 : Wds line ws) (h2 : Wds other vs) : Draws Φ_bent [.str line, .str other] (Tx 20000) := fun o hj => by
  have hll := h1.ll
  have hol := h2.ll
  have hwl := h1.len
  refine phi_W rfl ?_
  simp only [D__law_dt_bent]
  refine seq_hide fun G hG => ?_
  simp [lim_val]
  refine ⟨by omega, ?_⟩
  refine Draws.call (take_D ((line.length : Nat) + 1) (by omega) ?_) (vs := [.int _]) rfl hj fun d f o1 j1 hd => ?_
  · exact Nat.lt_of_lt_of_le ((Nat.log2_lt (by omega)).mpr (show _ < 2 ^ 25 by omega)) (by decide)
  obtain ⟨at', rfl, ha1, ha2⟩ := hd
  obtain ⟨at', rfl⟩ := Int.eq_ofNat_of_zero_le ha1
  have ha : at' ≤ line.length := by omega
  simp [lim_val, sp_eq, h1.sp]
  refine ⟨by decide, by omega, ?_⟩
  rw [hG]
  clear hG G
  refine seq_hide fun G hG => ?_
  simp [lim_val]
  have hws : 0 < ws.length := List.length_pos_iff.mpr h1.ne
  refine Draws.call (take_D (ws.length : Nat) (by omega) ?_) (vs := [.int _]) rfl j1 fun d f o2 j2 hd => ?_
  · exact Nat.lt_of_lt_of_le ((Nat.log2_lt (by omega)).mpr (show _ < 2 ^ 25 by omega)) (by decide)
  obtain ⟨k, rfl, hk1, hk2⟩ := hd
  obtain ⟨k, rfl⟩ := Int.eq_ofNat_of_zero_le hk1
  have hk : k < ws.length := by omega
  simp [lim_val]
  refine Draws.call (take_D 12 (by omega) (by decide)) (vs := [.int _]) rfl j2 fun d f o3 j3 hd => ?_
  obtain ⟨fm, rfl, hf1, hf2⟩ := hd
  simp [lim_val]
  rw [hG]
  clear hG G
  refine seq_hide fun G hG => ?_
  simp [lim_val]
  refine Draws.call (one_D _ (by simp) (by simp [lim_val])) (vs := [.list _]) rfl j3 fun d f o4 j4 hd => ?_
  obtain ⟨sn, rfl, hs1, hs2⟩ := tx_all (m := 2) (by decide +kernel) _ hd
  simp [lim_val]
  rw [hG]
  clear hG G hd
  refine seq_hide fun G hG => ?_
  have cl := fun lo hi => cutS_length line lo hi
  simp [lim_val, app_len]
  by_cases q : fm < 3
  · right
    have a := cl none (some (at' : Int))
    have b := cl (some ((at' : Int) + fm % 2)) none
    refine ⟨q, by omega, by omega, by omega, by omega, j4, _, rfl, ?_, ((Cs.cut h1.cs).app hs2).app (Cs.cut h1.cs)⟩
    rw [app_len, app_len]
    omega
  left
  refine ⟨by omega, ?_⟩
  rw [hG]
  clear hG G
  refine seq_hide fun G hG => ?_
  simp [lim_val, app_len]
  by_cases q3 : fm = 3
  · right
    have a := cl none (some (at' : Int))
    have b := cl (some ((at' : Int) + 1)) none
    refine ⟨q3, by omega, by omega, j4, _, rfl, ?_, (Cs.cut h1.cs).app (Cs.cut h1.cs)⟩
    rw [app_len]
    omega
  left
  refine ⟨by omega, ?_⟩
  rw [hG]
  clear hG G
  refine seq_hide fun G hG => ?_
  simp [lim_val, app_len]
  refine ⟨by decide, by decide, by decide, by decide, ?_⟩
  rw [hG]
  clear hG G
  refine seq_hide fun G hG => ?_
  simp [lim_val, app_len]
  refine ⟨by decide, ?_⟩
  refine hide_odd (by decide +kernel) fun odd ho hne hol => ?_
  rw [hG]
  clear hG G
  refine seq_hide fun G hG => ?_
  have hc1 : cutD (ws.map PyData.str) none (some (k : Int)) = (ws.take k).map PyData.str := by rw [cut_to k (by simp; omega), List.map_take]
  have hc2 : cutD (ws.map PyData.str) (some ((k : Int) + 1)) none = (ws.drop (k + 1)).map PyData.str := by
    have := cut_from (xs := ws.map PyData.str) (k + 1) (by simp; omega)
    rw [List.map_drop]; exact this
  have hc3 : cutD (ws.map PyData.str) none (some ((k : Int) + 1)) = (ws.take (k + 1)).map PyData.str := by
    have := cut_to (xs := ws.map PyData.str) (k + 1) (by simp; omega)
    rw [List.map_take]; exact this
  have hws' := fun w hw => h1.each w hw
  have tk : ∀ n, ∀ w ∈ ws.take n, w.length ≤ 41 ∧ Cs w := fun n w hw => hws' w (List.mem_of_mem_take hw)
  have dr : ∀ n, ∀ w ∈ ws.drop n, w.length ≤ 41 ∧ Cs w := fun n w hw => hws' w (List.mem_of_mem_drop hw)
  simp [lim_val, app_len, frz]
  by_cases q6 : fm < 6
  · right
    refine ⟨q6, ?_⟩
    refine Draws.call (one_D _ hne (by rw [lim_val]; omega)) (vs := [.list _]) rfl j4 fun d f o5 j5 hd => ?_
    obtain ⟨t, rfl, ht1, ht2⟩ := ho d hd
    simp [hc1, hc2, lim_val]
    refine ⟨by omega, by omega, join_tx (ys := ws.take k ++ [t] ++ ws.drop (k + 1)) j5 (by simp) (by simp; omega) ?_⟩
    intro w hw
    simp only [List.mem_append, List.mem_singleton] at hw
    rcases hw with (hw | rfl) | hw
    · exact tk _ w hw
    · exact ⟨ht1, ht2⟩
    · exact dr _ w hw
  left
  refine ⟨by omega, ?_⟩
  rw [hG]
  clear hG G
  refine seq_hide fun G hG => ?_
  simp [lim_val, app_len]
  by_cases q6 : fm = 6
  · right
    refine ⟨q6, ?_⟩
    simp [hc1, hc2, lim_val]
    refine ⟨by omega, join_tx (ys := ws.take k ++ ws.drop (k + 1)) j4 (by simp) (by simp; omega) ?_⟩
    intro w hw
    simp only [List.mem_append] at hw
    rcases hw with hw | hw
    · exact tk _ w hw
    · exact dr _ w hw
  left
  refine ⟨by omega, ?_⟩
  rw [hG]
  clear hG G
  refine seq_hide fun G hG => ?_
  simp [lim_val, app_len]
  by_cases q9 : fm < 9
  · right
    refine ⟨q9, by omega, ?_⟩
    refine Draws.call (one_D _ (by simp) (by rw [lim_val]; simp; omega)) (vs := [.list _]) rfl j4 fun d f o5 j5 hd => ?_
    have hd : Tx 41 d := by
      rcases List.mem_append.mp hd with hd | hd
      · exact ho d hd
      · exact tx_all (m := 41) (by decide +kernel) d hd
    obtain ⟨t, rfl, ht1, ht2⟩ := hd
    simp [hc2, hc3, lim_val]
    refine ⟨by omega, by omega, join_tx (ys := ws.take (k + 1) ++ [t] ++ ws.drop (k + 1)) j5 (by simp) (by simp; omega) ?_⟩
    intro w hw
    simp only [List.mem_append, List.mem_singleton] at hw
    rcases hw with (hw | rfl) | hw
    · exact tk _ w hw
    · exact ⟨ht1, ht2⟩
    · exact dr _ w hw
  left
  refine ⟨by omega, ?_⟩
  rw [hG]
  clear hG G
  refine seq_hide fun G hG => ?_
  simp [lim_val, app_len]
  by_cases q9 : fm = 9
  · right
    refine ⟨q9, .str (ws.getLast h1.ne), ?_, ?_⟩
    · rw [at_last _ (by simpa using h1.ne)]
      simp
    refine Draws.call (one_D _ (by simp) (by rw [lim_val]; simp)) (vs := [.list _]) rfl j4 fun d f o5 j5 hd => ?_
    obtain ⟨m, hm, rfl⟩ : ∃ m : Nat, m ≤ 40 ∧ d = .int (m : Nat) := by
      simp only [List.mem_cons, List.not_mem_nil, or_false] at hd
      rcases hd with rfl | rfl | rfl | rfl
      · exact ⟨1, by decide, rfl⟩
      · exact ⟨1, by decide, rfl⟩
      · exact ⟨2, by decide, rfl⟩
      · exact ⟨40, by decide, rfl⟩
    simp [lim_val]
    refine ⟨by omega, by omega, join_tx (ys := ws ++ List.replicate m (ws.getLast h1.ne)) j5 (by simp) (by simp; omega) ?_⟩
    intro w hw
    simp only [List.mem_append, List.mem_replicate] at hw
    rcases hw with hw | hw
    · exact hws' w hw
    · rw [hw.2]; exact hws' _ (List.getLast_mem _)
  left
  refine ⟨by omega, ?_⟩
  rw [hG]
  clear hG G
  refine seq_hide fun G hG => ?_
  simp [lim_val, app_len]
  have e1 : (Str.ofString "\n").length = 1 := by decide
  have e2 : (Str.ofString "\n\n").length = 2 := by decide
  have hoc := h2.cs
  by_cases q10 : fm = 10
  · right
    refine ⟨q10, by omega, ?_⟩
    refine Draws.call (one_D _ (by simp) (by rw [lim_val]; simp)) (vs := [.list _]) rfl j4 fun d f o5 j5 hd => ?_
    obtain ⟨t, rfl, ht1, ht2⟩ : Tx 3000 d := by
      simp only [List.mem_cons, List.not_mem_nil, or_false] at hd
      rcases hd with rfl | rfl | rfl | rfl | rfl
      · exact ⟨_, rfl, by omega, Cs.lit _⟩
      · exact ⟨_, rfl, by rw [app_len]; omega, (Cs.lit _).app hoc⟩
      · exact ⟨_, rfl, by decide, Cs.lit _⟩
      · exact ⟨_, rfl, by omega, Cs.lit _⟩
      · exact ⟨_, rfl, by decide, Cs.lit _⟩
    simp [lim_val, app_len]
    exact ⟨by omega, j5, _, rfl, by rw [app_len]; omega, h1.cs.app ht2⟩
  left
  refine ⟨by omega, ?_⟩
  rw [hG]
  clear hG G
  have hvs : 0 < vs.length := List.length_pos_iff.mpr h2.ne
  have a := cl (some (at' : Int)) none
  simp [lim_val, app_len, sp_eq, h2.sp]
  refine ⟨by decide, by omega, .str (vs.head h2.ne), ?_, ?_⟩
  · have := atI_n (vs.map PyData.str) 0 (by simpa using hvs)
    rw [show ((0 : Nat) : Int) = 0 from rfl] at this
    rw [this]
    simp
    rw [← List.head?_eq_getElem?]; exact List.head?_eq_some_head h2.ne
  · have hv := h2.each _ (List.head_mem h2.ne)
    simp [lim_val, app_len]
    exact ⟨by omega, by omega, j4, _, rfl, by rw [app_len]; omega, hv.2.app (Cs.cut h1.cs)⟩
end DL
end
section -- P16
set_option maxRecDepth 100000
set_option maxHeartbeats 2000000
namespace DL
open PySem PySem.Spec PyProof.Rows L2 TL
theorem phiS_of {n : Nat} {g : SDen} {R : EV → Sta → Prop} (h : (g (List.replicate n .un)).W ⟨fun δ => R (.none, false) δ, fun _ => False, fun _ => False, R, fun _ _ _ => False⟩) : ∃ a outs, phiS n g = .rt a outs ∧ R a outs := by
  unfold phiS
  rw [Fl.W_eq] at h
  cases q : g (List.replicate n .un) <;> rw [q] at h
  case nx δ => exact ⟨_, _, rfl, h⟩
  case rt a δ => exact ⟨_, _, rfl, h⟩
  all_goals exact h.elim
@[simp] theorem W_ixScr (ns : List Int) (ge : Den) {δ : Sta} {Q : EV → Sta → Prop} {E : Str → D → Sta → Prop} : (dIxS ns ge δ).W Q E = (ge δ).W (fun i δ1 => ∃ j z, i.1 = .int j ∧ L2.atI ns j = some z ∧ Q (.int z, false) δ1) E := by
  unfold dIxS
  rw [W_bind]
  congr 1
  funext a δ1
  obtain ⟨a, f⟩ := a
  cases a <;> simp
  rename_i j
  cases L2.atI ns j <;> simp
def PoolR (a : EV) (_ : Sta) : Prop := ∃ x y z : Int, a = (.list [.int x, .int y, .int z], true) ∧ y.natAbs < 2 ^ 31
theorem pool_W (ns : List Int) (hl : ns.length ≤ 63) : ∃ a outs, phiS 5 (D__law_pool.1 ns) = .rt a outs ∧ PoolR a outs := by
  refine phiS_of ?_
  rw [show List.replicate 5 Sl.un = [.un, .un, .un, .un, .un] from rfl]
  simp only [D__law_pool]
  refine seq_hide fun G hG => ?_
  simp [gTupD, gsCons, gsNil, gSlot, lim_val]
  rw [hG]
  clear hG G
  refine seq_hide fun G hG => ?_
  simp [lim_val]
  refine ⟨by omega, ?_⟩
  refine for_W (fun ds δ => (∀ d ∈ ds, ∃ i : Nat, d = .int (i : Nat) ∧ i < ns.length) ∧ ∃ (x y : Int) (s3 s4 : Sl), (0 ≤ x ∧ x < 10 ^ 121) ∧ y.natAbs < 2 ^ 31 ∧ δ = [.un, .val (.int x), .val (.int y), s3, s4]) ?_ ?_ ⟨?_, 0, 7, _, _, by decide, by decide, rfl⟩
  · rintro d ds δ ⟨h1, x, y, s3, s4, hx, hy, rfl⟩
    obtain ⟨i, rfl, hi⟩ := h1 d (by simp)
    refine ⟨_, rfl, ?_⟩
    simp [gSlot, atI_n _ _ hi]
    refine ⟨_, List.getElem?_eq_getElem hi, _, List.getElem?_eq_getElem hi, ?_⟩
    generalize (if ns[i] < -1 - ns[i] then -1 - ns[i] else ns[i]) = cell
    have q1 := Int.emod_nonneg (y * 48271 + cell % 2147483629 + 11) (show (2147483647 : Int) ≠ 0 by decide)
    have q2 := Int.emod_lt_of_pos (y * 48271 + cell % 2147483629 + 11) (show (0 : Int) < 2147483647 by decide)
    have h2 : ∀ d ∈ ds, ∃ i : Nat, d = .int (i : Nat) ∧ i < ns.length := fun d hd => h1 d (by simp [hd])
    have q3 : ((y * 48271 + cell % 2147483629 + 11) % 2147483647).natAbs < 2147483648 := by omega
    by_cases c1 : cell < 1000000000000
    · exact .inl ⟨c1, h2, hx, q3⟩
    by_cases c2 : 1000000000000000000000000000000000000000000000000000000000000 ≤ x
    · exact .inr ⟨by omega, .inl ⟨c2, h2, hx, q3⟩⟩
    refine .inr ⟨by omega, .inr ⟨by omega, .inl ?_, h2, ?_, q3⟩⟩
    · have a : x.natAbs.log2 < 200 := by
        by_cases e : x.natAbs = 0
        · rw [e]; decide
        · exact Nat.lt_of_lt_of_le ((Nat.log2_lt e).mpr (show x.natAbs < 2 ^ 200 by omega)) (by decide)
      have b : Nat.log2 1000000000000000000000000000000000000000000000000000000000000 < 300 := by decide
      omega
    · have e1 := Int.emod_nonneg cell (show (1000000000000000000000000000000000000000000000000000000000000 : Int) ≠ 0 by decide)
      have e2 := Int.emod_lt_of_pos cell (show (0 : Int) < 1000000000000000000000000000000000000000000000000000000000000 by decide)
      omega
  · rintro δ ⟨h1, x, y, s3, s4, hx, hy, rfl⟩
    simp [hG, lim_val, PoolR]
    exact ⟨_, _, ⟨rfl, rfl⟩, hy⟩
  · intro d hd
    unfold rng at hd
    obtain ⟨i, hi, rfl⟩ := List.mem_map.mp hd
    exact ⟨i, by simp, by simpa using hi⟩
end DL
end
section -- P17
set_option maxRecDepth 100000
set_option maxHeartbeats 2000000
namespace DL
open PySem PySem.Spec PyProof.Rows L2 TL
theorem Tidy.up : ∀ {n m : Nat} {d : D}, Tidy n d → n ≤ m → Tidy m d
  | _, m, .none, _, _ => by cases m <;> trivial
  | _, m, .bool _, _, _ => by cases m <;> trivial
  | _, m, .int _, _, _ => by cases m <;> trivial
  | _, m, .str _, _, _ => by cases m <;> trivial
  | 0, _, .dict _, h, _ => h.elim
  | _ + 1, _, .dict _, h, _ => h.elim
  | 0, _, .list _, h, _ => h.elim
  | 0, _, .tuple _, h, _ => h.elim
  | n + 1, m + 1, .list ds, h, e => ⟨h.1, fun x hx => Tidy.up (h.2 x hx) (by omega)⟩
  | n + 1, m + 1, .tuple ds, h, e => ⟨h.1, fun x hx => Tidy.up (h.2 x hx) (by omega)⟩
theorem tidy_num (w : Str) : Tidy 0 (numOf w) := by
  rcases numOf_two w with h | ⟨n, h⟩ <;> rw [h] <;> trivial
theorem tidy_spot (w : Str) : Tidy 1 (spotOf w) := by
  unfold spotOf
  split
  · split
    · trivial
    · exact ⟨by rw [lim_val]; simp, fun x hx => by
        simp only [List.mem_cons, List.not_mem_nil, or_false] at hx
        rcases hx with rfl | rfl <;> exact tidy_num _⟩
  · trivial
theorem tidy_line {ws : List Str} (hl : ws.length + 10 ≤ LIM) {d : D} (h : lineRes ws = .ok d) : Tidy 3 d := by
  cases ws with
  | nil => cases h
  | cons w r =>
    simp only [List.length_cons] at hl
    unfold lineRes at h
    dsimp only at h
    split at h
    · unfold runRes at h
      split at h
      · cases h
      · split at h
        · cases h
        · cases h
          refine ⟨by rw [lim_val]; simp, fun x hx => ?_⟩
          simp only [List.mem_cons, List.not_mem_nil, or_false] at hx
          rcases hx with rfl | rfl
          · trivial
          · refine ⟨by rw [List.length_map]; omega, fun y hy => ?_⟩
            obtain ⟨p, _, rfl⟩ := List.mem_map.mp hy
            exact tidy_spot p
    · split at h
      · cases h
      · unfold numRes at h
        split at h
        · cases h
        · split at h
          · cases h
          · cases h
            refine ⟨by rw [List.length_cons, List.length_map]; omega, fun x hx => ?_⟩
            rcases List.mem_cons.mp hx with rfl | hx
            · trivial
            · obtain ⟨p, _, rfl⟩ := List.mem_map.mp hx
              exact (tidy_num p).up (by decide)
theorem tidy_owed {t : Str} (h : t.length ≤ 1000000) : Tidy 4 (owedD t) := by
  have hl := split_len (s := 10) (by decide) t
  have hm := fun p hp => (split_mem (s := 10) (by decide) (x := t) (p := p) hp).1
  unfold owedD
  generalize Txt.split t (sg 10) = ps at hm
  cases ps with
  | nil => trivial
  | cons l ls =>
    have hll := hm l (by simp)
    have hl2 := split_len (s := 32) (by decide) l
    dsimp only
    split
    · refine ⟨by rw [lim_val]; simp, fun x hx => ?_⟩
      simp only [List.mem_cons, List.not_mem_nil, or_false] at hx
      rcases hx with rfl | rfl
      · trivial
      · refine ⟨by rw [lim_val]; simp, fun x hx => ?_⟩
        simp only [List.mem_cons, List.not_mem_nil, or_false] at hx
        rcases hx with rfl | rfl <;> trivial
    · rename_i d q
      have := tidy_line (by rw [lim_val]; omega) q
      split
      · refine ⟨by rw [lim_val]; simp, fun x hx => ?_⟩
        simp only [List.mem_cons, List.not_mem_nil, or_false] at hx
        rcases hx with rfl | rfl
        · trivial
        · exact this
      · refine ⟨by rw [lim_val]; simp, fun x hx => ?_⟩
        simp only [List.mem_cons, List.not_mem_nil, or_false] at hx
        rcases hx with rfl | rfl
        · trivial
        · refine ⟨by rw [lim_val]; simp, fun x hx => ?_⟩
          simp only [List.mem_cons, List.not_mem_nil, or_false] at hx
          rcases hx with rfl | rfl <;> trivial
theorem same_all {x : D} {n : Nat} (h : Tidy n x) (hn : n ≤ 6) : Tells Φ__law_xq_same [.val x, .val x] (.bool true) := same_refl 6 x (h.up hn)
theorem srep_tl (x : Str) (n : Nat) : tl (srep x n) = (List.replicate n (tl x)).flatten := rfl
theorem srep_len (x : Str) (n : Nat) : (srep x n).length = n * x.length := by
  rw [len_tl, srep_tl, List.length_flatten, List.map_replicate, List.sum_replicate_nat, len_tl]
theorem srep_cs {x : Str} (h : Cs x) (n : Nat) : Cs (srep x n) := fun c hc => by
  have hc : c ∈ (List.replicate n (tl x)).flatten := hc
  obtain ⟨l, h1, h2⟩ := List.mem_flatten.mp hc
  rw [(List.mem_replicate.mp h1).2] at h2
  exact h c h2
theorem read_odd {d : D} (h : isiT "str" d = some false) : Errs Φ_read [.val d] "BadText" (.int (-1)) := by
  have h1 : Errs Φ_signs [.val d, .val (.int 1000000)] "BadText" (.int (-1)) := by
    refine errs_of (phi_W rfl ?_)
    simp [D_asked_signs, h]
  have h2 : Errs Φ_lines [.val d] "BadText" (.int (-1)) := by
    refine errs_of (phi_W rfl ?_)
    simp [D_lines_of]
    exact h1.W fun o => ⟨rfl, rfl⟩
  refine errs_of (phi_W rfl ?_)
  simp [D_read_deed]
  exact h2.W fun o => ⟨rfl, rfl⟩
theorem read_long {t : Str} (h : 1000000 < t.length) (hl : t.length ≤ LIM) : Errs Φ_read [.val (.str t)] "TooMany" (.int (t.length : Nat)) := by
  have h1 := signs_long t h hl
  have h2 : Errs Φ_lines [.val (.str t)] "TooMany" (.int (t.length : Nat)) := by
    refine errs_of (phi_W rfl ?_)
    simp [D_lines_of]
    exact h1.W fun o => ⟨rfl, rfl⟩
  refine errs_of (phi_W rfl ?_)
  simp [D_read_deed]
  exact h2.W fun o => ⟨rfl, rfl⟩
theorem hide2 {G : SDen} {s0 s1 s3 s4 s5 : Sl} {L : List D} {P : FP} (h1 : ∀ d ∈ L, Tx 1000000 d) {m : Nat} (h2 : L.length ≤ m) (h : ∀ L, (∀ d ∈ L, Tx 1000000 d) → L.length ≤ m → (G [s0, s1, .own (.lst L), s3, s4, s5]).W P) : (G [s0, s1, .own (.lst L), s3, s4, s5]).W P := h L h1 h2
noncomputable abbrev Φ_fix : Phi := phiOf 6 1 [0] D__law_dt_fixed_right.1
theorem fix_tells {o : OO} (hj : Jar o) : (Φ_fix [.own o]).W (fun a _ => a.1 = .bool true) fun _ _ _ => False := by
  refine phi_W rfl ?_
  simp only [D__law_dt_fixed_right]
  refine seq_hide fun G hG => ?_
  simp [lim_val]
  refine Draws.call (take_D 100000000000000000000 (by decide) (by decide)) (vs := [.int _]) rfl hj fun d f o1 j1 hd => ?_
  obtain ⟨mu, rfl, hm1, hm2⟩ := hd
  obtain ⟨mu, rfl⟩ := Int.eq_ofNat_of_zero_le hm1
  have hmu : mu < 10 ^ 20 := by omega
  have hlog := log_of hmu
  have hlen := strI_len (k := 20) (by decide) hmu
  simp
  rw [hG]
  clear hG G
  refine seq_hide fun G hG => ?_
  simp [lim_val, hlog, app_len, srep_len]
  have l1 : (Str.ofString "run 7.").length = 6 := by decide
  have l2 : (Str.ofString " 0.0").length = 4 := by decide
  have l3 : (Str.ofString "run").length = 3 := by decide
  have l4 : (Str.ofString " x").length = 2 := by decide
  refine ⟨by omega, by omega, by omega, by omega, by omega, by omega, by omega, by omega, ?_⟩
  refine hide2 (m := 5) ?_ (by simp) fun L hL hLn => ?_
  · intro d hd
    simp only [List.mem_cons, List.not_mem_nil, or_false] at hd
    rcases hd with rfl | rfl | rfl | rfl | rfl
    · exact ⟨_, rfl, by rw [app_len, app_len, srep_len]; omega, ((Cs.lit _).app (cs_of_free (strI_lt mu))).app (srep_cs (Cs.lit _) _)⟩
    · exact ⟨_, rfl, by rw [app_len, srep_len]; omega, (Cs.lit _).app (srep_cs (Cs.lit _) _)⟩
    · exact ⟨_, rfl, by rw [app_len, app_len, srep_len]; omega, ((Cs.lit _).app (srep_cs (Cs.lit _) _)).app (Cs.lit _)⟩
    · exact ⟨_, rfl, by decide, Cs.lit _⟩
    · exact ⟨_, rfl, by decide, Cs.lit _⟩
  rw [hG]
  clear hG G
  refine seq_hide fun G hG => ?_
  simp [lim_val]
  refine ⟨by omega, ?_⟩
  refine hide2 (m := 15) (fun d hd => ?_) (by simp; omega) fun L hL hLn => ?_
  · rcases List.mem_append.mp hd with hd | hd
    · exact hL d hd
    · exact tx_all (by decide +kernel) d hd
  rw [hG]
  clear hG G
  refine seq_hide fun G hG => ?_
  simp [lim_val]
  refine ⟨by omega, ?_⟩
  refine hide2 (m := 25) (fun d hd => ?_) (by simp; omega) fun L hL hLn => ?_
  · rcases List.mem_append.mp hd with hd | hd
    · exact hL d hd
    · exact tx_all (by decide +kernel) d hd
  rw [hG]
  clear hG G
  refine seq_hide fun G hG => ?_
  have l5 : (Str.ofString "x").length = 1 := by decide
  simp [lim_val, l5]
  refine ⟨by omega, ?_⟩
  refine hide2 (m := 30) (fun d hd => ?_) (by simp; omega) fun L hL hLn => ?_
  · rcases List.mem_append.mp hd with hd | hd
    · exact hL d hd
    · rw [List.mem_singleton.mp hd]
      exact ⟨_, rfl, by rw [srep_len]; omega, srep_cs (Cs.lit _) _⟩
  rw [hG]
  clear hG G
  refine seq_hide fun G hG => ?_
  simp [lim_val, frz]
  refine lc_M (sF owedD) rfl (by rw [lim_val]; omega) (fun d hd => ?_) ?_
  · obtain ⟨t, rfl, ht1, ht2⟩ := hL d hd
    refine ⟨_, rfl, rfl, ?_⟩
    refine heard_read (t := t) ht1 (g := dVar 4) ?_ ?_
    · rfl
    · exact ⟨rfl, rfl⟩
  simp
  rw [hG]
  clear hG G
  refine seq_hide fun G hG => ?_
  simp [lim_val, frz]
  refine lc_M (sF owedD) rfl (by rw [lim_val]; omega) (fun d hd => ?_) ?_
  · obtain ⟨t, rfl, ht1, ht2⟩ := hL d hd
    refine ⟨_, rfl, rfl, ?_⟩
    simp
    exact (owed_tells t (by rw [lim_val]; omega) ht2).W fun f o => rfl
  have hT : Tidy 5 (.list (L.map (sF owedD))) := by
    refine ⟨by rw [List.length_map, lim_val]; omega, fun x hx => ?_⟩
    obtain ⟨d, hd, rfl⟩ := List.mem_map.mp hx
    obtain ⟨t, rfl, ht1, ht2⟩ := hL d hd
    exact tidy_owed ht1
  simp
  refine (same_all hT (by decide)).W fun f o => ?_
  simp
  rw [hG]
  clear hG G
  refine seq_hide fun G hG => ?_
  simp [lim_val, frz]
  refine Draws.call (one_D _ (by simp) (by rw [lim_val]; simp)) (vs := [.list _]) rfl j1 fun d f o2 j2 hd => ?_
  have hod : ∃ k, isiT "str" d = some k ∧ k = false := by
    simp only [List.mem_cons, List.not_mem_nil, or_false] at hd
    rcases hd with rfl | rfl | rfl | rfl | rfl <;> exact ⟨false, rfl, rfl⟩
  obtain ⟨_, hod, rfl⟩ := hod
  simp
  rw [hG]
  clear hG G
  refine seq_hide fun G hG => ?_
  simp [lim_val, frz]
  refine heard_W ?_
  simp
  refine (read_odd hod).W fun o => ⟨.inr (.inl rfl), ?_⟩
  rw [hG]
  clear hG G
  generalize hn : (1000001 : Int) = n
  refine seq_hide fun G hG => ?_
  simp
  refine heard_W ?_
  simp
  rw [l5, Nat.one_mul, lim_val]
  refine ⟨⟨by omega, by omega, by omega⟩, ?_⟩
  have lx := srep_len (Str.ofString "x") n.toNat
  rw [l5, Nat.mul_one] at lx
  generalize srep (Str.ofString "x") n.toNat = t at lx ⊢
  have hlong := read_long (t := t) (by omega) (by rw [lim_val]; omega)
  refine hlong.W fun o => ⟨.inr (.inr (.inl rfl)), ?_⟩
  have ex : ((t.length : Nat) : Int) = n := by omega
  rw [ex]
  refine ⟨by simp, ?_⟩
  rw [hG]
  simp [lim_val, frz]
  have hT2 : Tidy 2 (.list [.tuple [.str "BadText", .int (-1)], .tuple [.str "TooMany", .int n]]) := by
    refine ⟨by rw [lim_val]; simp, fun x hx => ?_⟩
    simp only [List.mem_cons, List.not_mem_nil, or_false] at hx
    rcases hx with rfl | rfl
    · refine ⟨by rw [lim_val]; simp, fun x hx => ?_⟩
      simp only [List.mem_cons, List.not_mem_nil, or_false] at hx
      rcases hx with rfl | rfl <;> trivial
    · refine ⟨by rw [lim_val]; simp, fun x hx => ?_⟩
      simp only [List.mem_cons, List.not_mem_nil, or_false] at hx
      rcases hx with rfl | rfl <;> trivial
  have hh := same_all hT2 (by decide)
  exact hh.W fun f o => rfl
end DL
end
section -- P18
set_option maxRecDepth 100000
set_option maxHeartbeats 2000000
namespace DL
open PySem PySem.Spec PyProof.Rows L2 TL
theorem tidy_deed {x : Deed} (h : x.Ok) : Tidy 3 x.d := by
  have := tidy_line (ws := x.words) (by have := Deed.words_len h; rw [lim_val]; omega) (deed_back h)
  exact this
theorem plain86 (ns : List Int) (hl : ns.length ≤ 63) : ∃ fr outs, phiS N_law.length (D_law.1 ns) = .rt (.bool true, fr) outs := by
  have key : ∃ a outs, phiS 10 (D_law.1 ns) = .rt a outs ∧ a.1 = .bool true := by
    refine phiS_of ?_
    obtain ⟨a, outs, hp, x, y, z, rfl, hy⟩ := pool_W ns hl
    rw [show List.replicate 10 Sl.un = [.un, .un, .un, .un, .un, .un, .un, .un, .un, .un] from rfl]
    simp only [D_law]
    refine seq_hide fun G hG => ?_
    simp [hp, dCallS]
    rw [hG]
    clear hG G
    refine seq_hide fun G hG => ?_
    simp
    refine for_W (fun ds δ => ∃ o s2 s3 s4 s5 s6 s7 s8 s9, Jar o ∧ δ = [.un, .own o, s2, s3, s4, s5, s6, s7, s8, s9]) ?_ ?_ ⟨_, _, _, _, _, _, _, _, _, ⟨x, y, z, rfl, hy⟩, rfl⟩
    · rintro d ds δ ⟨o, s2, s3, s4, s5, s6, s7, s8, s9, hj, rfl⟩
      refine ⟨_, rfl, ?_⟩
      refine seq_hide fun G hG => ?_
      simp [gSlot]
      refine Draws.call dd_D (vs := []) rfl hj fun d1 f o1 j1 hd => ?_
      obtain ⟨u, hu, rfl⟩ := hd
      simp
      refine Draws.call dd_D (vs := []) rfl j1 fun d2 f o2 j2 hd => ?_
      obtain ⟨v, hv, rfl⟩ := hd
      refine (xl_tells hv).W fun f o => ?_
      simp [lim_val, gTupD, gsCons, gsNil, gSlot]
      rw [hG]
      clear hG G
      refine seq_hide fun G hG => ?_
      simp
      refine (xl_tells hu).W fun f o => ?_
      refine Draws.call odd_D (vs := []) rfl j2 fun bad f o3 j3 hb => ?_
      simp [lim_val, gTupD, gsCons, gsNil, gSlot]
      rw [hG]
      clear hG G
      have hul := line_len hu
      refine seq_hide fun G hG => ?_
      simp [lim_val]
      refine heard_W ?_
      simp
      refine (dtx_tells hu).W fun f o => ?_
      rw [hG]
      clear hG G
      refine seq_hide fun G hG => ?_
      simp [lim_val]
      refine heard_read (t := u.line) (by omega) (g := dVar 5) rfl ?_
      rw [deed_owed hu]
      refine ⟨_, rfl, by simp, ?_⟩
      simp
      rw [hG]
      clear hG G
      refine seq_hide fun G hG => ?_
      simp [lim_val]
      refine heard_W ?_
      simp
      refine (dtx_bad hb).W fun o => ⟨.inl rfl, ?_⟩
      rw [hG]
      clear hG G
      refine seq_hide fun G hG => ?_
      simp [lim_val, frz]
      have hT : Tidy 5 (.list [.tuple [.str "told", .str u.line], .tuple [.str "told", u.d], .tuple [.str "BadDeed", .int 0]]) := by
        refine ⟨by rw [lim_val]; simp, fun x hx => ?_⟩
        simp only [List.mem_cons, List.not_mem_nil, or_false] at hx
        rcases hx with rfl | rfl | rfl
        · refine ⟨by rw [lim_val]; simp, fun x hx => ?_⟩
          simp only [List.mem_cons, List.not_mem_nil, or_false] at hx
          rcases hx with rfl | rfl <;> trivial
        · refine ⟨by rw [lim_val]; simp, fun x hx => ?_⟩
          simp only [List.mem_cons, List.not_mem_nil, or_false] at hx
          rcases hx with rfl | rfl
          · trivial
          · exact tidy_deed hu
        · refine ⟨by rw [lim_val]; simp, fun x hx => ?_⟩
          simp only [List.mem_cons, List.not_mem_nil, or_false] at hx
          rcases hx with rfl | rfl <;> trivial
      refine (same_all hT (by decide)).W fun f o => ?_
      simp
      rw [hG]
      clear hG G
      simp
      refine for_W (fun ds δ => ∃ o s2 s6 s7 s8 s9, Jar o ∧ δ = [.un, .own o, s2, .val u.d, .val (.str v.line), .val (.str u.line), s6, s7, s8, s9]) ?_ ?_ ⟨_, _, _, _, _, _, j3, rfl⟩
      · rintro d ds δ ⟨o, s2, s6, s7, s8, s9, hj, rfl⟩
        refine ⟨_, rfl, ?_⟩
        refine seq_hide fun G hG => ?_
        simp [gSlot]
        refine Draws.call (bent_D (deed_wds hu) (deed_wds hv)) (vs := [.str _, .str _]) rfl hj fun d1 f o1 j1 hd => ?_
        obtain ⟨t, rfl, ht, hc⟩ := hd
        simp
        rw [hG]
        clear hG G
        simp
        refine heard_read (t := t) (by omega) (g := dVar 9) rfl ?_
        simp
        refine (owed_tells t (by rw [lim_val]; omega) hc).W fun f o => ?_
        refine (same_all (tidy_owed (t := t) (by omega)) (by decide)).W fun f o => ?_
        simp
        exact j1
      · rintro δ ⟨o, s2, s6, s7, s8, s9, hj, rfl⟩
        exact ⟨_, hj, _, _, _, _, _, _, _, _, rfl⟩
    · rintro δ ⟨o, s2, s3, s4, s5, s6, s7, s8, s9, hj, rfl⟩
      rw [hG]
      simp
      have := kc_own (Φ := Φ_fix) (i := 1) (o := o) (vs := []) (δ := [Sl.un, Sl.own o, s2, s3, s4, s5, s6, s7, s8, s9]) (Q := fun a outs => a.fst = PyData.bool true) (E := fun _ _ _ => False) rfl
      rw [show ([] : List D).map AV.val = [] from rfl] at this
      rw [this]
      exact (fix_tells hj).mono (fun a _ h => h) fun _ _ _ h => h
  obtain ⟨⟨a, f⟩, outs, h1, h2⟩ := key
  cases h2
  exact ⟨f, outs, h1⟩
end DL
end
section -- Fin86
set_option maxRecDepth 100000
set_option maxHeartbeats 2000000
namespace DL
theorem fin86 : PySem.Challenge.rw_turnsonce_k86_deeds_lines.Holds := main86 fun ns h _ => plain86 ns h
end DL
end
set_option maxRecDepth 100000 in
set_option maxHeartbeats 0 in
theorem PySem.Challenge.cw_turnsonce_k86_deeds_lines_holds : PySem.Challenge.rw_turnsonce_k86_deeds_lines.Holds := by
  exact DL.fin86
