import PyProof.Rows.All
import Wide.All
import OpenK.AllK
import Wide.FinOn
import HandS.ForMost
import HandS.ForExc
import HandS.Evl
import HandS.TupAny
import HandS.IsInst
import HandS.Wide
import HandS.Flow
import HandS.Style
import HandS.NoneIn
import HandS.SetKeys
import HandS.Zip
import HandS.WideBits
import HandS.TupMul
import HandS.Conv
import KE.GoesMore
import HandS.Star
import HandS.RaiseMore
import HandS.DictComp
import PyProof.ReprRoads
import KE.KTupSum
import PyProof.StrLawsIn
import HandS.SetFor
import HandS.SetTxt0
import KE.KDictPairs
import PyProof.Rows.SortStr
import PyProof.Rows.RegFStrParts
import PySem.Challenge.RW_everyrowhasit_k60_whole_overlaps_of_heap
set_option Elab.async false
set_option linter.all false
set_option maxRecDepth 100000
set_option maxHeartbeats 4000000
/-! DL: the data layer. A value is a datum (D); frozen data lie in a part F of the heap that only grows; boxes (what a def changes) stand in a store S by address. -/
namespace DL
open PySem L2

abbrev Ex := Evl.Ex

inductive D where
  | non | bl (b : Bool) | int (i : Int) | str (s : Str)
  | tup (xs : List D) | lst (xs : List D) | rol (xs : List D) | dct (ks : List Key) (xs : List D)
  | ptr (a : Addr) | raw (v : V)

mutual
inductive Rp (K : PySem.W.Frag) (F : Hp) : V → D → Prop
  | non : Rp K F .non .non
  | bl (b : Bool) : Rp K F (.bl b) (.bl b)
  | int (i : Int) : Rp K F (.int i) (.int i)
  | str (x : Str) : Rp K F (.str x) (.str x)
  | tup {a : Addr} {vs : List V} {ds : List D} : F a = some (.tup vs) → RpAll K F vs ds → Rp K F (.ref a) (.tup ds)
  | lst {a : Addr} {vs : List V} {ds : List D} : F a = some (.lst vs) → RpAll K F vs ds → Rp K F (.ref a) (.lst ds)
  | rol {a : Addr} {vs : List V} {ds : List D} : SqL K F a vs → RpAll K F vs ds → Rp K F (.ref a) (.rol ds)
  | dct {a : Addr} {kvs : List (Key × V)} {ks : List Key} {ds : List D} : F a = some (.dK kvs) → kvs.map (·.1) = ks → RpAll K F (kvs.map (·.2)) ds → Rp K F (.ref a) (.dct ks ds)
  | ptr (a : Addr) : Rp K F (.ref a) (.ptr a)
  | raw (v : V) : Rp K F v (.raw v)
inductive RpAll (K : PySem.W.Frag) (F : Hp) : List V → List D → Prop
  | nil : RpAll K F [] []
  | cons {v : V} {vs : List V} {d : D} {ds : List D} : Rp K F v d → RpAll K F vs ds → RpAll K F (v :: vs) (d :: ds)
end

section
variable {K : PySem.W.Frag} {F F' : Hp}
theorem Rp.mono {v : V} {d : D} (e : Ex F F') (h : Rp K F v d) : Rp K F' v d := by
  refine Rp.rec (motive_1 := fun v d _ => Rp K F' v d) (motive_2 := fun vs ds _ => RpAll K F' vs ds) ?_ ?_ ?_ ?_ ?_ ?_ ?_ ?_ ?_ ?_ ?_ ?_ h
  · exact .non
  · exact fun b => .bl b
  · exact fun b => .int b
  · exact fun b => .str b
  · exact fun hs _ ih => .tup (e _ _ hs) ih
  · exact fun hs _ ih => .lst (e _ _ hs) ih
  · exact fun hs _ ih => .rol (Evl.ex_l e hs) ih
  · exact fun hs hk _ ih => .dct (e _ _ hs) hk ih
  · exact fun a => .ptr a
  · exact fun v => .raw v
  · exact .nil
  · exact fun _ _ i1 i2 => .cons i1 i2
theorem RpAll.mono {vs : List V} {ds : List D} (e : Ex F F') (h : RpAll K F vs ds) : RpAll K F' vs ds := by
  induction vs generalizing ds with
  | nil => cases h; exact .nil
  | cons v vs ih => cases h with | cons a b => exact .cons (a.mono e) (ih b)
theorem RpAll.length {vs : List V} {ds : List D} (h : RpAll K F vs ds) : vs.length = ds.length := by
  induction vs generalizing ds with
  | nil => cases h; rfl
  | cons v vs ih => cases h with | cons a b => simp [ih b]
theorem RpAll.get {vs : List V} {ds : List D} (h : RpAll K F vs ds) {i : Nat} {d : D} (hi : ds[i]? = some d) : ∃ v, vs[i]? = some v ∧ Rp K F v d := by
  induction vs generalizing ds i with
  | nil => cases h; simp at hi
  | cons v vs ih =>
    cases h with
    | cons a b =>
      cases i with
      | zero => simp at hi; subst hi; exact ⟨v, by simp, a⟩
      | succ i => simp at hi; obtain ⟨w, hw, r⟩ := ih b hi; exact ⟨w, by simpa using hw, r⟩
theorem RpAll.getv {vs : List V} {ds : List D} (h : RpAll K F vs ds) {i : Nat} {v : V} (hi : vs[i]? = some v) : ∃ d, ds[i]? = some d ∧ Rp K F v d := by
  induction vs generalizing ds i with
  | nil => simp at hi
  | cons v vs ih =>
    cases h with
    | cons a b =>
      cases i with
      | zero => simp at hi; subst hi; exact ⟨_, by simp, a⟩
      | succ i => simp at hi; obtain ⟨w, hw, r⟩ := ih b hi; exact ⟨w, by simpa using hw, r⟩
theorem RpAll.append {vs ws : List V} {ds es : List D} (h : RpAll K F vs ds) (g : RpAll K F ws es) : RpAll K F (vs ++ ws) (ds ++ es) := by
  induction vs generalizing ds with
  | nil => cases h; exact g
  | cons v vs ih => cases h with | cons a b => exact .cons a (ih b)
theorem RpAll.take {vs : List V} {ds : List D} (n : Nat) (h : RpAll K F vs ds) : RpAll K F (vs.take n) (ds.take n) := by
  induction vs generalizing ds n with
  | nil => cases h; simp; exact .nil
  | cons v vs ih => cases h with | cons a b => cases n with
    | zero => exact .nil
    | succ n => exact .cons a (ih n b)
theorem RpAll.drop {vs : List V} {ds : List D} (n : Nat) (h : RpAll K F vs ds) : RpAll K F (vs.drop n) (ds.drop n) := by
  induction vs generalizing ds n with
  | nil => cases h; simp; exact .nil
  | cons v vs ih => cases h with | cons a b => cases n with
    | zero => exact .cons a b
    | succ n => exact ih n b
theorem RpAll.rev {vs : List V} {ds : List D} (h : RpAll K F vs ds) : RpAll K F vs.reverse ds.reverse := by
  induction vs generalizing ds with
  | nil => cases h; exact .nil
  | cons v vs ih => cases h with | cons a b => simp only [List.reverse_cons]; exact (ih b).append (.cons a .nil)
theorem RpAll.set {vs : List V} {ds : List D} {v : V} {d : D} (h : RpAll K F vs ds) (i : Nat) (r : Rp K F v d) : RpAll K F (vs.set i v) (ds.set i d) := by
  induction vs generalizing ds i with
  | nil => cases h; exact .nil
  | cons w vs ih => cases h with | cons a b => cases i with
    | zero => exact .cons r b
    | succ i => exact .cons a (ih b i)
theorem RpAll.erase {vs : List V} {ds : List D} (h : RpAll K F vs ds) (i : Nat) : RpAll K F (vs.eraseIdx i) (ds.eraseIdx i) := by
  induction vs generalizing ds i with
  | nil => cases h; exact .nil
  | cons w vs ih => cases h with | cons a b => cases i with
    | zero => exact b
    | succ i => exact .cons a (ih b i)
theorem RpAll.dropLast {vs : List V} {ds : List D} (h : RpAll K F vs ds) : RpAll K F vs.dropLast ds.dropLast := by
  rw [List.dropLast_eq_take, List.dropLast_eq_take, h.length]; exact h.take _
theorem RpAll.ints {vs : List V} {ns : List Int} (h : RpAll K F vs (ns.map D.int)) : vs = ns.map V.int := by
  induction vs generalizing ns with
  | nil => cases ns with | nil => rfl | cons => cases h
  | cons v vs ih => cases ns with | nil => cases h | cons n ns => cases h with | cons a b => cases a; simp [ih b]
theorem RpAll.strs {vs : List V} {ns : List Str} (h : RpAll K F vs (ns.map D.str)) : vs = ns.map V.str := by
  induction vs generalizing ns with
  | nil => cases ns with | nil => rfl | cons => cases h
  | cons v vs ih => cases ns with | nil => cases h | cons n ns => cases h with | cons a b => cases a; simp [ih b]
theorem RpAll.bls {vs : List V} {ns : List Bool} (h : RpAll K F vs (ns.map D.bl)) : vs = ns.map V.bl := by
  induction vs generalizing ns with
  | nil => cases ns with | nil => rfl | cons => cases h
  | cons v vs ih => cases ns with | nil => cases h | cons n ns => cases h with | cons a b => cases a; simp [ih b]
theorem rpAll_ints (ns : List Int) : RpAll K F (ns.map V.int) (ns.map D.int) := by
  induction ns with | nil => exact .nil | cons n ns ih => exact .cons (.int n) ih
theorem rpAll_strs (ns : List Str) : RpAll K F (ns.map V.str) (ns.map D.str) := by
  induction ns with | nil => exact .nil | cons n ns ih => exact .cons (.str n) ih
theorem rpAll_bls (ns : List Bool) : RpAll K F (ns.map V.bl) (ns.map D.bl) := by
  induction ns with | nil => exact .nil | cons n ns ih => exact .cons (.bl n) ih
end

/-! ### boxes -/
inductive MO where
  | lst (ds : List D) | dK (kvs : List (Key × D)) | dT (kvs : List (List Key × D)) | obj (o : HO)
abbrev Sto := Addr → Option MO
def MOk (K : PySem.W.Frag) (F : Hp) : HO → MO → Prop
  | .lst vs, .lst ds => RpAll K F vs ds
  | .dK kvs, .dK kds => kvs.map (·.1) = kds.map (·.1) ∧ RpAll K F (kvs.map (·.2)) (kds.map (·.2))
  | .dT kvs, .dT kds => kvs.map (·.1) = kds.map (·.1) ∧ RpAll K F (kvs.map (·.2)) (kds.map (·.2))
  | o, .obj u => o = u
  | _, _ => False
def ups (S : Sto) (a : Addr) (o : MO) : Sto := fun b => if b = a then some o else S b
def dels (S : Sto) (a : Addr) : Sto := fun b => if b = a then none else S b
theorem ups_same {S : Sto} {a : Addr} {o : MO} : ups S a o a = some o := if_pos rfl
theorem ups_ne {S : Sto} {a b : Addr} {o : MO} (h : b ≠ a) : ups S a o b = S b := if_neg h
theorem ups_ups {S : Sto} {a : Addr} {o u : MO} : ups (ups S a o) a u = ups S a u := by funext b; unfold ups; split <;> rfl
theorem ups_self {S : Sto} {a : Addr} {o : MO} (h : S a = some o) : ups S a o = S := by funext b; unfold ups; split <;> simp_all
theorem dels_ups {S : Sto} {a : Addr} {o : MO} (h : S a = none) : dels (ups S a o) a = S := by funext b; unfold dels ups; split <;> simp_all
theorem ups_swap {S : Sto} {a b : Addr} {o u : MO} (h : a ≠ b) : ups (ups S a o) b u = ups (ups S b u) a o := by
  funext c; unfold ups; split <;> split <;> simp_all
theorem dels_ups_ne {S : Sto} {a b : Addr} {o : MO} (h : a ≠ b) : dels (ups S a o) b = ups (dels S b) a o := by
  funext c; unfold dels ups; split <;> split <;> simp_all
theorem dels_none {S : Sto} {a : Addr} (h : S a = none) : dels S a = S := by funext b; unfold dels; split <;> simp_all
theorem MOk.mono {K : PySem.W.Frag} {F F' : Hp} {ho : HO} {mo : MO} (e : Ex F F') (h : MOk K F ho mo) : MOk K F' ho mo := by
  cases mo <;> cases ho <;> first | exact h | exact RpAll.mono e h | exact ⟨h.1, RpAll.mono e h.2⟩ | exact False.elim h
theorem MOk.lst_inv {K : PySem.W.Frag} {F : Hp} {ho : HO} {ds : List D} (h : MOk K F ho (.lst ds)) : ∃ vs, ho = .lst vs ∧ RpAll K F vs ds := by
  cases ho <;> first | exact ⟨_, rfl, h⟩ | exact False.elim h


/-- a step: the frozen part grows, what neither is frozen nor a box stays as it is -/
def Stp (F : Hp) (S : Sto) (H : Hp) (F' : Hp) (S' : Sto) (H' : Hp) : Prop :=
  Ex F F' ∧ ∀ a o, H a = some o → F a = none → S a = none → H' a = some o ∧ F' a = none ∧ S' a = none
theorem Stp.refl (F : Hp) (S : Sto) (H : Hp) : Stp F S H F S H := ⟨Evl.Ex.refl F, fun a o h f s => ⟨h, f, s⟩⟩
theorem Stp.trans {F F1 F2 H H1 H2 : Hp} {S S1 S2 : Sto} (a : Stp F S H F1 S1 H1) (b : Stp F1 S1 H1 F2 S2 H2) : Stp F S H F2 S2 H2 :=
  ⟨a.1.trans b.1, fun x o h f s => let ⟨h1, f1, s1⟩ := a.2 x o h f s; b.2 x o h1 f1 s1⟩
theorem Stp.ex {F F1 H H1 : Hp} {S S1 : Sto} (a : Stp F S H F1 S1 H1) : Ex F F1 := a.1
abbrev Sl := List (Option D)
structure Rel (K : PySem.W.Frag) (B F : Hp) (Γ : Sl) (S : Sto) (σ : L2.St) (H : Hp) : Prop where
  bs : Ex B F
  ex : Ex F H
  len : σ.length = Γ.length
  sl : ∀ (i : Nat) (d : D), Γ[i]? = some (some d) → ∃ v, σ[i]? = some (some v) ∧ Rp K F v d
  out : ∀ a o, S a = some o → F a = none
  sto : ∀ a o, S a = some o → ∃ ho, H a = some ho ∧ MOk K F ho o

section
variable {K : PySem.W.Frag} {B F F' : Hp} {Γ : Sl} {S : Sto} {σ : L2.St} {H : Hp}
theorem Rel.free (R : Rel K B F Γ S σ H) {p : Addr} (h : H p = none) : F p = none ∧ S p = none := by
  constructor
  · cases e : F p with
    | none => rfl
    | some o => rw [R.ex p o e] at h; cases h
  · cases e : S p with
    | none => rfl
    | some o => obtain ⟨ho, h1, _⟩ := R.sto p o e; rw [h1] at h; cases h
/-- a frozen thing is laid -/
theorem Rel.lay (R : Rel K B F Γ S σ H) {p : Addr} (h : H p = none) (o : HO) : Ex F (upd F p o) ∧ Rel K B (upd F p o) Γ S σ (upd H p o) := by
  have e : Ex F (upd F p o) := Evl.Ex.new (R.free h).1
  refine ⟨e, ⟨R.bs.trans e, fun a u hu => ?_, R.len, fun i d hd => ?_, fun a u hu => ?_, fun a u hu => ?_⟩⟩
  · by_cases q : a = p
    · subst q; rw [upd_same] at hu ⊢; exact hu
    · rw [upd_ne q] at hu ⊢; exact R.ex a u hu
  · obtain ⟨v, hv, r⟩ := R.sl i d hd; exact ⟨v, hv, r.mono e⟩
  · have q : a ≠ p := fun z => by subst z; rw [(R.free h).2] at hu; cases hu
    rw [upd_ne q]; exact R.out a u hu
  · have q : a ≠ p := fun z => by subst z; rw [(R.free h).2] at hu; cases hu
    obtain ⟨ho, h1, h2⟩ := R.sto a u hu
    exact ⟨ho, by rw [upd_ne q]; exact h1, h2.mono e⟩
/-- a box is laid -/
theorem Rel.box (R : Rel K B F Γ S σ H) {p : Addr} (h : H p = none) {ho : HO} {mo : MO} (m : MOk K F ho mo) : Rel K B F Γ (ups S p mo) σ (upd H p ho) := by
  refine ⟨R.bs, fun a u hu => ?_, R.len, R.sl, fun a u hu => ?_, fun a u hu => ?_⟩
  · have q : a ≠ p := fun z => by subst z; rw [(R.free h).1] at hu; cases hu
    rw [upd_ne q]; exact R.ex a u hu
  · by_cases q : a = p
    · subst q; exact (R.free h).1
    · rw [ups_ne q] at hu; exact R.out a u hu
  · by_cases q : a = p
    · subst q; rw [ups_same] at hu; cases hu; exact ⟨ho, upd_same, m⟩
    · rw [ups_ne q] at hu; rw [upd_ne q]; exact R.sto a u hu
/-- a box is changed -/
theorem Rel.put (R : Rel K B F Γ S σ H) {p : Addr} {o : MO} (h : S p = some o) {ho : HO} {mo : MO} (m : MOk K F ho mo) : Rel K B F Γ (ups S p mo) σ (upd H p ho) := by
  have hf := R.out p o h
  refine ⟨R.bs, fun a u hu => ?_, R.len, R.sl, fun a u hu => ?_, fun a u hu => ?_⟩
  · have q : a ≠ p := fun z => by subst z; rw [hf] at hu; cases hu
    rw [upd_ne q]; exact R.ex a u hu
  · by_cases q : a = p
    · subst q; exact hf
    · rw [ups_ne q] at hu; exact R.out a u hu
  · by_cases q : a = p
    · subst q; rw [ups_same] at hu; cases hu; exact ⟨ho, upd_same, m⟩
    · rw [ups_ne q] at hu; rw [upd_ne q]; exact R.sto a u hu
/-- a box is forgotten -/
theorem Rel.drop (R : Rel K B F Γ S σ H) {S' : Sto} (h : ∀ a o, S' a = some o → S a = some o) : Rel K B F Γ S' σ H :=
  ⟨R.bs, R.ex, R.len, R.sl, fun a o e => R.out a o (h a o e), fun a o e => R.sto a o (h a o e)⟩
/-- a box becomes a frozen list -/
theorem Rel.freeze (R : Rel K B F Γ S σ H) {p : Addr} {ds : List D} (h : S p = some (.lst ds)) :
    ∃ F', Stp F S H F' (dels S p) H ∧ Rel K B F' Γ (dels S p) σ H ∧ Rp K F' (.ref p) (.lst ds) := by
  obtain ⟨ho, h1, h2⟩ := R.sto p _ h
  obtain ⟨vs, rfl, h3⟩ := h2.lst_inv
  have e : Ex F (upd F p (.lst vs)) := Evl.Ex.new (R.out p _ h)
  refine ⟨upd F p (.lst vs), ⟨e, fun a u hu f s => ?_⟩, ⟨R.bs.trans e, fun a u hu => ?_, R.len, fun i d hd => ?_, fun a u hu => ?_, fun a u hu => ?_⟩, .lst upd_same (h3.mono e)⟩
  · have q : a ≠ p := fun z => by subst z; rw [h] at s; cases s
    exact ⟨hu, by rw [upd_ne q]; exact f, by unfold dels; rw [if_neg q]; exact s⟩
  · by_cases q : a = p
    · subst q; rw [upd_same] at hu; rw [h1]; exact hu
    · rw [upd_ne q] at hu; exact R.ex a u hu
  · obtain ⟨v, hv, r⟩ := R.sl i d hd; exact ⟨v, hv, r.mono e⟩
  · unfold dels at hu
    split at hu
    · cases hu
    · rename_i q; rw [upd_ne q]; exact R.out a u hu
  · unfold dels at hu
    split at hu
    · cases hu
    · obtain ⟨ho, h1, h2⟩ := R.sto a u hu; exact ⟨ho, h1, h2.mono e⟩
theorem Rel.layS (R : Rel K B F Γ S σ H) {p : Addr} (h : H p = none) (o : HO) : Stp F S H (upd F p o) S (upd H p o) :=
  ⟨(R.lay h o).1, fun a u hu f s => by
    have q : a ≠ p := fun z => by subst z; rw [hu] at h; cases h
    rw [upd_ne q, upd_ne q]; exact ⟨hu, f, s⟩⟩
theorem Rel.boxS (R : Rel K B F Γ S σ H) {p : Addr} (h : H p = none) (ho : HO) (mo : MO) : Stp F S H F (ups S p mo) (upd H p ho) :=
  ⟨Evl.Ex.refl F, fun a u hu f s => by
    have q : a ≠ p := fun z => by subst z; rw [hu] at h; cases h
    rw [upd_ne q, ups_ne q]; exact ⟨hu, f, s⟩⟩
theorem Rel.putS {p : Addr} {o : MO} (h : S p = some o) (ho : HO) (mo : MO) : Stp F S H F (ups S p mo) (upd H p ho) :=
  ⟨Evl.Ex.refl F, fun a u hu f s => by
    have q : a ≠ p := fun z => by subst z; rw [h] at s; cases s
    rw [upd_ne q, ups_ne q]; exact ⟨hu, f, s⟩⟩
theorem Rel.dropS {S' : Sto} (h : ∀ a o, S' a = some o → S a = some o) : Stp F S H F S' H :=
  ⟨Evl.Ex.refl F, fun a u hu f s => ⟨hu, f, by
    cases e : S' a with
    | none => rfl
    | some o => rw [h a o e] at s; cases s⟩⟩
/-- slots -/
theorem Rel.set (R : Rel K B F Γ S σ H) {v : V} {d : D} (i : Nat) (r : Rp K F v d) : Rel K B F (Γ.set i (some d)) S (σ.set i (some v)) H := by
  refine ⟨R.bs, R.ex, by simp [R.len], fun j e he => ?_, R.out, R.sto⟩
  by_cases q : i = j
  · subst q
    have hl : i < Γ.length := by
      rcases Nat.lt_or_ge i Γ.length with h | h
      · exact h
      · rw [List.getElem?_eq_none (by simpa using h)] at he; cases he
    rw [List.getElem?_set_self hl] at he
    cases he
    exact ⟨v, by rw [List.getElem?_set_self (by rw [R.len]; exact hl)], r⟩
  · rw [List.getElem?_set_ne q] at he ⊢; exact R.sl j e he
theorem Rel.clear (R : Rel K B F Γ S σ H) (i : Nat) : Rel K B F (Γ.set i none) S (σ.set i none) H := by
  refine ⟨R.bs, R.ex, by simp [R.len], fun j e he => ?_, R.out, R.sto⟩
  by_cases q : i = j
  · subst q
    rcases Nat.lt_or_ge i Γ.length with h | h
    · rw [List.getElem?_set_self h] at he; cases he
    · rw [List.getElem?_eq_none (by simpa using h)] at he; cases he
  · rw [List.getElem?_set_ne q] at he ⊢; exact R.sl j e he
def wipeD (Γ : Sl) : List Nat → Sl
  | [] => Γ
  | v :: vs => (wipeD Γ vs).set v none
theorem Rel.wipe (R : Rel K B F Γ S σ H) : ∀ vs, Rel K B F (wipeD Γ vs) S (L2.wipe σ vs) H
  | [] => R
  | v :: vs => (Rel.wipe R vs).clear v
/-- the slots seen anew (a pointer frozen, a slot forgotten) -/
theorem Rel.see (R : Rel K B F Γ S σ H) {Γ' : Sl} (hl : Γ'.length = Γ.length) (h : ∀ (i : Nat) (d : D), Γ'[i]? = some (some d) → Γ[i]? = some (some d) ∨ ∃ e, Γ[i]? = some (some e) ∧ ∀ v, Rp K F v e → Rp K F v d) : Rel K B F Γ' S σ H :=
  ⟨R.bs, R.ex, by rw [R.len, hl], fun i d e => by
    rcases h i d e with q | ⟨u, q, f⟩
    · exact R.sl i d q
    · obtain ⟨v, hv, r⟩ := R.sl i u q; exact ⟨v, hv, f v r⟩, R.out, R.sto⟩
end

/-! ### what a reading does on data -/
def WE (K : PySem.W.Frag) (B : Hp) (t : TE) (Γ : Sl) (S : Sto) (P : D → Sto → Prop) : Prop :=
  ∀ F σ H, Rel K B F Γ S σ H → ∀ Q : VK, (∀ v d H' F' S', P d S' → Stp F S H F' S' H' → Rel K B F' Γ S' σ H' → Rp K F' v d → Q v H') → t σ H Q
def WT (K : PySem.W.Frag) (B : Hp) (t : TT) (Γ : Sl) (S : Sto) (P : Bool → Sto → Prop) : Prop :=
  ∀ F σ H, Rel K B F Γ S σ H → ∀ Q : Bool → Hp → Prop, (∀ b H' F' S', P b S' → Stp F S H F' S' H' → Rel K B F' Γ S' σ H' → Q b H') → t σ H Q
def WA (K : PySem.W.Frag) (B : Hp) (t : TA) (Γ : Sl) (S : Sto) (P : List D → Sto → Prop) : Prop :=
  ∀ F σ H, Rel K B F Γ S σ H → ∀ Q : List V → Hp → Prop, (∀ vs ds H' F' S', P ds S' → Stp F S H F' S' H' → Rel K B F' Γ S' σ H' → RpAll K F' vs ds → Q vs H') → t σ H Q
/-- an operation on values -/
def RD2 (K : PySem.W.Frag) (B : Hp) (r : R2) (x y : D) (S : Sto) (P : D → Sto → Prop) : Prop :=
  ∀ F Γ σ H v u, Rel K B F Γ S σ H → Rp K F v x → Rp K F u y → ∀ Q : VK, (∀ v d H' F' S', P d S' → Stp F S H F' S' H' → Rel K B F' Γ S' σ H' → Rp K F' v d → Q v H') → r v u H Q
def RD1 (K : PySem.W.Frag) (B : Hp) (r : V → Hp → VK → Prop) (x : D) (S : Sto) (P : D → Sto → Prop) : Prop :=
  ∀ F Γ σ H v, Rel K B F Γ S σ H → Rp K F v x → ∀ Q : VK, (∀ v d H' F' S', P d S' → Stp F S H F' S' H' → Rel K B F' Γ S' σ H' → Rp K F' v d → Q v H') → r v H Q
def RDA (K : PySem.W.Frag) (B : Hp) (r : List V → Hp → VK → Prop) (xs : List D) (S : Sto) (P : D → Sto → Prop) : Prop :=
  ∀ F Γ σ H vs, Rel K B F Γ S σ H → RpAll K F vs xs → ∀ Q : VK, (∀ v d H' F' S', P d S' → Stp F S H F' S' H' → Rel K B F' Γ S' σ H' → Rp K F' v d → Q v H') → r vs H Q
def RDM (K : PySem.W.Frag) (B : Hp) (r : V → List V → Hp → VK → Prop) (x : D) (xs : List D) (S : Sto) (P : D → Sto → Prop) : Prop :=
  ∀ F Γ σ H v vs, Rel K B F Γ S σ H → Rp K F v x → RpAll K F vs xs → ∀ Q : VK, (∀ v d H' F' S', P d S' → Stp F S H F' S' H' → Rel K B F' Γ S' σ H' → Rp K F' v d → Q v H') → r v vs H Q
/-- what is wanted behind a statement -/
structure Ko where
  nx : Sl → Sto → Prop
  rt : D → Sto → Prop
  bk : Sl → Sto → Prop := fun _ _ => False
  ct : Sl → Sto → Prop := fun _ _ => False
structure EndsOk (K : PySem.W.Frag) (B F : Hp) (S : Sto) (H : Hp) (k : Ko) (D : Ends) : Prop where
  nx : ∀ F' σ' H' Γ' S', k.nx Γ' S' → Stp F S H F' S' H' → Rel K B F' Γ' S' σ' H' → D.nx σ' H'
  rt : ∀ v d F' σ' H' Γ' S', k.rt d S' → Stp F S H F' S' H' → Rel K B F' Γ' S' σ' H' → Rp K F' v d → D.rt v H'
  bk : ∀ F' σ' H' Γ' S', k.bk Γ' S' → Stp F S H F' S' H' → Rel K B F' Γ' S' σ' H' → D.bk σ' H'
  ct : ∀ F' σ' H' Γ' S', k.ct Γ' S' → Stp F S H F' S' H' → Rel K B F' Γ' S' σ' H' → D.ct σ' H'
theorem EndsOk.mono {K : PySem.W.Frag} {B F F' H H' : Hp} {S S' : Sto} {k : Ko} {D : Ends} (h : EndsOk K B F S H k D) (e : Stp F S H F' S' H') : EndsOk K B F' S' H' k D :=
  ⟨fun F1 σ H Γ S a b => h.nx F1 σ H Γ S a (e.trans b), fun v d F1 σ H Γ S a b => h.rt v d F1 σ H Γ S a (e.trans b), fun F1 σ H Γ S a b => h.bk F1 σ H Γ S a (e.trans b), fun F1 σ H Γ S a b => h.ct F1 σ H Γ S a (e.trans b)⟩
def WS (K : PySem.W.Frag) (B : Hp) (t : TS) (Γ : Sl) (S : Sto) (k : Ko) : Prop :=
  ∀ F σ H, Rel K B F Γ S σ H → ∀ D : Ends, EndsOk K B F S H k D → t D σ H
/-- a target -/
def WG (K : PySem.W.Frag) (B : Hp) (g : TG) (d : D) (Γ : Sl) (S : Sto) (P : Sl → Sto → Prop) : Prop :=
  ∀ F σ H v, Rel K B F Γ S σ H → Rp K F v d → ∀ Q : L2.St → Hp → Prop, (∀ Γ' S' F' σ' H', P Γ' S' → Stp F S H F' S' H' → Rel K B F' Γ' S' σ' H' → Q σ' H') → g v σ H Q
def WGs (K : PySem.W.Frag) (B : Hp) (g : TGs) (ds : List D) (Γ : Sl) (S : Sto) (P : Sl → Sto → Prop) : Prop :=
  ∀ F σ H vs, Rel K B F Γ S σ H → RpAll K F vs ds → ∀ Q : L2.St → Hp → Prop, (∀ Γ' S' F' σ' H', P Γ' S' → Stp F S H F' S' H' → Rel K B F' Γ' S' σ' H' → Q σ' H') → g vs σ H Q
/-- what is walked: as long as the store is so (Lk) -/
structure Wks (K : PySem.W.Frag) (B F : Hp) (J : It) (ds : List D) (Lk : Sto → Prop) : Prop where
  go : ∀ (i : Nat) (d : D) F1 Γ S σ H, ds[i]? = some d → Ex F F1 → Rel K B F1 Γ S σ H → Lk S → J.go i H
  stop : ∀ F1 Γ S σ H, Ex F F1 → Rel K B F1 Γ S σ H → Lk S → J.stop ds.length H
  yld : ∀ (i : Nat) (d : D) F1 Γ S σ H x H', ds[i]? = some d → Ex F F1 → Rel K B F1 Γ S σ H → Lk S → J.yld i H x H' → ∃ F2, Stp F1 S H F2 S H' ∧ Rel K B F2 Γ S σ H' ∧ Rp K F2 x d
def WI (K : PySem.W.Frag) (B : Hp) (wi : TI) (Γ : Sl) (S : Sto) (P : List D → (Sto → Prop) → Sto → Prop) : Prop :=
  ∀ F σ H, Rel K B F Γ S σ H → ∀ R : It → Hp → Prop, (∀ J ds Lk H' F' S', P ds Lk S' → Stp F S H F' S' H' → Rel K B F' Γ S' σ H' → Wks K B F' J ds Lk → R J H') → wi σ H R
end DL
/-! DL2: the rules of the data layer for expressions, statements, loops, comprehensions, calls -/
namespace DL
open PySem L2
section
variable {K : PySem.W.Frag} {B F F' : Hp} {Γ : Sl} {S : Sto} {σ : L2.St} {H : Hp} {ta tb te : TE} {tt tu : TT} {P : D → Sto → Prop} {PB : Bool → Sto → Prop} {PA : List D → Sto → Prop} {r : R2}

theorem Rel.join (R : Rel K B F Γ S σ H) {S' : Sto} {H' : Hp} (e : Ex F F') {Γ0 : Sl} {σ0 : L2.St} (R' : Rel K B F' Γ0 S' σ0 H') : Rel K B F' Γ S' σ H' :=
  ⟨R'.bs, R'.ex, R.len, fun i d hd => let ⟨v, hv, r⟩ := R.sl i d hd; ⟨v, hv, r.mono e⟩, R'.out, R'.sto⟩
theorem Rel.bare (R : Rel K B F Γ S σ H) : Rel K B F [] S [] H := ⟨R.bs, R.ex, rfl, fun i d hd => by simp at hd, R.out, R.sto⟩

/-! ### weakening -/
theorem WE.imp {P' : D → Sto → Prop} (h : WE K B te Γ S P) (q : ∀ d S', P d S' → P' d S') : WE K B te Γ S P' := fun F σ H R Q k => h F σ H R Q fun v d H' F' S' p => k v d H' F' S' (q _ _ p)
theorem WT.imp {P' : Bool → Sto → Prop} (h : WT K B tt Γ S PB) (q : ∀ d S', PB d S' → P' d S') : WT K B tt Γ S P' := fun F σ H R Q k => h F σ H R Q fun d H' F' S' p => k d H' F' S' (q _ _ p)
theorem WA.imp {t : TA} {P' : List D → Sto → Prop} (h : WA K B t Γ S PA) (q : ∀ d S', PA d S' → P' d S') : WA K B t Γ S P' := fun F σ H R Q k => h F σ H R Q fun v d H' F' S' p => k v d H' F' S' (q _ _ p)

/-! ### expressions -/
theorem we_var {i : Nat} {d : D} (h : Γ[i]? = some (some d)) (p : P d S) : WE K B (tVar i) Γ S P := fun F σ H R Q k =>
  let ⟨v, hv, r⟩ := R.sl i d h; ⟨v, hv, k v d H F S p (Stp.refl F _ _) R r⟩
theorem we_int {i : Int} (p : P (.int i) S) : WE K B (tC (.int i)) Γ S P := fun F σ H R Q k => k _ _ H F S p (Stp.refl F _ _) R (.int i)
theorem we_bl {i : Bool} (p : P (.bl i) S) : WE K B (tC (.bl i)) Γ S P := fun F σ H R Q k => k _ _ H F S p (Stp.refl F _ _) R (.bl i)
theorem we_str {i : Str} (p : P (.str i) S) : WE K B (tC (.str i)) Γ S P := fun F σ H R Q k => k _ _ H F S p (Stp.refl F _ _) R (.str i)
theorem we_non (p : P .non S) : WE K B (tC .non) Γ S P := fun F σ H R Q k => k _ _ H F S p (Stp.refl F _ _) R .non
theorem we_raw {v : V} (p : P (.raw v) S) : WE K B (tC v) Γ S P := fun F σ H R Q k => k _ _ H F S p (Stp.refl F _ _) R (.raw v)
theorem we_op (h : WE K B ta Γ S fun x S1 => WE K B tb Γ S1 fun y S2 => RD2 K B r x y S2 P) : WE K B (tOp r ta tb) Γ S P := fun F σ H R Q k =>
  h F σ H R _ fun v x H1 F1 S1 h1 e1 R1 r1 => h1 F1 σ H1 R1 _ fun u y H2 F2 S2 h2 e2 R2 r2 => h2 F2 Γ σ H2 v u R2 (r1.mono e2.1) r2 Q fun z d H3 F3 S3 p e3 => k z d H3 F3 S3 p ((e1.trans e2).trans e3)
theorem we_un {r : V → Hp → VK → Prop} (h : WE K B ta Γ S fun x S1 => RD1 K B r x S1 P) : WE K B (tUn r ta) Γ S P := fun F σ H R Q k =>
  h F σ H R _ fun v x H1 F1 S1 h1 e1 R1 r1 => h1 F1 Γ σ H1 v R1 r1 Q fun z d H3 F3 S3 p e3 => k z d H3 F3 S3 p (e1.trans e3)
theorem we_if (h : WT K B tt Γ S fun b S1 => if b = true then WE K B ta Γ S1 P else WE K B tb Γ S1 P) : WE K B (tIf tt ta tb) Γ S P := fun F σ H R Q k =>
  h F σ H R _ fun b H1 F1 S1 h1 e1 R1 => by
    cases b with
    | true => exact h1 F1 σ H1 R1 Q fun v d H' F' S' p e => k v d H' F' S' p (e1.trans e)
    | false => exact h1 F1 σ H1 R1 Q fun v d H' F' S' p e => k v d H' F' S' p (e1.trans e)
theorem wa_nil (p : PA [] S) : WA K B tNil Γ S PA := fun F σ H R Q k => k [] [] H F S p (Stp.refl F _ _) R .nil
theorem wa_cons {t : TA} (h : WE K B te Γ S fun d S1 => WA K B t Γ S1 fun ds S2 => PA (d :: ds) S2) : WA K B (tCons te t) Γ S PA := fun F σ H R Q k =>
  h F σ H R _ fun v d H1 F1 S1 h1 e1 R1 r1 => h1 F1 σ H1 R1 _ fun vs ds H2 F2 S2 p e2 R2 r2 => k (v :: vs) (d :: ds) H2 F2 S2 p (e1.trans e2) R2 (.cons (r1.mono e2.1) r2)
theorem we_tup {t : TA} (h : WA K B t Γ S fun ds S1 => ds.length ≤ sizeLine ∧ P (.tup ds) S1) : WE K B (tTup t) Γ S P := fun F σ H R Q k =>
  h F σ H R _ fun vs ds H1 F1 S1 ⟨hl, p⟩ e1 R1 r1 => ⟨by rw [r1.length]; exact hl, fun a ha => by
    obtain ⟨e2, R2⟩ := R1.lay ha (.tup vs)
    exact k _ _ _ _ S1 p (e1.trans (R1.layS ha _)) R2 (.tup upd_same (r1.mono e2))⟩
theorem we_lst {t : TA} (h : WA K B t Γ S fun ds S1 => ds.length ≤ sizeLine ∧ P (.lst ds) S1) : WE K B (tLst t) Γ S P := fun F σ H R Q k =>
  h F σ H R _ fun vs ds H1 F1 S1 ⟨hl, p⟩ e1 R1 r1 => ⟨by rw [r1.length]; exact hl, fun a ha => by
    obtain ⟨e2, R2⟩ := R1.lay ha (.lst vs)
    exact k _ _ _ _ S1 p (e1.trans (R1.layS ha _)) R2 (.lst upd_same (r1.mono e2))⟩
/-- a list that is to be changed -/
theorem we_lstM {t : TA} (h : WA K B t Γ S fun ds S1 => ds.length ≤ sizeLine ∧ ∀ a, S1 a = none → P (.ptr a) (ups S1 a (.lst ds))) : WE K B (tLst t) Γ S P := fun F σ H R Q k =>
  h F σ H R _ fun vs ds H1 F1 S1 ⟨hl, p⟩ e1 R1 r1 => ⟨by rw [r1.length]; exact hl, fun a ha => by
    exact k _ _ _ _ _ (p a (R1.free ha).2) (e1.trans (R1.boxS ha _ _)) (R1.box (ho := .lst vs) ha r1) (.ptr a)⟩
theorem we_dnewK (h : ∀ a, S a = none → P (.ptr a) (ups S a (.dK []))) : WE K B tDNewK Γ S P := fun F σ H R Q k => fun a ha =>
  k _ _ _ _ _ (h a (R.free ha).2) (R.boxS ha _ _) (R.box (ho := .dK []) (mo := .dK []) ha ⟨rfl, .nil⟩) (.ptr a)
theorem we_dnewT (h : ∀ a, S a = none → P (.ptr a) (ups S a (.dT []))) : WE K B tDNewT Γ S P := fun F σ H R Q k => fun a ha =>
  k _ _ _ _ _ (h a (R.free ha).2) (R.boxS ha _ _) (R.box (ho := .dT []) (mo := .dT []) ha ⟨rfl, .nil⟩) (.ptr a)
/-- a dict without keys, as data -/
theorem we_dnew0 (h : P (.dct [] []) S) : WE K B tDNewK Γ S P := fun F σ H R Q k => fun a ha => by
  obtain ⟨e2, R2⟩ := R.lay ha (.dK [])
  exact k _ _ _ _ S h (R.layS ha _) R2 (.dct upd_same rfl .nil)
theorem we_CB {r : List V → Hp → VK → Prop} {t : TA} (h : WA K B t Γ S fun ds S1 => RDA K B r ds S1 P) : WE K B (tCB r t) Γ S P := fun F σ H R Q k =>
  h F σ H R _ fun vs ds H1 F1 S1 h1 e1 R1 r1 => h1 F1 Γ σ H1 vs R1 r1 Q fun z d H3 F3 S3 p e3 => k z d H3 F3 S3 p (e1.trans e3)
def TyD (T : String) (d : D) (S : Sto) : Prop := match d with
  | .str _ => T = "str"
  | .int _ => T = "int"
  | .lst _ => T = "list"
  | .rol _ => T = "list"
  | .dct _ _ => T = "dict"
  | .ptr p => (T = "list" ∧ ∃ ds, S p = some (.lst ds)) ∨ (T = "dict" ∧ ((∃ ds, S p = some (.dK ds)) ∨ ∃ ds, S p = some (.dT ds)))
  | _ => False
theorem TyD.at {T : String} {d : D} {v : V} (R : Rel K B F Γ S σ H) (r : Rp K F v d) (h : TyD T d S) : tyV K T v H := by
  cases r with
  | str x => exact h
  | int i => exact h
  | lst q _ => exact Or.inl ⟨h, _, Evl.sq_of (R.ex _ _ q)⟩
  | rol q _ => exact Or.inl ⟨h, _, Evl.ex_l R.ex q⟩
  | dct q _ _ => exact Or.inr (Or.inr (Or.inl ⟨h, Or.inl ⟨_, R.ex _ _ q⟩⟩))
  | ptr a =>
    rcases h with ⟨rfl, ds, e⟩ | ⟨rfl, ⟨ds, e⟩ | ⟨ds, e⟩⟩
    · obtain ⟨ho, h1, h2⟩ := R.sto a _ e
      obtain ⟨vs, rfl, _⟩ := h2.lst_inv
      exact Or.inl ⟨rfl, vs, Evl.sq_of h1⟩
    · obtain ⟨ho, h1, h2⟩ := R.sto a _ e
      cases ho <;> first | exact Or.inr (Or.inr (Or.inl ⟨rfl, Or.inl ⟨_, h1⟩⟩)) | exact False.elim h2
    · obtain ⟨ho, h1, h2⟩ := R.sto a _ e
      cases ho <;> first | exact Or.inr (Or.inr (Or.inl ⟨rfl, Or.inr ⟨_, h1⟩⟩)) | exact False.elim h2
  | _ => exact False.elim h
theorem we_BM {T : String} {r : V → List V → Hp → VK → Prop} {t : TA} (h : WE K B te Γ S fun x S1 => TyD T x S1 ∧ WA K B t Γ S1 fun ds S2 => RDM K B r x ds S2 P) : WE K B (tBM K T r te t) Γ S P := fun F σ H R Q k =>
  h F σ H R _ fun v x H1 F1 S1 ⟨ty, h1⟩ e1 R1 r1 => ⟨ty.at R1 r1, h1 F1 σ H1 R1 _ fun vs ds H2 F2 S2 h2 e2 R2 r2 => h2 F2 Γ σ H2 v vs R2 (r1.mono e2.1) r2 Q fun z d H3 F3 S3 p e3 => k z d H3 F3 S3 p ((e1.trans e2).trans e3)⟩
theorem we_BM0 {T : String} {r : V → List V → Hp → VK → Prop} (h : WE K B te Γ S fun x S1 => TyD T x S1 ∧ RDM K B r x [] S1 P) : WE K B (tBM0 K T r te) Γ S P := fun F σ H R Q k =>
  h F σ H R _ fun v x H1 F1 S1 ⟨ty, h1⟩ e1 R1 r1 => ⟨ty.at R1 r1, h1 F1 Γ σ H1 v [] R1 r1 .nil Q fun z d H3 F3 S3 p e3 => k z d H3 F3 S3 p (e1.trans e3)⟩

/-! ### and, or, not as values; tests -/
theorem we_and (h : WE K B ta Γ S fun x S1 => ∃ c, x = .bl c ∧ if c = true then WE K B tb Γ S1 P else P (.bl false) S1) : WE K B (tAndV ta tb) Γ S P := fun F σ H R Q k =>
  h F σ H R _ fun v x H1 F1 S1 ⟨c, hx, h1⟩ e1 R1 r1 => by
    subst hx; cases r1
    refine ⟨c, rfl, ?_⟩
    cases c with
    | true => exact h1 F1 σ H1 R1 Q fun v d H' F' S' p e => k v d H' F' S' p (e1.trans e)
    | false => exact k _ _ _ _ _ h1 e1 R1 (.bl false)
theorem we_or (h : WE K B ta Γ S fun x S1 => ∃ c, x = .bl c ∧ if c = true then P (.bl true) S1 else WE K B tb Γ S1 P) : WE K B (tOrV ta tb) Γ S P := fun F σ H R Q k =>
  h F σ H R _ fun v x H1 F1 S1 ⟨c, hx, h1⟩ e1 R1 r1 => by
    subst hx; cases r1
    refine ⟨c, rfl, ?_⟩
    cases c with
    | false => exact h1 F1 σ H1 R1 Q fun v d H' F' S' p e => k v d H' F' S' p (e1.trans e)
    | true => exact k _ _ _ _ _ h1 e1 R1 (.bl true)
theorem we_not (h : WE K B ta Γ S fun x S1 => ∃ c, x = .bl c ∧ P (.bl (!c)) S1) : WE K B (tNotV ta) Γ S P := fun F σ H R Q k =>
  h F σ H R _ fun v x H1 F1 S1 ⟨c, hx, h1⟩ e1 R1 r1 => by
    subst hx; cases r1
    exact ⟨c, rfl, k _ _ _ _ _ h1 e1 R1 (.bl _)⟩
theorem wt_B (h : WE K B te Γ S fun x S1 => ∃ c, x = .bl c ∧ PB c S1) : WT K B (tB te) Γ S PB := fun F σ H R Q k =>
  h F σ H R _ fun v x H1 F1 S1 ⟨c, hx, h1⟩ e1 R1 r1 => by
    subst hx; cases r1
    exact ⟨c, rfl, k _ _ _ _ h1 e1 R1⟩
theorem wt_test (h : WE K B te Γ S fun x S1 => ∃ c, x = .bl c ∧ PB c S1) : WT K B (tTest te) Γ S PB := fun F σ H R Q k =>
  h F σ H R _ fun v x H1 F1 S1 ⟨c, hx, h1⟩ e1 R1 r1 => by
    subst hx; cases r1
    exact ⟨c, rfl, k _ _ _ _ h1 e1 R1⟩
theorem wt_and (h : WT K B tt Γ S fun b S1 => if b = true then WT K B tu Γ S1 PB else PB false S1) : WT K B (tAnd tt tu) Γ S PB := fun F σ H R Q k =>
  h F σ H R _ fun b H1 F1 S1 h1 e1 R1 => by
    cases b with
    | true => exact h1 F1 σ H1 R1 Q fun d H' F' S' p e => k d H' F' S' p (e1.trans e)
    | false => exact k _ _ _ _ h1 e1 R1
theorem wt_or (h : WT K B tt Γ S fun b S1 => if b = true then PB true S1 else WT K B tu Γ S1 PB) : WT K B (tOr tt tu) Γ S PB := fun F σ H R Q k =>
  h F σ H R _ fun b H1 F1 S1 h1 e1 R1 => by
    cases b with
    | false => exact h1 F1 σ H1 R1 Q fun d H' F' S' p e => k d H' F' S' p (e1.trans e)
    | true => exact k _ _ _ _ h1 e1 R1
theorem wt_not (h : WT K B tt Γ S fun b S1 => PB (!b) S1) : WT K B (tNot tt) Γ S PB := fun F σ H R Q k => h F σ H R _ fun b H1 F1 S1 h1 e1 R1 => k _ _ _ _ h1 e1 R1
theorem wt_yes (h : PB true S) : WT K B tYes Γ S PB := fun F σ H R Q k => k _ _ _ _ h (Stp.refl F _ _) R
theorem we_chain {r r' : R2} {tc : TE} (h : WE K B ta Γ S fun x S1 => WE K B tb Γ S1 fun y S2 => RD2 K B r x y S2 fun z S3 => ∃ c, z = .bl c ∧ if c = true then WE K B tc Γ S3 fun u S4 => RD2 K B r' y u S4 P else P (.bl false) S3) :
    WE K B (tChain r r' ta tb tc) Γ S P := fun F σ H R Q k =>
  h F σ H R _ fun v x H1 F1 S1 h1 e1 R1 r1 => h1 F1 σ H1 R1 _ fun u y H2 F2 S2 h2 e2 R2 r2 => h2 F2 Γ σ H2 v u R2 (r1.mono e2.1) r2 _ fun z d H3 F3 S3 ⟨c, hz, h3⟩ e3 R3 r3 => by
    subst hz; cases r3
    refine ⟨c, rfl, ?_⟩
    cases c with
    | false =>
      show Q _ _
      exact k _ _ _ _ _ h3 ((e1.trans e2).trans e3) R3 (.bl false)
    | true =>
      exact h3 F3 σ H3 R3 _ fun w u' H4 F4 S4 h4 e4 R4 r4 => h4 F4 Γ σ H4 u w R4 (r2.mono (e3.trans e4).1) r4 _ fun z' d' H5 F5 S5 h5 e5 R5 r5 => k _ _ _ _ _ h5 ((((e1.trans e2).trans e3).trans e4).trans e5) R5 r5

/-! ### calls of defs -/
abbrev SpecD := List D → Sto → (D → Sto → Prop) → Prop
def spD (K : PySem.W.Frag) (sp : SpecD) : Sp := fun vs H Q _ => ∃ B F Γ σ ds S P, sp ds S P ∧ Rel K B F Γ S σ H ∧ RpAll K F vs ds ∧ ∀ v d H' F' S', P d S' → Stp F S H F' S' H' → Rel K B F' [] S' [] H' → Rp K F' v d → Q v H'
theorem we_call {sp : SpecD} {E : XK} {t : TA} (h : WA K B t Γ S fun ds S1 => sp ds S1 P) : WE K B (tCall (spD K sp) [] E t) Γ S P := fun F σ H R Q k =>
  h F σ H R _ fun vs ds H1 F1 S1 h1 e1 R1 r1 => by
    show spD K sp (vs ++ []) H1 Q E
    rw [List.append_nil]
    exact ⟨B, F1, Γ, σ, ds, S1, P, h1, R1, r1, fun v d H' F' S' p e2 R2 r2 => k v d H' F' S' p (e1.trans e2) (R1.join e2.1 R2) r2⟩

/-! ### statements -/
variable {k : Ko} {t u : TS}
theorem WS.imp {k' : Ko} (h : WS K B t Γ S k) (a : ∀ Γ' S', k.nx Γ' S' → k'.nx Γ' S') (b : ∀ d S', k.rt d S' → k'.rt d S') (c : ∀ Γ' S', k.bk Γ' S' → k'.bk Γ' S') (d : ∀ Γ' S', k.ct Γ' S' → k'.ct Γ' S') : WS K B t Γ S k' := fun F σ H R D E =>
  h F σ H R D ⟨fun F' σ' H' Γ' S' q => E.nx F' σ' H' Γ' S' (a _ _ q), fun v d F' σ' H' Γ' S' q => E.rt v d F' σ' H' Γ' S' (b _ _ q), fun F' σ' H' Γ' S' q => E.bk F' σ' H' Γ' S' (c _ _ q), fun F' σ' H' Γ' S' q => E.ct F' σ' H' Γ' S' (d _ _ q)⟩
theorem ws_seq (h : WS K B t Γ S { k with nx := fun Γ' S' => WS K B u Γ' S' k }) : WS K B (tSeq t u) Γ S k := fun F σ H R D E =>
  h F σ H R _ ⟨fun F' σ' H' Γ' S' q e R' => q F' σ' H' R' D (E.mono e), E.rt, E.bk, E.ct⟩
theorem ws_next (h : k.nx Γ S) : WS K B tNext Γ S k := fun F σ H R D E => E.nx F σ H Γ S h (Stp.refl F _ _) R
theorem ws_break (h : k.bk Γ S) : WS K B tBreak Γ S k := fun F σ H R D E => E.bk F σ H Γ S h (Stp.refl F _ _) R
theorem ws_cont (h : k.ct Γ S) : WS K B tCont Γ S k := fun F σ H R D E => E.ct F σ H Γ S h (Stp.refl F _ _) R
theorem ws_never (h : False) : WS K B tNever Γ S k := h.elim
theorem ws_if (h : WT K B tt Γ S fun b S1 => if b = true then WS K B t Γ S1 k else WS K B u Γ S1 k) : WS K B (tIfS tt t u) Γ S k := fun F σ H R D E =>
  h F σ H R _ fun b H1 F1 S1 h1 e1 R1 => by
    cases b with
    | true => exact h1 F1 σ H1 R1 D (E.mono e1)
    | false => exact h1 F1 σ H1 R1 D (E.mono e1)
theorem ws_ret (h : WE K B te Γ S k.rt) : WS K B (tRet te) Γ S k := fun F σ H R D E => h F σ H R _ fun v d H1 F1 S1 h1 e1 R1 r1 => E.rt v d F1 σ H1 Γ S1 h1 e1 R1 r1
theorem ws_retN (h : k.rt .non S) : WS K B tRetN Γ S k := fun F σ H R D E => E.rt _ _ F σ H Γ S h (Stp.refl F _ _) R .non
theorem ws_drop (h : WE K B te Γ S fun _ S1 => k.nx Γ S1) : WS K B (tDrop te) Γ S k := fun F σ H R D E => h F σ H R _ fun v d H1 F1 S1 h1 e1 R1 r1 => E.nx F1 σ H1 Γ S1 h1 e1 R1
theorem ws_asg {g : TG} (h : WE K B te Γ S fun d S1 => WG K B g d Γ S1 k.nx) : WS K B (tAsg te g) Γ S k := fun F σ H R D E =>
  h F σ H R _ fun v d H1 F1 S1 h1 e1 R1 r1 => h1 F1 σ H1 v R1 r1 _ fun Γ' S' F' σ' H' q e2 R2 => E.nx F' σ' H' Γ' S' q (e1.trans e2) R2
theorem wg_name {i : Nat} {d : D} {P : Sl → Sto → Prop} (h : P (Γ.set i (some d)) S) : WG K B (gName i) d Γ S P := fun F σ H v R r Q q => q _ S F _ H h (Stp.refl F _ _) (R.set i r)
theorem wgs_nil {P : Sl → Sto → Prop} (h : P Γ S) : WGs K B gNil [] Γ S P := fun F σ H vs R r Q q => by
  cases r
  exact ⟨rfl, q _ S F _ H h (Stp.refl F _ _) R⟩
theorem wgs_cons {g : TG} {gs : TGs} {d : D} {ds : List D} {P : Sl → Sto → Prop} (h : WG K B g d Γ S fun Γ' S' => WGs K B gs ds Γ' S' P) : WGs K B (gCons g gs) (d :: ds) Γ S P := fun F σ H vs R r Q q => by
  cases r with
  | cons a b =>
    exact ⟨_, _, rfl, h F σ H _ R a _ fun Γ' S' F' σ' H' h2 e2 R2 => h2 F' σ' H' _ R2 (b.mono e2.1) _ fun Γ3 S3 F3 σ3 H3 p e3 R3 => q Γ3 S3 F3 σ3 H3 p (e2.trans e3) R3⟩
theorem wg_tup {n : Nat} {gs : TGs} {ds : List D} {P : Sl → Sto → Prop} (hn : ds.length = n) (h : WGs K B gs ds Γ S P) : WG K B (gTup K n gs) (.tup ds) Γ S P := fun F σ H v R r Q q => by
  cases r with
  | tup a b => exact ⟨_, _, rfl, Evl.st_of (R.ex _ _ a), by rw [b.length]; exact hn, h F σ H _ R b _ q⟩
theorem wg_sub {to ti : TE} {s : TSet} {v : D} {P : Sl → Sto → Prop} (h : WE K B to Γ S fun o S1 => WE K B ti Γ S1 fun i S2 =>
    ∀ F σ H w x y, Rel K B F Γ S2 σ H → Rp K F x o → Rp K F y i → Rp K F w v → ∀ Q : Hp → Prop, (∀ S' F' H', P Γ S' → Stp F S2 H F' S' H' → Rel K B F' Γ S' σ H' → Q H') → s x y w H Q) : WG K B (gSub to ti s) v Γ S P := fun F σ H w R r Q q =>
  h F σ H R _ fun x o H1 F1 S1 h1 e1 R1 r1 => h1 F1 σ H1 R1 _ fun y i H2 F2 S2 h2 e2 R2 r2 => h2 F2 σ H2 w x y R2 (r1.mono e2.1) r2 (r.mono (e1.trans e2).1) _ fun S' F' H' p e3 R3 => q Γ S' F' σ H' p ((e1.trans e2).trans e3) R3
theorem ws_par {i j : Nat} {ta : TA} (h : WA K B ta Γ S fun ds S1 => ∃ x y, ds = [x, y] ∧ k.nx ((Γ.set i (some x)).set j (some y)) S1) : WS K B (tPar i j ta) Γ S k := fun F σ H R D E =>
  h F σ H R _ fun vs ds H1 F1 S1 ⟨x, y, hd, h1⟩ e1 R1 r1 => by
    subst hd
    cases r1 with | cons a b => cases b with | cons b c => cases c; exact ⟨_, _, rfl, E.nx F1 _ H1 _ S1 h1 e1 ((R1.set i a).set j b)⟩
theorem ws_aug {i : Nat} {ti : TIp} {x : D} (hx : Γ[i]? = some (some x)) (h : WE K B te Γ S fun y S1 => RD2 K B ti x y S1 fun z S2 => k.nx (Γ.set i (some z)) S2) : WS K B (tAug i te ti) Γ S k := fun F σ H R D E => by
  obtain ⟨v, hv, r⟩ := R.sl i x hx
  exact ⟨v, hv, h F σ H R _ fun u y H1 F1 S1 h1 e1 R1 r1 => h1 F1 Γ σ H1 v u R1 (r.mono e1.1) r1 _ fun z d H2 F2 S2 p e2 R2 r2 => E.nx F2 _ H2 _ S2 p (e1.trans e2) (R2.set i r2)⟩

/-! ### loops -/
/-- I: what holds ahead of turn i -/
theorem ws_for {wi : TI} {g : TG} {tb : TS} (h : WI K B wi Γ S fun ds Lk S1 => ∃ I : Nat → Sl → Sto → Prop, I 0 Γ S1 ∧ (∀ i Γ' S', I i Γ' S' → Lk S') ∧
    (∀ i d Γ' S', ds[i]? = some d → I i Γ' S' → WG K B g d Γ' S' fun Γ2 S2 => WS K B tb Γ2 S2 ⟨I (i + 1), k.rt, k.nx, I (i + 1)⟩) ∧ ∀ Γ' S', I ds.length Γ' S' → k.nx Γ' S') : WS K B (tFor wi g tb) Γ S k := fun F σ H R D E =>
  h F σ H R _ fun J ds Lk H1 F1 S1 ⟨I, i0, il, it, ie⟩ e1 R1 wk => by
    refine ⟨fun i m σ' H' => m = ds.length - i ∧ i ≤ ds.length ∧ ∃ F' Γ' S', Stp F1 S1 H1 F' S' H' ∧ Rel K B F' Γ' S' σ' H' ∧ I i Γ' S', ⟨_, rfl, Nat.zero_le _, F1, Γ, S1, Stp.refl _ _ _, R1, i0⟩, ?_⟩
    rintro i m σ' H' ⟨rfl, hi, F', Γ', S', e', R', q⟩
    by_cases hlt : i < ds.length
    · have hd : ds[i]? = some ds[i] := List.getElem?_eq_getElem hlt
      refine .inr ⟨wk.go i _ F' Γ' S' σ' H' hd e'.1 R' (il _ _ _ q), fun σ2 H2 => ∃ F2 Γ2 S2, Stp F1 S1 H1 F2 S2 H2 ∧ Rel K B F2 Γ2 S2 σ2 H2 ∧ I (i + 1) Γ2 S2, fun σ2 H2 ⟨F2, Γ2, S2, e2, R2, q2⟩ => ⟨_, by omega, rfl, hlt, F2, Γ2, S2, e2, R2, q2⟩, fun x H2 y => ?_⟩
      obtain ⟨F2, e2, R2, r2⟩ := wk.yld i _ F' Γ' S' σ' H' x H2 hd e'.1 R' (il _ _ _ q) y
      refine it i _ Γ' S' hd q F2 σ' H2 x R2 r2 _ fun Γ3 S3 F3 σ3 H3 q3 e3 R3 => ?_
      refine q3 F3 σ3 H3 R3 _ ⟨fun F4 σ4 H4 Γ4 S4 q4 e4 R4 => ⟨F4, Γ4, S4, ((e'.trans e2).trans e3).trans e4, R4, q4⟩, fun v d F4 σ4 H4 Γ4 S4 q4 e4 => E.rt v d F4 σ4 H4 Γ4 S4 q4 (e1.trans (((e'.trans e2).trans e3).trans e4)), fun F4 σ4 H4 Γ4 S4 q4 e4 => E.nx F4 σ4 H4 Γ4 S4 q4 (e1.trans (((e'.trans e2).trans e3).trans e4)), fun F4 σ4 H4 Γ4 S4 q4 e4 R4 => ⟨F4, Γ4, S4, ((e'.trans e2).trans e3).trans e4, R4, q4⟩⟩
    · have hz : i = ds.length := by omega
      subst hz
      exact .inl ⟨wk.stop F' Γ' S' σ' H' e'.1 R' (il _ _ _ q), E.nx F' σ' H' Γ' S' (ie _ _ q) (e1.trans e') R'⟩
/-- a target that stores into the slots vs alone -/
def GLoc (g : TG) (vs : List Nat) : Prop := ∀ v σ H (Q : L2.St → Hp → Prop), g v σ H Q → g v σ H fun σ2 H2 => L2.wipe σ2 vs = L2.wipe σ vs ∧ Q σ2 H2
def GsLoc (g : TGs) (vs : List Nat) : Prop := ∀ us σ H (Q : L2.St → Hp → Prop), g us σ H Q → g us σ H fun σ2 H2 => L2.wipe σ2 vs = L2.wipe σ vs ∧ Q σ2 H2
theorem wipe_set (σ : L2.St) (x : Option V) : ∀ {vs : List Nat} {i : Nat}, i ∈ vs → L2.wipe (σ.set i x) vs = L2.wipe σ vs
  | v :: vs, i, h => by
    unfold L2.wipe
    by_cases e : i ∈ vs
    · rw [wipe_set σ x e]
    · have : i = v := by rcases List.mem_cons.mp h with h | h; exact h; exact absurd h e
      subst this
      have aux : ∀ ws : List Nat, i ∉ ws → L2.wipe (σ.set i x) ws = (L2.wipe σ ws).set i x := by
        intro ws
        induction ws with
        | nil => intro _; rfl
        | cons w ws ih =>
          intro hn
          have h1 : i ≠ w := fun z => hn (by rw [z]; exact List.mem_cons_self)
          unfold L2.wipe
          rw [ih fun z => hn (List.mem_cons_of_mem _ z), List.set_comm _ _ h1]
      rw [aux vs e, List.set_set]
theorem wipe_wipe (σ : L2.St) (vs : List Nat) : L2.wipe (L2.wipe σ vs) vs = L2.wipe σ vs := by
  have aux : ∀ (ws us : List Nat), (∀ w ∈ ws, w ∈ us) → ∀ σ : L2.St, L2.wipe (L2.wipe σ ws) us = L2.wipe σ us := by
    intro ws us
    induction ws with
    | nil => intro _ σ; rfl
    | cons w ws ih =>
      intro h σ
      show L2.wipe ((L2.wipe σ ws).set w none) us = _
      rw [wipe_set _ _ (h w List.mem_cons_self), ih (fun x hx => h x (List.mem_cons_of_mem _ hx))]
  exact aux vs vs (fun _ h => h) σ
theorem gloc_name {i : Nat} {vs : List Nat} (h : i ∈ vs) : GLoc (gName i) vs := fun v σ H Q q => ⟨wipe_set σ _ h, q⟩
theorem gsloc_nil {vs : List Nat} : GsLoc gNil vs := fun us σ H Q q => ⟨q.1, rfl, q.2⟩
/-- readings of targets are monotone: a target's end may be weakened -/
def GMono (g : TG) : Prop := ∀ v σ H (Q Q' : L2.St → Hp → Prop), (∀ a b, Q a b → Q' a b) → g v σ H Q → g v σ H Q'
def GsMono (g : TGs) : Prop := ∀ v σ H (Q Q' : L2.St → Hp → Prop), (∀ a b, Q a b → Q' a b) → g v σ H Q → g v σ H Q'
theorem gmono_name {i : Nat} : GMono (gName i) := fun v σ H Q Q' f q => f _ _ q
theorem gsmono_nil : GsMono gNil := fun v σ H Q Q' f q => ⟨q.1, f _ _ q.2⟩
theorem gsmono_cons {g : TG} {gs : TGs} (a : GMono g) (b : GsMono gs) : GsMono (gCons g gs) := fun us σ H Q Q' f ⟨v, r, e, q⟩ => ⟨v, r, e, a _ _ _ _ _ (fun σ' H' h => b _ _ _ _ _ f h) q⟩
theorem gmono_tup {n : Nat} {gs : TGs} (b : GsMono gs) : GMono (gTup K n gs) := fun v σ H Q Q' f ⟨a, xs, e, s, l, q⟩ => ⟨a, xs, e, s, l, b _ _ _ _ _ f q⟩
theorem gsloc_cons {g : TG} {gs : TGs} {vs : List Nat} (m : GMono g) (ms : GsMono gs) (a : GLoc g vs) (b : GsLoc gs vs) : GsLoc (gCons g gs) vs := fun us σ H Q ⟨v, r, e, q⟩ =>
  ⟨v, r, e, m _ _ _ _ _ (fun σ' H' ⟨w, h⟩ => ms _ _ _ _ _ (fun σ2 H2 ⟨w2, h2⟩ => ⟨w2.trans w, h2⟩) (b _ _ _ _ h)) (a _ _ _ _ q)⟩
theorem gloc_tup {n : Nat} {gs : TGs} {vs : List Nat} (b : GsLoc gs vs) : GLoc (gTup K n gs) vs := fun v σ H Q ⟨a, xs, e, s, l, q⟩ => ⟨a, xs, e, s, l, b _ _ _ _ q⟩
/-- I: what holds of the list made so far, ahead of turn i -/
theorem we_lc {wi : TI} {g : TG} {vs : List Nat} (hg : GLoc g vs) (h : WI K B wi Γ S fun ds Lk S1 => ds.length ≤ sizeLine ∧ ∃ I : Nat → List D → Sto → Prop, I 0 [] S1 ∧ (∀ i acc S', I i acc S' → Lk S') ∧
    (∀ i d acc S', ds[i]? = some d → I i acc S' → WG K B g d (wipeD Γ vs) S' fun Γ2 S2 => WT K B tt Γ2 S2 fun b S3 => if b = true then WE K B te Γ2 S3 fun y S4 => I (i + 1) (acc ++ [y]) S4 else I (i + 1) acc S3) ∧
    ∀ acc S', acc.length ≤ ds.length → I ds.length acc S' → P (.lst acc) S') : WE K B (tLc wi g tt te vs) Γ S P := fun F σ H R Q k => by
  refine h F σ H R _ fun J ds Lk H1 F1 S1 ⟨hsz, I, i0, il, it, ie⟩ e1 R1 wk Dd hD => ?_
  have hF1 := (R1.free hD).1
  have hS1 := (R1.free hD).2
  -- the new list lies outside of F and S
  have lay : ∀ {F' : Hp} {Γ' : Sl} {S' : Sto} {σ' : L2.St} {H' : Hp} (o : HO), Rel K B F' Γ' S' σ' H' → F' Dd = none → S' Dd = none → Rel K B F' Γ' S' σ' (upd H' Dd o) := fun {F' Γ' S' σ' H'} o R' hF hS =>
    ⟨R'.bs, fun a u hu => by
      have q : a ≠ Dd := fun z => by subst z; rw [hF] at hu; cases hu
      rw [upd_ne q]; exact R'.ex a u hu, R'.len, R'.sl, R'.out, fun a u hu => by
      have q : a ≠ Dd := fun z => by subst z; rw [hS] at hu; cases hu
      rw [upd_ne q]; exact R'.sto a u hu⟩
  have old : ∀ {F' : Hp} {S' : Sto} {H' : Hp} {F2 : Hp} {S2 : Sto} {H2 : Hp} {o : HO} (u : HO), H' Dd = some u → F' Dd = none → S' Dd = none → Stp F' S' H' F2 S2 H2 → H2 Dd = some u ∧ F2 Dd = none ∧ S2 Dd = none := fun u a b c e => e.2 Dd u a b c
  refine ⟨fun i m H' => m = ds.length - i ∧ i ≤ ds.length ∧ ∃ F' S' acc us, (∀ a o, H1 a = some o → F1 a = none → S1 a = none → H' a = some o ∧ F' a = none ∧ S' a = none) ∧ Ex F1 F' ∧ Rel K B F' Γ S' σ H' ∧ H' Dd = some (.lst us) ∧ F' Dd = none ∧ S' Dd = none ∧ RpAll K F' us acc ∧ acc.length ≤ i ∧ I i acc S',
    ⟨_, rfl, Nat.zero_le _, F1, S1, [], [], fun a o h1 h2 h3 => ⟨by rw [upd_ne (ne_of_none h1 hD)]; exact h1, h2, h3⟩, Evl.Ex.refl _, lay _ R1 hF1 hS1, upd_same, hF1, hS1, .nil, Nat.le_refl _, i0⟩, ?_⟩
  rintro i m H' ⟨rfl, hi, F', S', acc, us, fr, e', R', hd, hF, hS, ra, hl, q⟩
  by_cases hlt : i < ds.length
  · have hdi : ds[i]? = some ds[i] := List.getElem?_eq_getElem hlt
    refine .inr ⟨wk.go i _ F' Γ S' σ H' hdi e' R' (il _ _ _ q), fun H2 => ∃ F2 S2 acc us, (∀ a o, H1 a = some o → F1 a = none → S1 a = none → H2 a = some o ∧ F2 a = none ∧ S2 a = none) ∧ Ex F1 F2 ∧ Rel K B F2 Γ S2 σ H2 ∧ H2 Dd = some (.lst us) ∧ F2 Dd = none ∧ S2 Dd = none ∧ RpAll K F2 us acc ∧ acc.length ≤ i + 1 ∧ I (i + 1) acc S2,
      fun H2 z => ⟨_, by omega, rfl, hlt, z⟩, fun x H2 y => ?_⟩
    obtain ⟨F2, e2, R2, r2⟩ := wk.yld i _ F' Γ S' σ H' x H2 hdi e' R' (il _ _ _ q) y
    have hgx := hg x (L2.wipe σ vs) H2
    rw [wipe_wipe] at hgx
    have fr2 : ∀ a o, H1 a = some o → F1 a = none → S1 a = none → H2 a = some o ∧ F2 a = none ∧ S' a = none := fun a o h1 h2 h3 => let ⟨x1, x2, x3⟩ := fr a o h1 h2 h3; e2.2 a o x1 x2 x3
    have d2 := e2.2 Dd _ hd hF hS
    refine hgx _ (it i _ acc S' hdi q F2 (L2.wipe σ vs) H2 x (R2.wipe vs) r2 _ fun Γ3 S3 F3 σ3 H3 q3 e3 R3 => ?_)
    refine q3 F3 σ3 H3 R3 _ fun b H4 F4 S4 q4 e4 R4 => ?_
    have e34 := e3.trans e4
    have fr4 : ∀ a o, H1 a = some o → F1 a = none → S1 a = none → H4 a = some o ∧ F4 a = none ∧ S4 a = none := fun a o h1 h2 h3 => let ⟨x1, x2, x3⟩ := fr2 a o h1 h2 h3; e34.2 a o x1 x2 x3
    have d4 := e34.2 Dd _ d2.1 d2.2.1 d2.2.2
    have x4 : Ex F' F4 := e2.1.trans e34.1
    cases b with
    | false =>
      exact ⟨F4, S4, acc, us, fr4, e'.trans x4, R2.join e34.1 R4, d4.1, d4.2.1, d4.2.2, ra.mono x4, Nat.le_succ_of_le hl, q4⟩
    | true =>
      refine q4 F4 σ3 H4 R4 _ fun v y H5 F5 S5 q5 e5 R5 r5 => ?_
      have d5 := e5.2 Dd _ d4.1 d4.2.1 d4.2.2
      have x5 : Ex F' F5 := x4.trans e5.1
      refine ⟨us, d5.1, by rw [ra.length]; omega, F5, S5, acc ++ [y], us ++ [v], fun a o h1 h2 h3 => ?_, e'.trans x5, lay _ (R2.join (e34.1.trans e5.1) R5) d5.2.1 d5.2.2, upd_same, d5.2.1, d5.2.2, (ra.mono x5).append (.cons r5 .nil), by simp; omega, q5⟩
      obtain ⟨y1, y2, y3⟩ := fr4 a o h1 h2 h3
      obtain ⟨z1, z2, z3⟩ := e5.2 a o y1 y2 y3
      exact ⟨by rw [upd_ne (ne_of_none h1 hD)]; exact z1, z2, z3⟩
  · have hz : i = ds.length := by omega
    subst hz
    refine .inl ⟨wk.stop F' Γ S' σ H' e' R' (il _ _ _ q), ?_⟩
    -- the list is frozen
    have ef : Ex F' (upd F' Dd (.lst us)) := Evl.Ex.new hF
    have Rf : Rel K B (upd F' Dd (.lst us)) Γ S' σ H' := ⟨R'.bs.trans ef, fun a u hu => by
      by_cases q : a = Dd
      · subst q; rw [upd_same] at hu; rw [hd]; exact hu
      · rw [upd_ne q] at hu; exact R'.ex a u hu, R'.len, fun i d h => let ⟨v, hv, r⟩ := R'.sl i d h; ⟨v, hv, r.mono ef⟩, fun a u hu => by
      have q : a ≠ Dd := fun z => by subst z; rw [hS] at hu; cases hu
      rw [upd_ne q]; exact R'.out a u hu, fun a u hu => let ⟨ho, h1, h2⟩ := R'.sto a u hu; ⟨ho, h1, h2.mono ef⟩⟩
    exact k (.ref Dd) (.lst acc) H' _ S' (ie _ _ hl q) (e1.trans ⟨e'.trans ef, fun a o h1 h2 h3 => by
      have q : a ≠ Dd := ne_of_none h1 hD
      obtain ⟨x1, x2, x3⟩ := fr a o h1 h2 h3
      exact ⟨x1, by rw [upd_ne q]; exact x2, x3⟩⟩) Rf (.lst upd_same (ra.mono ef))
end
end DL
/-! DL3: operations on data -/
namespace DL
open PySem L2
/-! ### one rule for several kinds -/
def rOr (r r' : R2) : R2 := fun x y H Q => r x y H Q ∨ r' x y H Q
theorem opR_or {X : Cx} {f : Value → Value → Sem Value} {r r' : R2} (h : OpR X f r) (h' : OpR X f r') : OpR X f (rOr r r') := by
  intro pins s σ H x y v u Q I rx ry q
  rcases q with q | q
  · exact h pins s σ H x y v u Q I rx ry q
  · exact h' pins s σ H x y v u Q I rx ry q
def rOrC (r r' : List V → Hp → VK → Prop) : List V → Hp → VK → Prop := fun x H Q => r x H Q ∨ r' x H Q
theorem callR_or {X : Cx} {f : Value} {r r' : List V → Hp → VK → Prop} (h : CallR X f r) (h' : CallR X f r') : CallR X f (rOrC r r') := by
  intro pins s σ H xs us Q I rs q
  rcases q with q | q
  · exact h pins s σ H xs us Q I rs q
  · exact h' pins s σ H xs us Q I rs q
def rOrM (r r' : V → List V → Hp → VK → Prop) : V → List V → Hp → VK → Prop := fun x xs H Q => r x xs H Q ∨ r' x xs H Q
theorem mtR_or {X : Cx} {id : String} {r r' : V → List V → Hp → VK → Prop} (h : MtR X id r) (h' : MtR X id r') : MtR X id (rOrM r r') := MtR.or h h'
abbrev RSl := V → Option Int → Option Int → Hp → VK → Prop
def rOrS (r r' : RSl) : RSl := fun x lo hi H Q => r x lo hi H Q ∨ r' x lo hi H Q
theorem slR_or {X : Cx} {r r' : RSl} (h : SlR X r) (h' : SlR X r') : SlR X (rOrS r r') := SlR.or h h'
section
variable {K : PySem.W.Frag} {B F F' : Hp} {Γ : Sl} {S : Sto} {σ : L2.St} {H : Hp} {P : D → Sto → Prop} {x y : D}
theorem rd_l {r r' : R2} (h : RD2 K B r x y S P) : RD2 K B (rOr r r') x y S P := fun F Γ σ H v u R a b Q k => .inl (h F Γ σ H v u R a b Q k)
theorem rd_r {r r' : R2} (h : RD2 K B r' x y S P) : RD2 K B (rOr r r') x y S P := fun F Γ σ H v u R a b Q k => .inr (h F Γ σ H v u R a b Q k)
theorem rda_l {r r' : List V → Hp → VK → Prop} {xs : List D} (h : RDA K B r xs S P) : RDA K B (rOrC r r') xs S P := fun F Γ σ H v R a Q k => .inl (h F Γ σ H v R a Q k)
theorem rda_r {r r' : List V → Hp → VK → Prop} {xs : List D} (h : RDA K B r' xs S P) : RDA K B (rOrC r r') xs S P := fun F Γ σ H v R a Q k => .inr (h F Γ σ H v R a Q k)
theorem rdm_l {r r' : V → List V → Hp → VK → Prop} {xs : List D} (h : RDM K B r x xs S P) : RDM K B (rOrM r r') x xs S P := fun F Γ σ H v vs R a b Q k => .inl (h F Γ σ H v vs R a b Q k)
theorem rdm_r {r r' : V → List V → Hp → VK → Prop} {xs : List D} (h : RDM K B r' x xs S P) : RDM K B (rOrM r r') x xs S P := fun F Γ σ H v vs R a b Q k => .inr (h F Γ σ H v vs R a b Q k)
theorem RD2.imp {r : R2} {P' : D → Sto → Prop} (h : RD2 K B r x y S P) (q : ∀ d S', P d S' → P' d S') : RD2 K B r x y S P' := fun F Γ σ H v u R a b Q k => h F Γ σ H v u R a b Q fun v d H' F' S' p => k v d H' F' S' (q _ _ p)
theorem RDA.imp {r : List V → Hp → VK → Prop} {xs : List D} {P' : D → Sto → Prop} (h : RDA K B r xs S P) (q : ∀ d S', P d S' → P' d S') : RDA K B r xs S P' := fun F Γ σ H v R a Q k => h F Γ σ H v R a Q fun v d H' F' S' p => k v d H' F' S' (q _ _ p)

/-! ### ints -/
theorem rd_I0 {g : Int → Int → V} {i j : Int} {d : D} (hd : ∀ F : Hp, Rp K F (g i j) d) (p : P d S) : RD2 K B (rI0 g) (.int i) (.int j) S P := fun F Γ σ H v u R a b Q k => by
  cases a; cases b
  exact ⟨i, j, rfl, rfl, k _ _ H F S p (Stp.refl _ _ _) R (hd F)⟩
theorem rd_I0i {g : Int → Int → Int} {i j : Int} (p : P (.int (g i j)) S) : RD2 K B (rI0 fun i j => .int (g i j)) (.int i) (.int j) S P := rd_I0 (fun F => .int _) p
theorem rd_I0b {g : Int → Int → Bool} {i j : Int} (p : P (.bl (g i j)) S) : RD2 K B (rI0 fun i j => .bl (g i j)) (.int i) (.int j) S P := rd_I0 (fun F => .bl _) p
theorem rd_Ii {C : Int → Int → Prop} {g : Int → Int → Int} {i j : Int} (hc : C i j) (p : P (.int (g i j)) S) : RD2 K B (rI C fun i j => .int (g i j)) (.int i) (.int j) S P := fun F Γ σ H v u R a b Q k => by
  cases a; cases b
  exact ⟨i, j, rfl, rfl, hc, k _ _ H F S p (Stp.refl _ _ _) R (.int _)⟩
theorem rd_neg {i : Int} (p : P (.int (-i)) S) : RD1 K B (rU fun i => .int (-i)) (.int i) S P := fun F Γ σ H v R a Q k => by
  cases a
  exact ⟨i, rfl, k _ _ H F S p (Stp.refl _ _ _) R (.int _)⟩

/-! ### + -/
def rAddS : R2 := fun x y H Q => ∃ i j, x = V.str i ∧ y = V.str j ∧ i.length + j.length ≤ sizeLine ∧ Q (V.str (i ++ j)) H
theorem o_addS {X : Cx} : OpR X (binaryOp .Add) rAddS := op_add_str
theorem rd_addS {i j : Str} (hl : i.length + j.length ≤ sizeLine) (p : P (.str (i ++ j)) S) : RD2 K B rAddS (.str i) (.str j) S P := fun F Γ σ H v u R a b Q k => by
  cases a; cases b
  exact ⟨i, j, rfl, rfl, hl, k _ _ H F S p (Stp.refl _ _ _) R (.str _)⟩
theorem rd_catT {xs ys : List D} (hl : xs.length + ys.length ≤ sizeLine) (p : P (.tup (xs ++ ys)) S) : RD2 K B (rCatA K) (.tup xs) (.tup ys) S P := fun F Γ σ H v u R a b Q k => by
  cases a with
  | tup s1 r1 =>
    cases b with
    | tup s2 r2 =>
      rename_i a vs b us
      have l1 := r1.length
      have l2 := r2.length
      refine ⟨a, b, _, _, rfl, rfl, Evl.st_of (R.ex _ _ s1), Evl.st_of (R.ex _ _ s2), by omega, fun e => ?_, fun e1 e2 => ?_, fun e1 e2 q hq => ?_⟩
      · subst e; cases r1; exact k _ _ H F S p (Stp.refl _ _ _) R (.tup s2 r2)
      · subst e2; cases r2; rw [List.append_nil] at p; exact k _ _ H F S p (Stp.refl _ _ _) R (.tup s1 r1)
      · obtain ⟨ex, R2⟩ := R.lay hq (.tup (vs ++ us))
        exact k _ _ _ _ S p (R.layS hq _) R2 (.tup upd_same ((r1.mono ex).append (r2.mono ex)))
/-- a list at a value: frozen, or a box -/
def LstD (d : D) (S : Sto) (ds : List D) : Prop := d = .lst ds ∨ d = .rol ds ∨ ∃ p, d = .ptr p ∧ S p = some (.lst ds)
theorem LstD.at {d : D} {v : V} {ds : List D} (h : LstD d S ds) (R : Rel K B F Γ S σ H) (r : Rp K F v d) : ∃ a vs, v = .ref a ∧ SqL K H a vs ∧ RpAll K F vs ds := by
  rcases h with rfl | rfl | ⟨p, rfl, e⟩
  · cases r with | lst s q => exact ⟨_, _, rfl, Evl.sq_of (R.ex _ _ s), q⟩
  · cases r with | rol s q => exact ⟨_, _, rfl, Evl.ex_l R.ex s, q⟩
  · cases r
    obtain ⟨ho, h1, h2⟩ := R.sto p _ e
    obtain ⟨vs, rfl, h3⟩ := h2.lst_inv
    exact ⟨p, vs, rfl, Evl.sq_of h1, h3⟩
theorem lstD_lst {ds : List D} : LstD (.lst ds) S ds := .inl rfl
theorem lstD_rol {ds : List D} : LstD (.rol ds) S ds := .inr (.inl rfl)
theorem lstD_ptr {ds : List D} {p : Addr} (h : S p = some (.lst ds)) : LstD (.ptr p) S ds := .inr (.inr ⟨p, rfl, h⟩)
/-- a list that is tracked as such -/
def LstT (d : D) (S : Sto) (ds : List D) : Prop := d = .lst ds ∨ ∃ p, d = .ptr p ∧ S p = some (.lst ds)
theorem LstT.at {d : D} {v : V} {ds : List D} (h : LstT d S ds) (R : Rel K B F Γ S σ H) (r : Rp K F v d) : ∃ a vs, v = .ref a ∧ H a = some (.lst vs) ∧ RpAll K F vs ds := by
  rcases h with rfl | ⟨p, rfl, e⟩
  · cases r with | lst s q => exact ⟨_, _, rfl, R.ex _ _ s, q⟩
  · cases r
    obtain ⟨ho, h1, h2⟩ := R.sto p _ e
    obtain ⟨vs, rfl, h3⟩ := h2.lst_inv
    exact ⟨p, vs, rfl, h1, h3⟩
theorem lstT_lst {ds : List D} : LstT (.lst ds) S ds := .inl rfl
theorem lstT_ptr {ds : List D} {p : Addr} (h : S p = some (.lst ds)) : LstT (.ptr p) S ds := .inr ⟨p, rfl, h⟩
/-- a list or a tuple at a value -/
def SeqD (d : D) (S : Sto) (ds : List D) : Prop := LstD d S ds ∨ d = .tup ds
theorem SeqD.at {d : D} {v : V} {ds : List D} (h : SeqD d S ds) (R : Rel K B F Γ S σ H) (r : Rp K F v d) : ∃ a vs, v = .ref a ∧ (SqL K H a vs ∨ SqT K H a vs) ∧ RpAll K F vs ds := by
  rcases h with h | rfl
  · obtain ⟨a, vs, e, s, q⟩ := h.at R r; exact ⟨a, vs, e, .inl s, q⟩
  · cases r with | tup s q => exact ⟨_, _, rfl, .inr (Evl.st_of (R.ex _ _ s)), q⟩
theorem seqD_lst {ds : List D} : SeqD (.lst ds) S ds := .inl lstD_lst
theorem seqD_rol {ds : List D} : SeqD (.rol ds) S ds := .inl lstD_rol
theorem seqD_ptr {ds : List D} {p : Addr} (h : S p = some (.lst ds)) : SeqD (.ptr p) S ds := .inl (lstD_ptr h)
theorem seqD_tup {ds : List D} : SeqD (.tup ds) S ds := .inr rfl

/-! ### comparisons -/
def rLtS : R2 := fun x y H Q => ∃ i j, x = V.str i ∧ y = V.str j ∧ Q (V.bl (decide (i.cps.toList < j.cps.toList))) H
theorem o_ltS {X : Cx} : OpR X (compareOp .Lt) rLtS := op_lt_str
theorem rd_ltS {i j : Str} (p : P (.bl (decide (i.cps.toList < j.cps.toList))) S) : RD2 K B rLtS (.str i) (.str j) S P := fun F Γ σ H v u R a b Q k => by
  cases a; cases b
  exact ⟨i, j, rfl, rfl, k _ _ H F S p (Stp.refl _ _ _) R (.bl _)⟩
mutual
def D.py : D → PyData
  | .non => .none | .bl b => .bool b | .int i => .int i | .str s => .str s
  | .tup xs => .tuple (pys xs) | .lst xs => .list (pys xs)
  | _ => .dict []
def pys : List D → List PyData
  | [] => []
  | x :: xs => x.py :: pys xs
end
mutual
def D.plain : D → Bool
  | .non => true | .bl _ => true | .int _ => true | .str _ => true
  | .tup xs => plains xs | .lst xs => plains xs
  | _ => false
def plains : List D → Bool
  | [] => true
  | x :: xs => x.plain && plains xs
end
theorem Rp.dp {v : V} {d : D} (h : Rp K F v d) : d.plain = true → Dp K F v d.py := by
  refine Rp.rec (motive_1 := fun v d _ => d.plain = true → Dp K F v d.py) (motive_2 := fun vs ds _ => plains ds = true → DpAll K F vs (pys ds)) ?_ ?_ ?_ ?_ ?_ ?_ ?_ ?_ ?_ ?_ ?_ ?_ h
  · exact fun _ => by unfold D.py; exact .non
  · exact fun b _ => by unfold D.py; exact .bl b
  · exact fun b _ => by unfold D.py; exact .int b
  · exact fun b _ => by unfold D.py; exact .str b
  · exact fun hs _ ih p => by unfold D.py; unfold D.plain at p; exact .tup (Evl.st_of hs) (ih p)
  · exact fun hs _ ih p => by unfold D.py; unfold D.plain at p; exact .lst (Evl.sq_of hs) (ih p)
  · exact fun hs _ ih p => by unfold D.plain at p; cases p
  · exact fun _ _ _ _ p => by unfold D.plain at p; cases p
  · exact fun a p => by unfold D.plain at p; cases p
  · exact fun a p => by unfold D.plain at p; cases p
  · exact fun _ => by unfold pys; exact .nil
  · exact fun _ _ i1 i2 p => by
      unfold plains at p
      have := Bool.and_eq_true_iff.mp p
      unfold pys; exact .cons (i1 this.1) (i2 this.2)
theorem Dp_mono {v : V} {d : PyData} (e : Ex F F') (h : Dp K F v d) : Dp K F' v d := by
  refine Dp.rec (motive_1 := fun v d _ => Dp K F' v d) (motive_2 := fun vs ds _ => DpAll K F' vs ds) ?_ ?_ ?_ ?_ ?_ ?_ ?_ ?_ h
  · exact .non
  · exact fun b => .bl b
  · exact fun b => .int b
  · exact fun b => .str b
  · exact fun hs _ ih => .lst (Evl.ex_l e hs) ih
  · exact fun hs _ ih => .tup (Evl.ex_t e hs) ih
  · exact .nil
  · exact fun _ _ i1 i2 => .cons i1 i2
/-- what == compares: plain data, or a box of plain data -/
def EqD (d : D) (S : Sto) (e : D) : Prop := d = e ∨ ∃ p ds, d = .ptr p ∧ S p = some (.lst ds) ∧ e = .lst ds
theorem RpAll.dps {vs : List V} {ds : List D} (h : RpAll K F vs ds) (p : plains ds = true) : DpAll K F vs (pys ds) := by
  induction vs generalizing ds with
  | nil => cases h; exact .nil
  | cons v vs ih =>
    cases h with
    | cons a b =>
      unfold plains at p
      have := Bool.and_eq_true_iff.mp p
      unfold pys
      exact .cons (a.dp this.1) (ih b this.2)
theorem DpAll_mono {vs : List V} {ds : List PyData} (e : Ex F F') (h : DpAll K F vs ds) : DpAll K F' vs ds := by
  induction vs generalizing ds with
  | nil => cases h; exact .nil
  | cons v vs ih => cases h with | cons a b => exact .cons (Dp_mono e a) (ih b)
theorem EqD.at {d e : D} {v : V} (h : EqD d S e) (R : Rel K B F Γ S σ H) (r : Rp K F v d) (p : e.plain = true) : Dp K H v e.py := by
  rcases h with rfl | ⟨a, ds, rfl, hs, rfl⟩
  · exact Dp_mono R.ex (r.dp p)
  · cases r
    obtain ⟨ho, h1, h2⟩ := R.sto a _ hs
    obtain ⟨vs, rfl, h3⟩ := h2.lst_inv
    unfold D.plain at p
    unfold D.py
    exact .lst (Evl.sq_of h1) (DpAll_mono R.ex (h3.dps p))
theorem rd_eq {d e : D} (h1 : EqD x S d) (h2 : EqD y S e) (p1 : d.plain = true) (p2 : e.plain = true) (s1 : SeqAt.shaped d.py = true) (s2 : SeqAt.shaped e.py = true) (p : P (.bl (PyData.eqv d.py e.py)) S) : RD2 K B (rEqD K) x y S P := fun F Γ σ H v u R a b Q k =>
  ⟨_, _, h1.at R a p1, h2.at R b p2, s1, s2, k _ _ H F S p (Stp.refl _ _ _) R (.bl _)⟩
theorem rd_ne {d e : D} (h1 : EqD x S d) (h2 : EqD y S e) (p1 : d.plain = true) (p2 : e.plain = true) (s1 : SeqAt.shaped d.py = true) (s2 : SeqAt.shaped e.py = true) (p : P (.bl (!PyData.eqv d.py e.py)) S) : RD2 K B (rNeD K) x y S P := fun F Γ σ H v u R a b Q k =>
  ⟨_, _, h1.at R a p1, h2.at R b p2, s1, s2, k _ _ H F S p (Stp.refl _ _ _) R (.bl _)⟩
/-- strs -/
theorem rd_eqS {i j : Str} (s1 : SeqAt.shaped (.str i) = true) (s2 : SeqAt.shaped (.str j) = true) (p : P (.bl (i == j)) S) : RD2 K B (rEqD K) (.str i) (.str j) S P :=
  rd_eq (d := .str i) (e := .str j) (.inl rfl) (.inl rfl) rfl rfl s1 s2 p
theorem rd_neS {i j : Str} (s1 : SeqAt.shaped (.str i) = true) (s2 : SeqAt.shaped (.str j) = true) (p : P (.bl (!(i == j))) S) : RD2 K B (rNeD K) (.str i) (.str j) S P :=
  rd_ne (d := .str i) (e := .str j) (.inl rfl) (.inl rfl) rfl rfl s1 s2 p
theorem rd_eqI {i j : Int} (p : P (.bl (i == j)) S) : RD2 K B (rEqD K) (.int i) (.int j) S P := rd_eq (d := .int i) (e := .int j) (.inl rfl) (.inl rfl) rfl rfl rfl rfl p
theorem rd_neI {i j : Int} (p : P (.bl (!(i == j))) S) : RD2 K B (rNeD K) (.int i) (.int j) S P := rd_ne (d := .int i) (e := .int j) (.inl rfl) (.inl rfl) rfl rfl rfl rfl p

/-! ### in -/
def rInS : R2 := fun x y H Q => ∃ i j, x = V.str i ∧ y = V.str j ∧ Q (V.bl !(Builtin.Str.occurrences j i 0 j.length 1).isEmpty) H
def rNotInS : R2 := fun x y H Q => ∃ i j, x = V.str i ∧ y = V.str j ∧ Q (V.bl !!(Builtin.Str.occurrences j i 0 j.length 1).isEmpty) H
theorem o_inS {X : Cx} : OpR X (compareOp .In) rInS := op_in_str
theorem o_notInS {X : Cx} : OpR X (compareOp .NotIn) rNotInS := op_notIn_str
def occurs (i j : Str) : Bool := !(Builtin.Str.occurrences j i 0 j.length 1).isEmpty
theorem rd_inS {i j : Str} (p : P (.bl (occurs i j)) S) : RD2 K B rInS (.str i) (.str j) S P := fun F Γ σ H v u R a b Q k => by
  cases a; cases b
  exact ⟨i, j, rfl, rfl, k _ _ H F S p (Stp.refl _ _ _) R (.bl _)⟩
theorem rd_notInS {i j : Str} (p : P (.bl (!occurs i j)) S) : RD2 K B rNotInS (.str i) (.str j) S P := fun F Γ σ H v u R a b Q k => by
  cases a; cases b
  exact ⟨i, j, rfl, rfl, k _ _ H F S p (Stp.refl _ _ _) R (.bl _)⟩
theorem inV_strs (i : Str) (js : List Str) : inV (.str i) (js.map V.str) = decide (i ∈ js) := by
  unfold inV
  induction js with
  | nil => simp
  | cons j js ih =>
    simp only [List.map_cons, List.any_cons, ih]
    have e : eqV (.str j) (.str i) = decide (j = i) := by first | rfl | (unfold eqV; simp)
    rw [e]
    by_cases h : j = i
    · subst h; simp
    · have : ¬ i = j := fun z => h z.symm
      simp [h, this]
theorem inV_ints (i : Int) (js : List Int) : inV (.int i) (js.map V.int) = decide (i ∈ js) := by
  unfold inV
  induction js with
  | nil => simp
  | cons j js ih =>
    simp only [List.map_cons, List.any_cons, ih]
    have e : eqV (.int j) (.int i) = decide (j = i) := by first | rfl | (unfold eqV; simp)
    rw [e]
    by_cases h : j = i
    · subst h; simp
    · have : ¬ i = j := fun z => h z.symm
      simp [h, this]
theorem flat_strs (js : List Str) : (js.map V.str).all flatV = true := by induction js with | nil => rfl | cons j js ih => simp [ih]; rfl
theorem flat_ints (js : List Int) : (js.map V.int).all flatV = true := by induction js with | nil => rfl | cons j js ih => simp [ih]; rfl
theorem rd_inStrs {i : Str} {js : List Str} (h : SeqD y S (js.map D.str)) (p : P (.bl (decide (i ∈ js))) S) : RD2 K B (rIn K false) (.str i) y S P := fun F Γ σ H v u R a b Q k => by
  cases a
  obtain ⟨q, vs, rfl, s, r⟩ := h.at R b
  have e := r.strs
  subst e
  exact ⟨q, _, rfl, s, rfl, flat_strs js, k _ _ H F S p (Stp.refl _ _ _) R (by simp only [inV_strs]; exact .bl _)⟩
theorem rd_notInStrs {i : Str} {js : List Str} (h : SeqD y S (js.map D.str)) (p : P (.bl (!decide (i ∈ js))) S) : RD2 K B (rIn K true) (.str i) y S P := fun F Γ σ H v u R a b Q k => by
  cases a
  obtain ⟨q, vs, rfl, s, r⟩ := h.at R b
  have e := r.strs
  subst e
  exact ⟨q, _, rfl, s, rfl, flat_strs js, k _ _ H F S p (Stp.refl _ _ _) R (by simp only [inV_strs]; exact .bl _)⟩
theorem rd_inInts {i : Int} {js : List Int} (h : SeqD y S (js.map D.int)) (p : P (.bl (decide (i ∈ js))) S) : RD2 K B (rIn K false) (.int i) y S P := fun F Γ σ H v u R a b Q k => by
  cases a
  obtain ⟨q, vs, rfl, s, r⟩ := h.at R b
  have e := r.ints
  subst e
  exact ⟨q, _, rfl, s, rfl, flat_ints js, k _ _ H F S p (Stp.refl _ _ _) R (by simp only [inV_ints]; exact .bl _)⟩
theorem rd_notInInts {i : Int} {js : List Int} (h : SeqD y S (js.map D.int)) (p : P (.bl (!decide (i ∈ js))) S) : RD2 K B (rIn K true) (.int i) y S P := fun F Γ σ H v u R a b Q k => by
  cases a
  obtain ⟨q, vs, rfl, s, r⟩ := h.at R b
  have e := r.ints
  subst e
  exact ⟨q, _, rfl, s, rfl, flat_ints js, k _ _ H F S p (Stp.refl _ _ _) R (by simp only [inV_ints]; exact .bl _)⟩

/-! ### subscripts, slices -/
theorem rd_ix {ds : List D} {i : Int} {d : D} (h : SeqD x S ds) (ha : atI ds i = some d) (p : P d S) : RD2 K B (rIx K) x (.int i) S P := fun F Γ σ H v u R a b Q k => by
  cases b
  obtain ⟨q, vs, rfl, s, r⟩ := h.at R a
  have : ∃ w, atI vs i = some w ∧ Rp K F w d := by
    unfold atI at ha ⊢
    rw [r.length]
    cases e : ixN ds.length i with
    | none => rw [e] at ha; cases ha
    | some j => rw [e] at ha; obtain ⟨w, hw, hr⟩ := r.get (i := j) ha; exact ⟨w, hw, hr⟩
  obtain ⟨w, hw, hr⟩ := this
  rcases s with s | s
  · exact .inl ⟨q, vs, i, w, rfl, rfl, s, hw, k _ _ H F S p (Stp.refl _ _ _) R hr⟩
  · exact .inr (.inl ⟨q, vs, i, w, rfl, rfl, s, hw, k _ _ H F S p (Stp.refl _ _ _) R hr⟩)
theorem rd_ixS {z : Str} {i : Int} {c : Nat} (hl : z.length ≤ sizeLine) (ha : atI z.cps.toList i = some c) (p : P (.str ⟨#[c]⟩) S) : RD2 K B (rIx K) (.str z) (.int i) S P := fun F Γ σ H v u R a b Q k => by
  cases a; cases b
  exact .inr (.inr ⟨z, i, c, rfl, rfl, hl, ha, k _ _ H F S p (Stp.refl _ _ _) R (.str _)⟩)
theorem atI_nat {α : Type} {xs : List α} {i : Nat} : atI xs (i : Int) = xs[i]? := by
  unfold atI ixN
  by_cases h : i < xs.length
  · have : (i : Int) < xs.length := by omega
    simp [this]
  · have : ¬ (i : Int) < xs.length := by omega
    simp [this]; omega
/-- slices: RDS -/
def RDS (K : PySem.W.Frag) (B : Hp) (r : RSl) (x : D) (lo hi : Option Int) (S : Sto) (P : D → Sto → Prop) : Prop :=
  ∀ F Γ σ H v, Rel K B F Γ S σ H → Rp K F v x → ∀ Q : VK, (∀ v d H' F' S', P d S' → Stp F S H F' S' H' → Rel K B F' Γ S' σ H' → Rp K F' v d → Q v H') → r v lo hi H Q
def WO (K : PySem.W.Frag) (B : Hp) (t : TO) (Γ : Sl) (S : Sto) (P : Option Int → Sto → Prop) : Prop :=
  ∀ F σ H, Rel K B F Γ S σ H → ∀ Q : Option Int → Hp → Prop, (∀ o H' F' S', P o S' → Stp F S H F' S' H' → Rel K B F' Γ S' σ H' → Q o H') → t σ H Q
theorem wo_none {P : Option Int → Sto → Prop} (p : P none S) : WO K B tNoPart Γ S P := fun F σ H R Q k => k none H F S p (Stp.refl _ _ _) R
theorem wo_some {t : TE} {P : Option Int → Sto → Prop} (h : WE K B t Γ S fun d S1 => ∃ i, d = .int i ∧ P (some i) S1) : WO K B (tPart t) Γ S P := fun F σ H R Q k =>
  h F σ H R _ fun v d H1 F1 S1 ⟨i, hd, p⟩ e1 R1 r1 => by
    subst hd; cases r1
    exact ⟨i, rfl, k _ _ _ _ p e1 R1⟩
theorem we_sl {r : RSl} {te : TE} {tl th : TO} (h : WE K B te Γ S fun x S1 => WO K B tl Γ S1 fun lo S2 => WO K B th Γ S2 fun hi S3 => RDS K B r x lo hi S3 P) : WE K B (tSl r te tl th) Γ S P := fun F σ H R Q k =>
  h F σ H R _ fun v x H1 F1 S1 h1 e1 R1 r1 => h1 F1 σ H1 R1 _ fun lo H2 F2 S2 h2 e2 R2 => h2 F2 σ H2 R2 _ fun hi H3 F3 S3 h3 e3 R3 => h3 F3 Γ σ H3 v R3 (r1.mono (e2.trans e3).1) Q fun z d H4 F4 S4 p e4 => k z d H4 F4 S4 p (((e1.trans e2).trans e3).trans e4)
def cutD {α : Type} (xs : List α) (lo hi : Option Int) : List α := (xs.drop (HT.sIx xs.length 0 lo)).take (HT.sIx xs.length xs.length hi - HT.sIx xs.length 0 lo)
theorem RpAll.cut {vs : List V} {ds : List D} (r : RpAll K F vs ds) (lo hi : Option Int) : RpAll K F (cutV vs lo hi) (cutD ds lo hi) := by
  unfold cutV cutD
  rw [r.length]
  exact (r.drop _).take _
theorem HT.sIx_le (n d : Nat) (o : Option Int) (h : d ≤ n) : HT.sIx n d o ≤ n := by
  cases o with
  | none => simpa [HT.sIx] using h
  | some i => simp only [HT.sIx]; split <;> omega
theorem rds_tup {ds : List D} {lo hi : Option Int} (p : P (.tup (cutD ds lo hi)) S) : RDS K B (rSlA K) (.tup ds) lo hi S P := fun F Γ σ H v R a Q k => by
  cases a with
  | tup s r =>
    rename_i a vs
    refine ⟨a, vs, rfl, Evl.st_of (R.ex _ _ s), fun ⟨h1, h2⟩ => ?_, fun _ q hq => ?_⟩
    · have e : cutD ds lo hi = ds := by
        unfold cutD; rw [← r.length, h1, h2]; simp [r.length]
      rw [e] at p
      exact k _ _ H F S p (Stp.refl _ _ _) R (.tup s r)
    · obtain ⟨ex, R2⟩ := R.lay hq (.tup (cutV vs lo hi))
      exact k _ _ _ _ S p (R.layS hq _) R2 (.tup upd_same ((r.mono ex).cut lo hi))
theorem rds_lst {ds : List D} {lo hi : Option Int} (h : LstD x S ds) (p : P (.lst (cutD ds lo hi)) S) : RDS K B (rSlL K) x lo hi S P := fun F Γ σ H v R ra Q k => by
  obtain ⟨a, vs, rfl, s, r⟩ := h.at R ra
  refine ⟨a, vs, rfl, s, fun q hq => ?_⟩
  obtain ⟨ex, R2⟩ := R.lay hq (.lst (cutV vs lo hi))
  exact k _ _ _ _ S p (R.layS hq _) R2 (.lst upd_same ((r.mono ex).cut lo hi))
theorem rds_str {z : Str} {lo hi : Option Int} (hl : z.length ≤ sizeLine) (p : P (.str (cutS z lo hi)) S) : RDS K B rSlS (.str z) lo hi S P := fun F Γ σ H v R a Q k => by
  cases a
  exact ⟨z, rfl, hl, k _ _ H F S p (Stp.refl _ _ _) R (.str _)⟩
theorem rds_l {r r' : RSl} {lo hi : Option Int} (h : RDS K B r x lo hi S P) : RDS K B (rOrS r r') x lo hi S P := fun F Γ σ H v R a Q k => .inl (h F Γ σ H v R a Q k)
theorem rds_r {r r' : RSl} {lo hi : Option Int} (h : RDS K B r' x lo hi S P) : RDS K B (rOrS r r') x lo hi S P := fun F Γ σ H v R a Q k => .inr (h F Γ σ H v R a Q k)
end
end DL
/-! DLG: a def's promise where it is known that no guard runs (repr of nested data asks for it) -/
namespace DL
open PySem PySem.Spec L2 PyProof.Rows
structure FnG (P : Program) (w : World) (K : PySem.W.Frag) (mg : Str → Option Value) (base : Heap) (CX : CXT) (k : Nat) (f : Addr) (fd : FuncData) (ps : List Str) (sp : Sp) : Prop where
  len : ∀ vs H Q E, sp vs H Q E → vs.length = ps.length
  go : ∀ (A : Around) (outer : List Env) (s : Shared) (H : Hp) (args : Args) (us : List Value) (vs : List V) (Q : VK) (E : XK), Room k A → A.guards = some [] → Env0 P w K mg base A outer s H →
    BindsTo s fd args (ps.zip us) → Vals vs us → sp vs H Q E → codeAny (model P w) A (.call (.ref f) args) (CR CX outer P w H s Q E) s
section
variable {P : Program} {w : World} {K : PySem.W.Frag} {mg : Str → Option Value} {base : Heap} {CX : CXT} {k : Nat} {f : Addr} {fd : FuncData} {ps : List Str} {sp : Sp}
theorem FnG.mono {j : Nat} (G : FnG P w K mg base CX j f fd ps sp) (h : j ≤ k) : FnG P w K mg base CX k f fd ps sp :=
  ⟨G.len, fun A o s H a us vs Q E r g => G.go A o s H a us vs Q E (r.mono h) g⟩
theorem FnG.imp {sp' : Sp} (G : FnG P w K mg base CX k f fd ps sp) (h : ∀ vs H Q E, sp' vs H Q E → sp vs H Q E) : FnG P w K mg base CX k f fd ps sp' :=
  ⟨fun vs H Q E q => G.len vs H Q E (h _ _ _ _ q), fun A o s H a us vs Q E r g e b v q => G.go A o s H a us vs Q E r g e b v (h _ _ _ _ q)⟩
end
section
variable {X : Cx} {CX : CXT} {k : Nat} {f : Addr} {fd : FuncData} {ps : List Str} {sp : Sp} {E : XK} {x : Str} {p pos : Pos} {e : Expr} {es : List Expr} {t : TA}
theorem run_fnG {pins : List (Addr × Obj)} {σ : L2.St} {H : Hp} {s : Shared} {Q : VK} {us : List Value} {vs : List V} (G : FnG X.prog X.w X.K X.mg X.base CX k f fd ps sp) (hr : Room k X.A) (hg : X.A.guards = some [])
    (hb : Binds X.K fd ps []) (hx : Passes CX X E) (I : Inv X pins σ H s) (r : Vals vs us) (h : sp vs H Q E) : wpAny (model X.prog X.w) X.A (PySem.call (.ref f) us) (EP X pins σ Q) X.xe s := by
  have ul : us.length = ps.length := r.length ▸ G.len _ _ _ _ h
  have bt : BindsTo s fd ⟨us, []⟩ (ps.zip us) := by
    have := hb s us I.kIn (by rw [List.append_nil]; exact ul)
    rwa [List.append_nil] at this
  refine wpAny_call (codeAny_mono (G.go X.A X.stack s H ⟨us, []⟩ us vs Q E hr hg I.env0 bt r h) fun q s' hq => ?_)
  match q, hq with
  | .error er, hq => exact hx pins σ H s er s' I hq
  | .ok (.ret u), hq => exact I.after hq
  | .ok .next, hq => exact hq.elim
  | .ok .brk, hq => exact hq.elim
  | .ok .cont, hq => exact hq.elim
theorem pe_callG (G : FnG X.prog X.w X.K X.mg X.base CX k f fd ps sp) (hr : Room k X.A) (hgd : X.A.guards = some []) (hg : Gl X x) (hm : X.mg x = some (.ref f)) (hk : PySem.W.keepIn X.K (.ref f) = true) (hb : Binds X.K fd ps [])
    (hx : Passes CX X E) (ha : PA X (e :: es) t) (hdb : (x == ("__debug__" : Str)) = false := by decide) (he : starEach (e :: es) X.env = (false, eval e X.env) :: starEach es X.env := by rfl)
    (hpl : (backTo pos (starEach es X.env)).any (·.1) = false := by rfl) : PE X (.Call (.Name x p) (e :: es) [] pos) (tCall sp [] E t) := by
  constructor
  intro pins s σ H Q I h
  refine wpAny_Call_Name_kw (ld_glob I hg hm (PySem.W.callWith_K (h₀ := X.base) I.ok.mod.kin hk ?_ he hpl) hdb)
  refine thn (ha.run pos pins s σ H _ I h) fun us s1 ⟨vs, H1, I1, r, q⟩ => ⟨I1.kIn, ?_⟩
  have q' : sp (vs ++ []) H1 Q E := q
  exact run_fnG G hr hgd hb hx I1 r (by rwa [List.append_nil] at q')
theorem pe_call0G (G : FnG X.prog X.w X.K X.mg X.base CX k f fd ps sp) (hr : Room k X.A) (hgd : X.A.guards = some []) (hg : Gl X x) (hm : X.mg x = some (.ref f)) (hk : PySem.W.keepIn X.K (.ref f) = true) (hb : Binds X.K fd ps [])
    (hx : Passes CX X E) (hdb : (x == ("__debug__" : Str)) = false := by decide) : PE X (.Call (.Name x p) [] [] pos) (tCall sp [] E tNil) := by
  constructor
  intro pins s σ H Q I h
  refine wpAny_Call_Name_kw (ld_glob I hg hm (PySem.W.callWith_K0 I.kIn hk ?_) hdb)
  exact run_fnG (us := []) (vs := []) G hr hgd hb hx I .nil (show sp ([] ++ []) H Q E from h)
end
theorem guards_deeper (A : Around) (env : Env) : (A.deeper env).guards = A.guards := by first | rfl | simp [Around.deeper]
/-- a def by its body -/
theorem FunG {P : Program} {w : World} {K : PySem.W.Frag} {mg : Str → Option Value} {base : Heap} {x qual : Str} {st : Stmt} {f : Addr} {fd : FuncData} {N ps : List Str} {k : Nat} {sp : Sp} (F : Fun K x qual st f fd)
    (S : FnScope N ps (defScope st)) (len : ∀ vs H Q E, sp vs H Q E → vs.length = ps.length)
    (body : ∀ (cdv : Value) (A : Around) (outer : List Env) (s : Shared) (H : Hp) (vs : List V) (Q : VK) (E : XK), Room k (A.deeper (envOfC qual (defScope st) s.heap.objs.size f cdv)) →
      (A.deeper (envOfC qual (defScope st) s.heap.objs.size f cdv)).guards = some [] → sp vs H Q E →
      ∃ t, PSs (cxOf CX0 P w K mg base N qual (defScope st) f cdv A outer s H E).nox (defBody st) t ∧ t { nx := fun _ H' => Q .non H', rt := Q } (start N vs) H) : FnG P w K mg base CX0 (k + 1) f fd ps sp := by
  obtain ⟨oc, od, kV, doc, pm, an, cdv, ct, osl, hfd, lk, hcd⟩ := F.ex
  subst hfd
  refine ⟨len, fun A outer s H args us vs Q E hr hgd e0 hb r hsp => ?_⟩
  -- the def's own frame
  have kin : K.In s.heap := e0.mod.kin.keeps fun b o z => (e0.bs b o z).1
  have lim := e0.mod.nolimit.keeps fun b o z => (e0.bs b o z).1
  have kinds : ∀ y ∈ ps.zip us, (defScope st).names.lookup y.1 = some .local ∨ ((defScope st).names.lookup y.1 = some .cell ∧ ((cellsFrom (s.heap.objs.size + 1) (defScope st).names []).lookup y.1).isSome = true) := by
    rintro ⟨n, v⟩ hy
    exact (S.par n (List.of_mem_zip hy).1).imp id fun q => ⟨q, PySem.W.cellsFrom_some _ _ _ (.inl q)⟩
  refine codeAny_call_function hr.depth (kin _ _ lk) rfl S.co S.gen rfl (PySem.W.codeRec_of kin hcd) (hb _ _ _ _ ?_)
  refine wpAny_newFunctionEnv_cells S.kind kinds fun env he s1 ic => ?_
  subst he
  refine ⟨lim.keeps ic.toInCall.keep, codeAny_func ?_⟩
  obtain ⟨t, ht, hq⟩ := body cdv A outer s H vs Q E (hr.deeper _) (by rw [guards_deeper]; exact hgd) hsp
  have I := inv_start (CX := CX0) (E := E) S hr.hd e0 (len _ _ _ _ hsp) r ic
  refine wpAny_mono (ht.nox.run [] s1 (start N vs) H _ I hq) (fun fl s' hs => ?_) fun e s' hs => hs
  match fl, hs with
  | .ret u, ⟨v, σ', H', J, rv, q⟩ => exact ⟨v, H', J.os, J.bare, J.base, J.hok, rv, q⟩
  | .next, ⟨σ', H', J, q⟩ => exact ⟨.non, H', J.os, J.bare, J.base, J.hok, rfl, q⟩
  | .brk, ⟨_, _, _, q⟩ => exact q.elim
  | .cont, ⟨_, _, _, q⟩ => exact q.elim
/-! ### a body on data -/
def startD (n : Nat) (ds : List D) : Sl := ds.map some ++ List.replicate (n - ds.length) none
theorem spD_len {K : PySem.W.Frag} {sp : SpecD} {n : Nat} {vs : List V} {H : Hp} {Q : VK} {E : XK} (h : spD K sp vs H Q E) (l : ∀ ds S P, sp ds S P → ds.length = n) : vs.length = n := by
  obtain ⟨B, F, Γ, σ, ds, S, P, q, R, r, _⟩ := h
  rw [r.length]; exact l _ _ _ q
theorem rel_start {K : PySem.W.Frag} {B F H : Hp} {S : Sto} {Γ : Sl} {σ : L2.St} {vs : List V} {ds : List D} {N : List Str} (R : Rel K B F Γ S σ H) (r : RpAll K F vs ds) : Rel K B F (startD N.length ds) S (start N vs) H := by
  refine ⟨R.bs, R.ex, ?_, fun i d h => ?_, R.out, R.sto⟩
  · unfold startD L2.start; simp [r.length]
  · unfold startD at h
    unfold L2.start
    have hl := r.length
    by_cases hi : i < ds.length
    · rw [List.getElem?_append_left (by simpa using hi), List.getElem?_map] at h
      rw [List.getElem?_append_left (by simp; omega), List.getElem?_map]
      cases e : ds[i]? with
      | none => rw [e] at h; cases h
      | some d' =>
        rw [e] at h
        have hd : d' = d := by injection h with h; injection h
        subst hd
        obtain ⟨v, hv, rv⟩ := r.get e
        exact ⟨v, by rw [hv]; rfl, rv⟩
    · rw [List.getElem?_append_right (by simp; omega), List.getElem?_replicate] at h
      split at h <;> cases h
theorem fn_body {K : PySem.W.Frag} {sp : SpecD} {t : TS} {N : List Str} {vs : List V} {H : Hp} {Q : VK} {E : XK} (hW : ∀ B ds S P, sp ds S P → WS K B t (startD N.length ds) S ⟨fun _ S' => P .non S', P, fun _ _ => False, fun _ _ => False⟩)
    (h : spD K sp vs H Q E) : t { nx := fun _ H' => Q .non H', rt := Q } (start N vs) H := by
  obtain ⟨B, F, Γ, σ, ds, S, P, q, R, r, k⟩ := h
  refine hW B ds S P q F (start N vs) H (rel_start R r) _ ⟨fun F' σ' H' Γ' S' p e R' => ?_, fun v d F' σ' H' Γ' S' p e R' rv => ?_, fun F' σ' H' Γ' S' p => p.elim, fun F' σ' H' Γ' S' p => p.elim⟩
  · exact k .non .non H' F' S' p e R'.bare .non
  · exact k v d H' F' S' p e R'.bare rv

/-! ### the law's own call -/
/-- the script alone may be tracked -/
def scriptH (K : PySem.W.Frag) (a : Addr) (o : Obj) (vs : List V) : Hp := fun b => if b = a ∧ K.lookup a = none then some (.frz o (.lst vs)) else none
theorem scriptH_at {K : PySem.W.Frag} {a b : Addr} {o : Obj} {vs : List V} {u : HO} (h : scriptH K a o vs b = some u) : b = a ∧ K.lookup a = none ∧ u = .frz o (.lst vs) := by
  unfold scriptH at h
  split at h
  · rename_i q; cases h; exact ⟨q.1, q.2, rfl⟩
  · cases h
theorem law_callG {P : Program} {w : World} {K : PySem.W.Frag} {mg mb : Str → Option Value} {k : Nat} {fa a : Addr} {fd : FuncData} {x : Str} {sp : Sp} {s : Shared} {vs : List Value} {ns : List Int}
    (KX : K.In s.heap) (hns : s.heap.Ns mainGlobals mg) (hb : s.heap.Ns builtinsNs mb) (hbb : ∀ y : Str, y ≠ "__name__" → mb y = bootBuiltins y) (hlim : s.heap.NoLimit) (hgens : s.gens = #[])
    (ha : s.heap.get? a = some { cls := .type "list", data := .seq vs.toArray }) (hi : IntsAre vs ns) (hl : ns.length ≤ sizeLine) (hr : Room k callerA)
    (G : ∀ base : Heap, K.In base → base.Ns mainGlobals mg → FnG P w K mg base CX0 k fa fd [x] sp) (hbind : ∀ (s : Shared) (u : Value), BindsTo s fd ⟨[u], []⟩ [(x, u)])
    (hsp : ∀ H : Hp, SqL K H a (ns.map V.int) → sp [.ref a] H (fun v _ => v = .bl true) fun _ _ _ => False) :
    codeAny (model P w) callerA (.call (.ref fa) ⟨[.ref a], []⟩) (fun r s' => r = .ok (.ret (.bool true)) ∧ OldK s.heap s'.heap ∧ s'.os = s.os ∧ AllBare s'.gens) s := by
  have rv := vals_ints hi
  have lv : vs.length = ns.length := hi.length.symm ▸ rfl
  let H : Hp := scriptH K a { cls := .type "list", data := .seq vs.toArray } (ns.map V.int)
  have hok : HOk P w H s.heap := fun b u q => by
    obtain ⟨rfl, _, rfl⟩ := scriptH_at q
    exact ⟨ha, by rw [List.length_map]; exact hl, vs, _, rv, ha⟩
  have hS : SqL K H a (ns.map V.int) := by
    cases hk : K.lookup a with
    | none => exact .inl (.inr ⟨_, if_pos ⟨rfl, hk⟩⟩)
    | some o =>
      have e := KX a o hk
      rw [ha] at e
      cases e
      exact .inr ⟨_, vs.toArray, _, hk, rfl, rfl, rfl, by simpa [lv] using hl, by simpa using rv⟩
  have keepD : ∀ {b : Addr} {o : Obj} {es : Array DictEntry} {ep : Nat}, s.heap.get? b = some o → o.data = .dict es ep → (hidT s.heap H).get? b = some o := fun {b o es ep} e d => hidT_get e (by
    cases q : H b with
    | none => rfl
    | some u =>
      obtain ⟨rfl, _, _⟩ := scriptH_at q
      rw [ha] at e
      cases e
      have d' : Data.seq vs.toArray _ = Data.dict es ep := d
      cases d')
  have nsB : ∀ {b : Addr} {m : Str → Option Value}, s.heap.Ns b m → (hidT s.heap H).Ns b m := fun ⟨o, es, ep, e, d, r⟩ => ⟨o, es, ep, keepD e d, d, r⟩
  have kB : K.In (hidT s.heap H) := fun b o e => hidT_get (KX b o e) (by
    cases q : H b with
    | none => rfl
    | some u =>
      obtain ⟨rfl, z, _⟩ := scriptH_at q
      rw [z] at e; cases e)
  have md : Mod K mg (hidT s.heap H) := ⟨kB, nsB hns, ⟨mb, nsB hb, hbb⟩, hlim.imp fun mc h => ⟨nsB h.1, h.2⟩⟩
  have nof : ∀ b : Addr, b ∉ frs ([] : List Env) := fun b z => by cases z
  have e0 : Env0 P w K mg (hidT s.heap H) callerA [] s H := ⟨rfl, md, fun b o e => of_hidT e, Nat.le_of_eq (hidT_size _ _), trivial, fun b z => absurd z (nof b), hok, .of_eq hgens⟩
  refine codeAny_mono ((G _ kB (nsB hns)).go callerA [] s H _ [.ref a] [.ref a] _ _ hr rfl e0 (hbind s _) (.cons rfl .nil) (hsp H hS)) fun r s' h => ?_
  match r, h with
  | .ok (.ret u), ⟨v, H', os, bare, un, hok', r', q⟩ =>
    have q' : v = .bl true := q
    subst q'
    have hu : u = Value.bool true := r'
    subst hu
    refine ⟨rfl, OldK.of_keep fun b o e => ?_, os, bare⟩
    cases z : H b with
    | none => exact un.keep b o e z (nof b) (by simp)
    | some u =>
      obtain ⟨rfl, _, rfl⟩ := scriptH_at z
      have z2 := un.frzs _ _ _ z
      have a1 := (hok _ _ z).1
      have a2 := (hok' _ _ z2).1
      rw [e] at a1; cases a1
      exact a2
/-- the law's end -/
theorem walkG {l : PySem.W.OpenLaw} {n k : Nat} {q : Program} {loose : List Str} {XP : (Str → Option Value) → Heap → Prop} {YP : World → Heap → Prop} {d : DefRec} {K : Params → PySem.W.Frag} {sp : PySem.W.Frag → SpecD} {x : Str}
    (hn : l.most = some n) (hn2 : n ≤ sizeLine) (hdf : d.params.defaults = []) (hr : Room k callerA) (hY : ∀ (w : World) (h : Heap), YP w h → (K w.params).In h)
    (F : ∀ (w : World) (mg : Str → Option Value) (fa : Addr) (h : Heap), (K w.params).In h → h.Ns mainGlobals mg → mg d.name = some (.ref fa) →
      ∃ fd : FuncData, (∀ (s : Shared) (u : Value), BindsTo s fd ⟨[u], []⟩ [(x, u)]) ∧ ∀ base : Heap, (K w.params).In base → base.Ns mainGlobals mg → FnG l.prog w (K w.params) mg base CX0 k fa fd [x] (spD (K w.params) (sp (K w.params))))
    (hsp : ∀ (w : World) (ns : List Int), ns.length ≤ n → sp (K w.params) [.rol (ns.map D.int)] (fun _ => none) fun d _ => d = .bl true) :
    PySem.W.WalkO q loose XP YP l.row.toRowW d [] (fun f vs => PySem.call f vs) := by
  refine Att.attach_call hn hdf fun w s₀ s₁ mg mb fa o pm cd doc a vs ns T Y ho hd hcd hmg hobj hints hlen hgens => ?_
  obtain ⟨fd, hb, hF⟩ := F w mg fa _ (hY w _ Y) T.T.g hmg
  refine law_callG (hY w _ Y) T.T.g T.T.b T.T.builtins T.T.nolimit hgens hobj hints (Nat.le_trans hlen hn2) hr hF hb fun H hS => ?_
  refine ⟨fun _ => none, H, [], [], [.rol (ns.map D.int)], fun _ => none, _, hsp w ns hlen, ⟨(fun a o z => (nomatch z)), Evl.Ex.refl H, rfl, fun i d z => (by simp at z), fun a o z => (nomatch z), fun a o z => (nomatch z)⟩, .cons (.rol hS (rpAll_ints ns)) .nil, fun v dd H' F' S' p e R' r => ?_⟩
  subst p
  cases r
  rfl
end DL
/-! DLM: rules of the machine that were lacking -/
namespace DL
open PySem PySem.Spec L2 PyProof.Rows
section
variable {X : Cx} {tg l e : Expr} {tl te : TE} {ta : TA}

/-! ### a for over a list, a tuple, a text -/
def iSeq (K : PySem.W.Frag) (tl : TE) : TI := fun σ H R => tl σ H fun x H1 => (∃ a, x = .ref a ∧ (∃ xs, SqL K H1 a xs) ∧ R (Itl K a) H1) ∨ (∃ a, x = .ref a ∧ (∃ xs, SqT K H1 a xs) ∧ R (Itt K a) H1) ∨ ∃ z, x = .str z ∧ R (Its z) H1
theorem one_it {pins : List (Addr × Obj)} {σ : L2.St} {H : Hp} {s : Shared} {R : It → Hp → Prop} {J : It} {tn : Nat → Heap → Prop} (I : Inv X pins σ H s) (o : Obj) (T : Turn X.prog X.w X.K tg J [s.heap.objs.size] s.heap.objs.size tn)
    (h0 : tn 0 (s.heap.push o)) (q : R J H) : PIE X pins σ tg R (.ref s.heap.objs.size) { s with heap := s.heap.push o } := by
  refine ⟨_, [s.heap.objs.size], tn, J, H, rfl, I.kept (t' := s.toks) fun b u z => Heap.get?_push_of_some _ z, T, h0, fun b hb => ?_, q⟩
  obtain rfl : b = s.heap.objs.size := by simpa using hb
  exact I.fpOk (Nat.le_refl _) (I.hok.fresh (Nat.le_refl _))
theorem pi_seq (hl : PE X l tl) : PI X tg l (iSeq X.K tl) := by
  constructor
  intro pins s σ H R I h
  refine thn (hl.run pins s σ H _ I h) fun v s1 ⟨x, H1, I1, r1, q1⟩ => ?_
  rcases q1 with ⟨a, rfl, ⟨xs, hq⟩, q⟩ | ⟨a, rfl, ⟨xs, hq⟩, q⟩ | ⟨z, rfl, q⟩
  · obtain rfl : v = .ref a := r1
    obtain ⟨its, rv, p, _⟩ := I1.list hq
    exact wpAny_pyIter_list p.isList (one_it I1 _ (turn_list a _) ⟨_, Heap.get?_push_size _ rfl, rfl, rfl⟩ q)
  · obtain rfl : v = .ref a := r1
    obtain ⟨its, rv, p, _⟩ := I1.tuple hq
    exact wpAny_pyIter_tuple (items := its.toArray) p (one_it I1 _ (turn_tuple a _) ⟨_, Heap.get?_push_size _ rfl, rfl, rfl⟩ q)
  · obtain ⟨t, rfl⟩ := r1
    cases hz : z.cps.all (· < 128)
    · exact wpAny_pyIter_wide hz (one_it I1 _ (turn_str _ z t "str_iterator" (.inr rfl)) ⟨_, Heap.get?_push_size _ rfl, rfl, rfl⟩ q)
    · exact wpAny_pyIter_ascii hz (one_it I1 _ (turn_str _ z t "str_ascii_iterator" (.inl rfl)) ⟨_, Heap.get?_push_size _ rfl, rfl, rfl⟩ q)

/-! ### zip of two lists, of two tuples -/
abbrev iZipX := RZ.iZipA
theorem pi_zipX {e2 : Expr} {p pos tpos : Pos} {elts : List Expr} {kk : Nat} (hg : Gl X "zip") (hm : X.mg "zip" = none) (ha : PA X [e, e2] ta) (hs : starEach [e, e2] X.env = (false, eval e X.env) :: starEach [e2] X.env := by rfl)
    (hpl : (backTo pos (starEach [e2] X.env)).any (·.1) = false := by rfl) : PI X (.Tuple elts kk tpos) (.Call (.Name "zip" p) [e, e2] [] pos) (iZipX X.K ta) := RZ.pi_zipA hg hm ha hs hpl


/-! ### enumerate of a list, of a tuple -/
theorem meets_enumT (l : Addr) (items : Array Value) (cls : Value) (hc : cls = .type "tuple") (n : Nat) (dct : Option Addr) (sl : Array (Option Value)) :
    Meets (Builtin.«enumerate.__new__» ⟨[.type "enumerate", .ref l], []⟩) (fun _ R s => s.heap.get? l = some { cls := cls, dict := dct, data := .seq items n, slots := sl } ∧
      R (.ok (.ret (.ref (s.heap.push { cls := .type "tuple_iterator", data := .fields #[.ref l, .int 0 0] }).objs.size)))
        { s with heap := (s.heap.push { cls := .type "tuple_iterator", data := .fields #[.ref l, .int 0 0] }).push { cls := .type "enumerate", data := .fields #[.none, .bool false, .ref s.heap.objs.size, rawInt 0, .none, .none] } }) :=
  .of_wp fun prog w A R s h => by
    subst hc
    obtain ⟨hp, g, d, tk, os⟩ := s; obtain ⟨hl, h⟩ := h
    have hsub := sub_enumerate
    have hL : Heap.IsTuple (Shared.heap ⟨hp, g, d, tk, os⟩) l items := ⟨_, hl, rfl, n, rfl⟩
    wp_walk using wpAny_loadPart' hl
    refine wpAny_stack_any fun st => wpAny_pure ?_
    split
    · rename_i c _ _ _ _ _
      cases (c == Value.type "enumerate")
      · wp_walk using wpAny_loadPart' hl, wpAny_pyIter_tuple hL
        exact ⟨_, rfl, h⟩
      · wp_walk using wpAny_loadPart' hl, wpAny_pyIter_tuple hL
        exact ⟨_, rfl, h⟩
    · wp_walk using wpAny_loadPart' hl, wpAny_pyIter_tuple hL
      exact ⟨_, rfl, h⟩
theorem call_enumT {prog : Program} {w : World} {A : Around} {E : Value → Shared → Prop} {s : Shared} {l : Addr} {items : Array Value} {Q : Value → Shared → Prop} (hL : s.heap.IsTuple l items)
    (h : ∀ h', IsEnum h' (s.heap.objs.size + 1) s.heap.objs.size 0 .none → h'.IsTupleIter s.heap.objs.size l 0 → (∀ b o, s.heap.get? b = some o → h'.get? b = some o) → Q (.ref (s.heap.objs.size + 1)) { s with heap := h' }) :
    wpAny (model prog w) A (PySem.call (.type "enumerate") [.ref l]) Q E s := by
  obtain ⟨⟨c, dct, dt, sl⟩, hl, hc, n, hd⟩ := hL
  have hd' : dt = .seq items n := hd
  subst hd'
  refine callType_new F.called_enumerate (by decide) (F.typeCall_enumerate_1 _) (F.newCall_enumerate_1 _) (fun obj => F.args_object_init_2 obj _) F.entry_enumerate_new (meets_enumT l items c hc n dct sl) ⟨hl, ?_⟩
  have hz : (s.heap.push { cls := .type "tuple_iterator", data := .fields #[.ref l, .int 0 0] }).objs.size = s.heap.objs.size + 1 := Heap.size_push ..
  show _ ∧ _
  rw [hz]
  have he : IsEnum ((s.heap.push { cls := .type "tuple_iterator", data := .fields #[.ref l, .int 0 0] }).push
      { cls := .type "enumerate", data := .fields #[.none, .bool false, .ref s.heap.objs.size, rawInt 0, .none, .none] }) (s.heap.objs.size + 1) s.heap.objs.size 0 .none := by
    have q := Heap.get?_push_size (s.heap.push { cls := .type "tuple_iterator", data := .fields #[.ref l, .int 0 0] }) (o := { cls := .type "enumerate", data := .fields #[.none, .bool false, .ref s.heap.objs.size, rawInt 0, .none, .none] }) rfl
    rwa [hz] at q
  exact ⟨⟨_, he, rfl⟩, h _ he ⟨_, Heap.get?_push_of_some _ (Heap.get?_push_size _ rfl), rfl, rfl⟩ fun b o x => Heap.get?_push_of_some _ (Heap.get?_push_of_some _ x)⟩
/-- the tuple at a, each item in a new pair -/
def IteT (K : PySem.W.Frag) (a : Addr) : It :=
  ⟨fun i H => ∃ (xs : List V) (x : V), SqT K H a xs ∧ xs[i]? = some x, fun i H v H' => ∃ T x, v = .ref T ∧ H T = none ∧ H' = upd H T (.tup [.int (i : Nat), x]) ∧ ∀ xs, SqT K H a xs → xs[i]? = some x, fun i H => ∃ xs : List V, SqT K H a xs ∧ xs.length = i⟩
theorem turn_enumT {P : Program} {w : World} {K : PySem.W.Frag} {elts : List Expr} {kk : Nat} {tpos : Pos} (a e it : Addr) :
    Turn P w K (.Tuple elts kk tpos) (IteT K a) [e, it] e (fun i h => (∃ old, IsEnum h e it ((i : Nat) : Int) old) ∧ h.IsTupleIter it a i ∧ e ≠ it ∧ e ≠ a ∧ it ≠ a) where
  mem := by simp
  obj := fun i h ⟨⟨old, he⟩, ⟨o, ho, hc, hd⟩, _⟩ b hb => by
    rcases (by simpa using hb : b = e ∨ b = it) with rfl | rfl
    · exact ⟨_, he, fun v q => nomatch q⟩
    · exact ⟨o, ho, fun v q => by rw [hd] at q; cases q⟩
  keep := fun i h h' ⟨⟨old, he⟩, hi, hne⟩ k => ⟨⟨old, k e (by simp) _ he⟩, hi.at fun o q => k it (by simp) o q, hne⟩
  item := by
    rintro X rfl rfl rfl hc i pins s σ H E I hf ⟨⟨old, he⟩, hit, hne, hea, hia⟩ ⟨xs, x, hq, hx⟩
    obtain ⟨its, rv, p, hz⟩ := I.tuple hq
    obtain ⟨u, hu, ru⟩ := rv.get hx
    have hel : e < s.heap.objs.size := Heap.lt_size he
    have hil : it < s.heap.objs.size := by obtain ⟨_, q, _⟩ := hit; exact Heap.lt_size q
    have hlt : i < its.toArray.size := by
      rw [List.size_toArray]; exact (List.getElem?_eq_some_iff.mp hu).1
    have Dr := Draws.tuple (prog := X.prog) (w := X.w) (A := X.A.in1) (I.ok.hd hc) it a (Ne.symm hia) its.toArray
    refine wpAny_pyNext_enum_itemD Dr he ⟨hit, p⟩ hlt hne (by simp [hne, hea]) fun y h' tk hy ho hst' hT hsz hk => ?_
    have hyu : y = u := by
      have h1 : its.toArray[i]? = some y := hy
      have h2 : its.toArray[i]? = some u := by simpa using hu
      rw [h1] at h2; exact Option.some.inj h2
    subst hyu
    refine ⟨_, rfl, wpAny_letOwnedTupleGo_enum (s := { s with heap := h', toks := tk + 1 }) ho fun h'' he' sb => ?_⟩
    have hT2 := (sb.2 _ (Nat.ne_of_gt hel)).trans hT
    have new : ObjOk X.prog X.w (upd H s.heap.objs.size (.tup [.int (i : Nat), x])) h'' s.heap.objs.size (.tup [.int (i : Nat), x]) :=
      ⟨by show 2 ≤ sizeLine; decide, [.int i tk, y], .cons ⟨_, rfl⟩ (.cons ru .nil), ⟨_, hT2, rfl, _, rfl⟩⟩
    have I1 : Inv X pins σ (upd H s.heap.objs.size (.tup [.int (i : Nat), x])) { s with heap := h'', toks := tk + 1 } :=
      I.turnedNew (ch := [e, it]) (fun b ob hb q => (sb.2 b (fun z => hb (by simp [z]))).trans (hk b ob (fun z => hb (by simp [z])) (fun z => hb (by simp [z])) q)) hf (Nat.le_refl _) new
    refine ⟨.ref s.heap.objs.size, _, I1, rfl, ⟨_, x, rfl, I.hok.fresh (Nat.le_refl _), rfl, fun ys hy => by rw [I.tuple_inj hy hq]; exact hx⟩, ⟨⟨y, ?_⟩, hst'.1.at fun o q => (sb.2 it (Ne.symm hne)).trans q, hne, hea, hia⟩, fun b hb => ?_⟩
    · rw [show ((i + 1 : Nat) : Int) = (i : Int) + 1 by omega]; exact he'
    · have hb' : b < s.heap.objs.size := by
        rcases (by simpa using hb : b = e ∨ b = it) with rfl | rfl
        · exact hel
        · exact hil
      rw [upd_ne (Nat.ne_of_lt hb')]
      exact (hf b hb).1
  done := by
    rintro X rfl rfl rfl hc i pins s σ H E I hf ⟨⟨old, he⟩, hit, hne, hea, hia⟩ ⟨xs, hq, hx⟩
    obtain ⟨its, rv, p, hz⟩ := I.tuple hq
    obtain ⟨f0, f1, f2, f3, f4, f5⟩ := hf it (by simp)
    have Dr := Draws.tuple (prog := X.prog) (w := X.w) (A := X.A.in1) (I.ok.hd hc) it a (Ne.symm hia) its.toArray
    have hi : i = its.toArray.size := by rw [List.size_toArray, ← rv.length]; exact hx.symm
    have hst : s.heap.IsTupleIter it a its.toArray.size ∧ s.heap.IsTuple a its.toArray := ⟨hi ▸ hit, p⟩
    exact wpAny_pyNext_enum_endD Dr he hst fun h' eb => ⟨rfl, I.turned (t' := s.toks) (fun b o hb q => eb b o hb q) f0 f1 f3 f4 f5⟩
  self := fun A i s Q E ⟨⟨_, he⟩, _⟩ h => wpAny_pyIter_enum he h
def iEnumerateX (K : PySem.W.Frag) (ta : TA) : TI := fun σ H R => ta σ H fun vs H1 => ∃ a xs, vs = [.ref a] ∧ ((SqL K H1 a xs ∧ R (Ite K a) H1) ∨ (SqT K H1 a xs ∧ R (IteT K a) H1))
theorem pi_enumerateX {p pos tpos : Pos} {elts : List Expr} {kk : Nat} (hg : Gl X "enumerate") (hm : X.mg "enumerate" = none) (ha : PA X [e] ta) (hs : starEach [e] X.env = [(false, eval e X.env)] := by rfl) :
    PI X (.Tuple elts kk tpos) (.Call (.Name "enumerate" p) [e] [] pos) (iEnumerateX X.K ta) := by
  constructor
  intro pins s σ H R I h
  refine Call_ (ld_blt I hg hm boot_enumerate (PyProof.Rows.callWith_type1 (thn (ha.run pos pins s σ H _ I h) fun us s1 ⟨vs, H1, I1, r1, a, xs, ex, q1⟩ => ?_) hs rfl))
  subst ex
  obtain ⟨u, rfl, ru⟩ := vals1 r1
  obtain rfl : u = .ref a := ru
  have fp : ∀ b ∈ [s1.heap.objs.size + 1, s1.heap.objs.size], FpOk X pins H1 b := fun b hb => by
    have hle : s1.heap.objs.size ≤ b := by
      rcases (by simpa using hb : b = s1.heap.objs.size + 1 ∨ b = s1.heap.objs.size) with z | z <;> rw [z] <;> omega
    exact I1.fpOk hle (I1.hok.fresh hle)
  rcases q1 with ⟨hq, q⟩ | ⟨hq, q⟩
  · obtain ⟨its, rv, p', hz⟩ := I1.list hq
    refine call_enumerate_list p'.isList fun h' he hit hsz hk => wpAny_pyIter_enum he ?_
    exact ⟨_, _, _, _, H1, rfl, I1.kept (t' := s1.toks) hk, turn_enum a _ _, ⟨⟨.none, he⟩, hit, Nat.succ_ne_self _⟩, fp, q⟩
  · obtain ⟨its, rv, p', hz⟩ := I1.tuple hq
    have hlt : a < s1.heap.objs.size := p'.lt
    refine call_enumT p' fun h' he hit hk => wpAny_pyIter_enum he ?_
    exact ⟨_, _, _, _, H1, rfl, I1.kept (t' := s1.toks) hk, turn_enumT a _ _, ⟨⟨.none, he⟩, hit, Nat.succ_ne_self _, Nat.ne_of_gt (Nat.lt_succ_of_lt hlt), Nat.ne_of_gt hlt⟩, fp, q⟩

/-! ### texts times ints, powers -/
def rMulS : R2 := fun x y H Q => ∃ z n, x = .str z ∧ y = .int n ∧ 1 < n ∧ 0 < z.length ∧ z.length * n.toNat ≤ sizeLine ∧ Q (.str (Txt.mul z n)) H
theorem o_mulS : OpR X (binaryOp .Mult) rMulS := by
  intro pins s σ H x y v u Q I rx ry ⟨z, n, ex, ey, hn, hz, hl, q⟩
  subst ex ey
  obtain ⟨t, rfl⟩ := rx
  obtain ⟨t2, rfl⟩ := ry
  have hs : sizeLine = 16777216 := sizeLine_eq
  have hn2 : n.toNat ≤ 16777216 := by
    have : 1 * n.toNat ≤ z.length * n.toNat := Nat.mul_le_mul_right _ hz
    omega
  refine SB.mul ⟨?_, fun _ _ => ?_, fun _ _ => ?_⟩ fun t' k => ⟨.str (Txt.mul z n), H, I.kept (t' := k) (fun _ _ q => q), ⟨t', rfl⟩, q⟩
  · have a1 : ¬ n < -(2 ^ 63 : Int) := by omega
    have a2 : ¬ n ≥ 2 ^ 63 := by omega
    rw [decide_eq_false a1, decide_eq_false a2]; rfl
  · intro hc
    have h1 : ((2 : Int) ^ 63 - 1) / n * n ≤ 2 ^ 63 - 1 := Int.ediv_mul_le _ (by omega)
    have h3 : ((z.length * n.toNat : Nat) : Int) = (z.length : Int) * n := by rw [Int.natCast_mul, Int.toNat_of_nonneg (by omega)]
    have h4 : ((2 : Int) ^ 63 - 1) / n + 1 ≤ (z.length : Int) := by omega
    have h5 : (((2 : Int) ^ 63 - 1) / n + 1) * n ≤ (z.length : Int) * n := Int.mul_le_mul_of_nonneg_right h4 (by omega)
    have h6 : (2 : Int) ^ 63 - 1 < (((2 : Int) ^ 63 - 1) / n + 1) * n := by
      have := Int.lt_ediv_add_one_mul_self ((2 : Int) ^ 63 - 1) (show (0 : Int) < n by omega)
      simpa using this
    omega
  · exact decide_eq_false (by omega)
def CPowX (i j : Int) : Prop := 0 ≤ j ∧ (Builtin.Int.intBits i : Int) * j ≤ 2 ^ 27
theorem o_powX : OpR X (binaryOp .Pow) (rI CPowX fun i j => .int (i ^ j.toNat)) := by
  intro pins s σ H x y v u Q I rx ry ⟨i, j, ex, ey, hc, q⟩
  subst ex ey
  obtain ⟨t, rfl⟩ := rx
  obtain ⟨t2, rfl⟩ := ry
  exact pow_int hc.1 hc.2 ⟨.int _, H, I.tok _, ⟨_, rfl⟩, q⟩

/-! ### list(a text) -/
def r_listS : List V → Hp → VK → Prop := fun xs H Q => ∃ z : Str, xs = [.str z] ∧ z.length ≤ sizeLine ∧ ∀ p, H p = none → Q (.ref p) (upd H p (.lst (z.cps.toList.map fun c => V.str ⟨#[c]⟩)))
theorem vals_point : ∀ {vs : List V} {us : List Value}, vs.length = us.length → (∀ (j : Nat) v u, vs[j]? = some v → us[j]? = some u → RelV v u) → Vals vs us
  | [], [], _, _ => .nil
  | [], _ :: _, h, _ => by simp at h
  | _ :: _, [], h, _ => by simp at h
  | v :: vs, u :: us, h, q => .cons (q 0 v u rfl rfl) (vals_point (by simpa using h) fun j a b e1 e2 => q (j + 1) a b (by simpa using e1) (by simpa using e2))
theorem signs_vals {z : Str} {acc : Array Value} (h : ItemsOf (SignAt z) acc z.cps.size) : Vals (z.cps.toList.map fun c => V.str ⟨#[c]⟩) acc.toList := by
  refine vals_point (by simp [h.1]) fun j v u h1 h2 => ?_
  obtain ⟨c, t, hc, rfl⟩ := h.2 j u (by simpa using h2)
  rw [List.getElem?_map] at h1
  have : z.cps.toList[j]? = some c := by simpa using hc
  rw [this] at h1
  cases h1
  exact ⟨t, rfl⟩
theorem c_listS (hc : X.calm = true) : CallR X (.type "list") r_listS := by
  intro pins s σ H xs us Q I rs ⟨z, ex, hz, q⟩
  subst ex
  obtain ⟨u, rfl, ru⟩ := vals1 rs
  obtain ⟨t, rfl⟩ := ru
  refine call_list_str (I.ok.hd hc) z t (fun h' tk acc' c' hk hS hacc => ?_) hz
  have vl := signs_vals hacc
  have ok : ObjOk X.prog X.w (upd H s.heap.objs.size (.lst (z.cps.toList.map fun c => V.str ⟨#[c]⟩))) h' s.heap.objs.size (.lst (z.cps.toList.map fun c => V.str ⟨#[c]⟩)) := ⟨by simp only [List.length_map, Array.length_toList]; exact hz, acc'.toList, c', vl, by simpa using hS⟩
  exact ⟨.ref s.heap.objs.size, _, I.laid (t' := tk) hk (Nat.le_refl _) ok, rfl, q _ I.fresh⟩
end
end DL
/-! DLR: x[::-1] of a list, a tuple, a text -/
namespace DL
open PySem PySem.Spec L2 PyProof.Rows
section
variable {prog : Program} {w : World} {A : Around} {E : Value → Shared → Prop} {s : Shared}
theorem slice_rev {sl : Addr} {vs : Value} {n : Nat} {Q : Int × Int × Nat → Shared → Prop} (hs : s.heap.IsSliceOf sl .none .none vs) (ps : IsPart vs (some (-1))) (h : Q ((n : Int) - 1, -1, n) s) :
    wpAny (model prog w) A (Builtin.Slice.sliceApplied (.ref sl) (pure (n : Int))) Q E s := by
  obtain ⟨os, hos, hcs, hds⟩ := id hs
  unfold Builtin.Slice.sliceApplied Builtin.Slice.sliceFields
  refine wpAny_bind (wpAny_bind (wpAny_field hos hds (x := .none) rfl (wpAny_bind (wpAny_field hos hds (x := .none) rfl (wpAny_bind (wpAny_field hos hds (x := vs) rfl (wpAny_pure ?_)))))))
  refine wpAny_bind (HT.slicePart_ ps ?_)
  show wpAny _ _ (if ((-1 : Int) == 0) = true then _ else _) _ _ s
  rw [if_neg (by decide)]
  refine wpAny_bind (HT.slicePart_ .none (wpAny_bind (HT.slicePart_ .none (wpAny_bind (wpAny_pure ?_)))))
  show wpAny _ _ (match Builtin.Slice.sliceAdjust none none (-1) (n : Int) with | (lo, hi) => pure (lo, (-1 : Int), Builtin.Slice.slicePlaces lo hi (-1))) _ _ s
  have e1 : Builtin.Slice.sliceAdjust none none (-1) (n : Int) = ((n : Int) - 1, -1) := by
    unfold Builtin.Slice.sliceAdjust
    simp
  rw [e1]
  show wpAny _ _ (pure ((n : Int) - 1, (-1 : Int), Builtin.Slice.slicePlaces ((n : Int) - 1) (-1) (-1))) _ _ s
  have e2 : Builtin.Slice.slicePlaces ((n : Int) - 1) (-1) (-1) = n := by
    unfold Builtin.Slice.slicePlaces
    simp
    omega
  rw [e2]
  exact wpAny_pure h
theorem pick_rev (xs : Array Value) : ((List.range xs.size).filterMap fun (m : Nat) => xs[((xs.size : Int) - 1 + (m : Int) * -1).toNat]?).toArray = xs.toList.reverse.toArray := by
  have e : (fun (m : Nat) => xs[((xs.size : Int) - 1 + (m : Int) * -1).toNat]?) = (fun k => xs[k]?) ∘ fun k => xs.size - 1 - k := by
    funext m
    show _ = xs[xs.size - 1 - m]?
    rw [show ((xs.size : Int) - 1 + (m : Int) * -1).toNat = xs.size - 1 - m by omega]
  rw [e, ← List.filterMap_map, PySem.W.krv_range, List.filterMap_reverse, PySem.W.krv_all]
theorem getItem_tuple_rev {t sl : Addr} {items : Array Value} {vs : Value} {Q : Value → Shared → Prop} (ht : IsTup s.heap t items) (hs : s.heap.IsSliceOf sl .none .none vs) (ps : IsPart vs (some (-1))) (hne : items.size ≠ 0)
    (h : Q (.ref s.heap.objs.size) { s with heap := s.heap.push { cls := .type "tuple", data := .seq items.toList.reverse.toArray } }) (hsz : items.size ≤ sizeLine) : wpAny (model prog w) A (getItem (.ref t) (.ref sl)) Q E s := by
  have hok : sizeOk (.seq items.toList.reverse.toArray) := by
    show items.toList.reverse.toArray.size ≤ sizeLine
    simpa using hsz
  obtain ⟨os, hos, hcs, hds⟩ := id hs
  have hTs : s.TypeIs (.ref sl) "slice" := ⟨os, hos, hcs⟩
  unfold getItem
  try with_reducible refine wpAny_holding ?_
  first | refine wpAny_bind (wpAny_pure ?_) | skip
  refine wpAny_bind (wpAny_sequenceKey ht.typeIs (by decide) ?_)
  refine wpAny_bind (wpAny_callSpecial?_slot (name := Str.ofString "__getitem__") ht.typeIs PyProof.Rows.slot_tuple_getitem
    (wpAny_call_entry PyProof.Rows.slot_tuple_getitem ht.typeIs entry_tuple_getitem ?_ (args_tuple_getitem _ _)))
  show wpAny _ _ (Builtin.Tuple.tupleItemsOf (.ref t) >>= _) _ _ s
  refine wpAny_bind (tupleItemsOf_ ht ?_)
  refine wpAny_bind (wpAny_typeOf hTs ?_)
  rw [if_pos (by decide)]
  refine wpAny_bind (slice_rev hs ps ?_)
  show wpAny _ _ (if (((items.size : Int) - 1) == 0 && (-1 : Int) == 1 && items.size == items.size) = true then _ else _) _ _ s
  rw [if_neg (by simp), pick_rev]
  first
    | exact wpAny_bind (m := Builtin.Tuple.tupleExact _) (wpAny_newObj_type (wpAny_pure ⟨_, rfl, wpAny_pure h⟩) hok)
    | exact wpAny_bind (m := Builtin.Tuple.tupleExact _) (wpAny_newObj_type (wpAny_bind (wpAny_pure (wpAny_pure ⟨_, rfl, wpAny_pure h⟩))) hok)
    | exact wpAny_bind (wpAny_bind (m := Builtin.Tuple.tupleExact _) (wpAny_newObj_type (wpAny_pure (wpAny_pure ⟨_, rfl, wpAny_pure h⟩)) hok))
    | exact wpAny_bind (wpAny_bind (m := Builtin.Tuple.tupleExact _) (wpAny_newObj_type (wpAny_pure ⟨_, rfl, wpAny_pure h⟩) hok))
end
section
variable {X : Cx} {e : Expr} {te : TE}
def tRevX (K : PySem.W.Frag) (te : TE) : TE := fun σ H Q => te σ H fun x H1 =>
  (∃ a xs, x = .ref a ∧ SqL K H1 a xs ∧ ∀ p, H1 p = none → Q (.ref p) (upd H1 p (.lst xs.reverse))) ∨
  (∃ a xs, x = .ref a ∧ SqT K H1 a xs ∧ xs ≠ [] ∧ ∀ p, H1 p = none → Q (.ref p) (upd H1 p (.tup xs.reverse))) ∨
  ∃ z : Str, x = .str z ∧ z.length ≤ sizeLine ∧ Q (.str ⟨z.cps.reverse⟩) H1
theorem slice_str_rev (z : Str) (u : Tok) : Txt.sliceBy z none none (-1, u) = ⟨z.cps.reverse⟩ := by
  unfold Txt.sliceBy
  rw [if_neg (by simp)]
  unfold slicePicked Builtin.Str.strSliceIndices
  have e : sliceRange ((z.length : Int) - 1) (-1) (-1) = (List.range z.length).map fun k => z.length - 1 - k := PySem.W.krv_sliceRange _
  show (⟨((sliceRange ((z.length : Int) - 1) (-1) (-1)).filterMap (z.cps[·]?)).toArray⟩ : Str) = _
  rw [e, PySem.W.krv_range, List.filterMap_reverse]
  have e2 : (List.range z.length).filterMap (z.cps[·]?) = z.cps.toList := PySem.W.krv_all z.cps
  rw [e2]
  congr 1
  apply Array.ext'
  simp
theorem pe_revX {k : Nat} {p1 p2 p3 pos : Pos} (he : PE X e te) : PE X (.Subscript e (.Slice none none (some (.UnaryOp .USub (.Constant (.int 1) k p1) p2)) p3) pos) (tRevX X.K te) := by
  constructor
  intro pins s σ H Q I h
  refine Subscript_ (thn (he.run pins s σ H _ I h) fun v s1 ⟨x, H1, I1, r1, q1⟩ => ?_)
  have stp : PO X (some (.UnaryOp .USub (.Constant (.int 1) k p1) p2)) (tPart (tUn (rU fun i => .int (-i)) (tC (.int 1)))) := po_some (pe_un un_neg pe_int)
  refine wpAny_Slice (thn (po_none.run pins s1 σ H1 (fun o H2 => o = none ∧ H2 = H1) I1 ⟨rfl, rfl⟩) fun vl s2 ⟨l, H2, I2, pl, el, e2⟩ => ?_)
  subst el e2
  refine thn (po_none.run pins s2 σ H2 (fun o H3 => o = none ∧ H3 = H2) I2 ⟨rfl, rfl⟩) fun vu s3 ⟨u, H3, I3, pu, eu, e3⟩ => ?_
  subst eu e3
  refine thn (stp.run pins s3 σ H3 (fun o H4 => o = some (-1) ∧ H4 = H3) I3 ⟨1, rfl, -1, rfl, rfl, rfl⟩) fun vs s4 ⟨o, H4, I4, ps, eo, e4⟩ => ?_
  subst eo e4
  have I5 : Inv X pins σ H4 { s4 with heap := s4.heap.push { cls := .type "slice", data := .fields #[vl, vu, vs] } } := I4.kept (t' := s4.toks) fun b ob q => Heap.get?_push_of_some _ q
  cases pl
  cases pu
  rcases q1 with ⟨a, xs, rfl, hx, q⟩ | ⟨a, xs, rfl, hx, hne, q⟩ | ⟨z, rfl, hz, q⟩
  · obtain rfl : v = .ref a := r1
    obtain ⟨its, r, ht, hz⟩ := I5.list hx
    have hlen := r.length
    refine tail_any (ops := [.ref a, .ref s4.heap.objs.size]) ht.isList.typeIs (PySem.slot_list_getitem.lookup) ?_ (by with_unfolding_all rfl)
    refine wpAny_getItem_list_slice ht.isList (Heap.IsSliceOf.new _ .none .none vs) .none .none ps (by decide) ?_ (by rw [List.size_toArray]; omega)
    rw [PySem.W.krv_pick]
    exact ⟨.ref _, _, I5.laid (t' := s4.toks) (o := .lst xs.reverse) (fun b ob q => Heap.get?_push_of_some _ q) (Nat.le_refl _) ⟨by rw [List.length_reverse]; exact hz, _, 0, r.reverse, Heap.get?_push_size _ rfl⟩, rfl, q _ (I5.hok.fresh (Nat.le_refl _))⟩
  · obtain rfl : v = .ref a := r1
    obtain ⟨its, r, ht, hz⟩ := I5.tuple hx
    have hlen := r.length
    have hn0 : its.toArray.size ≠ 0 := by
      rw [List.size_toArray, ← hlen]
      intro z; exact hne (List.eq_nil_of_length_eq_zero z)
    refine tail_any (ops := [.ref a, .ref s4.heap.objs.size]) ht.typeIs (PyProof.Rows.slot_tuple_getitem.lookup) ?_ (by with_unfolding_all rfl)
    refine getItem_tuple_rev ht (Heap.IsSliceOf.new _ .none .none vs) ps hn0 ?_ (by rw [List.size_toArray]; omega)
    exact ⟨.ref _, _, I5.laid (t' := s4.toks) (o := .tup xs.reverse) (fun b ob q => Heap.get?_push_of_some _ q) (Nat.le_refl _) ⟨by rw [List.length_reverse]; exact hz, _, r.reverse, ⟨_, Heap.get?_push_size _ rfl, rfl, _, rfl⟩⟩, rfl, q _ (I5.hok.fresh (Nat.le_refl _))⟩
  · obtain ⟨t, rfl⟩ := r1
    obtain ⟨uk, rfl⟩ : ∃ uk, vs = .int (-1) uk := by cases ps; exact ⟨_, rfl⟩
    refine tail_any (ops := [.ref s4.heap.objs.size, .str z t]) (typeIs_str _ _ _) (F.slot_str_getitem.lookup) ?_ (by with_unfolding_all rfl)
    refine wpAny_getItem_str_slice (l := none) (u := none) (st := some (-1, uk)) ⟨_, Heap.get?_push_size _ rfl, rfl, rfl⟩ rfl (post_val_or_str ⟨Nat.le_trans (Txt.sliceBy_le z _ _ (-1, uk) (show (-1 : Int) ≠ 0 by decide)) hz, fun t' c => ?_⟩)
    show EP X pins σ Q (.str (Txt.sliceBy z none none (-1, uk)) t') _
    rw [slice_str_rev]
    exact ⟨.str _, _, I5.tok _, ⟨_, rfl⟩, q⟩
end
end DL
/-! DLS: repr of data -/
namespace DL
open PySem PySem.Spec L2 PyProof.Rows
section
variable {X : Cx}
def r_repr (K : PySem.W.Frag) : List V → Hp → VK → Prop := fun xs H Q => ∃ x d, xs = [x] ∧ Dp K H x d ∧ d.showable = true ∧ d.hasDict = false ∧ d.depth ≤ 60 ∧ d.shown.length ≤ sizeLine ∧ Q (.str d.shown) H
theorem c_repr (hu : X.A.units + 64 < cLine) (hgd : X.A.guards = some []) : CallR X (.builtin "repr") (r_repr X.K) := by
  intro pins s σ H xs us Q I rs ⟨x, d, ex, hd, h1, h2, h3, h4, q⟩
  subst ex
  obtain ⟨u, rfl, ru⟩ := vals1 rs
  cases hd with
  | non =>
    obtain rfl : u = .none := ru
    exact PySem.P.repr_of_none ⟨.str _, H, I.tok _, ⟨_, rfl⟩, q⟩
  | bl b =>
    obtain rfl : u = .bool b := ru
    exact PySem.P.repr_of_bool ⟨.str _, H, I.tok _, ⟨_, rfl⟩, q⟩
  | int i =>
    obtain ⟨t, rfl⟩ := ru
    exact PySem.P.repr_of_int (of_decide_eq_true h1) ⟨.str _, H, I.tok _, ⟨_, rfl⟩, q⟩
  | str z =>
    obtain ⟨t, rfl⟩ := ru
    exact PySem.P.repr_of_str ⟨.str _, H, I.tok _, ⟨_, rfl⟩, q⟩ h4
  | lst hs ha =>
    rename_i a vs ds
    obtain rfl : u = .ref a := ru
    obtain ⟨as, r⟩ := Dp.reads I (.list ds) (.ref a) (.ref a) (.lst hs ha) rfl
    exact repr_of_reads' r h1 (fun z => by rw [h2] at z; cases z) hgd (by omega) (fun _ _ z => z) (fun h' t k hk => ⟨.str _, H, I.kept (t' := k) hk, ⟨_, rfl⟩, q⟩) h4
  | tup hs ha =>
    rename_i a vs ds
    obtain rfl : u = .ref a := ru
    obtain ⟨as, r⟩ := Dp.reads I (.tuple ds) (.ref a) (.ref a) (.tup hs ha) rfl
    exact repr_of_reads' r h1 (fun z => by rw [h2] at z; cases z) hgd (by omega) (fun _ _ z => z) (fun h' t k hk => ⟨.str _, H, I.kept (t' := k) hk, ⟨_, rfl⟩, q⟩) h4
end
end DL
/-! DLY: max, min, sum of a tuple of ints -/
namespace DL
open PySem PySem.Spec L2 PyProof.Rows
section
variable {X : Cx}
def rMaxT (K : PySem.W.Frag) : List V → Hp → VK → Prop := fun vs H Q => ∃ (a : Addr) (ns : List Int), vs = [V.ref a] ∧ SqT K H a (ns.map V.int) ∧ 0 < ns.length ∧ ∀ m, m ∈ ns → (∀ y, y ∈ ns → y ≤ m) → Q (.int m) H
def rMinT (K : PySem.W.Frag) : List V → Hp → VK → Prop := fun vs H Q => ∃ (a : Addr) (ns : List Int), vs = [V.ref a] ∧ SqT K H a (ns.map V.int) ∧ 0 < ns.length ∧ ∀ m, m ∈ ns → (∀ y, y ∈ ns → m ≤ y) → Q (.int m) H
def rSumT (K : PySem.W.Frag) : List V → Hp → VK → Prop := fun vs H Q => ∃ (a : Addr) (ns : List Int), vs = [V.ref a] ∧ SqT K H a (ns.map V.int) ∧ Q (.int ns.sum) H
section
variable {prog : Program} {w : World} {A : Around} {E : Value → Shared → Prop} {s : Shared} {t : Addr}
theorem tup_st {items : Array Value} {f : Int → Tok → Nat → Prop} (ht : s.heap.IsTuple t items) :
    (({ s with heap := s.heap.push { cls := .type "tuple_iterator", data := .fields #[.ref t, .int 0 0] } } : Shared).heap.IsTupleIter s.heap.objs.size t 0 ∧ ({ s with heap := s.heap.push { cls := .type "tuple_iterator", data := .fields #[.ref t, .int 0 0] } } : Shared).heap.IsTuple t items) ∧
    ∀ b ∈ [s.heap.objs.size, t], b < ({ s with heap := s.heap.push { cls := .type "tuple_iterator", data := .fields #[.ref t, .int 0 0] } } : Shared).heap.objs.size := by
  obtain ⟨o, ho, hc, n, hd⟩ := id ht
  refine ⟨⟨⟨_, Heap.get?_push_size _ rfl, rfl, rfl⟩, ht.at fun o e => Heap.get?_push_of_some _ e⟩, fun b hb => ?_⟩
  rcases List.mem_cons.mp hb with rfl | hb
  · exact Heap.lt_size (Heap.get?_push_size _ rfl)
  · obtain rfl := List.mem_singleton.mp hb
    exact Heap.lt_size (Heap.get?_push_of_some _ ho)
theorem max_tup {xs : Array (Int × Tok)} {Q : Value → Shared → Prop} (hh : A.handled = none) (ht : s.heap.IsTuple t (intItems xs)) (hne : 0 < xs.size)
    (h : ∀ v h' tk, (intItems xs)[argBest (fun i j => decide (numAt xs i > numAt xs j)) (xs.size - 1)]? = some v → (∀ b o, s.heap.get? b = some o → h'.get? b = some o) → Q v { s with heap := h', toks := tk }) :
    wpAny (model prog w) A (call (.builtin "max") [.ref t]) Q E s := by
  obtain ⟨o, ho, hc, n, hd⟩ := id ht
  have hn : t ≠ s.heap.objs.size := Nat.ne_of_lt (Heap.lt_size ho)
  obtain ⟨st, fp⟩ := tup_st (f := fun _ _ _ => True) ht
  refine call_max_walk (wpAny_pyIter_tuple ht ?_)
  refine ⟨_, _, _, _, _, _, _, rfl, Walks.tuple (A := A.in1) hh _ t hn (intItems xs), st, fp, by simpa [intItems] using hne, CmpOf.ints_gt (numAt xs) (fun _ _ => intItems_at), fun v h' tk hP hk => ?_⟩
  exact h v h' tk (by simpa [intItems] using hP) fun b o e => hk b o (fun hb => absurd (Heap.lt_size e) ((List.mem_singleton.mp hb) ▸ Nat.lt_irrefl _)) (Heap.get?_push_of_some _ e)
theorem min_tup {xs : Array (Int × Tok)} {Q : Value → Shared → Prop} (hh : A.handled = none) (ht : s.heap.IsTuple t (intItems xs)) (hne : 0 < xs.size)
    (h : ∀ v h' tk, (intItems xs)[argBest (fun i j => decide (numAt xs i < numAt xs j)) (xs.size - 1)]? = some v → (∀ b o, s.heap.get? b = some o → h'.get? b = some o) → Q v { s with heap := h', toks := tk }) :
    wpAny (model prog w) A (call (.builtin "min") [.ref t]) Q E s := by
  obtain ⟨o, ho, hc, n, hd⟩ := id ht
  have hn : t ≠ s.heap.objs.size := Nat.ne_of_lt (Heap.lt_size ho)
  obtain ⟨st, fp⟩ := tup_st (f := fun _ _ _ => True) ht
  refine call_min_walk (wpAny_pyIter_tuple ht ?_)
  refine ⟨_, _, _, _, _, _, _, rfl, Walks.tuple (A := A.in1) hh _ t hn (intItems xs), st, fp, by simpa [intItems] using hne, CmpOf.ints_lt (numAt xs) (fun _ _ => intItems_at), fun v h' tk hP hk => ?_⟩
  exact h v h' tk (by simpa [intItems] using hP) fun b o e => hk b o (fun hb => absurd (Heap.lt_size e) ((List.mem_singleton.mp hb) ▸ Nat.lt_irrefl _)) (Heap.get?_push_of_some _ e)
end
theorem c_maxT (hc : X.calm = true) : CallR X (.builtin "max") (rMaxT X.K) := by
  intro pins s σ H vs us Q I r h
  obtain ⟨a, ns, rfl, hs, hne, q⟩ := h
  obtain ⟨its, rv, hl, _⟩ := I.tuple hs
  rw [Vals.ref1 r]
  have hi := rv.ints
  obtain ⟨xs, e⟩ := hi.allInts.items
  have hn : numsOf (intItems xs).toList = ns := by rw [← e]; exact hi.numsOf
  rw [nums_intItems] at hn
  subst hn
  rw [e] at hl
  have hsz : 0 < xs.size := by simpa using hne
  refine max_tup (I.ok.hd hc) hl hsz fun v h' tk hv hk => ?_
  obtain ⟨t, rfl⟩ := intItems_at hv
  obtain ⟨h1, h2⟩ := argBest_gt (numAt xs) (xs.size - 1)
  refine ⟨.int _, H, I.kept hk, ⟨_, rfl⟩, q _ ?_ fun a ha => ?_⟩
  · rw [numAt_eq]; exact PySem.getD_mem (by rw [List.length_map, Array.length_toList]; omega)
  · obtain ⟨j, hj, rfl⟩ := mem_getD ha
    rw [List.length_map, Array.length_toList] at hj
    rw [← numAt_eq]; exact h2 j (by omega)
theorem c_minT (hc : X.calm = true) : CallR X (.builtin "min") (rMinT X.K) := by
  intro pins s σ H vs us Q I r h
  obtain ⟨a, ns, rfl, hs, hne, q⟩ := h
  obtain ⟨its, rv, hl, _⟩ := I.tuple hs
  rw [Vals.ref1 r]
  have hi := rv.ints
  obtain ⟨xs, e⟩ := hi.allInts.items
  have hn : numsOf (intItems xs).toList = ns := by rw [← e]; exact hi.numsOf
  rw [nums_intItems] at hn
  subst hn
  rw [e] at hl
  have hsz : 0 < xs.size := by simpa using hne
  refine min_tup (I.ok.hd hc) hl hsz fun v h' tk hv hk => ?_
  obtain ⟨t, rfl⟩ := intItems_at hv
  obtain ⟨h1, h2⟩ := argBest_lt (numAt xs) (xs.size - 1)
  refine ⟨.int _, H, I.kept hk, ⟨_, rfl⟩, q _ ?_ fun a ha => ?_⟩
  · rw [numAt_eq]; exact PySem.getD_mem (by rw [List.length_map, Array.length_toList]; omega)
  · obtain ⟨j, hj, rfl⟩ := mem_getD ha
    rw [List.length_map, Array.length_toList] at hj
    rw [← numAt_eq]; exact h2 j (by omega)
theorem c_sumT (hc : X.calm = true) : CallR X (.builtin "sum") (rSumT X.K) := by
  intro pins s σ H vs us Q I r h
  obtain ⟨a, ns, rfl, hs, q⟩ := h
  obtain ⟨its, rv, hl, _⟩ := I.tuple hs
  rw [Vals.ref1 r]
  have hi := rv.ints
  obtain ⟨xs, e⟩ := hi.allInts.items
  have hn : numsOf (intItems xs).toList = ns := by rw [← e]; exact hi.numsOf
  rw [nums_intItems] at hn
  rw [e] at hl
  refine PySem.W.ktm_sumG (I.ok.hd hc) hl fun h' tk t' hk => ?_
  rw [preSum_eq, List.take_of_length_le (by simp), hn]
  exact ⟨.int _, H, I.kept hk, ⟨_, rfl⟩, q⟩
end
end DL
/-! DL4: the operations by name (oa.., ca.., ma..: derivations; ra.., rc.., rm..: readings) and what they do on data -/
namespace DL
open PySem PySem.Spec L2 PyProof.Rows
/-! ### names of the readings -/
def raAdd (K : PySem.W.Frag) : R2 := rOr (rI0 fun i j => .int (i + j)) (rOr rAddS (rOr (rCatA K) rCat))
def raSub (K : PySem.W.Frag) : R2 := rI0 fun i j => .int (i - j)
def raMul (K : PySem.W.Frag) : R2 := rOr (rI CMul fun i j => .int (i * j)) (rOr (rI CMulX fun i j => .int (i * j)) rMulS)
def raDiv (K : PySem.W.Frag) : R2 := rI CDivN fun i j => .int (i.fdiv j)
def raMod (K : PySem.W.Frag) : R2 := rI (fun _ j => j ≠ 0) fun i j => .int (i.fmod j)
def raPow (K : PySem.W.Frag) : R2 := rOr (rI CPow fun i j => .int (i ^ j.toNat)) (rI CPowX fun i j => .int (i ^ j.toNat))
def raNeg : V → Hp → VK → Prop := rU fun i => .int (-i)
def raEq (K : PySem.W.Frag) : R2 := rOr (rEqD K) rEq
def raNe (K : PySem.W.Frag) : R2 := rOr (rNeD K) rNe
def raLt (K : PySem.W.Frag) : R2 := rOr (rI0 fun i j => .bl (decide (i < j))) rLtS
def raLe (K : PySem.W.Frag) : R2 := rI0 fun i j => .bl (decide (i ≤ j))
def raGt (K : PySem.W.Frag) : R2 := rI0 fun i j => .bl (decide (j < i))
def raGe (K : PySem.W.Frag) : R2 := rI0 fun i j => .bl (decide (j ≤ i))
def raIn (K : PySem.W.Frag) : R2 := rOr (rIn K false) rInS
def raNotIn (K : PySem.W.Frag) : R2 := rOr (rIn K true) rNotInS
def raSl (K : PySem.W.Frag) : RSl := rOrS (rSlA K) (rOrS (rSlL K) rSlS)
def tTru (K : PySem.W.Frag) (te : TE) : TT := fun σ H Q => te σ H fun x H' => ∃ k, TruV K x H' k ∧ Q k H'
abbrev RC := List V → Hp → VK → Prop
def rc_len (K : PySem.W.Frag) : RC := fun xs H Q => ∃ x n, xs = [x] ∧ LenV K x H n ∧ Q (.int n) H
def rc_abs (K : PySem.W.Frag) : RC := fun xs H Q => ∃ i, xs = [.int i] ∧ Q (.int (if i < 0 then -i else i)) H
def rc_all (K : PySem.W.Frag) : RC := rAll K
def rc_any (K : PySem.W.Frag) : RC := rAny K
def rc_sum (K : PySem.W.Frag) : RC := rOrC (rSum K) (rSumT K)
def rc_max1 (K : PySem.W.Frag) : RC := rOrC (rMax K) (rMaxT K)
def rc_min1 (K : PySem.W.Frag) : RC := rOrC (rMin K) (rMinT K)
def rc_max2 (K : PySem.W.Frag) : RC := fun xs H Q => ∃ i j, xs = [.int i, .int j] ∧ Q (.int (if j > i then j else i)) H
def rc_min2 (K : PySem.W.Frag) : RC := fun xs H Q => ∃ i j, xs = [.int i, .int j] ∧ Q (.int (if j < i then j else i)) H
def rc_int (K : PySem.W.Frag) : RC := fun xs H Q => (∃ i, xs = [.int i] ∧ Q (.int i) H) ∨ ∃ k, xs = [.bl k] ∧ Q (.int (if k = true then 1 else 0)) H
def rc_str (K : PySem.W.Frag) : RC := fun xs H Q => ∃ i, xs = [.int i] ∧ i.natAbs.log2 < 1920 ∧ Q (.str (Str.ofString (toString i))) H
def rc_repr (K : PySem.W.Frag) : RC := r_repr K
def rc_isinstance (K : PySem.W.Frag) : RC := rIsi K
def rc_list (K : PySem.W.Frag) : RC := rOrC (fun xs H Q => ∃ p ys, xs = [.ref p] ∧ (SqL K H p ys ∨ SqT K H p ys) ∧ ∀ l, H l = none → Q (.ref l) (upd H l (.lst ys))) r_listS
def rc_tuple (K : PySem.W.Frag) : RC := fun xs H Q => ∃ p ys, xs = [.ref p] ∧ ((SqL K H p ys ∧ ∀ l, H l = none → Q (.ref l) (upd H l (.tup ys))) ∨ (SqT K H p ys ∧ Q (.ref p) H))
def rc_sortedDict (K : PySem.W.Frag) : RC := fun xs H Q => ∃ (a : Addr) (kvs : List (Key × V)) (ks : List Str), xs = [.ref a] ∧ Rd H a (.dK kvs) ∧ kvs.map (·.1) = ks.map Sum.inr ∧ ks.length < 64 ∧
  ∀ ys p, ys.Perm ks → sortedS ys = true → H p = none → Q (.ref p) (upd H p (.lst (ys.map V.str)))
abbrev RM := V → List V → Hp → VK → Prop
def rm_list_append (K : PySem.W.Frag) : RM := rAppend
def rm_list_extend (K : PySem.W.Frag) : RM := rExtend
def rm_list_pop1 (K : PySem.W.Frag) : RM := rPopAt
def rm_str_endswith (K : PySem.W.Frag) : RM := fun x xs H Q => ∃ a b, x = .str a ∧ xs = [.str b] ∧ Q (.bl (Txt.endswith a b)) H
def rm_str_join (K : PySem.W.Frag) : RM := fun x xs H Q => ∃ a p ys, x = .str a ∧ xs = [.ref p] ∧ (SqL K H p (ys.map V.str) ∨ SqT K H p (ys.map V.str)) ∧
  (ys.map (·.length)).sum + ys.length * a.length ≤ 16777216 ∧ Q (.str (Txt.join a ys)) H
section
variable {X : Cx}
theorem oaAdd : OpR X (binaryOp .Add) (raAdd X.K) := opR_or op_add (opR_or o_addS (opR_or op_catA op_cat))
theorem oaSub : OpR X (binaryOp .Sub) (raSub X.K) := op_sub
theorem oaMul : OpR X (binaryOp .Mult) (raMul X.K) := opR_or op_mul (opR_or op_mulX o_mulS)
theorem oaDiv : OpR X (binaryOp .FloorDiv) (raDiv X.K) := op_fdivN
theorem oaMod : OpR X (binaryOp .Mod) (raMod X.K) := op_modN
theorem oaPow : OpR X (binaryOp .Pow) (raPow X.K) := opR_or op_pow o_powX
theorem oaEq (hu : X.A.units + 64 < cLine) : OpR X (compareOp .Eq) (raEq X.K) := opR_or (op_eqD hu) op_eq
theorem oaNe (hu : X.A.units + 64 < cLine) : OpR X (compareOp .NotEq) (raNe X.K) := opR_or (op_neD hu) op_ne
theorem oaLt : OpR X (compareOp .Lt) (raLt X.K) := opR_or op_lt o_ltS
theorem oaLe : OpR X (compareOp .LtE) (raLe X.K) := op_le
theorem oaGt : OpR X (compareOp .Gt) (raGt X.K) := op_gt
theorem oaGe : OpR X (compareOp .GtE) (raGe X.K) := op_ge
theorem oaIn : OpR X (compareOp .In) (raIn X.K) := opR_or op_in_seq o_inS
theorem oaNotIn : OpR X (compareOp .NotIn) (raNotIn X.K) := opR_or op_notIn_seq o_notInS
theorem oaSl : SlR X (raSl X.K) := slR_or sl_tupA (slR_or sl_list sl_str)
theorem pt_truthX {a : Expr} {ta : TE} (ha : PE X a ta) (h : ∀ whole, PySem.isTrue a X.env whole = (do let v ← whole; standAt a.pos; holding [v] (truthy v))) : PT X a (tTru X.K ta) := pt_truth ha h
theorem ca_len (_ : X.calm = true) : CallR X (.builtin "len") (rc_len X.K) := call_len
theorem ca_abs (_ : X.calm = true) : CallR X (.builtin "abs") (rc_abs X.K) := call_abs
theorem ca_all (h : X.calm = true) : CallR X (.builtin "all") (rc_all X.K) := cr_all h
theorem ca_any (h : X.calm = true) : CallR X (.builtin "any") (rc_any X.K) := cr_any h
theorem ca_sum (h : X.calm = true) : CallR X (.builtin "sum") (rc_sum X.K) := callR_or (cr_sum h) (c_sumT h)
theorem ca_max1 (h : X.calm = true) : CallR X (.builtin "max") (rc_max1 X.K) := callR_or (cr_max h) (c_maxT h)
theorem ca_min1 (h : X.calm = true) : CallR X (.builtin "min") (rc_min1 X.K) := callR_or (cr_min h) (c_minT h)
theorem ca_max2 (h : X.calm = true) : CallR X (.builtin "max") (rc_max2 X.K) := call_max2 h
theorem ca_min2 (h : X.calm = true) : CallR X (.builtin "min") (rc_min2 X.K) := call_min2 h
theorem ca_int (_ : X.calm = true) : CallR X (.type "int") (rc_int X.K) := call_int1
theorem ca_str (_ : X.calm = true) : CallR X (.type "str") (rc_str X.K) := call_str_int
theorem ca_repr (hu : X.A.units + 64 < cLine) (hgd : X.A.guards = some []) : CallR X (.builtin "repr") (rc_repr X.K) := c_repr hu hgd
theorem ca_isinstance (_ : X.calm = true) : CallR X (.builtin "isinstance") (rc_isinstance X.K) := call_isi
theorem ca_list (h : X.calm = true) : CallR X (.type "list") (rc_list X.K) := callR_or call_list_of (c_listS h)
theorem ca_tuple (_ : X.calm = true) : CallR X (.type "tuple") (rc_tuple X.K) := call_tuple_of
theorem ca_sortedDict (h : X.calm = true) : CallR X (.builtin "sorted") (rc_sortedDict X.K) := call_sortedD h
theorem ma_list_append : MtR X "list.append" (rm_list_append X.K) := mt_append
theorem ma_list_extend : MtR X "list.extend" (rm_list_extend X.K) := mt_extend
theorem ma_list_pop1 : MtR X "list.pop" (rm_list_pop1 X.K) := mt_popAt
theorem ma_str_endswith : MtR X "str.endswith" (rm_str_endswith X.K) := mt_endswith
theorem ma_str_join : MtR X "str.join" (rm_str_join X.K) := mt_join
theorem pe_globI {x : Str} {i : Int} {pos : Pos} (hg : Gl X x) (h : ∃ t, X.mg x = some (.int i t)) (hd : (x == ("__debug__" : Str)) = false := by decide) : PE X (.Name x pos) (tC (.int i)) := let ⟨t, e⟩ := h; pe_glob hg e ⟨t, rfl⟩ hd
theorem pe_globS {x z : Str} {pos : Pos} (hg : Gl X x) (h : ∃ t, X.mg x = some (.str z t)) (hd : (x == ("__debug__" : Str)) = false := by decide) : PE X (.Name x pos) (tC (.str z)) := let ⟨t, e⟩ := h; pe_glob hg e ⟨t, rfl⟩ hd
end
theorem bt_len : bootBuiltins "len" = some (.builtin "len") := by decide +kernel
theorem bt_abs : bootBuiltins "abs" = some (.builtin "abs") := by decide +kernel
theorem bt_all : bootBuiltins "all" = some (.builtin "all") := by decide +kernel
theorem bt_any : bootBuiltins "any" = some (.builtin "any") := by decide +kernel
theorem bt_sum : bootBuiltins "sum" = some (.builtin "sum") := by decide +kernel
theorem bt_max : bootBuiltins "max" = some (.builtin "max") := by decide +kernel
theorem bt_min : bootBuiltins "min" = some (.builtin "min") := by decide +kernel
theorem bt_repr : bootBuiltins "repr" = some (.builtin "repr") := by decide +kernel
theorem bt_isinstance : bootBuiltins "isinstance" = some (.builtin "isinstance") := by decide +kernel
theorem bt_sorted : bootBuiltins "sorted" = some (.builtin "sorted") := by decide +kernel
theorem bt_int : bootBuiltins "int" = some (.type "int") := by decide +kernel
theorem bt_str : bootBuiltins "str" = some (.type "str") := by decide +kernel
theorem bt_list : bootBuiltins "list" = some (.type "list") := by decide +kernel
theorem bt_tuple : bootBuiltins "tuple" = some (.type "tuple") := by decide +kernel
theorem bt_dict : bootBuiltins "dict" = some (.type "dict") := by decide +kernel
theorem bt_set : bootBuiltins "set" = some (.type "set") := by decide +kernel
theorem bt_bool : bootBuiltins "bool" = some (.type "bool") := by decide +kernel
end DL
/-! DL5: what the operations do on data -/
namespace DL
open PySem L2
section
variable {K : PySem.W.Frag} {B F F' : Hp} {Γ : Sl} {S : Sto} {σ : L2.St} {H : Hp} {P : D → Sto → Prop} {PB : Bool → Sto → Prop} {x y d : D} {te ta tb : TE}
/-! ### operators -/
theorem add_int {i j : Int} (p : P (.int (i + j)) S) : RD2 K B (raAdd K) (.int i) (.int j) S P := rd_l (rd_I0i p)
theorem add_str {i j : Str} (hl : i.length + j.length ≤ sizeLine) (p : P (.str (i ++ j)) S) : RD2 K B (raAdd K) (.str i) (.str j) S P := rd_r (rd_l (rd_addS hl p))
theorem add_tup {xs ys : List D} (hl : xs.length + ys.length ≤ sizeLine) (p : P (.tup (xs ++ ys)) S) : RD2 K B (raAdd K) (.tup xs) (.tup ys) S P := rd_r (rd_r (rd_l (rd_catT hl p)))
theorem add_lst {xs ys : List D} (h1 : LstT x S xs) (h2 : LstT y S ys) (hl : xs.length + ys.length ≤ sizeLine) (p : P (.lst (xs ++ ys)) S) : RD2 K B (raAdd K) x y S P := rd_r (rd_r (rd_r fun F Γ σ H v u R a b Q k => by
  obtain ⟨a1, vs, rfl, s1, r1⟩ := h1.at R a
  obtain ⟨a2, us, rfl, s2, r2⟩ := h2.at R b
  have l1 := r1.length
  have l2 := r2.length
  refine ⟨a1, a2, vs, us, rfl, rfl, s1, s2, by omega, fun q hq => ?_⟩
  obtain ⟨ex, R2⟩ := R.lay hq (.lst (vs ++ us))
  exact k _ _ _ _ S p (R.layS hq _) R2 (.lst upd_same ((r1.mono ex).append (r2.mono ex)))))
theorem sub_int {i j : Int} (p : P (.int (i - j)) S) : RD2 K B (raSub K) (.int i) (.int j) S P := rd_I0i p
theorem mul_intL {i j : Int} (h : -(2 ^ 64) < i ∧ i < 2 ^ 64) (p : P (.int (i * j)) S) : RD2 K B (raMul K) (.int i) (.int j) S P := rd_l (rd_Ii (.inl h) p)
theorem mul_intR {i j : Int} (h : -(2 ^ 64) < j ∧ j < 2 ^ 64) (p : P (.int (i * j)) S) : RD2 K B (raMul K) (.int i) (.int j) S P := rd_l (rd_Ii (.inr h) p)
theorem mul_intX {i j : Int} (h : CMulX i j) (p : P (.int (i * j)) S) : RD2 K B (raMul K) (.int i) (.int j) S P := rd_r (rd_l (rd_Ii h p))
theorem mul_str {z : Str} {n : Int} (h1 : 1 < n) (h2 : 0 < z.length) (h3 : z.length * n.toNat ≤ sizeLine) (p : P (.str (Txt.mul z n)) S) : RD2 K B (raMul K) (.str z) (.int n) S P := rd_r (rd_r fun F Γ σ H v u R a b Q k => by
  cases a; cases b
  exact ⟨z, n, rfl, rfl, h1, h2, h3, k _ _ H F S p (Stp.refl _ _ _) R (.str _)⟩)
theorem div_int {i j : Int} (h : j ≠ 0 ∧ j.natAbs < 1073741824) (p : P (.int (i.fdiv j)) S) : RD2 K B (raDiv K) (.int i) (.int j) S P := rd_Ii h p
theorem mod_int {i j : Int} (h : j ≠ 0) (p : P (.int (i.fmod j)) S) : RD2 K B (raMod K) (.int i) (.int j) S P := rd_Ii h p
theorem pow_int {i j : Int} (h : 0 ≤ j ∧ j ≤ 1000000 ∧ i.natAbs < 2 ^ 64) (p : P (.int (i ^ j.toNat)) S) : RD2 K B (raPow K) (.int i) (.int j) S P := rd_l (rd_Ii h p)
theorem pow_intX {i j : Int} (h : CPowX i j) (p : P (.int (i ^ j.toNat)) S) : RD2 K B (raPow K) (.int i) (.int j) S P := rd_r (rd_Ii h p)
theorem neg_int {i : Int} (p : P (.int (-i)) S) : RD1 K B raNeg (.int i) S P := rd_neg p
theorem lt_int {i j : Int} (p : P (.bl (decide (i < j))) S) : RD2 K B (raLt K) (.int i) (.int j) S P := rd_l (rd_I0b p)
theorem lt_str {i j : Str} (p : P (.bl (decide (i.cps.toList < j.cps.toList))) S) : RD2 K B (raLt K) (.str i) (.str j) S P := rd_r (rd_ltS p)
theorem le_int {i j : Int} (p : P (.bl (decide (i ≤ j))) S) : RD2 K B (raLe K) (.int i) (.int j) S P := rd_I0b p
theorem gt_int {i j : Int} (p : P (.bl (decide (j < i))) S) : RD2 K B (raGt K) (.int i) (.int j) S P := rd_I0 (fun F => .bl _) p
theorem ge_int {i j : Int} (p : P (.bl (decide (j ≤ i))) S) : RD2 K B (raGe K) (.int i) (.int j) S P := rd_I0 (fun F => .bl _) p
theorem eq_int {i j : Int} (p : P (.bl (decide (i = j))) S) : RD2 K B (raEq K) (.int i) (.int j) S P := rd_l <| rd_eqI (by rw [show (i == j) = decide (i = j) from rfl]; exact p)
theorem ne_int {i j : Int} (p : P (.bl (!decide (i = j))) S) : RD2 K B (raNe K) (.int i) (.int j) S P := rd_l <| rd_neI (by rw [show (i == j) = decide (i = j) from rfl]; exact p)
theorem eq_dat {d e : D} (h1 : EqD x S d) (h2 : EqD y S e) (p1 : d.plain = true) (p2 : e.plain = true) (s1 : SeqAt.shaped d.py = true) (s2 : SeqAt.shaped e.py = true) (p : P (.bl (PyData.eqv d.py e.py)) S) : RD2 K B (raEq K) x y S P := rd_l <| rd_eq h1 h2 p1 p2 s1 s2 p
theorem ne_dat {d e : D} (h1 : EqD x S d) (h2 : EqD y S e) (p1 : d.plain = true) (p2 : e.plain = true) (s1 : SeqAt.shaped d.py = true) (s2 : SeqAt.shaped e.py = true) (p : P (.bl (!PyData.eqv d.py e.py)) S) : RD2 K B (raNe K) x y S P := rd_l <| rd_ne h1 h2 p1 p2 s1 s2 p
theorem eq_str {i j : Str} (p : P (.bl (decide (i = j))) S) : RD2 K B (raEq K) (.str i) (.str j) S P := rd_r fun F Γ σ H v u R a b Q k => by
  cases a; cases b
  have e : decide (V.str i = V.str j) = decide (i = j) := by rw [Bool.eq_iff_iff]; simp
  exact ⟨rfl, by rw [e]; exact k _ _ H F S p (Stp.refl _ _ _) R (.bl _)⟩
theorem ne_str {i j : Str} (p : P (.bl (!decide (i = j))) S) : RD2 K B (raNe K) (.str i) (.str j) S P := rd_r fun F Γ σ H v u R a b Q k => by
  cases a; cases b
  have e : decide (V.str i = V.str j) = decide (i = j) := by rw [Bool.eq_iff_iff]; simp
  exact ⟨rfl, by rw [e]; exact k _ _ H F S p (Stp.refl _ _ _) R (.bl _)⟩
theorem in_str {i j : Str} (p : P (.bl (occurs i j)) S) : RD2 K B (raIn K) (.str i) (.str j) S P := rd_r (rd_inS p)
theorem notin_str {i j : Str} (p : P (.bl (!occurs i j)) S) : RD2 K B (raNotIn K) (.str i) (.str j) S P := rd_r (rd_notInS p)
theorem in_strs {i : Str} {js : List Str} (h : SeqD y S (js.map D.str)) (p : P (.bl (decide (i ∈ js))) S) : RD2 K B (raIn K) (.str i) y S P := rd_l (rd_inStrs h p)
theorem notin_strs {i : Str} {js : List Str} (h : SeqD y S (js.map D.str)) (p : P (.bl (!decide (i ∈ js))) S) : RD2 K B (raNotIn K) (.str i) y S P := rd_l (rd_notInStrs h p)
theorem in_ints {i : Int} {js : List Int} (h : SeqD y S (js.map D.int)) (p : P (.bl (decide (i ∈ js))) S) : RD2 K B (raIn K) (.int i) y S P := rd_l (rd_inInts h p)
theorem notin_ints {i : Int} {js : List Int} (h : SeqD y S (js.map D.int)) (p : P (.bl (!decide (i ∈ js))) S) : RD2 K B (raNotIn K) (.int i) y S P := rd_l (rd_notInInts h p)
theorem sl_tup {ds : List D} {lo hi : Option Int} (p : P (.tup (cutD ds lo hi)) S) : RDS K B (raSl K) (.tup ds) lo hi S P := rds_l (rds_tup p)
theorem sl_lst {ds : List D} {lo hi : Option Int} (h : LstD x S ds) (p : P (.lst (cutD ds lo hi)) S) : RDS K B (raSl K) x lo hi S P := rds_r (rds_l (rds_lst h p))
theorem sl_str {z : Str} {lo hi : Option Int} (hl : z.length ≤ sizeLine) (p : P (.str (cutS z lo hi)) S) : RDS K B (raSl K) (.str z) lo hi S P := rds_r (rds_r (rds_str hl p))
/-! ### truth -/
/-- a value's truth -/
def TruD (S : Sto) : D → Bool → Prop
  | .non, b => b = false
  | .bl c, b => b = c
  | .int i, b => b = (i != 0)
  | .str z, b => z.length ≤ sizeLine ∧ b = ((z.length : Int) != 0)
  | .tup ds, b => b = !ds.isEmpty
  | .lst ds, b => b = !ds.isEmpty
  | .rol ds, b => b = !ds.isEmpty
  | .ptr p, b => (∃ ds, S p = some (.lst ds) ∧ b = !ds.isEmpty) ∨ ∃ kvs, S p = some (.dK kvs) ∧ b = !kvs.isEmpty
  | _, _ => False
theorem wt_tru (h : WE K B te Γ S fun x S1 => ∃ b, TruD S1 x b ∧ PB b S1) : WT K B (tTru K te) Γ S PB := fun F σ H R Q k =>
  h F σ H R _ fun v x H1 F1 S1 ⟨b, hb, h1⟩ e1 R1 r1 => by
    refine ⟨b, ?_, k _ _ _ _ h1 e1 R1⟩
    have emp : ∀ {vs : List V} {ds : List D}, RpAll K F1 vs ds → vs.isEmpty = ds.isEmpty := fun r => by cases r <;> rfl
    cases r1 with
    | non => exact hb
    | bl c => exact hb
    | int i => exact hb
    | str z => exact hb
    | tup s r => exact .inr (.inl ⟨_, Evl.st_of (R1.ex _ _ s), by rw [emp r]; exact hb⟩)
    | lst s r => exact .inl ⟨_, Evl.sq_of (R1.ex _ _ s), by rw [emp r]; exact hb⟩
    | rol s r => exact .inl ⟨_, Evl.ex_l R1.ex s, by rw [emp r]; exact hb⟩
    | dct _ _ _ => exact hb.elim
    | raw _ => exact hb.elim
    | ptr p =>
      rcases hb with ⟨ds, e, hb⟩ | ⟨ds, e, hb⟩
      · obtain ⟨ho, q1, q2⟩ := R1.sto p _ e
        obtain ⟨vs, rfl, q3⟩ := q2.lst_inv
        exact .inl ⟨vs, Evl.sq_of q1, by rw [emp q3]; exact hb⟩
      · obtain ⟨ho, q1, q2⟩ := R1.sto p _ e
        cases ho with
        | dK kvs =>
          refine .inr (.inr ⟨kvs, q1, hb.trans ?_⟩)
          have hl : kvs.length = ds.length := by simpa using congrArg List.length q2.1
          cases kvs <;> cases ds <;> first | rfl | (simp at hl)
        | _ => exact q2.elim
theorem wt_trub (h : WE K B te Γ S fun x S1 => ∃ b, x = .bl b ∧ PB b S1) : WT K B (tTru K te) Γ S PB :=
  wt_tru (h.imp fun d S' ⟨b, e, p⟩ => ⟨b, by subst e; rfl, p⟩)
/-! ### built-in calls -/
theorem len_seq {ds : List D} (h : SeqD x S ds) (p : P (.int ds.length) S) : RDA K B (rc_len K) [x] S P := fun F Γ σ H vs R a Q k => by
  cases a with
  | cons a n =>
    cases n
    obtain ⟨q, us, rfl, s, r⟩ := h.at R a
    refine ⟨_, us.length, rfl, ?_, by rw [r.length]; exact k _ _ H F S p (Stp.refl _ _ _) R (.int _)⟩
    rcases s with s | s
    · exact .inl ⟨us, s, rfl⟩
    · exact .inr ⟨us, s, rfl⟩
theorem len_str {z : Str} (hl : z.length ≤ sizeLine) (p : P (.int z.length) S) : RDA K B (rc_len K) [.str z] S P := fun F Γ σ H vs R a Q k => by
  cases a with
  | cons a n =>
    cases n; cases a
    exact ⟨_, z.length, rfl, ⟨hl, rfl⟩, k _ _ H F S p (Stp.refl _ _ _) R (.int _)⟩
theorem abs_int {i : Int} (p : P (.int (if i < 0 then -i else i)) S) : RDA K B (rc_abs K) [.int i] S P := fun F Γ σ H vs R a Q k => by
  cases a with | cons a n => cases n; cases a; exact ⟨i, rfl, k _ _ H F S p (Stp.refl _ _ _) R (.int _)⟩
theorem int_int {i : Int} (p : P (.int i) S) : RDA K B (rc_int K) [.int i] S P := fun F Γ σ H vs R a Q k => by
  cases a with | cons a n => cases n; cases a; exact .inl ⟨i, rfl, k _ _ H F S p (Stp.refl _ _ _) R (.int _)⟩
theorem int_bl {b : Bool} (p : P (.int (if b = true then 1 else 0)) S) : RDA K B (rc_int K) [.bl b] S P := fun F Γ σ H vs R a Q k => by
  cases a with | cons a n => cases n; cases a; exact .inr ⟨b, rfl, k _ _ H F S p (Stp.refl _ _ _) R (.int _)⟩
theorem str_int {i : Int} (h : i.natAbs.log2 < 1920) (p : P (.str (Str.ofString (toString i))) S) : RDA K B (rc_str K) [.int i] S P := fun F Γ σ H vs R a Q k => by
  cases a with | cons a n => cases n; cases a; exact ⟨i, rfl, h, k _ _ H F S p (Stp.refl _ _ _) R (.str _)⟩
theorem max_two {i j : Int} (p : P (.int (if j > i then j else i)) S) : RDA K B (rc_max2 K) [.int i, .int j] S P := fun F Γ σ H vs R a Q k => by
  cases a with | cons a n => cases n with | cons b n => cases n; cases a; cases b; exact ⟨i, j, rfl, k _ _ H F S p (Stp.refl _ _ _) R (.int _)⟩
theorem min_two {i j : Int} (p : P (.int (if j < i then j else i)) S) : RDA K B (rc_min2 K) [.int i, .int j] S P := fun F Γ σ H vs R a Q k => by
  cases a with | cons a n => cases n with | cons b n => cases n; cases a; cases b; exact ⟨i, j, rfl, k _ _ H F S p (Stp.refl _ _ _) R (.int _)⟩
theorem all_bls {bs : List Bool} (h : LstD x S (bs.map D.bl)) (p : P (.bl (bs.all id)) S) : RDA K B (rc_all K) [x] S P := fun F Γ σ H vs R a Q k => by
  cases a with
  | cons a n =>
    cases n
    obtain ⟨q, us, rfl, s, r⟩ := h.at R a
    have e := r.bls; subst e
    exact ⟨q, bs, rfl, s, k _ _ H F S p (Stp.refl _ _ _) R (.bl _)⟩
theorem any_bls {bs : List Bool} (h : LstD x S (bs.map D.bl)) (p : P (.bl (bs.any id)) S) : RDA K B (rc_any K) [x] S P := fun F Γ σ H vs R a Q k => by
  cases a with
  | cons a n =>
    cases n
    obtain ⟨q, us, rfl, s, r⟩ := h.at R a
    have e := r.bls; subst e
    exact ⟨q, bs, rfl, s, k _ _ H F S p (Stp.refl _ _ _) R (.bl _)⟩
theorem all_map {α : Type} {l : List α} {f : α → Bool} (p : P (.bl (l.all f)) S) : RDA K B (rc_all K) [.lst (l.map fun x => .bl (f x))] S P :=
  all_bls (bs := l.map f) (by rw [List.map_map]; exact lstD_lst) (by rw [List.all_map]; exact p)
theorem any_map {α : Type} {l : List α} {f : α → Bool} (p : P (.bl (l.any f)) S) : RDA K B (rc_any K) [.lst (l.map fun x => .bl (f x))] S P :=
  any_bls (bs := l.map f) (by rw [List.map_map]; exact lstD_lst) (by rw [List.any_map]; exact p)
theorem sum_intsT {ns : List Int} (p : P (.int ns.sum) S) : RDA K B (rc_sum K) [.tup (ns.map D.int)] S P := rda_r fun F Γ σ H vs R a Q k => by
  cases a with
  | cons a n =>
    cases n
    cases a with
    | tup s rr => have e := rr.ints; subst e; exact ⟨_, ns, rfl, Evl.st_of (R.ex _ _ s), k _ _ H F S p (Stp.refl _ _ _) R (.int _)⟩
theorem max_intsT {ns : List Int} (hn : 0 < ns.length) (p : ∀ m, m ∈ ns → (∀ y, y ∈ ns → y ≤ m) → P (.int m) S) : RDA K B (rc_max1 K) [.tup (ns.map D.int)] S P := rda_r fun F Γ σ H vs R a Q k => by
  cases a with
  | cons a n =>
    cases n
    cases a with
    | tup s rr => have e := rr.ints; subst e; exact ⟨_, ns, rfl, Evl.st_of (R.ex _ _ s), hn, fun m h1 h2 => k _ _ H F S (p m h1 h2) (Stp.refl _ _ _) R (.int _)⟩
theorem min_intsT {ns : List Int} (hn : 0 < ns.length) (p : ∀ m, m ∈ ns → (∀ y, y ∈ ns → m ≤ y) → P (.int m) S) : RDA K B (rc_min1 K) [.tup (ns.map D.int)] S P := rda_r fun F Γ σ H vs R a Q k => by
  cases a with
  | cons a n =>
    cases n
    cases a with
    | tup s rr => have e := rr.ints; subst e; exact ⟨_, ns, rfl, Evl.st_of (R.ex _ _ s), hn, fun m h1 h2 => k _ _ H F S (p m h1 h2) (Stp.refl _ _ _) R (.int _)⟩
theorem sum_ints {ns : List Int} (h : LstD x S (ns.map D.int)) (p : P (.int ns.sum) S) : RDA K B (rc_sum K) [x] S P := rda_l fun F Γ σ H vs R a Q k => by
  cases a with
  | cons a n =>
    cases n
    obtain ⟨q, us, rfl, s, r⟩ := h.at R a
    have e := r.ints; subst e
    exact ⟨q, ns, rfl, s, k _ _ H F S p (Stp.refl _ _ _) R (.int _)⟩
theorem max_ints {ns : List Int} (h : LstD x S (ns.map D.int)) (hn : 0 < ns.length) (p : ∀ m, m ∈ ns → (∀ y, y ∈ ns → y ≤ m) → P (.int m) S) : RDA K B (rc_max1 K) [x] S P := rda_l fun F Γ σ H vs R a Q k => by
  cases a with
  | cons a n =>
    cases n
    obtain ⟨q, us, rfl, s, r⟩ := h.at R a
    have e := r.ints; subst e
    exact ⟨q, ns, rfl, s, hn, fun m h1 h2 => k _ _ H F S (p m h1 h2) (Stp.refl _ _ _) R (.int _)⟩
theorem min_ints {ns : List Int} (h : LstD x S (ns.map D.int)) (hn : 0 < ns.length) (p : ∀ m, m ∈ ns → (∀ y, y ∈ ns → m ≤ y) → P (.int m) S) : RDA K B (rc_min1 K) [x] S P := rda_l fun F Γ σ H vs R a Q k => by
  cases a with
  | cons a n =>
    cases n
    obtain ⟨q, us, rfl, s, r⟩ := h.at R a
    have e := r.ints; subst e
    exact ⟨q, ns, rfl, s, hn, fun m h1 h2 => k _ _ H F S (p m h1 h2) (Stp.refl _ _ _) R (.int _)⟩
theorem tuple_lst {ds : List D} (h : LstD x S ds) (p : P (.tup ds) S) : RDA K B (rc_tuple K) [x] S P := fun F Γ σ H vs R a Q k => by
  cases a with
  | cons a n =>
    cases n
    obtain ⟨q, us, rfl, s, r⟩ := h.at R a
    refine ⟨q, us, rfl, .inl ⟨s, fun l hl => ?_⟩⟩
    obtain ⟨ex, R2⟩ := R.lay hl (.tup us)
    exact k _ _ _ _ S p (R.layS hl _) R2 (.tup upd_same (r.mono ex))
theorem tuple_tup {ds : List D} (p : P (.tup ds) S) : RDA K B (rc_tuple K) [.tup ds] S P := fun F Γ σ H vs R a Q k => by
  cases a with
  | cons a n =>
    cases n
    cases a with | tup s r => exact ⟨_, _, rfl, .inr ⟨Evl.st_of (R.ex _ _ s), k _ _ H F S p (Stp.refl _ _ _) R (.tup s r)⟩⟩
theorem list_seq {ds : List D} (h : SeqD x S ds) (p : P (.lst ds) S) : RDA K B (rc_list K) [x] S P := rda_l fun F Γ σ H vs R a Q k => by
  cases a with
  | cons a n =>
    cases n
    obtain ⟨q, us, rfl, s, r⟩ := h.at R a
    refine ⟨q, us, rfl, s, fun l hl => ?_⟩
    obtain ⟨ex, R2⟩ := R.lay hl (.lst us)
    exact k _ _ _ _ S p (R.layS hl _) R2 (.lst upd_same (r.mono ex))
/-- list(..), to be changed -/
theorem list_seqM {ds : List D} (h : SeqD x S ds) (p : ∀ l, S l = none → P (.ptr l) (ups S l (.lst ds))) : RDA K B (rc_list K) [x] S P := rda_l fun F Γ σ H vs R a Q k => by
  cases a with
  | cons a n =>
    cases n
    obtain ⟨q, us, rfl, s, r⟩ := h.at R a
    exact ⟨q, us, rfl, s, fun l hl => k _ _ _ _ _ (p l (R.free hl).2) (R.boxS hl _ _) (R.box (ho := .lst us) hl r) (.ptr l)⟩
theorem rpAll_signs {F : Hp} (l : List Nat) : RpAll K F (l.map fun c => V.str ⟨#[c]⟩) (l.map fun c => D.str ⟨#[c]⟩) := by
  induction l with | nil => exact .nil | cons c l ih => exact .cons (.str _) ih
theorem list_str {z : Str} (hl : z.length ≤ sizeLine) (p : P (.lst (z.cps.toList.map fun c => .str ⟨#[c]⟩)) S) : RDA K B (rc_list K) [.str z] S P := rda_r fun F Γ σ H vs R a Q k => by
  cases a with
  | cons a n =>
    cases n; cases a
    refine ⟨z, rfl, hl, fun l hl => ?_⟩
    obtain ⟨ex, R2⟩ := R.lay hl (.lst (z.cps.toList.map fun c => V.str ⟨#[c]⟩))
    exact k _ _ _ _ S p (R.layS hl _) R2 (.lst upd_same (rpAll_signs _))
theorem repr_dat {d : D} (h : EqD x S d) (h0 : d.plain = true) (h1 : d.py.showable = true) (h2 : d.py.hasDict = false) (h3 : d.py.depth ≤ 60) (h4 : d.py.shown.length ≤ sizeLine) (p : P (.str d.py.shown) S) : RDA K B (rc_repr K) [x] S P := fun F Γ σ H vs R a Q k => by
  cases a with
  | cons a n =>
    cases n
    exact ⟨_, d.py, rfl, h.at R a h0, h1, h2, h3, h4, k _ _ H F S p (Stp.refl _ _ _) R (.str _)⟩
/-- the kind of a value -/
def D.kd (S : Sto) : D → String
  | .non => "NoneType" | .bl _ => "bool" | .int _ => "int" | .str _ => "str" | .tup _ => "tuple" | .lst _ => "list" | .dct _ _ => "dict"
  | .ptr p => (match S p with | some (.lst _) => "list" | some (.dK _) => "dict" | some (.dT _) => "dict" | _ => "")
  | _ => ""
theorem D.kd_at {d : D} {v : V} (R : Rel K B F Γ S σ H) (r : Rp K F v d) (h : d.kd S ≠ "") : TyX K H v (.type (d.kd S)) := by
  cases r with
  | non => exact .base .non
  | bl b => exact .base (.bl b)
  | int b => exact .base (.int b)
  | str b => exact .base (.str b)
  | tup s r =>
    exact .base (.tup (R.ex _ _ s))
  | lst s r => exact .base (.lst (R.ex _ _ s))
  | rol s r => exact absurd rfl h
  | dct s _ _ => exact .base (.dK (R.ex _ _ s))
  | raw v => exact absurd rfl h
  | ptr p =>
    unfold D.kd at h ⊢
    cases e : S p with
    | none => simp only [e] at h; exact (h rfl).elim
    | some o =>
      obtain ⟨ho, q1, q2⟩ := R.sto p _ e
      simp only [e] at h ⊢
      cases o <;> cases ho <;> first | exact q2.elim | exact .base (.lst q1) | exact .base (.dK q1) | exact .base (.dT q1) | exact (h rfl).elim
theorem isi_dat {T : String} {b : Bool} (h : x.kd S ≠ "") (e : kitB (x.kd S) T = some b) (p : P (.bl b) S) : RDA K B (rc_isinstance K) [x, .raw (.ty T)] S P := fun F Γ σ H vs R a Q k => by
  cases a with
  | cons a n =>
    cases n with
    | cons c n =>
      cases n; cases c
      exact ⟨_, .ty T, _, .type T, b, rfl, .ty T, x.kd_at R a h, kit_ty e, k _ _ H F S p (Stp.refl _ _ _) R (.bl _)⟩
end
end DL
/-! DL6: methods, what is walked, dicts, slices backwards, pure comprehensions -/
namespace DL
open PySem L2
section
variable {K : PySem.W.Frag} {B F F' : Hp} {Γ : Sl} {S : Sto} {σ : L2.St} {H : Hp} {P : D → Sto → Prop} {PB : Bool → Sto → Prop} {x y d : D} {te ta tb td ty : TE}
/-! ### methods -/
theorem app_lst {a : Addr} {ds : List D} (h : S a = some (.lst ds)) (hl : ds.length < sizeLine) (p : P .non (ups S a (.lst (ds ++ [y])))) : RDM K B (rm_list_append K) (.ptr a) [y] S P := fun F Γ σ H v vs R r1 r2 Q k => by
  cases r1
  cases r2 with
  | cons r2 n =>
    cases n
    obtain ⟨ho, q1, q2⟩ := R.sto a _ h
    obtain ⟨us, rfl, q3⟩ := q2.lst_inv
    exact ⟨a, us, _, rfl, rfl, q1, by rw [q3.length]; exact hl, k _ _ _ F _ p (Rel.putS h _ _) (R.put (ho := .lst _) h (q3.append (.cons r2 .nil))) .non⟩
theorem ext_lst {a : Addr} {ds es : List D} (h : S a = some (.lst ds)) (hy : LstT y S es) (hl : ds.length + es.length ≤ sizeLine) (p : P .non (ups S a (.lst (ds ++ es)))) : RDM K B (rm_list_extend K) (.ptr a) [y] S P := fun F Γ σ H v vs R r1 r2 Q k => by
  cases r1
  cases r2 with
  | cons r2 n =>
    cases n
    obtain ⟨ho, q1, q2⟩ := R.sto a _ h
    obtain ⟨us, rfl, q3⟩ := q2.lst_inv
    obtain ⟨b, ws, rfl, q4, q5⟩ := hy.at R r2
    have l1 := q3.length
    have l2 := q5.length
    exact ⟨a, b, us, ws, rfl, rfl, q1, q4, by omega, k _ _ _ F _ p (Rel.putS h _ _) (R.put (ho := .lst _) h (q3.append q5)) .non⟩
theorem pop_at {a : Addr} {ds : List D} {i : Nat} (h : S a = some (.lst ds)) (hi : ds[i]? = some d) (hl : ds.length ≤ sizeLine) (p : P d (ups S a (.lst (ds.eraseIdx i)))) : RDM K B (rm_list_pop1 K) (.ptr a) [.int i] S P := fun F Γ σ H v vs R r1 r2 Q k => by
  cases r1
  cases r2 with
  | cons r2 n =>
    cases n; cases r2
    obtain ⟨ho, q1, q2⟩ := R.sto a _ h
    obtain ⟨us, rfl, q3⟩ := q2.lst_inv
    obtain ⟨w, hw, rw'⟩ := q3.get hi
    have hlt : i < ds.length := (List.getElem?_eq_some_iff.mp hi).1
    have hs : sizeLine = 16777216 := sizeLine_eq
    have l1 := q3.length
    refine ⟨a, us, i, i, w, rfl, rfl, q1, by omega, by omega, ?_, hw, k _ _ _ F _ p (Rel.putS h _ _) (R.put (ho := .lst _) h (q3.erase i)) rw'⟩
    have e0 : ¬ ((i : Int) < 0) := by omega
    have e1 : (i : Int) < us.length := by omega
    unfold seqIndex?
    simp [e0, hlt, l1]
theorem we_M1 {r : V → List V → Hp → VK → Prop} (h : WE K B ta Γ S fun x S1 => (∃ z, x = .str z) ∧ WE K B tb Γ S1 fun y S2 => RDM K B r x [y] S2 P) : WE K B (tM1 r ta tb) Γ S P := fun F σ H R Q k =>
  h F σ H R _ fun v x H1 F1 S1 ⟨⟨z, hz⟩, h1⟩ e1 R1 r1 => by
    subst hz; cases r1
    exact ⟨⟨z, rfl⟩, h1 F1 σ H1 R1 _ fun u y H2 F2 S2 h2 e2 R2 r2 => h2 F2 Γ σ H2 _ _ R2 (.str z) (.cons r2 .nil) Q fun w d H3 F3 S3 p e3 => k w d H3 F3 S3 p ((e1.trans e2).trans e3)⟩
theorem endswith_str {a b : Str} (p : P (.bl (Txt.endswith a b)) S) : RDM K B (rm_str_endswith K) (.str a) [.str b] S P := fun F Γ σ H v vs R r1 r2 Q k => by
  cases r1
  cases r2 with | cons r2 n => cases n; cases r2; exact ⟨a, b, rfl, rfl, k _ _ H F S p (Stp.refl _ _ _) R (.bl _)⟩
theorem join_strs {a : Str} {zs : List Str} (h : SeqD y S (zs.map D.str)) (hl : (zs.map (·.length)).sum + zs.length * a.length ≤ 16777216) (p : P (.str (Txt.join a zs)) S) : RDM K B (rm_str_join K) (.str a) [y] S P := fun F Γ σ H v vs R r1 r2 Q k => by
  cases r1
  cases r2 with
  | cons r2 n =>
    cases n
    obtain ⟨q, us, rfl, s, r⟩ := h.at R r2
    have e := r.strs
    subst e
    exact ⟨a, q, zs, rfl, rfl, s, hl, k _ _ H F S p (Stp.refl _ _ _) R (.str _)⟩
/-! ### what is walked -/
abbrev Any : Sto → Prop := fun _ => True
theorem wks_lst {a : Addr} {vs : List V} {ds : List D} (s : SqL K F a vs) (r : RpAll K F vs ds) : Wks K B F (Itl K a) ds Any where
  go := fun i d F1 Γ S σ H hi e R _ => let ⟨v, hv, _⟩ := r.get hi; ⟨vs, v, Evl.ex_l (e.trans R.ex) s, hv⟩
  stop := fun F1 Γ S σ H e R _ => ⟨vs, Evl.ex_l (e.trans R.ex) s, Nat.le_of_eq r.length⟩
  yld := fun i d F1 Γ S σ H x H' hi e R _ ⟨e2, y⟩ => by
    subst e2
    have hx := y vs (Evl.ex_l (e.trans R.ex) s)
    obtain ⟨d', hd, rd⟩ := r.getv hx
    rw [hi] at hd; cases hd
    exact ⟨F1, Stp.refl _ _ _, R, rd.mono e⟩
theorem wks_tup {a : Addr} {vs : List V} {ds : List D} (s : SqT K F a vs) (r : RpAll K F vs ds) : Wks K B F (Itt K a) ds Any where
  go := fun i d F1 Γ S σ H hi e R _ => let ⟨v, hv, _⟩ := r.get hi; ⟨vs, v, Evl.ex_t (e.trans R.ex) s, hv⟩
  stop := fun F1 Γ S σ H e R _ => ⟨vs, Evl.ex_t (e.trans R.ex) s, Nat.le_of_eq r.length⟩
  yld := fun i d F1 Γ S σ H x H' hi e R _ ⟨e2, y⟩ => by
    subst e2
    have hx := y vs (Evl.ex_t (e.trans R.ex) s)
    obtain ⟨d', hd, rd⟩ := r.getv hx
    rw [hi] at hd; cases hd
    exact ⟨F1, Stp.refl _ _ _, R, rd.mono e⟩
/-- a box walked, as long as it stands as it is -/
theorem wks_box {a : Addr} {ds : List D} : Wks K B F (Itl K a) ds (fun S => S a = some (.lst ds)) where
  go := fun i d F1 Γ S σ H hi e R l => by
    obtain ⟨ho, q1, q2⟩ := R.sto a _ l
    obtain ⟨vs, rfl, q3⟩ := q2.lst_inv
    obtain ⟨v, hv, _⟩ := q3.get hi
    exact ⟨vs, v, Evl.sq_of q1, hv⟩
  stop := fun F1 Γ S σ H e R l => by
    obtain ⟨ho, q1, q2⟩ := R.sto a _ l
    obtain ⟨vs, rfl, q3⟩ := q2.lst_inv
    exact ⟨vs, Evl.sq_of q1, Nat.le_of_eq q3.length⟩
  yld := fun i d F1 Γ S σ H x H' hi e R l ⟨e2, y⟩ => by
    subst e2
    obtain ⟨ho, q1, q2⟩ := R.sto a _ l
    obtain ⟨vs, rfl, q3⟩ := q2.lst_inv
    have hx := y vs (Evl.sq_of q1)
    obtain ⟨d', hd, rd⟩ := q3.getv hx
    rw [hi] at hd; cases hd
    exact ⟨F1, Stp.refl _ _ _, R, rd⟩
def signsD (z : Str) : List D := z.cps.toList.map fun c => .str ⟨#[c]⟩
theorem wks_str (z : Str) : Wks K B F (Its z) (signsD z) Any where
  go := fun i d F1 Γ S σ H hi e R _ => by
    have := (List.getElem?_eq_some_iff.mp hi).1
    show i < z.cps.size
    simpa [signsD] using this
  stop := fun F1 Γ S σ H e R _ => by show z.cps.size ≤ _; simp [signsD]
  yld := fun i d F1 Γ S σ H x H' hi e R _ ⟨e2, c, hc, hx⟩ => by
    subst e2 hx
    unfold signsD at hi
    rw [List.getElem?_map] at hi
    have : z.cps.toList[i]? = some c := by simpa using hc
    rw [this] at hi; cases hi
    exact ⟨F1, Stp.refl _ _ _, R, .str _⟩
/-- what stands behind a value that is walked: its items, and as long as what -/
def WalkD (S : Sto) : D → List D → (Sto → Prop) → Prop
  | .lst es, ds, L => ds = es ∧ L = Any
  | .rol es, ds, L => ds = es ∧ L = Any
  | .tup es, ds, L => ds = es ∧ L = Any
  | .str z, ds, L => ds = signsD z ∧ L = Any
  | .ptr p, ds, L => S p = some (.lst ds) ∧ L = fun S => S p = some (.lst ds)
  | _, _, _ => False
theorem wi_seq {PI : List D → (Sto → Prop) → Sto → Prop} (h : WE K B te Γ S fun x S1 => ∃ ds L, WalkD S1 x ds L ∧ PI ds L S1) : WI K B (iSeq K te) Γ S PI := fun F σ H R Q k =>
  h F σ H R _ fun v x H1 F1 S1 ⟨ds, L, w, h1⟩ e1 R1 r1 => by
    cases r1 with
    | lst s r => obtain ⟨rfl, rfl⟩ := w; exact .inl ⟨_, rfl, ⟨_, Evl.sq_of (R1.ex _ _ s)⟩, k _ _ _ _ F1 S1 h1 e1 R1 (wks_lst (Evl.sq_of s) r)⟩
    | rol s r => obtain ⟨rfl, rfl⟩ := w; exact .inl ⟨_, rfl, ⟨_, Evl.ex_l R1.ex s⟩, k _ _ _ _ F1 S1 h1 e1 R1 (wks_lst s r)⟩
    | tup s r => obtain ⟨rfl, rfl⟩ := w; exact .inr (.inl ⟨_, rfl, ⟨_, Evl.st_of (R1.ex _ _ s)⟩, k _ _ _ _ F1 S1 h1 e1 R1 (wks_tup (Evl.st_of s) r)⟩)
    | str z => obtain ⟨rfl, rfl⟩ := w; exact .inr (.inr ⟨z, rfl, k _ _ _ _ F1 S1 h1 e1 R1 (wks_str z)⟩)
    | ptr p =>
      obtain ⟨w, rfl⟩ := w
      obtain ⟨ho, q1, q2⟩ := R1.sto p _ w
      obtain ⟨vs, rfl, q3⟩ := q2.lst_inv
      exact .inl ⟨p, rfl, ⟨vs, Evl.sq_of q1⟩, k _ _ _ _ F1 S1 h1 e1 R1 wks_box⟩
    | _ => exact w.elim
def rngD (lo : Int) (n : Nat) : List D := (List.range n).map fun (i : Nat) => .int (lo + (i : Int))
theorem wks_rng (lo : Int) (n : Nat) : Wks K B F (Itr lo n) (rngD lo n) Any where
  go := fun i d F1 Γ S σ H hi e R _ => by
    have := (List.getElem?_eq_some_iff.mp hi).1
    show i < n
    simpa [rngD] using this
  stop := fun F1 Γ S σ H e R _ => by show n ≤ _; simp [rngD]
  yld := fun i d F1 Γ S σ H x H' hi e R _ ⟨e2, hx⟩ => by
    subst e2 hx
    have hlt : i < n := by
      have := (List.getElem?_eq_some_iff.mp hi).1
      simpa [rngD] using this
    unfold rngD at hi
    rw [List.getElem?_map, List.getElem?_range hlt] at hi
    cases hi
    exact ⟨F1, Stp.refl _ _ _, R, .int _⟩
theorem wi_rng1 {t : TA} {PI : List D → (Sto → Prop) → Sto → Prop} (h : WA K B t Γ S fun ds S1 => ∃ j : Int, ds = [.int j] ∧ -(2 ^ 62) ≤ j ∧ j < 2 ^ 62 ∧ PI (rngD 0 j.toNat) Any S1) : WI K B (iRng1 t) Γ S PI := fun F σ H R Q k =>
  h F σ H R _ fun vs ds H1 F1 S1 ⟨j, e, h1, h2, p⟩ e1 R1 r1 => by
    subst e
    cases r1 with | cons a n => cases n; cases a; exact ⟨j, rfl, h1, h2, k _ _ _ _ F1 S1 p e1 R1 (wks_rng 0 _)⟩
theorem wi_rng2 {t : TA} {PI : List D → (Sto → Prop) → Sto → Prop} (h : WA K B t Γ S fun ds S1 => ∃ i j : Int, ds = [.int i, .int j] ∧ (-(2 ^ 62) ≤ i ∧ i < 2 ^ 62 ∧ -(2 ^ 62) ≤ j ∧ j < 2 ^ 62) ∧ PI (rngD i (j - i).toNat) Any S1) : WI K B (iRng2 t) Γ S PI := fun F σ H R Q k =>
  h F σ H R _ fun vs ds H1 F1 S1 ⟨i, j, e, h1, p⟩ e1 R1 r1 => by
    subst e
    cases r1 with | cons a n => cases n with | cons b n => cases n; cases a; cases b; exact ⟨i, j, rfl, h1, k _ _ _ _ F1 S1 p e1 R1 (wks_rng i _)⟩
/-- pairs made on the way -/
theorem new_pair {F1 H : Hp} {T : Addr} {v w : V} {a b : D} (R : Rel K B F1 Γ S σ H) (hT : H T = none) (r1 : Rp K F1 v a) (r2 : Rp K F1 w b) :
    ∃ F2, Stp F1 S H F2 S (upd H T (.tup [v, w])) ∧ Rel K B F2 Γ S σ (upd H T (.tup [v, w])) ∧ Rp K F2 (.ref T) (.tup [a, b]) := by
  obtain ⟨e, R2⟩ := R.lay hT (.tup [v, w])
  exact ⟨_, R.layS hT _, R2, .tup upd_same (.cons (r1.mono e) (.cons (r2.mono e) .nil))⟩
def enumD (ds : List D) : List D := ds.zipIdx.map fun p => .tup [.int (p.2 : Nat), p.1]
theorem enumD_get {ds : List D} {i : Nat} {d : D} (h : (enumD ds)[i]? = some d) : ∃ e, ds[i]? = some e ∧ d = .tup [.int (i : Nat), e] := by
  unfold enumD at h
  rw [List.getElem?_map, List.getElem?_zipIdx] at h
  cases e : ds[i]? with
  | none => rw [e] at h; cases h
  | some x => rw [e] at h; cases h; exact ⟨x, rfl, by simp⟩
theorem wks_enumL {a : Addr} {vs : List V} {ds : List D} (s : SqL K F a vs) (r : RpAll K F vs ds) : Wks K B F (Ite K a) (enumD ds) Any where
  go := fun i d F1 Γ S σ H hi e R _ => let ⟨x, hx, _⟩ := enumD_get hi; let ⟨v, hv, _⟩ := r.get hx; ⟨vs, v, Evl.ex_l (e.trans R.ex) s, hv⟩
  stop := fun F1 Γ S σ H e R _ => ⟨vs, Evl.ex_l (e.trans R.ex) s, by rw [r.length]; simp [enumD]⟩
  yld := fun i d F1 Γ S σ H x H' hi e R _ ⟨T, w, hx, hT, hH, y⟩ => by
    subst hx hH
    obtain ⟨z, hz, rfl⟩ := enumD_get hi
    obtain ⟨d', hd, rd⟩ := r.getv (y vs (Evl.ex_l (e.trans R.ex) s))
    rw [hz] at hd; cases hd
    exact new_pair R hT (.int _) (rd.mono e)
theorem wks_enumT {a : Addr} {vs : List V} {ds : List D} (s : SqT K F a vs) (r : RpAll K F vs ds) : Wks K B F (IteT K a) (enumD ds) Any where
  go := fun i d F1 Γ S σ H hi e R _ => let ⟨x, hx, _⟩ := enumD_get hi; let ⟨v, hv, _⟩ := r.get hx; ⟨vs, v, Evl.ex_t (e.trans R.ex) s, hv⟩
  stop := fun F1 Γ S σ H e R _ => ⟨vs, Evl.ex_t (e.trans R.ex) s, by rw [r.length]; simp [enumD]⟩
  yld := fun i d F1 Γ S σ H x H' hi e R _ ⟨T, w, hx, hT, hH, y⟩ => by
    subst hx hH
    obtain ⟨z, hz, rfl⟩ := enumD_get hi
    obtain ⟨d', hd, rd⟩ := r.getv (y vs (Evl.ex_t (e.trans R.ex) s))
    rw [hz] at hd; cases hd
    exact new_pair R hT (.int _) (rd.mono e)
theorem wi_enum {t : TA} {PI : List D → (Sto → Prop) → Sto → Prop} (h : WA K B t Γ S fun ds S1 => ∃ x es, ds = [x] ∧ (x = .lst es ∨ x = .rol es ∨ x = .tup es) ∧ PI (enumD es) Any S1) : WI K B (iEnumerateX K t) Γ S PI := fun F σ H R Q k =>
  h F σ H R _ fun vs ds H1 F1 S1 ⟨x, es, e, hx, p⟩ e1 R1 r1 => by
    subst e
    cases r1 with
    | cons a n =>
      cases n
      rcases hx with rfl | rfl | rfl
      · cases a with | lst s r => exact ⟨_, _, rfl, .inl ⟨Evl.sq_of (R1.ex _ _ s), k _ _ _ _ F1 S1 p e1 R1 (wks_enumL (Evl.sq_of s) r)⟩⟩
      · cases a with | rol s r => exact ⟨_, _, rfl, .inl ⟨Evl.ex_l R1.ex s, k _ _ _ _ F1 S1 p e1 R1 (wks_enumL s r)⟩⟩
      · cases a with | tup s r => exact ⟨_, _, rfl, .inr ⟨Evl.st_of (R1.ex _ _ s), k _ _ _ _ F1 S1 p e1 R1 (wks_enumT (Evl.st_of s) r)⟩⟩
def zipD (xs ys : List D) : List D := List.zipWith (fun x y => .tup [x, y]) xs ys
theorem zipD_get {xs ys : List D} {i : Nat} {d : D} (h : (zipD xs ys)[i]? = some d) : ∃ x y, xs[i]? = some x ∧ ys[i]? = some y ∧ d = .tup [x, y] := by
  unfold zipD at h
  rw [List.getElem?_zipWith] at h
  cases e1 : xs[i]? <;> cases e2 : ys[i]? <;> rw [e1, e2] at h <;> first | cases h | skip
  exact ⟨_, _, rfl, rfl, rfl⟩
theorem wks_zipL {a b : Addr} {vs us : List V} {ds es : List D} (s : SqL K F a vs) (r : RpAll K F vs ds) (s2 : SqL K F b us) (r2 : RpAll K F us es) : Wks K B F (Itz K a b) (zipD ds es) Any where
  go := fun i d F1 Γ S σ H hi e R _ => by
    obtain ⟨x, y, hx, hy, _⟩ := zipD_get hi
    obtain ⟨v, hv, _⟩ := r.get hx
    obtain ⟨u, hu, _⟩ := r2.get hy
    exact ⟨vs, us, v, u, Evl.ex_l (e.trans R.ex) s, Evl.ex_l (e.trans R.ex) s2, hv, hu⟩
  stop := fun F1 Γ S σ H e R _ => ⟨vs, us, Evl.ex_l (e.trans R.ex) s, Evl.ex_l (e.trans R.ex) s2, by rw [r.length, r2.length]; simp [zipD]; omega⟩
  yld := fun i d F1 Γ S σ H x H' hi e R _ ⟨T, w, u, hx, hT, hH, y1, y2⟩ => by
    subst hx hH
    obtain ⟨p, q, hp, hq, rfl⟩ := zipD_get hi
    obtain ⟨d1, h1, rd1⟩ := r.getv (y1 vs (Evl.ex_l (e.trans R.ex) s))
    obtain ⟨d2, h2, rd2⟩ := r2.getv (y2 us (Evl.ex_l (e.trans R.ex) s2))
    rw [hp] at h1; cases h1
    rw [hq] at h2; cases h2
    exact new_pair R hT (rd1.mono e) (rd2.mono e)
theorem wks_zipT {a b : Addr} {vs us : List V} {ds es : List D} (s : SqT K F a vs) (r : RpAll K F vs ds) (s2 : SqT K F b us) (r2 : RpAll K F us es) : Wks K B F (RZ.ItzT K a b) (zipD ds es) Any where
  go := fun i d F1 Γ S σ H hi e R _ => by
    obtain ⟨x, y, hx, hy, _⟩ := zipD_get hi
    obtain ⟨v, hv, _⟩ := r.get hx
    obtain ⟨u, hu, _⟩ := r2.get hy
    exact ⟨vs, us, v, u, Evl.ex_t (e.trans R.ex) s, Evl.ex_t (e.trans R.ex) s2, hv, hu⟩
  stop := fun F1 Γ S σ H e R _ => ⟨vs, us, Evl.ex_t (e.trans R.ex) s, Evl.ex_t (e.trans R.ex) s2, by rw [r.length, r2.length]; simp [zipD]; omega⟩
  yld := fun i d F1 Γ S σ H x H' hi e R _ ⟨T, w, u, hx, hT, hH, y1, y2⟩ => by
    subst hx hH
    obtain ⟨p, q, hp, hq, rfl⟩ := zipD_get hi
    obtain ⟨d1, h1, rd1⟩ := r.getv (y1 vs (Evl.ex_t (e.trans R.ex) s))
    obtain ⟨d2, h2, rd2⟩ := r2.getv (y2 us (Evl.ex_t (e.trans R.ex) s2))
    rw [hp] at h1; cases h1
    rw [hq] at h2; cases h2
    exact new_pair R hT (rd1.mono e) (rd2.mono e)
theorem wi_zip {t : TA} {PI : List D → (Sto → Prop) → Sto → Prop} (h : WA K B t Γ S fun ds S1 => ∃ x y xs ys, ds = [x, y] ∧ ((x = .lst xs ∧ y = .lst ys) ∨ (x = .tup xs ∧ y = .tup ys)) ∧ PI (zipD xs ys) Any S1) : WI K B (iZipX K t) Γ S PI := fun F σ H R Q k =>
  h F σ H R _ fun vs ds H1 F1 S1 ⟨x, y, xs, ys, e, hx, p⟩ e1 R1 r1 => by
    subst e
    cases r1 with
    | cons a n =>
      cases n with
      | cons b n =>
        cases n
        rcases hx with ⟨rfl, rfl⟩ | ⟨rfl, rfl⟩
        · cases a with | lst s r => cases b with | lst s2 r2 => exact ⟨_, _, _, _, rfl, .inl ⟨Evl.sq_of (R1.ex _ _ s), Evl.sq_of (R1.ex _ _ s2), k _ _ _ _ F1 S1 p e1 R1 (wks_zipL (Evl.sq_of s) r (Evl.sq_of s2) r2)⟩⟩
        · cases a with | tup s r => cases b with | tup s2 r2 => exact ⟨_, _, _, _, rfl, .inr ⟨Evl.st_of (R1.ex _ _ s), Evl.st_of (R1.ex _ _ s2), k _ _ _ _ F1 S1 p e1 R1 (wks_zipT (Evl.st_of s) r (Evl.st_of s2) r2)⟩⟩
/-! ### list(range(..)) -/
theorem rpAll_rng (lo : Int) (n : Nat) : RpAll K F ((List.range n).map fun i => V.int (lo + (i : Nat))) (rngD lo n) := by
  unfold rngD
  induction (List.range n) with | nil => exact .nil | cons i l ih => exact .cons (.int _) ih
theorem we_lrg1 (h : WE K B te Γ S fun x S1 => ∃ n : Int, x = .int n ∧ n ≤ 16777216 ∧ 0 ≤ n ∧ P (.lst (rngD 0 n.toNat)) S1) : WE K B (tLstRg (tRg1 te)) Γ S P := fun F σ H R Q k =>
  h F σ H R _ fun v x H1 F1 S1 ⟨n, e, hn, h0, p⟩ e1 R1 r1 => by
    subst e; cases r1
    refine ⟨n, rfl, RgOk.of_le (Int.le_refl 0) hn (by decide) h0, fun q hq => ?_⟩
    obtain ⟨ex, R2⟩ := R1.lay hq (.lst (rgV 0 n))
    refine k _ _ _ _ S1 p (e1.trans (R1.layS hq _)) R2 (.lst upd_same ?_)
    unfold rgV
    rw [Int.sub_zero]
    exact (rpAll_rng 0 _)
/-! ### slices backwards, stars, unpacking -/
theorem we_rev (h : WE K B te Γ S fun x S1 => (∃ ds, LstD x S1 ds ∧ P (.lst ds.reverse) S1) ∨ (∃ ds, x = .tup ds ∧ ds ≠ [] ∧ P (.tup ds.reverse) S1) ∨ ∃ z : Str, x = .str z ∧ z.length ≤ sizeLine ∧ P (.str ⟨z.cps.reverse⟩) S1) : WE K B (tRevX K te) Γ S P := fun F σ H R Q k =>
  h F σ H R _ fun v x H1 F1 S1 h1 e1 R1 r1 => by
    rcases h1 with ⟨ds, hx, p⟩ | ⟨ds, rfl, hn, p⟩ | ⟨z, rfl, hz, p⟩
    · obtain ⟨a, vs, rfl, s, r⟩ := hx.at R1 r1
      refine .inl ⟨a, vs, rfl, s, fun q hq => ?_⟩
      obtain ⟨ex, R2⟩ := R1.lay hq (.lst vs.reverse)
      exact k _ _ _ _ S1 p (e1.trans (R1.layS hq _)) R2 (.lst upd_same (r.mono ex).rev)
    · cases r1 with
      | tup s r =>
        rename_i a vs
        refine .inr (.inl ⟨a, vs, rfl, Evl.st_of (R1.ex _ _ s), fun z => hn (by subst z; cases r; rfl), fun q hq => ?_⟩)
        obtain ⟨ex, R2⟩ := R1.lay hq (.tup vs.reverse)
        exact k _ _ _ _ S1 p (e1.trans (R1.layS hq _)) R2 (.tup upd_same (r.mono ex).rev)
    · cases r1
      exact .inr (.inr ⟨z, rfl, hz, k _ _ _ _ S1 p e1 R1 (.str _)⟩)
theorem wa_star {t : TA} {PA : List D → Sto → Prop} (h : WE K B te Γ S fun d S1 => ∃ es, (d = .lst es ∨ d = .tup es) ∧ WA K B t Γ S1 fun ds S2 => PA (es ++ ds) S2) : WA K B (StX.tStar K te t) Γ S PA := fun F σ H R Q k =>
  h F σ H R _ fun v d H1 F1 S1 ⟨es, hd, h1⟩ e1 R1 r1 => by
    rcases hd with rfl | rfl
    · cases r1 with
      | lst s r => exact ⟨_, _, rfl, .inr (Evl.sq_of (R1.ex _ _ s)), h1 F1 σ H1 R1 _ fun vs ds H2 F2 S2 p e2 R2 r2 => k _ _ H2 F2 S2 p (e1.trans e2) R2 ((r.mono e2.1).append r2)⟩
    · cases r1 with
      | tup s r => exact ⟨_, _, rfl, .inl (Evl.st_of (R1.ex _ _ s)), h1 F1 σ H1 R1 _ fun vs ds H2 F2 S2 p e2 R2 r2 => k _ _ H2 F2 S2 p (e1.trans e2) R2 ((r.mono e2.1).append r2)⟩
theorem wg_unl {n : Nat} {gs : TGs} {ds : List D} {P : Sl → Sto → Prop} (hn : ds.length = n) (h : WGs K B gs ds Γ S P) : WG K B (gUnl K n gs) (.lst ds) Γ S P := fun F σ H v R r Q q => by
  cases r with | lst a b => exact ⟨_, _, rfl, Evl.sq_of (R.ex _ _ a), by rw [b.length]; exact hn, h F σ H _ R b _ q⟩
end
end DL
/-! DLT: texts as lists of codes -/
namespace DL
open PySem L2
abbrev Tx := List Nat
def mk (l : Tx) : Str := ⟨l.toArray⟩
theorem mk_cps (l : Tx) : (mk l).cps.toList = l := by simp [mk]
theorem mk_length (l : Tx) : (mk l).length = l.length := by simp [mk, Str.length]
theorem mk_append (a b : Tx) : mk a ++ mk b = mk (a ++ b) := by
  show (⟨(mk a).cps ++ (mk b).cps⟩ : Str) = _
  simp [mk]
theorem mk_inj {a b : Tx} (h : mk a = mk b) : a = b := by
  have := congrArg (fun z : Str => z.cps.toList) h
  simpa [mk] using this
theorem mk_eta (z : Str) : mk z.cps.toList = z := by simp [mk]
theorem mk_beq (a b : Tx) : (mk a == mk b) = decide (a = b) := by
  by_cases h : a = b
  · subst h; simp
  · have : ¬ mk a = mk b := fun z => h (mk_inj z)
    simp [h, this]
theorem mk_dec (a b : Tx) : decide (mk a = mk b) = decide (a = b) := by
  by_cases h : a = b
  · subst h; simp
  · have : ¬ mk a = mk b := fun z => h (mk_inj z)
    simp [h, this]
theorem cut_mk (l : Tx) (lo hi : Option Int) : cutS (mk l) lo hi = mk (cutD l lo hi) := by
  unfold cutS cutD
  rw [mk_cps, mk_length]
  rfl
theorem rev_mk (l : Tx) : (⟨(mk l).cps.reverse⟩ : Str) = mk l.reverse := by simp [mk]
theorem signs_mk (l : Tx) : signsD (mk l) = l.map fun c => .str (mk [c]) := by unfold signsD; rw [mk_cps]; rfl
theorem subAt_mk (a b : Tx) (i : Nat) : Builtin.Str.subAt (mk a) (mk b) i = decide ((a.drop i).take b.length = b) := by
  unfold Builtin.Str.subAt
  have e : (mk a).cps.extract i (i + (mk b).length) = ((a.drop i).take b.length).toArray := by
    rw [mk_length]
    apply Array.ext'
    simp [mk, Array.toList_extract, List.extract_eq_take_drop]
  rw [e]
  by_cases h : (a.drop i).take b.length = b
  · rw [h]; simp [mk]
  · have : ¬ ((a.drop i).take b.length).toArray = (mk b).cps := fun z => h (by
      have := congrArg Array.toList z
      simpa [mk] using this)
    simp [h, this]
theorem occurs_mk (a b : Tx) : occurs (mk a) (mk b) = true ↔ ∃ i, i + a.length ≤ b.length ∧ (b.drop i).take a.length = a := by
  unfold occurs
  rw [show (!(Builtin.Str.occurrences (mk b) (mk a) 0 (mk b).length 1).isEmpty) = true ↔ _ from StrLaws.found_iff (mk b) (mk a)]
  simp only [mk_length, subAt_mk, decide_eq_true_eq]
theorem occurs_iff (a b : Tx) : occurs (mk a) (mk b) = true ↔ a <:+: b := by
  rw [occurs_mk]
  constructor
  · rintro ⟨i, h1, h2⟩
    refine ⟨b.take i, b.drop (i + a.length), ?_⟩
    have e : b.drop (i + a.length) = (b.drop i).drop a.length := by rw [List.drop_drop]
    rw [e]
    conv => lhs; arg 1; arg 2; rw [← h2]
    rw [List.append_assoc, List.take_append_drop, List.take_append_drop]
  · rintro ⟨u, v, rfl⟩
    refine ⟨u.length, by simp, ?_⟩
    simp
theorem ends_mk (a b : Tx) : Txt.endswith (mk a) (mk b) = decide (b <:+ a) := by
  unfold Txt.endswith
  rw [subAt_mk, mk_length, mk_length]
  by_cases h : b <:+ a
  · obtain ⟨t, rfl⟩ := h
    simp
  · rw [decide_eq_false h]
    by_cases hl : 0 + b.length ≤ a.length
    · rw [decide_eq_true hl, Bool.true_and]
      refine decide_eq_false fun e => h ⟨a.take (a.length - b.length), ?_⟩
      have : (a.drop (a.length - b.length)).take b.length = a.drop (a.length - b.length) := List.take_of_length_le (by simp; omega)
      rw [this] at e
      conv => lhs; arg 2; rw [← e]
      rw [List.take_append_drop]
    · rw [decide_eq_false hl, Bool.false_and]
theorem join_mk_nil (zs : List Tx) : Txt.join (mk []) (zs.map mk) = mk zs.flatten := by
  show Builtin.Str.glued (mk []) (zs.map mk) = _
  unfold Builtin.Str.glued
  have aux : ∀ (l : List Tx) (acc : Array Nat), (l.map mk).foldl (fun acc p => acc ++ (mk []).cps ++ p.cps) acc = acc ++ l.flatten.toArray := by
    intro l
    induction l with
    | nil => intro acc; simp
    | cons x l ih => intro acc; simp only [List.map_cons, List.foldl_cons]; rw [ih]; simp [mk]
  cases zs with
  | nil => simp [mk, Str.empty]
  | cons x l =>
    simp only [List.map_cons, List.drop_succ_cons, List.drop_zero, List.headD_cons]
    rw [aux]
    simp [mk]
theorem shaped_mk (l : Tx) (h : ∀ c ∈ l, c < 0x110000) : SeqAt.shaped (.str (mk l)) = true := by
  unfold SeqAt.shaped
  have : PyData.strOk (mk l) = true := by
    unfold PyData.strOk
    rw [Array.all_eq_true_iff_forall_mem]
    intro c hc
    exact decide_eq_true (h c (by simpa [mk] using hc))
  show (PyData.strOk (mk l) && decide (PyData.depth (.str (mk l)) ≤ 64)) = true
  rw [this]
  rfl
end DL
/-! DL7: pure comprehensions, dicts, the steps by one word -/
namespace DL
open PySem L2
section
variable {K : PySem.W.Frag} {B F F' : Hp} {Γ : Sl} {S : Sto} {σ : L2.St} {H : Hp} {P : D → Sto → Prop} {PB : Bool → Sto → Prop} {x y d : D} {te ta tb td ty : TE} {tt tu : TT} {k : Ko}
theorem map_get {α : Type} {enc : α → D} {xs : List α} {i : Nat} {d : D} (h : (xs.map enc)[i]? = some d) : ∃ x, xs[i]? = some x ∧ d = enc x := by
  rw [List.getElem?_map] at h
  cases e : xs[i]? with
  | none => rw [e] at h; cases h
  | some x => rw [e] at h; cases h; exact ⟨x, rfl, rfl⟩
theorem take_next {α : Type} {l : List α} {i : Nat} {x : α} (h : l[i]? = some x) : l.take (i + 1) = l.take i ++ [x] := by
  rw [List.take_add_one, h]; rfl
/-- a comprehension that changes nothing: the items are enc x for x in xs; p tells which stay, f what they become -/
theorem we_lcP {α : Type} (xs : List α) (enc : α → D) (f : α → D) (p : α → Bool) {wi : TI} {g : TG} {vs : List Nat} (hg : GLoc g vs)
    (h : WI K B wi Γ S fun ds Lk S1 => ds = xs.map enc ∧ xs.length ≤ sizeLine ∧ Lk S1 ∧
      (∀ x ∈ xs, WG K B g (enc x) (wipeD Γ vs) S1 fun Γ2 S2 => WT K B tt Γ2 S2 fun b S3 => b = p x ∧ S3 = S1 ∧ (p x = true → WE K B te Γ2 S3 fun y S4 => y = f x ∧ S4 = S1)) ∧ P (.lst ((xs.filter p).map f)) S1) :
    WE K B (tLc wi g tt te vs) Γ S P := by
  refine we_lc hg fun F σ H R Q k => h F σ H R Q fun J ds Lk H' F' S' ⟨e, hl, lk, hx, q⟩ => k J ds Lk H' F' S' ?_
  subst e
  refine ⟨by rw [List.length_map]; exact hl, fun i acc S => acc = ((xs.take i).filter p).map f ∧ S = S', ⟨rfl, rfl⟩, fun i acc S z => z.2 ▸ lk, fun i d acc S hd z => ?_, fun acc S _ z => ?_⟩
  · obtain ⟨x, hxi, rfl⟩ := map_get hd
    obtain ⟨rfl, rfl⟩ := z
    refine fun F σ H v R r Q k => hx x (List.mem_of_getElem? hxi) F σ H v R r Q fun Γ2 S2 F2 σ2 H2 h2 => k Γ2 S2 F2 σ2 H2 (h2.imp fun b S3 ⟨hb, hs, he⟩ => ?_)
    subst hb
    cases hp : p x with
    | true =>
      rw [if_pos rfl]
      refine (he hp).imp fun y S4 ⟨hy, h4⟩ => ⟨?_, h4⟩
      rw [hy, take_next hxi, List.filter_append, List.filter_cons_of_pos hp, List.filter_nil, List.map_append]; rfl
    | false =>
      rw [if_neg (by simp)]
      refine ⟨?_, hs⟩
      rw [take_next hxi, List.filter_append, List.filter_cons_of_neg (by simp [hp]), List.filter_nil, List.append_nil]
  · obtain ⟨rfl, rfl⟩ := z
    rw [List.length_map, List.take_length]
    exact q
/-- without an if -/
theorem we_lcM {α : Type} (xs : List α) (enc : α → D) (f : α → D) {wi : TI} {g : TG} {vs : List Nat} (hg : GLoc g vs)
    (h : WI K B wi Γ S fun ds Lk S1 => ds = xs.map enc ∧ xs.length ≤ sizeLine ∧ Lk S1 ∧
      (∀ x ∈ xs, WG K B g (enc x) (wipeD Γ vs) S1 fun Γ2 S2 => S2 = S1 ∧ WE K B te Γ2 S2 fun y S4 => y = f x ∧ S4 = S1) ∧ P (.lst (xs.map f)) S1) :
    WE K B (tLc wi g tYes te vs) Γ S P := by
  refine we_lcP xs enc f (fun _ => true) hg fun F σ H R Q k => h F σ H R Q fun J ds Lk H' F' S' ⟨e, hl, lk, hx, q⟩ => k J ds Lk H' F' S' ⟨e, hl, lk, fun x hm => ?_, ?_⟩
  · exact fun F σ H v R r Q k => hx x hm F σ H v R r Q fun Γ2 S2 F2 σ2 H2 h2 e2 => k Γ2 S2 F2 σ2 H2 (wt_yes ⟨rfl, h2.1, fun _ => h2.2⟩) e2
  · rw [List.filter_eq_self.mpr fun _ _ => rfl]; exact q
end
end DL
/-! DLZ: len(set(ints)), sorted(set(texts)), dict(pairs with tuples as keys) -/
namespace DL
open PySem PySem.Spec L2 PyProof.Rows
def tLenSetX (K : PySem.W.Frag) (te : TE) : TE := fun σ H Q => te σ H fun x H1 => ∃ (l : Addr) (ns : List Int), x = .ref l ∧ SqT K H1 l (ns.map V.int) ∧ ns.length < 64 ∧ ns.Nodup ∧ Q (.int ns.length) H1
def tSortedSet (K : PySem.W.Frag) (te : TE) : TE := fun σ H Q => te σ H fun x H1 => ∃ (l : Addr) (zs : List Str), x = .ref l ∧ SqT K H1 l (zs.map V.str) ∧ zs.length < 64 ∧
  ∀ ys p, ys.Nodup → (∀ z, z ∈ ys ↔ z ∈ zs) → sortedS ys = true → H1 p = none → Q (.ref p) (upd H1 p (.lst (ys.map V.str)))
def rc_dictT (K : PySem.W.Frag) : List V → Hp → VK → Prop := fun xs H Q => ∃ (a : Addr) (ps : List (Addr × Addr × List Key × V)), xs = [.ref a] ∧ SqL K H a (ps.map fun p => .ref p.1) ∧
  (∀ p ∈ ps, H p.1 = some (.tup [.ref p.2.1, p.2.2.2]) ∧ H p.2.1 = some (.tup (p.2.2.1.map kV))) ∧ ps.length ≤ 4096 ∧ ∀ q, H q = none → Q (.ref q) (upd H q (.dT (ps.foldl (fun acc p => putK acc p.2.2.1 p.2.2.2) [])))
theorem nodup_le' {α : Type} [DecidableEq α] : ∀ (a b : List α), a.Nodup → (∀ x ∈ a, x ∈ b) → a.length ≤ b.length
  | [], b, _, _ => Nat.zero_le _
  | x :: a, b, nd, h => by
    obtain ⟨n1, n2⟩ := List.nodup_cons.mp nd
    have m := h x List.mem_cons_self
    have i := nodup_le' a (b.erase x) n2 fun y hy => (List.mem_erase_of_ne (fun e => n1 (by rw [← e]; exact hy))).mpr (h y (List.mem_cons_of_mem _ hy))
    rw [List.length_erase_of_mem m] at i
    have := List.length_pos_of_mem m
    simp only [List.length_cons]
    omega
section
variable {X : Cx} {e : Expr} {te : TE} {p p2 q pos : Pos}
theorem pe_lenSetX (hc : X.calm = true) (hg : Gl X "len") (hm : X.mg "len" = none) (hg2 : Gl X "set") (hm2 : X.mg "set" = none) (he : PE X e te)
    (na : starEach [e] X.env = (false, eval e X.env) :: starEach [] X.env := by rfl) : PE X (.Call (.Name "len" p) [.Call (.Name "set" p2) [e] [] q] [] pos) (tLenSetX X.K te) := by
  constructor
  intro pins s σ H Q I h
  refine Call_ (ld_blt I hg hm PySem.boot_len (PyProof.Rows.callWith_builtin1 (PyProof.Rows.args_cons ?_ rfl) rfl rfl))
  refine Call_ (ld_blt I hg2 hm2 PyProof.Rows.boot_set (PyProof.Rows.callWith_type1 (PyProof.Rows.args_cons (thn (he.run pins s σ H _ I h) fun v s1 ⟨x, H1, I1, r1, q1⟩ => PyProof.Rows.args_nil ?_) na) na rfl))
  obtain ⟨l, ns, rfl, hq, h1, hnd, q1⟩ := q1
  cases r1
  obtain ⟨its, r, pl, _⟩ := I1.tuple hq
  refine call_set_tupI ns (I1.ok.hd hc) pl (by simpa using r.ints) (by unfold scanBound; omega) fun h' tk c hS hcl hk => PyProof.Rows.args_nil ?_
  obtain ⟨o, es, ep, t, ho, hex, hd, _, nd, hmm, _, hf, hn, _⟩ := hS
  have e1 : ns.length ≤ es.size := by
    have := nodup_le' ns (es.toList.map keyOf) hnd fun x hx => (hmm x).mp (decide_eq_true hx)
    simpa using this
  have hc2 : es.size = ns.length := by omega
  exact call_len_set ho hex hd hf (by rw [hc2] <;> omega) ⟨.int ns.length, H1, (I1.kept (t' := tk) hk).tok _, ⟨_, by rw [hc2]⟩, q1⟩
/-! ### dict(pairs) -/
theorem val2 {b : Addr} {v : V} {us : List Value} (r : Vals [V.ref b, v] us) : ∃ u, us = [.ref b, u] ∧ RelV v u := by
  cases r with
  | cons r1 r2 =>
    cases r1
    cases r2 with
    | cons r3 r4 => cases r4; exact ⟨_, rfl, r3⟩
theorem vals_refs' : ∀ {l : List Addr} {us : List Value}, Vals (l.map V.ref) us → us = l.map Value.ref
  | [], _, .nil => rfl
  | _ :: l, _, .cons r t => by cases r; rw [vals_refs' t]; rfl
theorem putK_len (kvs : List (List Key × V)) (key : List Key) (v : V) : (putK kvs key v).length ≤ kvs.length + 1 := by unfold putK; split <;> simp
theorem fold_len : ∀ (ps : List (Addr × Addr × List Key × V)) (kvs : List (List Key × V)), (ps.foldl (fun acc p => putK acc p.2.2.1 p.2.2.2) kvs).length ≤ kvs.length + ps.length
  | [], kvs => Nat.le_refl _
  | p :: ps, kvs => by
    have i := fold_len ps (putK kvs p.2.2.1 p.2.2.2)
    have j := putK_len kvs p.2.2.1 p.2.2.2
    simp only [List.foldl_cons, List.length_cons]
    omega
theorem pairs_rd {pins : List (Addr × Obj)} {σ : L2.St} {H : Hp} {s : Shared} (I : Inv X pins σ H s) : ∀ ps : List (Addr × Addr × List Key × V), (∀ p ∈ ps, H p.1 = some (.tup [.ref p.2.1, p.2.2.2]) ∧ H p.2.1 = some (.tup (p.2.2.1.map kV))) →
    ∃ ws : List (List Key × Addr × Value), Paired (fun (p : Addr × Addr × List Key × V) (w : List Key × Addr × Value) => p.2.2.1 = w.1 ∧ p.2.1 = w.2.1 ∧ RelV p.2.2.2 w.2.2 ∧ s.heap.IsTuple p.1 #[.ref w.2.1, w.2.2] ∧ H w.2.1 = some (.tup (w.1.map kV))) ps ws
  | [], _ => ⟨[], .nil⟩
  | p :: ps, h => by
    obtain ⟨ws, i⟩ := pairs_rd I ps fun x hx => h x (List.mem_cons_of_mem _ hx)
    obtain ⟨h1, h2⟩ := h p List.mem_cons_self
    obtain ⟨_, its, r, pl⟩ := I.hok _ _ h1
    obtain ⟨u, rfl, ru⟩ := val2 r
    exact ⟨(p.2.2.1, p.2.1, u) :: ws, .cons ⟨rfl, rfl, ru, pl, h2⟩ i⟩
theorem paired_len {α β : Type} {R : α → β → Prop} {a : List α} {b : List β} (h : Paired R a b) : a.length = b.length := by
  induction h with | nil => rfl | cons _ _ ih => simp [ih]
theorem paired_get {α β : Type} {R : α → β → Prop} {a : List α} {b : List β} (h : Paired R a b) : ∀ {j : Nat} {y : β}, b[j]? = some y → ∃ x, a[j]? = some x ∧ R x y := by
  induction h with
  | nil => intro j y e; simp at e
  | cons r t ih =>
    intro j y e
    cases j with
    | zero => simp at e; subst e; exact ⟨_, by simp, r⟩
    | succ j => simp at e; obtain ⟨x, h1, h2⟩ := ih e; exact ⟨x, by simpa using h1, h2⟩
theorem kt_fold {H : Hp} {h : Heap} {ps : List (Addr × Addr × List Key × V)} {ws : List (List Key × Addr × Value)} (r : Paired (fun (p : Addr × Addr × List Key × V) (w : List Key × Addr × Value) => p.2.2.1 = w.1 ∧ p.2.1 = w.2.1 ∧ RelV p.2.2.2 w.2.2 ∧ h.IsTuple p.1 #[.ref w.2.1, w.2.2] ∧ H w.2.1 = some (.tup (w.1.map kV))) ps ws) :
    ∀ {kvs : List (List Key × V)} {xs : List (List Key × Addr × Value)}, KT H kvs xs → KT H (ps.foldl (fun acc p => putK acc p.2.2.1 p.2.2.2) kvs) (storedAllH xs ws) := by
  induction r with
  | nil => intro kvs xs k; exact k
  | cons r t ih =>
    intro kvs xs k
    obtain ⟨r1, r2, r3, r4, r5⟩ := r
    simp only [List.foldl_cons]
    unfold storedAllH
    rw [List.foldl_cons, r1]
    exact ih (k.put _ r5 r3)
theorem ca_dictT (hc : X.calm = true) (hu : X.A.units + 64 < cLine) : CallR X (.type "dict") (rc_dictT X.K) := by
  intro pins s σ H xs us Q I r ⟨a, ps, ex, hs, hp, hl, q⟩
  subst ex
  obtain ⟨its, rv, pl, hz⟩ := I.list hs
  rw [Vals.ref1 r]
  obtain ⟨ws, hw⟩ := pairs_rd I ps hp
  have wl : ps.length = ws.length := paired_len hw
  have hits : its = (ps.map (·.1)).map Value.ref := vals_refs' (by rw [List.map_map]; exact rv)
  have hfr : H s.heap.objs.size = none := I.hok.fresh (Nat.le_refl _)
  have hkey : ∀ x ∈ ws, H x.2.1 = some (.tup (x.1.map kV)) := fun x hx => by
    obtain ⟨j, hj⟩ := List.mem_iff_getElem?.mp hx
    obtain ⟨p, _, _, _, _, _, h5⟩ := paired_get hw hj
    exact h5
  refine PySem.call_dict_pairsH (knd := tupleKind (mixKind X.prog X.w)) (ps := ws) (PySem.PairArg.list a its.toArray (fun j => (ps.map (·.1)).getD j 0) (ws.map fun w => (Value.ref w.2.1, w.2.2))) (I.ok.hd hc) ?_ ⟨?_, ?_, ?_⟩ ⟨?_, ?_⟩ ?_ ?_ fun h' tk hd hk => ?_
  · show X.A.in1.in1.units < cLine
    show X.A.units + 1 + 1 < cLine
    omega
  · obtain ⟨o, n, h1, h2, h3, h4⟩ := pl
    exact ⟨o, n, h1, h2, h3, h4⟩
  · rw [hits]; simp [wl]
  · intro j k v hj
    rw [List.getElem?_map] at hj
    obtain ⟨w, hwj, e⟩ := Option.map_eq_some_iff.mp hj
    obtain ⟨p, hpj, h1, h2, h3, h4, h5⟩ := paired_get hw hwj
    cases e
    have e1 : (ps.map (·.1)).getD j 0 = p.1 := by simp [List.getD, hpj]
    refine ⟨?_, .inl ?_⟩
    · show its.toArray[j]? = some (.ref ((ps.map (·.1)).getD j 0))
      rw [hits, e1]; simp [hpj]
    · show s.heap.IsTuple ((ps.map (·.1)).getD j 0) _
      rw [e1]; exact h4
  · simp
  · intro i key v hr
    have hr' : (ws.map fun w => (Value.ref w.2.1, w.2.2))[i]? = some (key, v) := hr
    rw [List.getElem?_map] at hr'
    obtain ⟨w, hwj, e⟩ := Option.map_eq_some_iff.mp hr'
    cases e
    exact ⟨w.1, w.2.1, hwj, rfl⟩
  · intro h' hk x hx
    obtain ⟨o, its2, n, g1, g2, g3, g4⟩ := key_of I.hok (hkey x hx)
    exact ⟨o, its2, n, hk _ _ (Nat.ne_of_lt (Heap.lt_size g1)) (by simp) g1, g2, g3, g4⟩
  · rw [List.length_map, ← wl]; exact Nat.le_trans hl (by decide)
  · refine ⟨.ref s.heap.objs.size, upd H s.heap.objs.size (.dT (ps.foldl (fun acc p => putK acc p.2.2.1 p.2.2.2) [])), I.laid (t' := tk) (fun b o e => hk b o (by simp) e) (Nat.le_refl _) ?_, rfl, q _ hfr⟩
    obtain ⟨o, es, ep, d1, d2, d3, d4, d5, d6⟩ := hd
    have fl := fold_len ps []
    refine ⟨Nat.le_trans (Nat.le_trans fl (by simpa using hl)) (by decide), beq_eq_false_iff_ne.mpr (Ne.symm (Nat.ne_of_lt I.big)), storedAllH [] ws, ?_, o, es, ep, d1, d2, d3, d4, d6⟩
    have kt : KT H (ps.foldl (fun acc p => putK acc p.2.2.1 p.2.2.2) []) (storedAllH [] ws) := kt_fold hw .nil
    exact kt.keeps fun b ys hb => by rw [upd_ne (fun z => by rw [z, hfr] at hb; cases hb)]; exact hb
end
end DL
/-! DLZ2: set(a tuple of texts), sorted -/
namespace DL
open PySem PySem.Spec L2 PyProof.Rows
open PySem.Froz (SD sObj addTx tailTx TxOk add_x add_ok is_str)
/-- the table rises, and can be walked -/
structure TR (w : World) (D : SD) : Prop where
  ris : Ris D.2.2.place.toList
  led : w.params.followText "set-order" = true ∨ D.2.2.led = true
theorem TR.tail {w : World} {ep : Nat} {es : Array (Int × Value)} {t : SetTable} {b : Bool} (R : TR w (es, ep, t)) : TR w (tailTx ep es t b) := by
  unfold tailTx
  split
  · exact ⟨relayAll_ris t es _, R.led.imp id fun z => by show (relayAll t es _).2.1.led = true; rw [relayAll_led]; exact z⟩
  · exact ⟨R.ris, R.led⟩
theorem TR.add {w : World} {D : SD} (R : TR w D) (h : Int) (v : Value) : TR w (addTx h v D) := by
  have r := layNew_ris D.2.2 D.1 h v R.ris
  have l : w.params.followText "set-order" = true ∨ (layNew D.2.2 D.1 h v).2.1.led = true := R.led.imp id fun z => by rw [layNew_led]; exact z
  unfold addTx
  refine TR.tail ⟨?_, ?_⟩
  · show Ris (if _ then _ else _ : SetTable).place.toList
    split <;> exact r
  · show _ ∨ (if _ then _ else _ : SetTable).led = true
    split <;> exact l
section
variable {P : Program} {w : World} {A : Around} {E : Value → Shared → Prop} {s : Shared}
/-- the add of a text that is in -/
theorem dup_x {a : Addr} {T : String} {D : SD} {l : List Str} {k : Str} {u : Tok} {Q : Bool → Shared → Prop} (g : s.heap.get? a = some (sObj T D)) (F : TxOk P w D l) (m : k ∈ l) (b : l.length < scanBound)
    (q : Q false s) : wpAny (model P w) A (setAddHashed a (.str k u) (hashStr w k)) Q E s := by
  obtain ⟨es, ep, t⟩ := D
  have z : es.size < scanBound := by have : es.size = l.length := F.sz; omega
  unfold setAddHashed setAddHashedIn; refine wpAny_holding (wpAny_bind (wpAny_setState_of g (es := es) (ep := ep) (t := t) rfl F.fit ?_))
  dsimp only; rw [byScan_of rfl z F.el]
  simp only [↓reduceIte]
  unfold setAddByScan; refine wpAny_bind (wpAny_bind (wpAny_rule (wpAny_bind (wpAny_setScan_of (knd := strKind P w) (k := k) (is_str k u) g (es := es) (ep := ep) (t := t) rfl F.fit F.el ?_))))
  cases c : es.toList.findIdx? (fun e => (strKind P w).is k e.2) with
  | none =>
    obtain ⟨e, he, y⟩ := (F.mem k).mp m
    have := List.findIdx?_eq_none_iff.mp c e he
    rw [y] at this; cases this
  | some j => dsimp only; exact wpAny_pure (wpAny_pure q)
/-- the set at a holds just the texts of l -/
structure Holds (P : Program) (w : World) (h : Heap) (a : Addr) (l : List Str) (D : SD) : Prop where
  at_ : h.get? a = some (sObj "set" D)
  ok : TxOk P w D l
  tr : TR w D
  nd : l.Nodup
theorem add_any {a : Addr} {D : SD} {l : List Str} {k : Str} {u : Tok} {Q : Bool → Shared → Prop} (H : Holds P w s.heap a l D) (b : l.length + 1 < scanBound)
    (q : ∀ (y : Bool) h' l' D', Heap.SameBut a s.heap h' → Holds P w h' a l' D' → (∀ z, z ∈ l' ↔ z = k ∨ z ∈ l) → l'.length ≤ l.length + 1 → Q y { s with heap := h' }) : wpAny (model P w) A (setAddHashed a (.str k u) (hashStr w k)) Q E s := by
  by_cases m : k ∈ l
  · exact dup_x H.at_ H.ok m (by omega) (q _ s.heap l D (Heap.SameBut.refl a s.heap) H (fun z => ⟨.inr, fun y => y.elim (fun e => by rw [e]; exact m) id⟩) (by omega))
  · refine add_x H.at_ H.ok m b (q _ _ (k :: l) _ (Heap.SameBut.update s.heap a _) ⟨PySem.Froz.get_upd _ H.at_ rfl, add_ok u H.ok, H.tr.add _ _, List.nodup_cons.mpr ⟨m, H.nd⟩⟩ (fun z => List.mem_cons) (Nat.le_refl _))
theorem upd_txts {I : Addr} {fp wr : List Addr} {G : Array GenState → Array GenState → Prop} {n : Nat} {Pv : Nat → Value → Prop} {St : Nat → Shared → Prop} {R : Result → Shared → Prop}
    (W : WalksS P w A.in1 I fp wr G n Pv St) (S : Addr) (off : S ∉ fp) (zs : List Str) (hn : n = zs.length) (hb : zs.length + 1 < scanBound) (item : ∀ i v, Pv i v → ∃ k t, zs[i]? = some k ∧ v = .str k t) :
    ∀ (k i : Nat) (s : Shared), n - i = k → i ≤ n → St i s → (∃ l D, Holds P w s.heap S l D ∧ (∀ z, z ∈ l ↔ z ∈ zs.take i) ∧ l.length ≤ i) →
      (∀ s' l D, Moved (S :: wr) G s s' → Holds P w s'.heap S l D → (∀ z, z ∈ l ↔ z ∈ zs) → l.length ≤ n → R (.ok (.ret .none)) s') →
      codeAny (model P w) A (.builtin "set.update.loop" ⟨[.ref S, .ref I], []⟩) R s := by
  have sw : S ∉ wr := fun h => off (W.sub _ h)
  have sub : ∀ b ∈ wr, b ∈ S :: wr := fun b hb => List.mem_cons_of_mem _ hb
  have mv : ∀ {s s' : Shared} {l D}, Holds P w s.heap S l D → Moved wr G s s' → Holds P w s'.heap S l D := fun x m => ⟨m.heap S _ sw x.at_, x.ok, x.tr, x.nd⟩
  intro k
  induction k with
  | zero =>
    intro i s hk hi st ⟨l, D, h1, h2, h3⟩ fin
    obtain rfl : i = n := by omega
    refine codeAny_builtin F.entry_set_update_loop ?_; rw [Around.under_plainId F.plain_set_update_loop _]
    show wpAny _ A.in1 (pyNext (.ref I) >>= _) _ _ s; refine wpAny_bind (W.done s _ _ st fun s' m => ?_)
    rw [List.take_of_length_le (by omega)] at h2
    exact wpAny_pure (fin s' l D (m.mono sub) (mv h1 m) h2 h3)
  | succ k ih =>
    intro i s hk hi st ⟨l, D, h1, h2, h3⟩ fin
    have lt : i < n := by omega
    refine codeAny_builtin F.entry_set_update_loop ?_; rw [Around.under_plainId F.plain_set_update_loop _]
    show wpAny _ A.in1 (pyNext (.ref I) >>= _) _ _ s; refine wpAny_bind (W.item i s _ _ lt st fun v s' hP st' m => ?_)
    obtain ⟨z, t, hz, rfl⟩ := item i v hP
    show wpAny _ A.in1 (holding [Value.str z t] (setAdd S (.str z t)) >>= _) _ _ s'; refine wpAny_bind (wpAny_holding ?_)
    unfold setAdd; refine wpAny_holding (wpAny_bind ((strKind P w).pyHash (k := z) (is_str z t) ?_))
    have h0 : Holds P w s'.heap S l D := mv h1 m
    refine add_any (s := { s' with toks := s'.toks + 1 }) h0 (by omega) fun y h' l' D' sb g1 g2 g3 => ?_
    refine wpAny_pure ⟨plainId_quiet F.plain_set_update_loop _, ih (i + 1) _ (by omega) lt (W.frame _ s' _ _ st' (Nat.le_succ _) fun b hb o e => ?_) ⟨l', D', g1, fun x => ?_, by omega⟩ fun s'' l2 D2 m2 q1 q2 q3 => ?_⟩
    · rw [sb.2 b (fun h : b = S => off (by rw [← h]; exact hb))]; exact e
    · rw [g2, h2, List.take_add_one, hz]; simp [List.mem_append, or_comm]
    · refine fin s'' l2 D2 (Moved.trans W.gtrans ((m.mono sub).then_heap (Nat.le_succ _) fun b o hb e => ?_) m2) q1 q2 q3
      rw [sb.2 b (fun h : b = S => hb (by rw [h]; exact List.mem_cons_self))]; exact e
/-- a set's table, when it is new -/
theorem holds_new {h : Heap} {a : Addr} (g : h.get? a = some { cls := .type "set", dict := none, data := .set #[] 0 (.fresh 0 0 (!w.params.followText "set-order")) }) : Holds P w h a [] (#[], 0, .fresh 0 0 (!w.params.followText "set-order")) :=
  ⟨g, TxOk.nil (by rfl), ⟨List.Pairwise.nil, by
    show _ ∨ (!w.params.followText "set-order") = true
    cases w.params.followText "set-order"
    · exact .inr rfl
    · exact .inl rfl⟩, List.nodup_nil⟩
theorem strs_some : ∀ (l : List Value), (∀ v ∈ l, ∃ k tk, v = Value.str k tk) → ∃ ss, StrsAre l ss
  | [], _ => ⟨[], .nil⟩
  | v :: l, h => by
    obtain ⟨k, tk, rfl⟩ := h v List.mem_cons_self
    obtain ⟨ss, i⟩ := strs_some l fun u hu => h u (List.mem_cons_of_mem _ hu)
    exact ⟨k :: ss, .cons k tk i⟩
theorem strs_get : ∀ {vs : List Value} {zs : List Str}, StrsAre vs zs → ∀ (i : Nat) (v : Value), vs[i]? = some v → ∃ k t, zs[i]? = some k ∧ v = .str k t
  | _, _, .nil, i, v, h => by simp at h
  | _, _, .cons k t r, 0, v, h => by simp at h; subst h; exact ⟨k, t, by simp, rfl⟩
  | _, _, .cons k t r, i + 1, v, h => by simp at h; obtain ⟨k', t', h1, h2⟩ := strs_get r i v h; exact ⟨k', t', by simpa using h1, h2⟩
set_option maxHeartbeats 8000000 in
theorem set_of_txts {l : Addr} {vs : Array Value} (zs : List Str) {Q : Value → Shared → Prop} (hh : A.handled = none) (tup : s.heap.IsTuple l vs) (its : StrsAre vs.toList zs) (few : zs.length + 1 < scanBound)
    (q : ∀ (h' : Heap) (tk : Nat) (xs : List Str) (D : SD), Holds P w h' s.heap.objs.size xs D → (∀ z, z ∈ xs ↔ z ∈ zs) → xs.length ≤ zs.length → (∀ b o, s.heap.get? b = some o → h'.get? b = some o) → Q (.ref s.heap.objs.size) { s with heap := h', toks := tk }) :
    wpAny (model P w) A (call (.type "set") [.ref l]) Q E s := by
  have size : vs.size = zs.length := by have z := StrsAre.length its; rw [Array.length_toList] at z; exact z
  obtain ⟨c, tl, mro⟩ := F.called_set.mro
  have made := F.called_set.made; have sub := F.called_set.sub
  refine wpAny_call (codeAny_of_tree ?_); show wpAny _ _ (callAny (.type "set") _) _ _ _
  refine wpAny_pure ⟨Code.quiet_builtin _ (by decide +kernel), codeAny_builtin F.entry_type_call ?_⟩; rw [Around.under_plain (weight_type_call_type "set" [.ref l] []) rfl]
  have f1 := F.called_set.notType; have f2 := F.called_set.canCreate; have f3 := F.typeCall_set_1 (.ref l)
  repeat (any_goals (first | assumption | wp_step))

  refine codeAny_mono (code_set_led1 (.ref l) (E := E) (Q₁ := fun x y => x = .ref s.heap.objs.size ∧ y = { s with heap := s.heap.push { cls := .type "set", dict := none, data := .set #[] 0 (.fresh 0 0 (!w.params.followText "set-order")) } }) ⟨rfl, rfl⟩) fun r s₁ hr => ?_
  cases r with
  | error e => exact hr
  | ok fl =>
    cases fl with
    | ret obj =>
      obtain ⟨rfl, rfl⟩ := hr
      have new : (s.heap.push { cls := .type "set", dict := none, data := .set #[] 0 (.fresh 0 0 (!w.params.followText "set-order")) }).get? s.heap.objs.size = some { cls := .type "set", dict := none, data := .set #[] 0 (.fresh 0 0 (!w.params.followText "set-order")) } := Heap.get?_push_size _ rfl
      have ty : Shared.TypeIs { s with heap := s.heap.push { cls := .type "set", dict := none, data := .set #[] 0 (.fresh 0 0 (!w.params.followText "set-order")) } } (.ref s.heap.objs.size) "set" := ⟨_, new, rfl⟩
      have i1 := F.called_set.init.lookup; have i2 := F.called_set.init.bind (.ref s.heap.objs.size)
      repeat (any_goals (first | assumption | wp_step))

      refine codeAny_mono (codeAny_call_builtin (R := wants (fun r s₂ => r = .none ∧ ∃ h' tk xs D, s₂ = { s with heap := h', toks := tk } ∧ Holds P w h' s.heap.objs.size xs D ∧ (∀ z, z ∈ xs ↔ z ∈ zs) ∧ xs.length ≤ zs.length ∧
          (∀ b o, s.heap.get? b = some o → h'.get? b = some o)) E) F.called_set.init.plain F.entry_set_init (check_set_init_1 ty ?_)) fun r₂ s₂ hr₂ => ?_
      · obtain ⟨⟨oc, od, odt, osl⟩, g0, g1, nl, g2⟩ := tup
        simp only at g1 g2
        subst g1; subst g2
        have g3 : (s.heap.push { cls := .type "set", dict := none, data := .set #[] 0 (.fresh 0 0 (!w.params.followText "set-order")) }).get? l = some { cls := .type "tuple", dict := od, data := .seq vs nl, slots := osl } := Heap.get?_push_of_some _ g0
        have k1 := F.sub_tuple_set; have k2 := F.sub_tuple_frozenset
        have k3 : (Value.type "tuple" == Value.type "dict") = false := by decide
        have tup1 : (s.heap.push { cls := .type "set", dict := none, data := .set #[] 0 (.fresh 0 0 (!w.params.followText "set-order")) }).IsTuple l vs := ⟨_, g3, rfl, nl, rfl⟩
        unfold Builtin.«set.__init__» noKeywords Builtin.Frozenset.updateFrom
        generalize hPI : pyIter = PI
        wp_walk
        subst hPI

        refine wpAny_pyIter_tuple tup1 (wpAny_bind (wpAny_runValue ?_))
        have l1 : l < s.heap.objs.size := Heap.lt_size g0
        have h3 : A.in1.in1.in1.handled = none := by simp [hh]
        have l2 : l ≠ (s.heap.push { cls := .type "set", dict := none, data := .set #[] 0 (.fresh 0 0 (!w.params.followText "set-order")) }).objs.size := by rw [Heap.size_push]; exact Nat.ne_of_lt (Nat.lt_succ_of_lt l1)
        have l3 : s.heap.objs.size ∉ [(s.heap.push { cls := .type "set", dict := none, data := .set #[] 0 (.fresh 0 0 (!w.params.followText "set-order")) }).objs.size, l] := by
          rw [Heap.size_push]; simp only [List.mem_cons, List.not_mem_nil, or_false, not_or]; exact ⟨Nat.ne_of_lt (Nat.lt_succ_self _), Nat.ne_of_gt l1⟩
        have item : ∀ (i : Nat) (v : Value), vs[i]? = some v → ∃ k t, zs[i]? = some k ∧ v = .str k t := fun i v hv => strs_get its i v (by rw [Array.getElem?_toList]; exact hv)
        refine upd_txts ((Walks.tuple h3 _ l l2 vs).toS) s.heap.objs.size l3 zs size few item (vs.size - 0) 0 _ (by omega) (Nat.zero_le _) ⟨⟨_, Heap.get?_push_size _ rfl, rfl, rfl⟩, (tup1.push _)⟩ ?h0 ?hR
        case h0 => exact ⟨[], _, holds_new (Heap.get?_push_of_some _ new), fun z => by simp, Nat.le_refl 0⟩
        case hR =>
          intro s' xs D m hd q1 q2
          obtain ⟨h', g2, d', tk', os'⟩ := s'
          have eg : g2 = s.gens := m.gens; have ed : d' = s.drawn := m.drawn; have eo : os' = s.os := m.os
          subst eg ed eo
          show wpAny _ _ _ _ _ _
          refine wpAny_pure ?_
          show wpAny _ _ (ret Value.none) _ _ _
          rw [size] at q2
          refine wpAny_pure ⟨rfl, h', tk', xs, D, rfl, hd, q1, q2, fun b o e => ?_⟩
          have b0 : b < s.heap.objs.size := Heap.lt_size e
          have b2 : b ≠ (s.heap.push { cls := .type "set", dict := none, data := .set #[] 0 (.fresh 0 0 (!w.params.followText "set-order")) }).objs.size := by rw [Heap.size_push]; exact Nat.ne_of_lt (Nat.lt_succ_of_lt b0)
          exact m.heap b o (by simp only [List.mem_cons, List.not_mem_nil, or_false, not_or]; exact ⟨Nat.ne_of_lt b0, b2⟩) (Heap.get?_push_of_some _ (Heap.get?_push_of_some _ e))
      · cases r₂ with
        | error e => exact hr₂
        | ok fl₂ =>
          cases fl₂ with
          | ret r =>
            obtain ⟨rfl, h', tk, xs, D, rfl, q1, q2, q3, q4⟩ := hr₂
            repeat (any_goals (first | assumption | wp_step))
            exact q _ _ _ _ q1 q2 q3 q4
          | _ => exact hr₂.elim
    | _ => exact hr.elim
end
end DL
/-! DLZ3: sorted(set(a tuple of texts)) -/
namespace DL
open PySem PySem.Spec L2 PyProof.Rows
open PySem.Froz (SD sObj addTx tailTx TxOk add_x add_ok is_str)
theorem is_txt {k : Str} {v : Value} {P : Program} {w : World} (h : (strKind P w).is k v = true) : ∃ u, v = .str k u := by
  have h' : Value.isStrOf k v = true := h
  cases v <;> first | (simp [Value.isStrOf] at h'; done) | skip
  rename_i z u
  simp [Value.isStrOf] at h'
  subst h'
  exact ⟨u, rfl⟩
section
variable {P : Program} {w : World} {A : Around} {E : Value → Shared → Prop} {s : Shared}
theorem perm_of_same {α : Type} [DecidableEq α] : ∀ {a b : List α}, a.Nodup → b.Nodup → (∀ x, x ∈ a ↔ x ∈ b) → a.Perm b
  | [], [], _, _, _ => .refl _
  | [], y :: b, _, _, h => by have := (h y).mpr List.mem_cons_self; cases this
  | x :: a, b, na, nb, h => by
    obtain ⟨n1, n2⟩ := List.nodup_cons.mp na
    have m := (h x).mp List.mem_cons_self
    refine (List.Perm.cons x (perm_of_same n2 (nb.erase x) fun y => ?_)).trans (List.perm_cons_erase m).symm
    rw [List.Nodup.mem_erase_iff nb]
    constructor
    · intro hy; exact ⟨fun e => n1 (by rw [← e]; exact hy), (h y).mp (List.mem_cons_of_mem _ hy)⟩
    · rintro ⟨e, hy⟩
      rcases List.mem_cons.mp ((h y).mpr hy) with q | q
      · exact absurd q e
      · exact q
theorem nodup_of_len {α : Type} [DecidableEq α] : ∀ {ss xs : List α}, xs.Nodup → (∀ x, x ∈ xs → x ∈ ss) → ss.length ≤ xs.length → ss.Nodup
  | [], _, _, _, _ => List.nodup_nil
  | x :: ss, xs, nd, h, hl => by
    have out : x ∉ ss := fun m => by
      have := nodup_le' xs ss nd fun y hy => (List.mem_cons.mp (h y hy)).elim (fun e => by rw [e]; exact m) id
      simp only [List.length_cons] at hl; omega
    by_cases m : x ∈ xs
    · refine List.nodup_cons.mpr ⟨out, nodup_of_len (nd.erase x) (fun y hy => ?_) ?_⟩
      · have hy' := (List.Nodup.mem_erase_iff nd).mp hy
        exact (List.mem_cons.mp (h y hy'.2)).elim (fun e => absurd e hy'.1) id
      · rw [List.length_erase_of_mem m]; simp only [List.length_cons] at hl; omega
    · have := nodup_le' xs ss nd fun y hy => (List.mem_cons.mp (h y hy)).elim (fun e => absurd (by rw [← e]; exact hy) m) id
      simp only [List.length_cons] at hl; omega
theorem sorted_txts {a : Addr} {xs : List Str} {D : SD} {Q : Value → Shared → Prop} (H : Holds P w s.heap a xs D) (hh : A.handled = none) (few : xs.length < 64)
    (q : ∀ s' p (out : Array Value) (c : Nat) (ys : List Str), (∀ b o, s.heap.get? b = some o → s'.heap.get? b = some o) → s'.gens = s.gens → s'.os = s.os → s.heap.objs.size ≤ p →
      s'.heap.get? p = some (seqObj "list" out c) → StrsAre out.toList ys → ys.Nodup → (∀ z, z ∈ ys ↔ z ∈ xs) → sortedS ys = true → Q (.ref p) s') :
    wpAny (model P w) A (call (.builtin "sorted") [.ref a]) Q E s := by
  obtain ⟨es, ep, t⟩ := D
  obtain ⟨h1, h2, h3, h4⟩ := H
  have sz : es.size = xs.length := h2.sz
  refine Calls.call_function_entry kind_sorted plain_sorted entry_sorted (args_sorted1 _) ?_; unfold Builtin.«sorted»
  refine wpAny_bind (m := checkCount "sorted" 1 1 _) (wpAny_pure ?_)
  refine wpAny_bind (collect_set (A := A.in1) hh ⟨_, h1, rfl, rfl⟩ h2.fit (by show es.size < scanBound; unfold scanBound; omega) h3.ris h3.led fun s1 vs k1 z1 g1 o1 pm => ?_)
  have vl : vs.length = xs.length := by rw [pm.length_eq, List.length_map, Array.length_toList]; exact sz
  obtain ⟨ss, hS⟩ := strs_some vs fun v hv => by
    obtain ⟨e, he, y⟩ := List.mem_map.mp (pm.mem_iff.mp hv)
    obtain ⟨⟨k, hk, _⟩, _⟩ := h2.el e he
    obtain ⟨u, hu⟩ := is_txt hk
    exact ⟨k, u, by rw [← y]; exact hu⟩
  have mem : ∀ z, z ∈ ss ↔ z ∈ xs := fun z => by
    rw [h2.mem z]
    constructor
    · intro hz
      obtain ⟨i, hi⟩ := List.mem_iff_getElem?.mp hz
      have hi' : i < vs.length := by rw [StrsAre.length hS]; exact (List.getElem?_eq_some_iff.mp hi).1
      obtain ⟨k, u, e1, e2⟩ := strs_get hS i vs[i] (List.getElem?_eq_getElem hi')
      rw [hi] at e1; cases e1
      obtain ⟨e, he, y⟩ := List.mem_map.mp (pm.mem_iff.mp (List.getElem_mem hi'))
      exact ⟨e, he, by rw [y, e2]; exact is_str _ _⟩
    · rintro ⟨e, he, hk⟩
      obtain ⟨u, hu⟩ := is_txt hk
      have hv : e.2 ∈ vs := pm.mem_iff.mpr (List.mem_map.mpr ⟨e, he, rfl⟩)
      obtain ⟨i, hi⟩ := List.mem_iff_getElem?.mp hv
      obtain ⟨k, u', e1, e2⟩ := strs_get hS i _ hi
      rw [hu] at e2; cases e2
      exact List.mem_of_getElem? e1
  have sl : ss.length = xs.length := by rw [← vl]; exact (StrsAre.length hS).symm
  have nds : ss.Nodup := by
    -- as many as xs, and the same
    have := nodup_le' xs ss h4 fun x hx => (mem x).mpr hx
    exact nodup_of_len h4 (fun x hx => (mem x).mpr hx) (by omega)
  refine wpAny_bind (wpAny_newList ?_ (by rw [vl, sizeLine_eq]; omega))
  have o1' : (s1.heap.push (seqObj "list" vs.toArray 0)).get? s1.heap.objs.size = some (seqObj "list" vs.toArray 0) := Heap.get?_push_size _ rfl
  refine wpAny_bind (wpAny_holding (wpAny_call_entry slot_list_sort ⟨_, o1', rfl⟩ entry_list_sort (list_sort_treeK strKind_oneLt o1' hS.keysOf (fun v₁ v₂ rest e => keyKind_strs (by rw [← e]; exact hS)) (by rw [vl]; exact few) fun st' p1 p2 => ?_) (args_list_sort _)))
  obtain ⟨ys, y1, y2, y3⟩ := sorted_out_str hS p1 p2
  obtain ⟨c, hc⟩ := sortedHeap_at (vs := vs) (out := (arrOf st').map (·.2)) o1'
  refine ⟨_, rfl, wpAny_pure ⟨_, rfl, q _ s1.heap.objs.size _ c ys (fun b u e => ?_) g1 o1 z1 hc y1 (y2.nodup_iff.mpr nds) (fun z => by rw [y2.mem_iff, mem z]) y3⟩⟩
  have e1 := k1 b u e
  have lt := Heap.lt_size e1
  show (sortedHeap (s1.heap.push (seqObj "list" vs.toArray 0)) s1.heap.objs.size vs _).get? b = some u
  rw [sortedHeap_old (Nat.ne_of_lt lt) (by rw [size_push']; exact Nat.lt_succ_of_lt lt)]
  exact Heap.get?_push_of_some _ e1
end
section
variable {X : Cx} {e : Expr} {te : TE} {p p2 q pos : Pos}
theorem pe_sortedSet (hc : X.calm = true) (hg : Gl X "sorted") (hm : X.mg "sorted" = none) (hg2 : Gl X "set") (hm2 : X.mg "set" = none) (he : PE X e te)
    (na : starEach [e] X.env = (false, eval e X.env) :: starEach [] X.env := by rfl) : PE X (.Call (.Name "sorted" p) [.Call (.Name "set" p2) [e] [] q] [] pos) (tSortedSet X.K te) := by
  constructor
  intro pins s σ H Q I h
  refine Call_ (ld_blt I hg hm boot_sorted (PyProof.Rows.callWith_builtin1 (PyProof.Rows.args_cons ?_ rfl) rfl rfl))
  refine Call_ (ld_blt I hg2 hm2 PyProof.Rows.boot_set (PyProof.Rows.callWith_type1 (PyProof.Rows.args_cons (thn (he.run pins s σ H _ I h) fun v s1 ⟨x, H1, I1, r1, q1⟩ => PyProof.Rows.args_nil ?_) na) na rfl))
  obtain ⟨l, zs, rfl, hq, h1, q1⟩ := q1
  cases r1
  obtain ⟨its, r, pl, _⟩ := I1.tuple hq
  refine set_of_txts zs (I1.ok.hd hc) pl (by simpa using r.strs) (by unfold scanBound; omega) fun h' tk xs D hS hmm hlen hk => PyProof.Rows.args_nil ?_
  have I2 := I1.kept (t' := tk) hk
  refine sorted_txts hS (I1.ok.hd hc) (by omega) fun s' p out c ys k g o hp hgt hi nd hm2 so => ?_
  have room : (ys.map V.str).length ≤ sizeLine := by
    have := nodup_le' ys xs nd fun z hz => (hm2 z).mp hz
    rw [List.length_map, sizeLine_eq]; omega
  have fr : H1 p = none := I2.hok.fresh hp
  have ho : HOk X.prog X.w (upd H1 p (.lst (ys.map V.str))) s'.heap := I2.hok.laid k hp ⟨room, out.toList, c, vals_of_strs hi, hgt⟩
  have br : AllBare s'.gens := by rw [g]; exact I2.bare
  obtain ⟨a1, a2, a3, a4, a5⟩ := s'
  obtain ⟨b1, b2, b3, b4, b5⟩ := s1
  cases o
  exact ⟨.ref p, _, I2.call (ch := []) (Un.laid k hp fr) ho br (fun _ z => nomatch z), rfl, q1 ys p nd (fun z => (hm2 z).trans (hmm z)) so fr⟩
end
end DL
/-! DL8: boxes changed by place, frozen at the end, dicts -/
namespace DL
open PySem L2 PyProof.Rows
section
variable {K : PySem.W.Frag} {B F F' : Hp} {Γ : Sl} {S : Sto} {σ : L2.St} {H : Hp} {P : D → Sto → Prop} {PB : Bool → Sto → Prop} {x y d : D} {te ta tb td ty tv : TE} {k : Ko}
theorem we_notT (h : WE K B te Γ S fun x S1 => ∃ b, TruD S1 x b ∧ P (.bl (!b)) S1) : WE K B (tNotT K te) Γ S P := fun F σ H R Q k =>
  wt_tru (PB := fun b S1 => P (.bl (!b)) S1) h F σ H R (fun b H1 => Q (.bl (!b)) H1) fun b H' F' S' p e R' => k _ _ H' F' S' p e R' (.bl _)
theorem wg_setL {to ti : TE} {v : D} {P : Sl → Sto → Prop} (h : WE K B to Γ S fun o S1 => ∃ a, o = .ptr a ∧ WE K B ti Γ S1 fun i S2 => ∃ (j : Nat) (ds : List D), i = .int (j : Int) ∧ S2 a = some (.lst ds) ∧ j < ds.length ∧ P Γ (ups S2 a (.lst (ds.set j v)))) :
    WG K B (gSub to ti rSetL) v Γ S P := by
  refine wg_sub (h.imp fun o S1 ⟨a, ho, h1⟩ => h1.imp fun i S2 ⟨j, ds, hi, hs, hj, p⟩ => ?_)
  subst ho hi
  intro F σ H w x y R rx ry rw' Q k
  cases rx; cases ry
  obtain ⟨hob, q1, q2⟩ := R.sto a _ hs
  obtain ⟨us, rfl, q3⟩ := q2.lst_inv
  refine ⟨a, us, j, j, rfl, rfl, q1, ?_, k _ F _ p (Rel.putS hs _ _) (R.put (ho := .lst _) hs (q3.set j rw'))⟩
  have := q3.length
  unfold ixN
  rw [if_pos (by omega), if_pos (by omega)]
  simp
/-- return of a box: it is frozen -/
theorem ws_retF (h : WE K B te Γ S fun x S1 => ∃ a ds, x = .ptr a ∧ S1 a = some (.lst ds) ∧ k.rt (.lst ds) (dels S1 a)) : WS K B (tRet te) Γ S k := fun F σ H R D E =>
  h F σ H R _ fun v d H1 F1 S1 ⟨a, ds, hd, hs, p⟩ e1 R1 r1 => by
    subst hd; cases r1
    obtain ⟨F2, e2, R2, r2⟩ := R1.freeze hs
    exact E.rt _ _ F2 σ H1 Γ _ p (e1.trans e2) R2 r2
/-- the slots of a name are forgotten, a box with them -/
theorem ws_drops {t : TS} {S' : Sto} (hs : ∀ a o, S' a = some o → S a = some o) (h : WS K B t Γ S' k) : WS K B t Γ S k := fun F σ H R D E =>
  h F σ H (R.drop hs) D (E.mono (Rel.dropS hs))
theorem we_drops {S' : Sto} (hs : ∀ a o, S' a = some o → S a = some o) (h : WE K B te Γ S' P) : WE K B te Γ S P := fun F σ H R Q k =>
  h F σ H (R.drop hs) Q fun v d H' F' S'' p e => k v d H' F' S'' p ((Rel.dropS hs).trans e)
/-! ### dicts -/
def keyD : Key → D
  | .inl i => .int i
  | .inr z => .str z
theorem rp_key {v : V} {key : Key} (r : Rp K F v (keyD key)) : v = kV key := by
  cases key <;> (cases r; rfl)
theorem rp_keys {vs : List V} {ks : List Key} (r : RpAll K F vs (ks.map keyD)) : vs = ks.map kV := by
  induction vs generalizing ks with
  | nil => cases ks with | nil => rfl | cons => cases r
  | cons v vs ih => cases ks with | nil => cases r | cons a b => cases r with | cons q1 q2 => rw [rp_key q1, ih q2]; rfl
def valD {κ : Type} [DecidableEq κ] (kvs : List (κ × D)) (key : κ) : Option D := (kvs.find? fun kv => decide (kv.1 = key)).map (·.2)
def putD {κ : Type} [DecidableEq κ] (kvs : List (κ × D)) (key : κ) (v : D) : List (κ × D) :=
  if (kvs.any fun kv => decide (kv.1 = key)) = true then kvs.map (fun kv => if kv.1 = key then (kv.1, v) else kv) else kvs ++ [(key, v)]
/-- what a dict's box says of its pairs -/
theorem val_rel {κ : Type} [DecidableEq κ] {kvs : List (κ × V)} {kds : List (κ × D)} (h1 : kvs.map (·.1) = kds.map (·.1)) (h2 : RpAll K F (kvs.map (·.2)) (kds.map (·.2))) (key : κ) :
    (∀ d, valD kds key = some d → ∃ v, valV kvs key = some v ∧ Rp K F v d) ∧ (valD kds key = none → valV kvs key = none) := by
  induction kvs generalizing kds with
  | nil => cases kds with
    | nil => exact ⟨fun d h => (by cases h), fun _ => rfl⟩
    | cons => cases h1
  | cons p kvs ih =>
    cases kds with
    | nil => cases h1
    | cons q kds =>
      simp only [List.map_cons, List.cons.injEq] at h1
      simp only [List.map_cons] at h2
      cases h2 with
      | cons r1 r2 =>
        obtain ⟨i1, i2⟩ := ih h1.2 r2
        unfold valD valV at *
        simp only [List.find?_cons]
        rw [h1.1]
        by_cases e : q.1 = key
        · simp only [e, decide_true]
          exact ⟨fun d h => (by cases h; exact ⟨p.2, rfl, r1⟩), fun h => (by cases h)⟩
        · simp only [e, decide_false]
          exact ⟨i1, i2⟩
theorem put_rel {κ : Type} [DecidableEq κ] {kvs : List (κ × V)} {kds : List (κ × D)} (h1 : kvs.map (·.1) = kds.map (·.1)) (h2 : RpAll K F (kvs.map (·.2)) (kds.map (·.2))) {key : κ} {v : V} {d : D} (r : Rp K F v d) :
    (putK kvs key v).map (·.1) = (putD kds key d).map (·.1) ∧ RpAll K F ((putK kvs key v).map (·.2)) ((putD kds key d).map (·.2)) := by
  have hany : (kvs.any fun kv => decide (kv.1 = key)) = kds.any fun kv => decide (kv.1 = key) := by
    have a1 : (kvs.any fun kv => decide (kv.1 = key)) = (kvs.map (·.1)).any fun x => decide (x = key) := by rw [List.any_map]; rfl
    have a2 : (kds.any fun kv => decide (kv.1 = key)) = (kds.map (·.1)).any fun x => decide (x = key) := by rw [List.any_map]; rfl
    rw [a1, a2, h1]
  unfold putK putD
  rw [hany]
  split
  · rename_i hh
    clear hany hh
    induction kvs generalizing kds with
    | nil => cases kds with
      | nil => exact ⟨rfl, .nil⟩
      | cons => cases h1
    | cons p kvs ih =>
      cases kds with
      | nil => cases h1
      | cons q kds =>
        simp only [List.map_cons, List.cons.injEq] at h1
        simp only [List.map_cons] at h2
        cases h2 with
        | cons r1 r2 =>
          obtain ⟨i1, i2⟩ := ih h1.2 r2
          simp only [List.map_cons]
          rw [h1.1]
          by_cases e : q.1 = key
          · rw [if_pos e, if_pos e]
            exact ⟨by simp only [i1], .cons r i2⟩
          · rw [if_neg e, if_neg e]
            exact ⟨by simp only [i1, h1.1], .cons r1 i2⟩
  · simp only [List.map_append, List.map_cons, List.map_nil]
    exact ⟨by rw [h1], h2.append (.cons r .nil)⟩
/-- the key of a subscript: an int, a text; a tuple of such -/
def DictGet (S : Sto) (a : Addr) (key : D) (o : Option D) : Prop :=
  (∃ kvs q, S a = some (.dK kvs) ∧ key = keyD q ∧ o = valD kvs q) ∨ ∃ kvs qs, S a = some (.dT kvs) ∧ key = .tup (qs.map keyD) ∧ o = valD kvs qs
theorem DictGet.at {a : Addr} {key : D} {o : Option D} {u : V} (h : DictGet S a key o) (R : Rel K B F Γ S σ H) (r : Rp K F u key) : ∃ w, DGet H a u w ∧ ((o = none ∧ w = none) ∨ ∃ v d, o = some d ∧ w = some v ∧ Rp K F v d) := by
  rcases h with ⟨kvs, q, hs, rfl, rfl⟩ | ⟨kvs, qs, hs, rfl, rfl⟩
  · obtain ⟨ho, q1, q2⟩ := R.sto a _ hs
    cases ho with
    | dK ks =>
      have e := rp_key r
      subst e
      obtain ⟨v1, v2⟩ := val_rel q2.1 q2.2 q
      refine ⟨_, .inl ⟨ks, q, .inl q1, rfl, rfl⟩, ?_⟩
      cases e : valD kvs q with
      | none => exact .inl ⟨rfl, v2 e⟩
      | some d => obtain ⟨v, hv, rv⟩ := v1 d e; exact .inr ⟨v, d, rfl, hv, rv⟩
    | _ => exact q2.elim
  · obtain ⟨ho, q1, q2⟩ := R.sto a _ hs
    cases ho with
    | dT ks =>
      cases r with
      | tup s rr =>
        have e := rp_keys rr
        subst e
        obtain ⟨v1, v2⟩ := val_rel q2.1 q2.2 qs
        refine ⟨_, .inr ⟨ks, qs, _, .inl q1, rfl, R.ex _ _ s, rfl⟩, ?_⟩
        cases e : valD kvs qs with
        | none => exact .inl ⟨rfl, v2 e⟩
        | some d => obtain ⟨v, hv, rv⟩ := v1 d e; exact .inr ⟨v, d, rfl, hv, rv⟩
    | _ => exact q2.elim
theorem we_din (h : WE K B ty Γ S fun key S1 => WE K B td Γ S1 fun x S2 => ∃ a o, x = .ptr a ∧ DictGet S2 a key o ∧ P (.bl o.isSome) S2) : WE K B (tDIn ty td) Γ S P := fun F σ H R Q k =>
  h F σ H R _ fun u key H1 F1 S1 h1 e1 R1 r1 => h1 F1 σ H1 R1 _ fun v x H2 F2 S2 ⟨a, o, hx, g, p⟩ e2 R2 r2 => by
    subst hx; cases r2
    obtain ⟨w, dg, c⟩ := g.at R2 (r1.mono e2.1)
    refine ⟨a, w, rfl, dg, ?_⟩
    rcases c with ⟨rfl, rfl⟩ | ⟨v, d, rfl, rfl, rv⟩
    · exact k _ _ H2 F2 S2 p (e1.trans e2) R2 (.bl _)
    · exact k _ _ H2 F2 S2 p (e1.trans e2) R2 (.bl _)
theorem we_dnotin (h : WE K B ty Γ S fun key S1 => WE K B td Γ S1 fun x S2 => ∃ a o, x = .ptr a ∧ DictGet S2 a key o ∧ P (.bl (!o.isSome)) S2) : WE K B (tDNotIn ty td) Γ S P := fun F σ H R Q k =>
  h F σ H R _ fun u key H1 F1 S1 h1 e1 R1 r1 => h1 F1 σ H1 R1 _ fun v x H2 F2 S2 ⟨a, o, hx, g, p⟩ e2 R2 r2 => by
    subst hx; cases r2
    obtain ⟨w, dg, c⟩ := g.at R2 (r1.mono e2.1)
    refine ⟨a, w, rfl, dg, ?_⟩
    rcases c with ⟨rfl, rfl⟩ | ⟨v, d, rfl, rfl, rv⟩
    · exact k _ _ H2 F2 S2 p (e1.trans e2) R2 (.bl _)
    · exact k _ _ H2 F2 S2 p (e1.trans e2) R2 (.bl _)
theorem we_dget (h : WE K B td Γ S fun x S1 => WE K B ty Γ S1 fun key S2 => ∃ a d, x = .ptr a ∧ DictGet S2 a key (some d) ∧ P d S2) : WE K B (tDGet td ty) Γ S P := fun F σ H R Q k =>
  h F σ H R _ fun v x H1 F1 S1 h1 e1 R1 r1 => h1 F1 σ H1 R1 _ fun u key H2 F2 S2 ⟨a, d, hx, g, p⟩ e2 R2 r2 => by
    subst hx; cases r1
    obtain ⟨w, dg, c⟩ := g.at R2 r2
    rcases c with ⟨e, _⟩ | ⟨v, d', e, rfl, rv⟩
    · cases e
    · cases e
      exact ⟨a, v, rfl, dg, k _ _ H2 F2 S2 p (e1.trans e2) R2 rv⟩
theorem ws_dput (h : WE K B tv Γ S fun z S1 => WE K B td Γ S1 fun x S2 => WE K B ty Γ S2 fun key S3 => ∃ a, x = .ptr a ∧
    ((∃ kvs q, S3 a = some (.dK kvs) ∧ key = keyD q ∧ kvs.length < sizeLine ∧ k.nx Γ (ups S3 a (.dK (putD kvs q z)))) ∨
      ∃ kvs qs, S3 a = some (.dT kvs) ∧ key = .tup (qs.map keyD) ∧ kvs.length < sizeLine ∧ k.nx Γ (ups S3 a (.dT (putD kvs qs z))))) : WS K B (sDPut td ty tv) Γ S k := fun F σ H R D E =>
  h F σ H R _ fun zv z H1 F1 S1 h1 e1 R1 r1 => h1 F1 σ H1 R1 _ fun v x H2 F2 S2 h2 e2 R2 r2 => h2 F2 σ H2 R2 _ fun u key H3 F3 S3 ⟨a, hx, c⟩ e3 R3 r3 => by
    subst hx; cases r2
    have rz := r1.mono (e2.trans e3).1
    rcases c with ⟨kvs, q, hs, rfl, hl, p⟩ | ⟨kvs, qs, hs, rfl, hl, p⟩
    · obtain ⟨ho, q1, q2⟩ := R3.sto a _ hs
      cases ho with
      | dK ks =>
        have e := rp_key r3
        subst e
        have hlen : ks.length = kvs.length := by simpa using congrArg List.length q2.1
        exact ⟨a, _, rfl, .inl ⟨ks, q, q1, rfl, by omega, rfl⟩, E.nx F3 σ _ Γ _ p (((e1.trans e2).trans e3).trans (Rel.putS hs _ _)) (R3.put (ho := .dK _) hs (put_rel q2.1 q2.2 rz))⟩
      | _ => exact q2.elim
    · obtain ⟨ho, q1, q2⟩ := R3.sto a _ hs
      cases ho with
      | dT ks =>
        cases r3 with
        | tup s rr =>
          have e := rp_keys rr
          subst e
          have hlen : ks.length = kvs.length := by simpa using congrArg List.length q2.1
          exact ⟨a, _, rfl, .inr ⟨ks, qs, _, q1, rfl, R3.ex _ _ s, by omega, rfl⟩, E.nx F3 σ _ Γ _ p (((e1.trans e2).trans e3).trans (Rel.putS hs _ _)) (R3.put (ho := .dT _) hs (put_rel q2.1 q2.2 rz))⟩
      | _ => exact q2.elim
/-- sorted(d), the keys texts -/
theorem sorted_dK {a : Addr} {kvs : List (Key × D)} {ks : List Str} (h : S a = some (.dK kvs)) (e : kvs.map (·.1) = ks.map Sum.inr) (hl : ks.length < 64) (p : ∀ ys : List Str, ys.Perm ks → sortedS ys = true → P (.lst (ys.map D.str)) S) :
    RDA K B (rc_sortedDict K) [.ptr a] S P := fun F Γ σ H vs R r Q k => by
  cases r with
  | cons r n =>
    cases n; cases r
    obtain ⟨ho, q1, q2⟩ := R.sto a _ h
    cases ho with
    | dK kv =>
      refine ⟨a, kv, ks, rfl, .inl q1, q2.1.trans e, hl, fun ys q pm so hq => ?_⟩
      obtain ⟨ex, R2⟩ := R.lay hq (.lst (ys.map V.str))
      exact k _ _ _ _ S (p ys pm so) (R.layS hq _) R2 (.lst upd_same (rpAll_strs _))
    | _ => exact q2.elim
/-! ### sets of texts, of ints, on the way -/
theorem we_lenSet {ns : List Int} (h : WE K B te Γ S fun x S1 => x = .tup (ns.map D.int) ∧ ns.length < 64 ∧ ns.Nodup ∧ P (.int ns.length) S1) : WE K B (tLenSetX K te) Γ S P := fun F σ H R Q k =>
  h F σ H R _ fun v x H1 F1 S1 ⟨hx, h1, h2, p⟩ e1 R1 r1 => by
    subst hx
    cases r1 with
    | tup s rr =>
      have e := rr.ints
      subst e
      exact ⟨_, ns, rfl, Evl.st_of (R1.ex _ _ s), h1, h2, k _ _ H1 F1 S1 p e1 R1 (.int _)⟩
theorem we_sortedSet {zs : List Str} (h : WE K B te Γ S fun x S1 => x = .tup (zs.map D.str) ∧ zs.length < 64 ∧ ∀ ys : List Str, ys.Nodup → (∀ z, z ∈ ys ↔ z ∈ zs) → sortedS ys = true → P (.lst (ys.map D.str)) S1) : WE K B (tSortedSet K te) Γ S P := fun F σ H R Q k =>
  h F σ H R _ fun v x H1 F1 S1 ⟨hx, h1, p⟩ e1 R1 r1 => by
    subst hx
    cases r1 with
    | tup s rr =>
      have e := rr.strs
      subst e
      refine ⟨_, zs, rfl, Evl.st_of (R1.ex _ _ s), h1, fun ys q nd me so hq => ?_⟩
      obtain ⟨ex, R2⟩ := R1.lay hq (.lst (ys.map V.str))
      exact k _ _ _ _ S1 (p ys nd me so) (e1.trans (R1.layS hq _)) R2 (.lst upd_same (rpAll_strs _))
theorem rp_pairs {vs : List V} : ∀ {ps : List (List Key × D)}, RpAll K F vs (ps.map fun p => D.tup [.tup (p.1.map keyD), p.2]) →
    ∃ qs : List (Addr × Addr × List Key × V), vs = qs.map (fun q => V.ref q.1) ∧ (∀ q ∈ qs, F q.1 = some (.tup [.ref q.2.1, q.2.2.2]) ∧ F q.2.1 = some (.tup (q.2.2.1.map kV))) ∧ qs.map (·.2.2.1) = ps.map (·.1) ∧ RpAll K F (qs.map (·.2.2.2)) (ps.map (·.2)) := by
  induction vs with
  | nil => intro ps h; cases ps with | nil => exact ⟨[], rfl, fun q hq => (by cases hq), rfl, .nil⟩ | cons => cases h
  | cons v vs ih =>
    intro ps h
    cases ps with
    | nil => cases h
    | cons p ps =>
      cases h with
      | cons r rs =>
        obtain ⟨qs, e1, e2, e3, e4⟩ := ih rs
        cases r with
        | tup s rr =>
          cases rr with
          | cons a b =>
            cases b with
            | cons b c =>
              cases c
              cases a with
              | tup s2 r2 =>
                have e := rp_keys r2
                subst e
                exact ⟨(_, _, p.1, _) :: qs, by rw [e1]; rfl, fun q hq => (by
                  rcases List.mem_cons.mp hq with rfl | hq
                  · exact ⟨s, s2⟩
                  · exact e2 q hq), by simp [e3], .cons b e4⟩
theorem fold_put {qs : List (Addr × Addr × List Key × V)} : ∀ {ps : List (List Key × D)} {kvs : List (List Key × V)} {kds : List (List Key × D)}, qs.map (·.2.2.1) = ps.map (·.1) → RpAll K F (qs.map (·.2.2.2)) (ps.map (·.2)) →
    kvs.map (·.1) = kds.map (·.1) → RpAll K F (kvs.map (·.2)) (kds.map (·.2)) →
    (qs.foldl (fun acc p => putK acc p.2.2.1 p.2.2.2) kvs).map (·.1) = (ps.foldl (fun acc p => putD acc p.1 p.2) kds).map (·.1) ∧ RpAll K F ((qs.foldl (fun acc p => putK acc p.2.2.1 p.2.2.2) kvs).map (·.2)) ((ps.foldl (fun acc p => putD acc p.1 p.2) kds).map (·.2)) := by
  induction qs with
  | nil => intro ps kvs kds h1 h2 h3 h4; cases ps with | nil => exact ⟨h3, h4⟩ | cons => cases h1
  | cons q qs ih =>
    intro ps kvs kds h1 h2 h3 h4
    cases ps with
    | nil => cases h1
    | cons p ps =>
      simp only [List.map_cons, List.cons.injEq] at h1
      simp only [List.map_cons] at h2
      cases h2 with
      | cons r1 r2 =>
        simp only [List.foldl_cons]
        rw [h1.1]
        obtain ⟨e1, e2⟩ := put_rel (key := p.1) h3 h4 r1
        exact ih h1.2 r2 e1 e2
theorem dict_pairs {ps : List (List Key × D)} (hl : ps.length ≤ 4096) (p : ∀ a, S a = none → P (.ptr a) (ups S a (.dT (ps.foldl (fun acc p => putD acc p.1 p.2) [])))) :
    RDA K B (rc_dictT K) [.lst (ps.map fun p => .tup [.tup (p.1.map keyD), p.2])] S P := fun F Γ σ H vs R r Q k => by
  cases r with
  | cons r n =>
    cases n
    cases r with
    | lst s rr =>
      obtain ⟨qs, rfl, e2, e3, e4⟩ := rp_pairs rr
      have hlen : qs.length = ps.length := by simpa using congrArg List.length e3
      refine ⟨_, qs, rfl, Evl.sq_of (R.ex _ _ s), fun q hq => ⟨R.ex _ _ (e2 q hq).1, R.ex _ _ (e2 q hq).2⟩, by omega, fun q hq => ?_⟩
      exact k _ _ _ _ _ (p q (R.free hq).2) (R.boxS hq _ _) (R.box (ho := .dT _) (mo := .dT _) hq (fold_put e3 e4 rfl .nil)) (.ptr q)
theorem isi_k (T0 : String) {T : String} {b : Bool} (hk : x.kd S = T0) (h : T0 ≠ "") (e : kitB T0 T = some b) (p : P (.bl b) S) : RDA K B (rc_isinstance K) [x, .raw (.ty T)] S P :=
  isi_dat (by rw [hk]; exact h) (by rw [hk]; exact e) p
end
/-- the classes of data, asked for one by one -/
def isiB (T : String) : D → Bool
  | .non => T == "NoneType" | .bl _ => T == "bool" || T == "int" | .int _ => T == "int" | .str _ => T == "str" | .tup _ => T == "tuple" | .lst _ => T == "list" | .dct _ _ => T == "dict"
  | _ => false
def solid : D → Bool
  | .ptr _ => false | .raw _ => false | .rol _ => false | _ => true
def goodT (T : String) : Bool := ["NoneType", "bool", "int", "str", "tuple", "list", "dict"].all fun k => kitB k T == some (k == T || (k == "bool" && T == "int"))
theorem isi_solid {K : PySem.W.Frag} {B : Hp} {S : Sto} {P : D → Sto → Prop} {x : D} (T : String) (hx : solid x = true) (hT : goodT T = true) (p : P (.bl (isiB T x)) S) : RDA K B (rc_isinstance K) [x, .raw (.ty T)] S P := by
  have hk : ∀ k ∈ ["NoneType", "bool", "int", "str", "tuple", "list", "dict"], kitB k T = some (k == T || (k == "bool" && T == "int")) := fun k hk => by
    have := List.all_eq_true.mp hT k hk
    exact eq_of_beq this
  have sw : ∀ a : String, (a == T) = (T == a) := fun a => Bool.beq_comm
  cases x with
  | non => exact isi_k "NoneType" rfl (by decide) (hk _ (by simp)) (by simpa [isiB, sw] using p)
  | bl b => exact isi_k "bool" rfl (by decide) (hk _ (by simp)) (by simpa [isiB, sw] using p)
  | int b => exact isi_k "int" rfl (by decide) (hk _ (by simp)) (by simpa [isiB, sw] using p)
  | str b => exact isi_k "str" rfl (by decide) (hk _ (by simp)) (by simpa [isiB, sw] using p)
  | tup b => exact isi_k "tuple" rfl (by decide) (hk _ (by simp)) (by simpa [isiB, sw] using p)
  | lst b => exact isi_k "list" rfl (by decide) (hk _ (by simp)) (by simpa [isiB, sw] using p)
  | dct a b => exact isi_k "dict" rfl (by decide) (hk _ (by simp)) (by simpa [isiB, sw] using p)
  | rol b => cases hx
  | ptr b => cases hx
  | raw b => cases hx
theorem ifT {b : Bool} {p q : Prop} (h : b = true) (x : p) : if b = true then p else q := by rw [if_pos h]; exact x
theorem ifF {b : Bool} {p q : Prop} (h : b = false) (x : q) : if b = true then p else q := by rw [if_neg (by rw [h]; decide)]; exact x
theorem if2 {b : Bool} {p q : Prop} (x : b = true → p) (y : b = false → q) : if b = true then p else q := by
  cases b with
  | true => exact x rfl
  | false => exact y rfl
theorem good_int : goodT "int" = true := by decide +kernel
theorem good_str : goodT "str" = true := by decide +kernel
theorem good_bool : goodT "bool" = true := by decide +kernel
theorem good_tuple : goodT "tuple" = true := by decide +kernel
theorem good_list : goodT "list" = true := by decide +kernel
section
variable {K : PySem.W.Frag} {B : Hp} {Γ : Sl} {S : Sto} {P : D → Sto → Prop} {PB : Bool → Sto → Prop} {ta tb tc : TE} {tt tu : TT} {b1 b2 : Bool}
/-- pure tests: b1, b2 are their answers -/
theorem wt_orP (b1 b2 : Bool) (h1 : WT K B tt Γ S fun b S1 => b = b1 ∧ S1 = S) (h2 : b1 = false → WT K B tu Γ S fun b S1 => b = b2 ∧ S1 = S) (p : PB (b1 || b2) S) : WT K B (tOr tt tu) Γ S PB :=
  wt_or (h1.imp fun b S1 ⟨e1, e2⟩ => by
    subst e1 e2
    cases b with
    | true => exact ifT rfl p
    | false => exact ifF rfl ((h2 rfl).imp fun c S2 ⟨e3, e4⟩ => by subst e3 e4; exact p))
theorem wt_andP (b1 b2 : Bool) (h1 : WT K B tt Γ S fun b S1 => b = b1 ∧ S1 = S) (h2 : b1 = true → WT K B tu Γ S fun b S1 => b = b2 ∧ S1 = S) (p : PB (b1 && b2) S) : WT K B (tAnd tt tu) Γ S PB :=
  wt_and (h1.imp fun b S1 ⟨e1, e2⟩ => by
    subst e1 e2
    cases b with
    | false => exact ifF rfl p
    | true => exact ifT rfl ((h2 rfl).imp fun c S2 ⟨e3, e4⟩ => by subst e3 e4; exact p))
theorem we_andP (b1 b2 : Bool) (h1 : WE K B ta Γ S fun x S1 => x = .bl b1 ∧ S1 = S) (h2 : b1 = true → WE K B tb Γ S fun x S1 => x = .bl b2 ∧ S1 = S) (p : P (.bl (b1 && b2)) S) : WE K B (tAndV ta tb) Γ S P :=
  we_and (h1.imp fun x S1 ⟨e1, e2⟩ => ⟨b1, e1, by
    subst e2
    cases b1 with
    | false => exact ifF rfl p
    | true => exact ifT rfl ((h2 rfl).imp fun c S2 ⟨e3, e4⟩ => by subst e3 e4; exact p)⟩)
theorem we_orP (b1 b2 : Bool) (h1 : WE K B ta Γ S fun x S1 => x = .bl b1 ∧ S1 = S) (h2 : b1 = false → WE K B tb Γ S fun x S1 => x = .bl b2 ∧ S1 = S) (p : P (.bl (b1 || b2)) S) : WE K B (tOrV ta tb) Γ S P :=
  we_or (h1.imp fun x S1 ⟨e1, e2⟩ => ⟨b1, e1, by
    subst e2
    cases b1 with
    | true => exact ifT rfl p
    | false => exact ifF rfl ((h2 rfl).imp fun c S2 ⟨e3, e4⟩ => by subst e3 e4; exact p)⟩)
theorem we_chainLe {i j l : Int} (h : WE K B ta Γ S fun x S1 => x = .int i ∧ S1 = S ∧ WE K B tb Γ S fun y S2 => y = .int j ∧ S2 = S ∧ WE K B tc Γ S fun z S3 => z = .int l ∧ S3 = S) (p : P (.bl (decide (i ≤ j) && decide (j ≤ l))) S) :
    WE K B (tChain (raLe K) (raLe K) ta tb tc) Γ S P :=
  we_chain (h.imp fun x S1 ⟨e1, e2, h1⟩ => by
    subst e1 e2
    refine h1.imp fun y S2 ⟨e3, e4, h2⟩ => ?_
    subst e3 e4
    refine le_int ⟨_, rfl, if2 (fun e => ?_) fun e => ?_⟩
    · refine h2.imp fun z S3 ⟨e5, e6⟩ => ?_
      subst e5 e6
      refine le_int ?_
      rw [e, Bool.true_and] at p
      exact p
    · rw [e, Bool.false_and] at p
      exact p)
/-- a pure expression's value, if it is one of two -/
theorem we_ifP (b1 : Bool) (h1 : WT K B tt Γ S fun b S1 => b = b1 ∧ S1 = S) (h2 : b1 = true → WE K B ta Γ S P) (h3 : b1 = false → WE K B tb Γ S P) : WE K B (tIf tt ta tb) Γ S P :=
  we_if (h1.imp fun b S1 ⟨e1, e2⟩ => by subst e1 e2; exact if2 h2 h3)
theorem ws_ifP {k : Ko} {t u : TS} (b1 : Bool) (h1 : WT K B tt Γ S fun b S1 => b = b1 ∧ S1 = S) (h2 : b1 = true → WS K B t Γ S k) (h3 : b1 = false → WS K B u Γ S k) : WS K B (tIfS tt t u) Γ S k :=
  ws_if (h1.imp fun b S1 ⟨e1, e2⟩ => by subst e1 e2; exact if2 h2 h3)
end
/-! typed dicts -/
section
variable {κ ν : Type} [DecidableEq κ]
def putN (kvs : List (κ × ν)) (key : κ) (v : ν) : List (κ × ν) := if (kvs.any fun kv => decide (kv.1 = key)) = true then kvs.map (fun kv => if kv.1 = key then (kv.1, v) else kv) else kvs ++ [(key, v)]
def valN (kvs : List (κ × ν)) (key : κ) : Option ν := (kvs.find? fun kv => decide (kv.1 = key)).map (·.2)
def kvD (enc : ν → D) (kvs : List (κ × ν)) : List (κ × D) := kvs.map fun p => (p.1, enc p.2)
theorem putD_kv (enc : ν → D) (kvs : List (κ × ν)) (key : κ) (v : ν) : putD (kvD enc kvs) key (enc v) = kvD enc (putN kvs key v) := by
  unfold putD putN kvD
  have e : ((kvs.map fun p => (p.1, enc p.2)).any fun kv => decide (kv.1 = key)) = kvs.any fun kv => decide (kv.1 = key) := by rw [List.any_map]; rfl
  rw [e]
  split
  · rw [List.map_map, List.map_map]
    apply List.map_congr_left
    intro p _
    show (if p.1 = key then (p.1, enc v) else (p.1, enc p.2)) = _
    by_cases q : p.1 = key
    · rw [if_pos q]; simp [q]
    · rw [if_neg q]; simp [q]
  · rw [List.map_append]; rfl
theorem valD_kv (enc : ν → D) (kvs : List (κ × ν)) (key : κ) : valD (kvD enc kvs) key = (valN kvs key).map enc := by
  unfold valD valN kvD
  induction kvs with
  | nil => rfl
  | cons p kvs ih =>
    simp only [List.map_cons, List.find?_cons]
    by_cases q : p.1 = key
    · simp [q]
    · simp only [q, decide_false]; exact ih
theorem fold_kv {α : Type} (enc : ν → D) (fk : α → κ) (fv : α → ν) (l : List α) : ∀ kvs : List (κ × ν), (l.map fun x => (fk x, enc (fv x))).foldl (fun acc p => putD acc p.1 p.2) (kvD enc kvs) = kvD enc (l.foldl (fun acc x => putN acc (fk x) (fv x)) kvs) := by
  induction l with
  | nil => intro kvs; rfl
  | cons x l ih => intro kvs; simp only [List.map_cons, List.foldl_cons]; rw [putD_kv]; exact ih _
theorem putN_len (kvs : List (κ × ν)) (key : κ) (v : ν) : (putN kvs key v).length ≤ kvs.length + 1 := by
  unfold putN; split <;> simp
end
/-- return, boxes of the def's own forgotten -/
theorem ws_retD {K : PySem.W.Frag} {B : Hp} {Γ : Sl} {S : Sto} {te : TE} {k : Ko} (h : WE K B te Γ S fun d S1 => ∃ S2, (∀ a o, S2 a = some o → S1 a = some o) ∧ k.rt d S2) : WS K B (tRet te) Γ S k := fun F σ H R D E =>
  h F σ H R _ fun v d H1 F1 S1 ⟨S2, hs, p⟩ e1 R1 r1 => E.rt v d F1 σ H1 Γ S2 p (e1.trans (Rel.dropS hs)) (R1.drop hs) r1
theorem sub_ups {S : Sto} {a : Addr} {o : MO} (h : S a = none) : ∀ b u, S b = some u → ups S a o b = some u := fun b u e => by
  rw [ups_ne (fun z => by subst z; rw [h] at e; cases e)]; exact e
end DL
/-! DL9: sizes of data, for ==, repr; equality of lists; small dicts -/
namespace DL
open PySem L2 PyProof.Rows
structure GD (n w : Nat) (d : D) : Prop where
  pl : d.plain = true
  cl : d.py.canLay0 = true
  dp : d.py.depth ≤ n
  wt : d.py.weight ≤ w
  sh : d.py.showable = true
  is : d.py.intsShort 13 = true
structure GDs (n w : Nat) (l : List D) : Prop where
  pl : plains l = true
  cl : PyData.canLayAll0 (pys l) = true
  dp : PyData.depthAll (pys l) ≤ n
  wt : PyData.weightAll (pys l) ≤ w
  sh : PyData.showableAll (pys l) = true
  is : PyData.intsShortAll 13 (pys l) = true
theorem GD.shaped {n w : Nat} {d : D} (g : GD n w d) (h : n ≤ 64) : SeqAt.shaped d.py = true := by
  unfold SeqAt.shaped; rw [g.cl, decide_eq_true (Nat.le_trans g.dp h)]; rfl
theorem GD.len {n w : Nat} {d : D} (g : GD n w d) (h : n ≤ 64) (hw : w ≤ 2 ^ 20) : d.py.shown.length ≤ sizeLine := by
  refine Nat.le_trans (shown_le13 ?_ g.is) (by decide)
  unfold PyData.layable0
  rw [g.cl, decide_eq_true (Nat.le_trans g.dp h), decide_eq_true (Nat.le_trans g.wt hw)]; rfl
theorem GD.more {n n' w w' : Nat} {d : D} (g : GD n w d) (h : n ≤ n') (hw : w ≤ w') : GD n' w' d := ⟨g.pl, g.cl, Nat.le_trans g.dp h, Nat.le_trans g.wt hw, g.sh, g.is⟩
theorem GDs.nil {n w : Nat} : GDs n w [] := ⟨rfl, rfl, Nat.zero_le _, Nat.zero_le _, rfl, rfl⟩
theorem GDs.cons {n w w' : Nat} {d : D} {l : List D} (g : GD n w d) (h : GDs n w' l) : GDs n (w + 1 + w') (d :: l) where
  pl := by unfold plains; rw [g.pl, h.pl]; rfl
  cl := by unfold pys PyData.canLayAll0; rw [g.cl, h.cl]; rfl
  dp := by unfold pys PyData.depthAll; exact Nat.max_le.mpr ⟨g.dp, h.dp⟩
  wt := by unfold pys PyData.weightAll; have := g.wt; have := h.wt; omega
  sh := by unfold pys PyData.showableAll; rw [g.sh, h.sh]; rfl
  is := by unfold pys PyData.intsShortAll; rw [g.is, h.is]; rfl
theorem GDs.of {n w : Nat} {l : List D} (h : ∀ d ∈ l, GD n w d) : GDs n ((w + 1) * l.length) l := by
  induction l with
  | nil => exact GDs.nil
  | cons d l ih =>
    have := (h d List.mem_cons_self).pl
    have g := GDs.cons (h d List.mem_cons_self) (ih fun e he => h e (List.mem_cons_of_mem _ he))
    have e : w + 1 + (w + 1) * l.length = (w + 1) * (d :: l).length := by rw [List.length_cons, Nat.mul_succ, Nat.add_comm]
    rw [← e]; exact g
theorem GDs.more {n n' w w' : Nat} {d : List D} (g : GDs n w d) (h : n ≤ n') (hw : w ≤ w') : GDs n' w' d := ⟨g.pl, g.cl, Nat.le_trans g.dp h, Nat.le_trans g.wt hw, g.sh, g.is⟩
theorem GDs.tup {n w : Nat} {l : List D} (h : GDs n w l) : GD (n + 1) w (.tup l) where
  pl := by unfold D.plain; exact h.pl
  cl := by unfold D.py PyData.canLay0; exact h.cl
  dp := by unfold D.py PyData.depth; have := h.dp; omega
  wt := by unfold D.py PyData.weight; exact h.wt
  sh := by unfold D.py PyData.showable; exact h.sh
  is := by unfold D.py PyData.intsShort; exact h.is
theorem GDs.lst {n w : Nat} {l : List D} (h : GDs n w l) : GD (n + 1) w (.lst l) where
  pl := by unfold D.plain; exact h.pl
  cl := by unfold D.py PyData.canLay0; exact h.cl
  dp := by unfold D.py PyData.depth; have := h.dp; omega
  wt := by unfold D.py PyData.weight; exact h.wt
  sh := by unfold D.py PyData.showable; exact h.sh
  is := by unfold D.py PyData.intsShort; exact h.is
theorem log2_lt12 {i : Int} (h : i.natAbs < 10 ^ 12) : i.natAbs.log2 ≤ 40 := by
  by_cases z : i.natAbs = 0
  · rw [z]; decide
  · have := (Nat.log2_lt z (k := 41)).mpr (Nat.lt_of_lt_of_le h (by decide)); omega
theorem gd_int {i : Int} (h : i.natAbs < 10 ^ 12) : GD 0 50 (.int i) where
  pl := rfl
  cl := rfl
  dp := Nat.le_refl _
  wt := by show (if i == 0 then 0 else i.natAbs.log2 + 1) ≤ 50; have := log2_lt12 h; split <;> omega
  sh := by show decide (i.natAbs.log2 < 1920) = true; have := log2_lt12 h; exact decide_eq_true (by omega)
  is := by show decide (_ ≤ 13) = true; exact decide_eq_true (PyData.shown_int_le h)
theorem gd_nat {i : Nat} (h : i < 10 ^ 12) : GD 0 50 (.int (i : Int)) := gd_int (by simpa using h)
theorem gd_bl (b : Bool) : GD 0 0 (.bl b) := ⟨rfl, rfl, Nat.le_refl _, Nat.le_refl _, rfl, rfl⟩
theorem gd_non : GD 0 0 .non := ⟨rfl, rfl, Nat.le_refl _, Nat.le_refl _, rfl, rfl⟩
theorem gd_str {z : Str} {w : Nat} (h : z.length ≤ w) (hc : ∀ c ∈ z.cps.toList, c < 0x110000) : GD 0 w (.str z) where
  pl := rfl
  cl := by
    show PyData.strOk z = true
    unfold PyData.strOk
    rw [Array.all_eq_true_iff_forall_mem]
    exact fun c hm => decide_eq_true (hc c (by simpa using hm))
  dp := Nat.le_refl _
  wt := h
  sh := rfl
  is := rfl
theorem gd_mk {l : Tx} {w : Nat} (h : l.length ≤ w) (hc : ∀ c ∈ l, c < 0x110000) : GD 0 w (.str (mk l)) := gd_str (by rw [mk_length]; exact h) (by rw [mk_cps]; exact hc)
/-! eqv -/
theorem eqvAll_strs : ∀ xs ys : List Str, PyData.eqvAll (pys (xs.map D.str)) (pys (ys.map D.str)) = decide (xs = ys)
  | [], [] => rfl
  | [], _ :: _ => rfl
  | _ :: _, [] => rfl
  | x :: xs, y :: ys => by
    show (PyData.eqv (.str x) (.str y) && PyData.eqvAll (pys (xs.map D.str)) (pys (ys.map D.str))) = _
    rw [eqvAll_strs xs ys, show PyData.eqv (.str x) (.str y) = (x == y) from rfl]
    by_cases h : x = y
    · subst h; simp
    · have : (x == y) = false := by simpa using h
      simp [this, h]
theorem eqvAll_ints : ∀ xs ys : List Int, PyData.eqvAll (pys (xs.map D.int)) (pys (ys.map D.int)) = decide (xs = ys)
  | [], [] => rfl
  | [], _ :: _ => rfl
  | _ :: _, [] => rfl
  | x :: xs, y :: ys => by
    show (PyData.eqv (.int x) (.int y) && PyData.eqvAll (pys (xs.map D.int)) (pys (ys.map D.int))) = _
    rw [eqvAll_ints xs ys, show PyData.eqv (.int x) (.int y) = (x == y) from rfl]
    by_cases h : x = y
    · subst h; simp
    · have : (x == y) = false := by simpa using h
      simp [this, h]
section
variable {K : PySem.W.Frag} {B : Hp} {Γ : Sl} {S : Sto} {P : D → Sto → Prop} {x y : D} {n w n' w' : Nat}
theorem eq_gd (gx : GD n w x) (gy : GD n' w' y) (hn : n ≤ 64) (hn' : n' ≤ 64) (p : P (.bl (PyData.eqv x.py y.py)) S) : RD2 K B (raEq K) x y S P :=
  eq_dat (.inl rfl) (.inl rfl) gx.pl gy.pl (gx.shaped hn) (gy.shaped hn') p
theorem ne_gd (gx : GD n w x) (gy : GD n' w' y) (hn : n ≤ 64) (hn' : n' ≤ 64) (p : P (.bl (!PyData.eqv x.py y.py)) S) : RD2 K B (raNe K) x y S P :=
  ne_dat (.inl rfl) (.inl rfl) gx.pl gy.pl (gx.shaped hn) (gy.shaped hn') p
theorem ne_refl (gx : GD n w x) (hn : n ≤ 64) (p : P (.bl false) S) : RD2 K B (raNe K) x x S P :=
  ne_gd gx gx hn hn (by rw [PySem.SeqAt.eqv_refl _ gx.cl]; exact p)
theorem eq_refl (gx : GD n w x) (hn : n ≤ 64) (p : P (.bl true) S) : RD2 K B (raEq K) x x S P :=
  eq_gd gx gx hn hn (by rw [PySem.SeqAt.eqv_refl _ gx.cl]; exact p)
theorem repr_gd (gx : GD n w x) (hn : n ≤ 60) (hw : w ≤ 2 ^ 20) (p : P (.str x.py.shown) S) : RDA K B (rc_repr K) [x] S P :=
  repr_dat (.inl rfl) gx.pl gx.sh (PyData.hasDict_of_canLay _ gx.cl) (Nat.le_trans gx.dp hn) (gx.len (by omega) hw) p
/-- {text: value} -/
theorem we_disp1I {z : Str} {i : Int} (h : P (.dct [.inr z] [.int i]) S) : WE K B (tDisp [(tC (.str z), tC (.int i))]) Γ S P := fun F σ H R Q k => fun a ha => by
  obtain ⟨e2, R2⟩ := R.lay ha (.dK [(.inr z, .int i)])
  refine ⟨upd_same, [(.inr z, .int i)], rfl, (by show 1 ≤ 15; omega), ?_⟩
  rw [upd_upd]
  exact k _ _ _ _ S h (R.layS ha _) R2 (.dct upd_same rfl (.cons (.int i) .nil))
theorem we_disp1V {z : Str} {i : Nat} {d : D} (hv : Γ[i]? = some (some d)) (h : P (.dct [.inr z] [d]) S) : WE K B (tDisp [(tC (.str z), tVar i)]) Γ S P := fun F σ H R Q k => fun a ha => by
  obtain ⟨v, hs, r⟩ := R.sl i d hv
  obtain ⟨e2, R2⟩ := R.lay ha (.dK [(.inr z, v)])
  refine ⟨v, hs, upd_same, [(.inr z, v)], rfl, (by show 1 ≤ 15; omega), ?_⟩
  rw [upd_upd]
  exact k _ _ _ _ S h (R.layS ha _) R2 (.dct upd_same rfl (.cons (r.mono e2) .nil))
end
end DL
/-! K60sp: the mathematics' words and the promises -/
namespace K60
open PySem L2 DL
abbrev dS (l : Tx) : D := .str (mk l)
abbrev dI (n : Int) : D := .int n
abbrev dN (n : Nat) : D := .int (n : Int)
def LET : Tx := [97, 98, 99, 100, 101, 102, 103, 104, 105, 106, 107, 108, 109, 110, 111, 112, 113, 114, 115, 116, 117, 118, 119, 120, 121, 122]
def letB (c : Nat) : Bool := occurs (mk [c]) (mk LET)
def rowB (z : Str) (most : Int) : Bool := decide ((z.length : Int) ≤ most) && z.cps.toList.all letB
def isRowM (most : Int) : D → Bool | .str z => rowB z most | _ => false
abbrev isRowD : D → Bool := isRowM 400
def txs (es : List D) : List Tx := es.map fun e => match e with | .str z => z.cps.toList | _ => []
def ascB (h : List Tx) : Bool := (h.zip h.tail).all fun p => decide (p.1 < p.2)
def isHeapD : D → Bool
  | .tup es => decide (1 ≤ es.length) && decide (es.length ≤ 12) && es.all isRowD && (txs es).all (fun r => decide (1 ≤ r.length) && decide (r.length ≤ 30)) && ascB (txs es)
  | _ => false
def lawHeapD : D → Bool
  | .tup es => decide (1 ≤ es.length) && decide (es.length ≤ 12) && es.all (fun r => isRowM 30 r && !decide (txs [r] = [[]])) && ascB (txs es)
  | _ => false
/-- a value that is nothing of the machine's own; a text is no monster -/
def sol : D → Prop
  | .str z => z.length ≤ 100000 ∧ ∀ c ∈ z.cps.toList, c < 0x110000
  | .ptr _ => False | .raw _ => False | .rol _ => False
  | _ => True
def sol2 : D → Prop
  | .tup es => ∀ e ∈ es, sol e
  | d => sol d
abbrev heapD (h : List Tx) : D := .tup (h.map dS)
structure HeapOk (h : List Tx) : Prop where
  n1 : 1 ≤ h.length
  n2 : h.length ≤ 12
  rows : ∀ r ∈ h, (∀ c ∈ r, 97 ≤ c ∧ c ≤ 122) ∧ 1 ≤ r.length ∧ r.length ≤ 30
  asc : h.Pairwise (· < ·)
structure RowOk (r : Tx) : Prop where
  lets : ∀ c ∈ r, 97 ≤ c ∧ c ≤ 122
  one : 1 ≤ r.length
  most : r.length ≤ 30
theorem HeapOk.row {h : List Tx} (H : HeapOk h) {r : Tx} (m : r ∈ h) : RowOk r := ⟨(H.rows r m).1, (H.rows r m).2.1, (H.rows r m).2.2⟩
/-! overlaps -/
def ovs (a b : Tx) : List Nat := ((List.range (min a.length b.length - 1)).filter fun k => decide (b.take (k + 1) <:+ a)).map (· + 1)
def ovl (a b : Tx) : Nat := (ovs a b).foldl max 0
def occ (a b : Tx) : Bool := occurs (mk a) (mk b)
def insideL (h : List Tx) : List Tx := h.filter fun r => (h.filter fun o => !decide (o = r)).any fun o => occ r o
def outerL (h : List Tx) : List Tx := h.filter fun r => !decide (r ∈ insideL h)
abbrev Arc := Nat × Nat × Nat
abbrev arcD (p : Arc) : D := .tup [dN p.1, dN p.2.1, dN p.2.2]
def webRow (a : Tx) (i : Nat) (q : List (Tx × Nat)) : List Arc := q.flatMap fun p => if i ≠ p.2 ∧ 0 < ovl a p.1 then [(i, p.2, ovl a p.1)] else []
def webL (h : List Tx) : List Arc := h.zipIdx.flatMap fun p => webRow p.1 p.2 h.zipIdx
abbrev K2 (i j : Nat) : List Key := [.inl (i : Int), .inl (j : Int)]
abbrev Kn := List (List Key × Nat)
def knOf (w : List Arc) : Kn := w.foldl (fun acc p => putN acc (K2 p.1 p.2.1) p.2.2) []
def isNeed (h : List Tx) (kn : Kn) (p : Arc) : Bool := h.zipIdx.any fun q => match valN kn (K2 p.1 q.2), valN kn (K2 q.2 p.2.1) with
  | some x, some y => decide (x + y = q.1.length + p.2.2)
  | _, _ => false
def needL (h : List Tx) : List Arc := (webL h).filter (isNeed h (knOf (webL h)))
def laidL : List Tx → Tx
  | [] => []
  | r :: rs => ((r :: rs).zip rs).foldl (fun acc p => acc ++ p.2.drop (ovl p.1 p.2)) r
def savedL (rs : List Tx) : Nat := ((rs.zip rs.tail).map fun p => ovl p.1 p.2).sum
def pick (h : List Tx) (o : List Nat) : List Tx := o.map fun i => h.getD i []
structure OrdOk (h : List Tx) (o : List Nat) : Prop where
  ne : o ≠ []
  lt : ∀ i ∈ o, i < h.length
  nd : o.Nodup
/-! the pot -/
def Pot (S : Sto) (a : Addr) (k : Nat) : Prop := ∃ p0 p1 p2 : Int, S a = some (.lst [.int p0, .int p1, .int p2]) ∧ 0 ≤ p0 ∧ 0 ≤ p1 ∧ p1 < 2305843009213693921 ∧ 0 ≤ p2 ∧ p2 ≤ (k : Int)
def But (a : Addr) (S S' : Sto) : Prop := ∀ b, b ≠ a → S' b = S b
theorem But.refl (a : Addr) (S : Sto) : But a S S := fun _ _ => rfl
theorem But.trans {a : Addr} {S S' S'' : Sto} (x : But a S S') (y : But a S' S'') : But a S S'' := fun b h => (y b h).trans (x b h)
theorem But.ups {a : Addr} {S : Sto} {o : MO} : But a S (ups S a o) := fun b h => ups_ne h
/-! ### the promises -/
def sp_is_integer : SpecD := fun ds S P => ∃ i : Int, ds = [.int i] ∧ P (.bl true) S
def sp_is_between : SpecD := fun ds S P => ∃ v lo hi : Int, ds = [.int v, .int lo, .int hi] ∧ P (.bl (decide (lo ≤ v) && decide (v ≤ hi))) S
def sp_are_between : SpecD := fun ds S P => ∃ (ns : List Nat) (lo hi : Int), ds = [.tup (ns.map dN), .int lo, .int hi] ∧ ns.length ≤ 100 ∧ P (.bl (ns.all fun v => decide (lo ≤ (v : Int)) && decide ((v : Int) ≤ hi))) S
def sp_is_ascending : SpecD := fun ds S P => ∃ h : List Tx, ds = [.tup (h.map dS)] ∧ h.length ≤ 100 ∧ P (.bl (ascB h)) S
def sp_is_row_of : SpecD := fun ds S P => ∃ v, ds = [v] ∧ sol v ∧ P (.bl (isRowD v)) S
def sp_check_row : SpecD := fun ds S P => ∃ r, ds = [dS r] ∧ RowOk r ∧ P .non S
def sp_is_heap_of : SpecD := fun ds S P => ∃ v, ds = [v] ∧ sol2 v ∧ P (.bl (isHeapD v)) S
def sp_is_heap : SpecD := sp_is_heap_of
def sp_check_heap : SpecD := fun ds S P => ∃ h, ds = [heapD h] ∧ HeapOk h ∧ P .non S
def sp_check_both : SpecD := fun ds S P => ∃ a b, ds = [dS a, dS b] ∧ RowOk a ∧ RowOk b ∧ P .non S
def sp_overlaps_of : SpecD := fun ds S P => ∃ a b, ds = [dS a, dS b] ∧ RowOk a ∧ RowOk b ∧ P (.lst ((ovs a b).map dN)) S
def sp_overlap_of : SpecD := fun ds S P => ∃ a b, ds = [dS a, dS b] ∧ RowOk a ∧ RowOk b ∧ P (dN (ovl a b)) S
def sp_overlaps : SpecD := fun ds S P => ∃ a b, ds = [dS a, dS b] ∧ RowOk a ∧ RowOk b ∧ P (.tup ((ovs a b).map dN)) S
def sp_overlap : SpecD := sp_overlap_of
def sp_inside_of : SpecD := fun ds S P => ∃ h, ds = [heapD h] ∧ HeapOk h ∧ P (.lst ((insideL h).map dS)) S
def sp_outer_of : SpecD := fun ds S P => ∃ h, ds = [heapD h] ∧ HeapOk h ∧ P (.lst ((outerL h).map dS)) S
def sp_inside : SpecD := fun ds S P => ∃ h, ds = [heapD h] ∧ HeapOk h ∧ P (.tup ((insideL h).map dS)) S
def sp_outer : SpecD := fun ds S P => ∃ h, ds = [heapD h] ∧ HeapOk h ∧ P (.tup ((outerL h).map dS)) S
def sp_web_of : SpecD := fun ds S P => ∃ h, ds = [heapD h] ∧ HeapOk h ∧ P (.lst ((webL h).map arcD)) S
def sp_overlap_web : SpecD := fun ds S P => ∃ h, ds = [heapD h] ∧ HeapOk h ∧ P (.tup ((webL h).map arcD)) S
def sp_is_needless : SpecD := fun ds S P => ∃ h a kn p, ds = [heapD h, .ptr a, arcD p] ∧ HeapOk h ∧ S a = some (.dT (kvD dN kn)) ∧ P (.bl (isNeed h kn p)) S
def sp_needless_overlaps : SpecD := fun ds S P => ∃ h, ds = [heapD h] ∧ HeapOk h ∧ P (.tup ((needL h).map arcD)) S
def sp_is_order_of : SpecD := fun ds S P => ∃ h o, ds = [heapD h, .tup (o.map dN)] ∧ HeapOk h ∧ OrdOk h o ∧ P (.bl true) S
def sp_check_order : SpecD := fun ds S P => ∃ h o, ds = [heapD h, .tup (o.map dN)] ∧ HeapOk h ∧ OrdOk h o ∧ P .non S
def sp_laid_of : SpecD := fun ds S P => ∃ rs : List Tx, ds = [.lst (rs.map dS)] ∧ rs ≠ [] ∧ rs.length ≤ 12 ∧ (∀ r ∈ rs, RowOk r) ∧ P (dS (laidL rs)) S
def sp_laid : SpecD := fun ds S P => ∃ h o, ds = [heapD h, .tup (o.map dN)] ∧ HeapOk h ∧ OrdOk h o ∧ P (dS (laidL (pick h o))) S
def sp_saved : SpecD := fun ds S P => ∃ h o, ds = [heapD h, .tup (o.map dN)] ∧ HeapOk h ∧ OrdOk h o ∧ P (dN (savedL (pick h o))) S
def sp__law_pot : SpecD := fun ds S P => ∃ (ns : List Int) (place : Nat), ds = [.rol (ns.map dI), dN place] ∧ ns.length ≤ 63 ∧ place ≤ 63 ∧ ∀ a S', S a = none → Pot S' a 0 → But a S S' → P (.ptr a) S'
def sp__law_take : SpecD := fun ds S P => ∃ a u k, ds = [.ptr a, .int u] ∧ 0 < u ∧ u < 1000000 ∧ Pot S a k ∧ k < 10000 ∧ ∀ (r : Int) S', 0 ≤ r → r < u → Pot S' a (k + 1) → But a S S' → P (.int r) S'
def sp__law_of : SpecD := fun ds S P => ∃ a x es k, ds = [.ptr a, x] ∧ SeqD x S es ∧ (∀ l, x ≠ .ptr l) ∧ es ≠ [] ∧ es.length < 100000 ∧ Pot S a k ∧ k < 10000 ∧ ∀ d ∈ es, ∀ S', Pot S' a (k + 1) → But a S S' → P d S'
def sp__law_some : SpecD := fun ds S P => ∃ (a : Addr) (xs : List Nat) (m : Nat) (k : Nat), ds = [.ptr a, .lst (xs.map dN), dN m] ∧ m ≤ xs.length ∧ xs.length ≤ 100 ∧ xs.Nodup ∧ Pot S a k ∧ k + 200 < 10000 ∧
  ∀ (os : List Nat) S', os.length = m → os.Nodup → (∀ o ∈ os, o ∈ xs) → Pot S' a (k + m) → But a S S' → P (.lst (os.map dN)) S'
def sp__law_cells : SpecD := fun ds S P => ∃ (ns : List Int), ds = [.rol (ns.map dI), .int 3] ∧ ns.length ≤ 63 ∧ ∀ n : Nat, 1 ≤ n → n ≤ 3 → P (.lst ((List.range n).map dN)) S
def sp__law_is_row : SpecD := fun ds S P => ∃ v, ds = [v, .int 30] ∧ sol v ∧ P (.bl (isRowM 30 v)) S
def sp__law_odd : SpecD := fun ds S P => ∃ a k, ds = [.ptr a] ∧ Pot S a k ∧ k + 10 < 10000 ∧ ∀ v S', sol2 v → sol v → Pot S' a (k + 4) → But a S S' → P v S'
/-- of a text, of a heap -/
def spT__law_bent : SpecD := fun ds S P => ∃ a r k, ds = [.ptr a, dS r] ∧ RowOk r ∧ Pot S a k ∧ k + 30 < 10000 ∧ ∀ v S', sol2 v → sol v → Pot S' a (k + 10) → But a S S' → P v S'
def sp__law_bent : SpecD := fun ds S P => ∃ a h k, ds = [.ptr a, heapD h] ∧ HeapOk h ∧ Pot S a k ∧ k + 60 < 10000 ∧ ∀ v S', sol2 v → Pot S' a (k + 20) → But a S S' → P v S'
def sp__law_heap : SpecD := fun ds S P => ∃ a k, ds = [.ptr a, .int 7] ∧ Pot S a k ∧ k + 300 < 10000 ∧ ∀ h S', HeapOk h → Pot S' a (k + 200) → But a S S' → P (heapD h) S'
def sp__law_overlap : SpecD := sp_overlap_of
def sp__law_outer : SpecD := sp_outer_of
def sp__law_laid : SpecD := sp_laid_of
def sp__law_is_heap : SpecD := fun ds S P => ∃ v, ds = [v] ∧ sol2 v ∧ P (.bl (lawHeapD v)) S
def sp__law_right : SpecD := fun ds S P => ∃ a k, ds = [.ptr a] ∧ Pot S a k ∧ k + 1000 < 10000 ∧ ∀ S', Pot S' a (k + 1000) → But a S S' → P (.bl true) S'
def sp_law : SpecD := fun ds S P => ∃ ns : List Int, ds = [.rol (ns.map dI)] ∧ ns.length ≤ 63 ∧ P (.bl true) S
end K60
namespace K60
open PySem L2 DL
def t_is_integer (K : PySem.W.Frag) : TS :=
  (tRet (tAndV (tCB (rc_isinstance K) (tCons (tVar 0) (tCons (tC (.ty "int")) tNil))) (tNotT K (tCB (rc_isinstance K) (tCons (tVar 0) (tCons (tC (.ty "bool")) tNil))))))
def t_is_between (K : PySem.W.Frag) : TS :=
  (tRet (tAndV (tCall (spD K sp_is_integer) [] E0 (tCons (tVar 0) tNil)) (tChain (raLe K) (raLe K) (tVar 1) (tVar 0) (tVar 2))))
def t_are_between (K : PySem.W.Frag) : TS :=
  (tRet (tAndV (tCB (rc_isinstance K) (tCons (tVar 0) (tCons (tC (.ty "tuple")) tNil))) (tCB (rc_all K) (tCons (tLc (iSeq K (tVar 0)) (gName 3) tYes (tCall (spD K sp_is_between) [] E0 (tCons (tVar 3) (tCons (tVar 1) (tCons (tVar 2) tNil)))) [3]) tNil))))
def t_is_ascending (K : PySem.W.Frag) : TS :=
  (tRet (tCB (rc_all K) (tCons (tLc (iZipX K (tCons (tVar 0) (tCons (tSl (raSl K) (tVar 0) (tPart (tC (.int 1))) tNoPart) tNil))) (gTup K 2 (gCons (gName 1) (gCons (gName 2) gNil))) tYes (tOp (raLt K) (tVar 1) (tVar 2)) [1, 2]) tNil)))
def t_is_row_of (K : PySem.W.Frag) : TS :=
  (tRet (tAndV (tCB (rc_isinstance K) (tCons (tVar 0) (tCons (tC (.ty "str")) tNil))) (tAndV (tOp (raLe K) (tCB (rc_len K) (tCons (tVar 0) tNil)) (tC (.int 400))) (tCB (rc_all K) (tCons (tLc (iSeq K (tVar 0)) (gName 1) tYes (tOp (raIn K) (tVar 1) (tC (.str (Str.ofString "abcdefghijklmnopqrstuvwxyz")))) [1]) tNil)))))
def t_check_row (K : PySem.W.Frag) : TS :=
  (tIfS (tNot (tTru K (tCall (spD K sp_is_row_of) [] E0 (tCons (tVar 0) tNil))))
  tNever
  tNext)
def t_is_heap_of (K : PySem.W.Frag) : TS :=
  (tSeq (tIfS (tOr (tNot (tTru K (tCB (rc_isinstance K) (tCons (tVar 0) (tCons (tC (.ty "tuple")) tNil))))) (tOr (tNot (tTest (tChain (raLe K) (raLe K) (tC (.int 1)) (tCB (rc_len K) (tCons (tVar 0) tNil)) (tC (.int 12))))) (tNot (tTru K (tCB (rc_all K) (tCons (tLc (iSeq K (tVar 0)) (gName 1) tYes (tCall (spD K sp_is_row_of) [] E0 (tCons (tVar 1) tNil)) [1]) tNil))))))
  (tRet (tC (.bl false)))
  tNext)
  (tRet (tAndV (tCB (rc_all K) (tCons (tLc (iSeq K (tVar 0)) (gName 1) tYes (tChain (raLe K) (raLe K) (tC (.int 1)) (tCB (rc_len K) (tCons (tVar 1) tNil)) (tC (.int 30))) [1]) tNil)) (tCall (spD K sp_is_ascending) [] E0 (tCons (tVar 0) tNil)))))
def t_is_heap (K : PySem.W.Frag) : TS :=
  (tRet (tCall (spD K sp_is_heap_of) [] E0 (tCons (tVar 0) tNil)))
def t_check_heap (K : PySem.W.Frag) : TS :=
  (tIfS (tNot (tTru K (tCall (spD K sp_is_heap_of) [] E0 (tCons (tVar 0) tNil))))
  tNever
  tNext)
def t_check_both (K : PySem.W.Frag) : TS :=
  (tSeq (tDrop (tCall (spD K sp_check_row) [] E0 (tCons (tVar 0) tNil)))
  (tSeq (tDrop (tCall (spD K sp_check_row) [] E0 (tCons (tVar 1) tNil)))
  (tFor (iSeq K (tTup (tCons (tVar 0) (tCons (tVar 1) tNil)))) (gName 2)
  (tIfS (tTest (tOp (raEq K) (tVar 2) (tC (.str (Str.ofString "")))))
  tNever
  tNext))))
def t_overlaps_of (K : PySem.W.Frag) : TS :=
  (tRet (tLc (iRng2 (tCons (tC (.int 1)) (tCons (tCB (rc_min2 K) (tCons (tCB (rc_len K) (tCons (tVar 0) tNil)) (tCons (tCB (rc_len K) (tCons (tVar 1) tNil)) tNil))) tNil))) (gName 2) (tTru K (tM1 (rm_str_endswith K) (tVar 0) (tSl (raSl K) (tVar 1) tNoPart (tPart (tVar 2))))) (tVar 2) [2]))
def t_overlap_of (K : PySem.W.Frag) : TS :=
  (tRet (tCB (rc_max1 K) (tCons (tLst (tCons (tC (.int 0)) (StX.tStar K (tCall (spD K sp_overlaps_of) [] E0 (tCons (tVar 0) (tCons (tVar 1) tNil))) tNil))) tNil)))
def t_overlaps (K : PySem.W.Frag) : TS :=
  (tSeq (tDrop (tCall (spD K sp_check_both) [] E0 (tCons (tVar 0) (tCons (tVar 1) tNil))))
  (tRet (tCB (rc_tuple K) (tCons (tCall (spD K sp_overlaps_of) [] E0 (tCons (tVar 0) (tCons (tVar 1) tNil))) tNil))))
def t_overlap (K : PySem.W.Frag) : TS :=
  (tSeq (tDrop (tCall (spD K sp_check_both) [] E0 (tCons (tVar 0) (tCons (tVar 1) tNil))))
  (tRet (tCall (spD K sp_overlap_of) [] E0 (tCons (tVar 0) (tCons (tVar 1) tNil)))))
def t_inside_of (K : PySem.W.Frag) : TS :=
  (tRet (tLc (iSeq K (tVar 0)) (gName 1) (tTru K (tCB (rc_any K) (tCons (tLc (iSeq K (tVar 0)) (gName 2) (tTest (tOp (raNe K) (tVar 2) (tVar 1))) (tOp (raIn K) (tVar 1) (tVar 2)) [2]) tNil))) (tVar 1) [1]))
def t_outer_of (K : PySem.W.Frag) : TS :=
  (tSeq (tAsg (tCall (spD K sp_inside_of) [] E0 (tCons (tVar 0) tNil)) (gName 1))
  (tRet (tLc (iSeq K (tVar 0)) (gName 2) (tTest (tOp (raNotIn K) (tVar 2) (tVar 1))) (tVar 2) [2])))
def t_inside (K : PySem.W.Frag) : TS :=
  (tSeq (tDrop (tCall (spD K sp_check_heap) [] E0 (tCons (tVar 0) tNil)))
  (tRet (tCB (rc_tuple K) (tCons (tCall (spD K sp_inside_of) [] E0 (tCons (tVar 0) tNil)) tNil))))
def t_outer (K : PySem.W.Frag) : TS :=
  (tSeq (tDrop (tCall (spD K sp_check_heap) [] E0 (tCons (tVar 0) tNil)))
  (tRet (tCB (rc_tuple K) (tCons (tCall (spD K sp_outer_of) [] E0 (tCons (tVar 0) tNil)) tNil))))
def t_web_of (K : PySem.W.Frag) : TS :=
  (tSeq (tAsg (tLst tNil) (gName 1))
  (tSeq (tFor (iEnumerateX K (tCons (tVar 0) tNil)) (gTup K 2 (gCons (gName 2) (gCons (gName 3) gNil)))
  (tFor (iEnumerateX K (tCons (tVar 0) tNil)) (gTup K 2 (gCons (gName 4) (gCons (gName 5) gNil)))
  (tSeq (tAsg (tIf (tTest (tOp (raNe K) (tVar 2) (tVar 4))) (tCall (spD K sp_overlap_of) [] E0 (tCons (tVar 3) (tCons (tVar 5) tNil))) (tC (.int 0))) (gName 6))
  (tDrop (tBM K "list" (rm_list_extend K) (tVar 1) (tCons (tIf (tTest (tOp (raGt K) (tVar 6) (tC (.int 0)))) (tLst (tCons (tTup (tCons (tVar 2) (tCons (tVar 4) (tCons (tVar 6) tNil)))) tNil)) (tLst tNil)) tNil))))))
  (tRet (tVar 1))))
def t_overlap_web (K : PySem.W.Frag) : TS :=
  (tSeq (tDrop (tCall (spD K sp_check_heap) [] E0 (tCons (tVar 0) tNil)))
  (tRet (tCB (rc_tuple K) (tCons (tCall (spD K sp_web_of) [] E0 (tCons (tVar 0) tNil)) tNil))))
def t_is_needless (K : PySem.W.Frag) : TS :=
  (tSeq (tAsg (tVar 2) (gTup K 3 (gCons (gName 3) (gCons (gName 4) (gCons (gName 5) gNil)))))
  (tSeq (tFor (iEnumerateX K (tCons (tVar 0) tNil)) (gTup K 2 (gCons (gName 6) (gCons (gName 7) gNil)))
  (tIfS (tAnd (tB (tDIn (tTup (tCons (tVar 3) (tCons (tVar 6) tNil))) (tVar 1))) (tAnd (tB (tDIn (tTup (tCons (tVar 6) (tCons (tVar 4) tNil))) (tVar 1))) (tTest (tOp (raEq K) (tOp (raAdd K) (tDGet (tVar 1) (tTup (tCons (tVar 3) (tCons (tVar 6) tNil)))) (tDGet (tVar 1) (tTup (tCons (tVar 6) (tCons (tVar 4) tNil))))) (tOp (raAdd K) (tCB (rc_len K) (tCons (tVar 7) tNil)) (tVar 5))))))
  (tRet (tC (.bl true)))
  tNext))
  (tRet (tC (.bl false)))))
def t_needless_overlaps (K : PySem.W.Frag) : TS :=
  (tSeq (tDrop (tCall (spD K sp_check_heap) [] E0 (tCons (tVar 0) tNil)))
  (tSeq (tAsg (tCall (spD K sp_web_of) [] E0 (tCons (tVar 0) tNil)) (gName 1))
  (tSeq (tAsg (tCB (rc_dictT K) (tCons (tLc (iSeq K (tVar 1)) (gTup K 3 (gCons (gName 3) (gCons (gName 4) (gCons (gName 5) gNil)))) tYes (tTup (tCons (tTup (tCons (tVar 3) (tCons (tVar 4) tNil))) (tCons (tVar 5) tNil))) [3, 4, 5]) tNil)) (gName 2))
  (tRet (tCB (rc_tuple K) (tCons (tLc (iSeq K (tVar 1)) (gName 6) (tTru K (tCall (spD K sp_is_needless) [] E0 (tCons (tVar 0) (tCons (tVar 2) (tCons (tVar 6) tNil))))) (tVar 6) [6]) tNil))))))
def t_is_order_of (K : PySem.W.Frag) : TS :=
  (tSeq (tIfS (tOr (tNot (tTru K (tCB (rc_isinstance K) (tCons (tVar 1) (tCons (tC (.ty "tuple")) tNil))))) (tOr (tTest (tOp (raEq K) (tVar 1) (tTup tNil))) (tNot (tTru K (tCall (spD K sp_are_between) [] E0 (tCons (tVar 1) (tCons (tC (.int 0)) (tCons (tOp (raSub K) (tCB (rc_len K) (tCons (tVar 0) tNil)) (tC (.int 1))) tNil))))))))
  (tRet (tC (.bl false)))
  tNext)
  (tRet (tOp (raEq K) (tLenSetX K (tVar 1)) (tCB (rc_len K) (tCons (tVar 1) tNil)))))
def t_check_order (K : PySem.W.Frag) : TS :=
  (tSeq (tDrop (tCall (spD K sp_check_heap) [] E0 (tCons (tVar 0) tNil)))
  (tIfS (tNot (tTru K (tCall (spD K sp_is_order_of) [] E0 (tCons (tVar 0) (tCons (tVar 1) tNil)))))
  tNever
  tNext))
def t_laid_of (K : PySem.W.Frag) : TS :=
  (tSeq (tAsg (tOp (rIx K) (tVar 0) (tC (.int 0))) (gName 1))
  (tSeq (tFor (iZipX K (tCons (tVar 0) (tCons (tSl (raSl K) (tVar 0) (tPart (tC (.int 1))) tNoPart) tNil))) (gTup K 2 (gCons (gName 2) (gCons (gName 3) gNil)))
  (tAsg (tOp (raAdd K) (tVar 1) (tSl (raSl K) (tVar 3) (tPart (tCall (spD K sp_overlap_of) [] E0 (tCons (tVar 2) (tCons (tVar 3) tNil)))) tNoPart)) (gName 1)))
  (tRet (tVar 1))))
def t_laid (K : PySem.W.Frag) : TS :=
  (tSeq (tDrop (tCall (spD K sp_check_order) [] E0 (tCons (tVar 0) (tCons (tVar 1) tNil))))
  (tRet (tCall (spD K sp_laid_of) [] E0 (tCons (tLc (iSeq K (tVar 1)) (gName 2) tYes (tOp (rIx K) (tVar 0) (tVar 2)) [2]) tNil))))
def t_saved (K : PySem.W.Frag) : TS :=
  (tSeq (tDrop (tCall (spD K sp_check_order) [] E0 (tCons (tVar 0) (tCons (tVar 1) tNil))))
  (tSeq (tAsg (tLc (iSeq K (tVar 1)) (gName 3) tYes (tOp (rIx K) (tVar 0) (tVar 3)) [3]) (gName 2))
  (tRet (tCB (rc_sum K) (tCons (tLc (iZipX K (tCons (tVar 2) (tCons (tSl (raSl K) (tVar 2) (tPart (tC (.int 1))) tNoPart) tNil))) (gTup K 2 (gCons (gName 4) (gCons (gName 5) gNil))) tYes (tCall (spD K sp_overlap_of) [] E0 (tCons (tVar 4) (tCons (tVar 5) tNil))) [4, 5]) tNil)))))
def t__law_pot (K : PySem.W.Frag) : TS :=
  (tSeq (tAsg (tIf (tTest (tOp (raLt K) (tVar 1) (tCB (rc_len K) (tCons (tVar 0) tNil)))) (tOp (rIx K) (tVar 0) (tVar 1)) (tOp (raAdd K) (tOp (raAdd K) (tOp (raMod K) (tCB (rc_sum K) (tCons (tSl (raSl K) (tVar 0) tNoPart (tPart (tC (.int 1)))) tNil)) (tC (.int 1000721))) (tOp (raMul K) (tC (.int 5303)) (tVar 1))) (tC (.int 733)))) (gName 2))
  (tSeq (tAsg (tOp (raMul K) (tOp (raMod K) (tCB (rc_int K) (tCons (tCB (rc_abs K) (tCons (tVar 2) tNil)) tNil)) (tOp (raPow K) (tOp (raPow K) (tC (.int 10)) (tC (.int 60))) (tC (.int 5)))) (tCB (rc_int K) (tCons (tOp (raGe K) (tCB (rc_abs K) (tCons (tVar 2) tNil)) (tOp (raPow K) (tC (.int 10)) (tC (.int 18)))) tNil))) (gName 3))
  (tSeq (tAsg (tOp (raMod K) (tCB (rc_int K) (tCons (tVar 2) tNil)) (tC (.int 2305843009213693951))) (gName 4))
  (tRet (tLst (tCons (tVar 3) (tCons (tOp (raMod K) (tCB (rc_int K) (tCons (tOp (raAdd K) (tOp (raAdd K) (tOp (raMul K) (tVar 4) (tC (.int 28411))) (tOp (raMul K) (tOp (raMul K) (tC (.int 7723)) (tVar 1)) (tVar 1))) (tC (.int 1621))) tNil)) (tC (.int 2305843009213693921))) (tCons (tC (.int 0)) tNil))))))))
def t__law_take (K : PySem.W.Frag) : TS :=
  (tSeq (tIfS (tTest (tOp (raGt K) (tOp (rIx K) (tVar 0) (tC (.int 0))) (tC (.int 0))))
  (tSeq (tAsg (tOp (raMod K) (tCB (rc_int K) (tCons (tOp (rIx K) (tVar 0) (tC (.int 0))) tNil)) (tVar 1)) (gName 2))
  (tSeq (tAsg (tOp (raDiv K) (tOp (rIx K) (tVar 0) (tC (.int 0))) (tVar 1)) (gSub (tVar 0) (tC (.int 0)) rSetL))
  (tRet (tVar 2))))
  tNext)
  (tSeq (tAsg (tOp (raAdd K) (tOp (rIx K) (tVar 0) (tC (.int 2))) (tC (.int 1))) (gSub (tVar 0) (tC (.int 2)) rSetL))
  (tSeq (tAsg (tOp (rIx K) (tLst (tCons (tC (.int 2147480419)) (tCons (tC (.int 2147480411)) (tCons (tC (.int 2147480407)) (tCons (tC (.int 2147480347)) (tCons (tC (.int 2147480281)) tNil)))))) (tOp (raMod K) (tCB (rc_int K) (tCons (tOp (rIx K) (tVar 0) (tC (.int 2))) tNil)) (tC (.int 5)))) (gName 3))
  (tSeq (tAsg (tOp (raMod K) (tCB (rc_int K) (tCons (tOp (raPow K) (tCB (rc_int K) (tCons (tOp (raAdd K) (tOp (raAdd K) (tOp (rIx K) (tVar 0) (tC (.int 1))) (tOp (raMul K) (tOp (raMul K) (tC (.int 39461)) (tOp (rIx K) (tVar 0) (tC (.int 2)))) (tOp (rIx K) (tVar 0) (tC (.int 2))))) (tC (.int 2081))) tNil)) (tC (.int 3))) tNil)) (tVar 3)) (gName 4))
  (tSeq (tAsg (tOp (raMod K) (tCB (rc_int K) (tCons (tOp (raMul K) (tVar 4) (tOp (raAdd K) (tOp (raMod K) (tCB (rc_int K) (tCons (tVar 4) tNil)) (tC (.int 7247))) (tOp (raMul K) (tC (.int 389)) (tOp (rIx K) (tVar 0) (tC (.int 2)))))) tNil)) (tC (.int 2305843009213693907))) (gName 4))
  (tRet (tOp (raMod K) (tCB (rc_int K) (tCons (tOp (raDiv K) (tVar 4) (tC (.int 157))) tNil)) (tVar 1))))))))
def t__law_of (K : PySem.W.Frag) : TS :=
  (tRet (tOp (rIx K) (tVar 1) (tCall (spD K sp__law_take) [] E0 (tCons (tVar 0) (tCons (tCB (rc_len K) (tCons (tVar 1) tNil)) tNil)))))
def t__law_some (K : PySem.W.Frag) : TS :=
  (tSeq (tPar 3 4 (tCons (tCB (rc_list K) (tCons (tVar 1) tNil)) (tCons (tLst tNil) tNil)))
  (tSeq (tFor (iRng1 (tCons (tVar 2) tNil)) (gName 5)
  (tDrop (tBM K "list" (rm_list_append K) (tVar 4) (tCons (tBM K "list" (rm_list_pop1 K) (tVar 3) (tCons (tCall (spD K sp__law_take) [] E0 (tCons (tVar 0) (tCons (tCB (rc_len K) (tCons (tVar 3) tNil)) tNil))) tNil)) tNil))))
  (tRet (tVar 4))))
def t__law_cells (K : PySem.W.Frag) : TS :=
  (tRet (tLstRg (tRg1 (tCB (rc_max2 K) (tCons (tC (.int 1)) (tCons (tCB (rc_min2 K) (tCons (tVar 1) (tCons (tCB (rc_len K) (tCons (tVar 0) tNil)) tNil))) tNil))))))
def t__law_is_row (K : PySem.W.Frag) : TS :=
  (tRet (tAndV (tCB (rc_isinstance K) (tCons (tVar 0) (tCons (tC (.ty "str")) tNil))) (tAndV (tOp (raLe K) (tCB (rc_len K) (tCons (tVar 0) tNil)) (tVar 1)) (tCB (rc_all K) (tCons (tLc (iSeq K (tVar 0)) (gName 2) tYes (tOp (raIn K) (tVar 2) (tC (.str (Str.ofString "abcdefghijklmnopqrstuvwxyz")))) [2]) tNil)))))
def t__law_odd (K : PySem.W.Frag) : TS :=
  (tSeq (tAsg (tLst (tCons (tC .non) (tCons (tC (.bl true)) (tCons (tC (.bl false)) (tCons (tC (.int 0)) (tCons (tC (.int 1)) (tCons (tUn raNeg (tC (.int 1))) (tCons (tC (.int 7)) (tCons (tOp (raPow K) (tC (.int 10)) (tC (.int 11))) (tCons (tC (.str (Str.ofString ""))) (tCons (tC (.str (Str.ofString "a"))) (tCons (tC (.str (Str.ofString "ab"))) (tCons (tTup tNil) (tCons (tTup (tCons (tC (.int 0)) tNil)) (tCons (tTup (tCons (tC .non) tNil)) (tCons (tLst tNil) (tCons (tLst (tCons (tC (.int 0)) tNil)) (tCons tDNewK (tCons (tDisp [((tC (.str (Str.ofString "a"))), (tC (.int 1)))]) (tCons (tTup (tCons (tTup (tCons (tC (.str (Str.ofString "a"))) (tCons (tC (.int 0)) tNil))) tNil)) tNil)))))))))))))))))))) (gName 1))
  (tSeq (tAsg (tCall (spD K sp__law_of) [] E0 (tCons (tVar 0) (tCons (tVar 1) tNil))) (gName 2))
  (tSeq (tFor (iRng1 (tCons (tCall (spD K sp__law_take) [] E0 (tCons (tVar 0) (tCons (tC (.int 3)) tNil))) tNil)) (gName 3)
  (tAsg (tCall (spD K sp__law_of) [] E0 (tCons (tVar 0) (tCons (tLst (tCons (tTup (tCons (tVar 2) tNil)) (tCons (tLst (tCons (tVar 2) tNil)) (tCons (tDisp [((tC (.str (Str.ofString "a"))), (tVar 2))]) (tCons (tTup (tCons (tVar 2) (tCons (tC (.int 0)) tNil))) (tCons (tTup (tCons (tC (.int 0)) (tCons (tVar 2) tNil))) tNil)))))) tNil))) (gName 2)))
  (tRet (tVar 2)))))
def t__law_bent (inner : SpecD) (K : PySem.W.Frag) : TS :=
  (tSeq (tIfS (tAnd (tTru K (tCB (rc_isinstance K) (tCons (tVar 1) (tCons (tC (.ty "tuple")) tNil)))) (tAnd (tTest (tOp (raNe K) (tVar 1) (tTup tNil))) (tTest (tOp (raGt K) (tCall (spD K sp__law_take) [] E0 (tCons (tVar 0) (tCons (tC (.int 5)) tNil))) (tC (.int 0))))))
  (tSeq (tAsg (tCall (spD K sp__law_take) [] E0 (tCons (tVar 0) (tCons (tCB (rc_len K) (tCons (tVar 1) tNil)) tNil))) (gName 2))
  (tRet (tOp (raAdd K) (tOp (raAdd K) (tSl (raSl K) (tVar 1) tNoPart (tPart (tVar 2))) (tTup (tCons (tCall (spD K inner) [] E0 (tCons (tVar 0) (tCons (tOp (rIx K) (tVar 1) (tVar 2)) tNil))) tNil))) (tSl (raSl K) (tVar 1) (tPart (tOp (raAdd K) (tVar 2) (tC (.int 1)))) tNoPart))))
  tNext)
  (tSeq (tIfS (tTru K (tCB (rc_isinstance K) (tCons (tVar 1) (tCons (tC (.ty "tuple")) tNil))))
  (tSeq (tAsg (tCall (spD K sp__law_take) [] E0 (tCons (tVar 0) (tCons (tOp (raAdd K) (tCB (rc_len K) (tCons (tVar 1) tNil)) (tC (.int 1))) tNil))) (gName 2))
  (tSeq (tAsg (tLst (tCons (tCB (rc_list K) (tCons (tVar 1) tNil)) (tCons (tOp (raAdd K) (tSl (raSl K) (tVar 1) tNoPart (tPart (tVar 2))) (tSl (raSl K) (tVar 1) (tPart (tOp (raAdd K) (tVar 2) (tC (.int 1)))) tNoPart)) (tCons (tOp (raAdd K) (tVar 1) (tSl (raSl K) (tVar 1) (tPart (tVar 2)) (tPart (tOp (raAdd K) (tVar 2) (tC (.int 1)))))) (tCons (tRevX K (tVar 1)) (tCons (tOp (raAdd K) (tOp (raAdd K) (tSl (raSl K) (tVar 1) tNoPart (tPart (tVar 2))) (tTup (tCons (tCall (spD K sp__law_odd) [] E0 (tCons (tVar 0) tNil)) tNil))) (tSl (raSl K) (tVar 1) (tPart (tVar 2)) tNoPart)) tNil)))))) (gName 3))
  (tRet (tCall (spD K sp__law_of) [] E0 (tCons (tVar 0) (tCons (tVar 3) tNil))))))
  tNext)
  (tSeq (tIfS (tAnd (tTru K (tCB (rc_isinstance K) (tCons (tVar 1) (tCons (tC (.ty "str")) tNil)))) (tAnd (tTest (tOp (raNe K) (tVar 1) (tC (.str (Str.ofString ""))))) (tTest (tOp (raGt K) (tCall (spD K sp__law_take) [] E0 (tCons (tVar 0) (tCons (tC (.int 3)) tNil))) (tC (.int 0))))))
  (tSeq (tAsg (tCall (spD K sp__law_take) [] E0 (tCons (tVar 0) (tCons (tCB (rc_len K) (tCons (tVar 1) tNil)) tNil))) (gName 2))
  (tRet (tCall (spD K sp__law_of) [] E0 (tCons (tVar 0) (tCons (tLst (tCons (tOp (raAdd K) (tSl (raSl K) (tVar 1) tNoPart (tPart (tVar 2))) (tSl (raSl K) (tVar 1) (tPart (tOp (raAdd K) (tVar 2) (tC (.int 1)))) tNoPart)) (tCons (tOp (raAdd K) (tOp (raAdd K) (tSl (raSl K) (tVar 1) tNoPart (tPart (tVar 2))) (tCall (spD K sp__law_of) [] E0 (tCons (tVar 0) (tCons (tCB (rc_list K) (tCons (tC (.str (Str.ofString "abc"))) tNil)) tNil)))) (tSl (raSl K) (tVar 1) (tPart (tOp (raAdd K) (tVar 2) (tC (.int 1)))) tNoPart)) (tCons (tOp (raAdd K) (tVar 1) (tOp (rIx K) (tVar 1) (tVar 2))) (tCons (tRevX K (tVar 1)) tNil))))) tNil)))))
  tNext)
  (tSeq (tIfS (tOr (tTru K (tCB (rc_isinstance K) (tCons (tVar 1) (tCons (tC (.ty "bool")) tNil)))) (tNot (tTru K (tCB (rc_isinstance K) (tCons (tVar 1) (tCons (tC (.ty "int")) tNil))))))
  (tRet (tCall (spD K sp__law_odd) [] E0 (tCons (tVar 0) tNil)))
  tNext)
  (tRet (tCall (spD K sp__law_of) [] E0 (tCons (tVar 0) (tCons (tLst (tCons (tOp (raAdd K) (tVar 1) (tC (.int 1))) (tCons (tOp (raSub K) (tVar 1) (tC (.int 1))) (tCons (tOp (raAdd K) (tVar 1) (tC (.int 2))) (tCons (tUn raNeg (tVar 1)) (tCons (tCB (rc_str K) (tCons (tVar 1) tNil)) (tCons (tTup (tCons (tVar 1) tNil)) (tCons (tOp (raEq K) (tVar 1) (tC (.int 1))) (tCons (tC .non) (tCons (tC (.int 500)) tNil)))))))))) tNil))))))))
def t__law_heap (K : PySem.W.Frag) : TS :=
  (tSeq (tAsg (tTup (tCons (tCall (spD K sp__law_of) [] E0 (tCons (tVar 0) (tCons (tLst (tCons (tC (.str (Str.ofString "ab"))) (tCons (tC (.str (Str.ofString "abc"))) (tCons (tC (.str (Str.ofString "a"))) (tCons (tC (.str (Str.ofString "abcd"))) tNil))))) tNil))) (tCons tDNewK tNil))) (gTup K 2 (gCons (gName 2) (gCons (gName 3) gNil))))
  (tSeq (tAsg (tM1 (rm_str_join K) (tC (.str (Str.ofString ""))) (tLc (iRng1 (tCons (tOp (raAdd K) (tC (.int 8)) (tCall (spD K sp__law_take) [] E0 (tCons (tVar 0) (tCons (tC (.int 13)) tNil)))) tNil)) (gName 5) tYes (tCall (spD K sp__law_of) [] E0 (tCons (tVar 0) (tCons (tCB (rc_list K) (tCons (tVar 2) tNil)) tNil))) [5])) (gName 4))
  (tSeq (tFor (iRng1 (tCons (tOp (raAdd K) (tC (.int 1)) (tCall (spD K sp__law_take) [] E0 (tCons (tVar 0) (tCons (tVar 1) tNil)))) tNil)) (gName 5)
  (tSeq (tPar 6 7 (tCons (tCall (spD K sp__law_take) [] E0 (tCons (tVar 0) (tCons (tCB (rc_len K) (tCons (tVar 4) tNil)) tNil))) (tCons (tOp (raAdd K) (tC (.int 1)) (tCall (spD K sp__law_take) [] E0 (tCons (tVar 0) (tCons (tC (.int 7)) tNil)))) tNil)))
  (tSeq (tAsg (tCall (spD K sp__law_of) [] E0 (tCons (tVar 0) (tCons (tLst (tCons (tSl (raSl K) (tVar 4) (tPart (tVar 6)) (tPart (tOp (raAdd K) (tVar 6) (tVar 7)))) (tCons (tSl (raSl K) (tVar 4) (tPart (tVar 6)) (tPart (tOp (raAdd K) (tVar 6) (tVar 7)))) (tCons (tM1 (rm_str_join K) (tC (.str (Str.ofString ""))) (tLc (iRng1 (tCons (tVar 7) tNil)) (gName 9) tYes (tCall (spD K sp__law_of) [] E0 (tCons (tVar 0) (tCons (tCB (rc_list K) (tCons (tVar 2) tNil)) tNil))) [9])) tNil)))) tNil))) (gName 8))
  (sDPut (tVar 3) (tVar 8) (tC (.bl true))))))
  (tRet (tCB (rc_tuple K) (tCons (tCB (rc_sortedDict K) (tCons (tVar 3) tNil)) tNil))))))
def t__law_overlap (K : PySem.W.Frag) : TS :=
  (tSeq (tAsg (tLc (iRng1 (tCons (tCB (rc_min2 K) (tCons (tCB (rc_len K) (tCons (tVar 0) tNil)) (tCons (tCB (rc_len K) (tCons (tVar 1) tNil)) tNil))) tNil)) (gName 3) (tTest (tOp (raEq K) (tSl (raSl K) (tVar 0) (tPart (tOp (raSub K) (tCB (rc_len K) (tCons (tVar 0) tNil)) (tVar 3))) tNoPart) (tSl (raSl K) (tVar 1) tNoPart (tPart (tVar 3))))) (tVar 3) [3]) (gName 2))
  (tRet (tIf (tTest (tOp (raNe K) (tVar 2) (tLst tNil))) (tCB (rc_max1 K) (tCons (tVar 2) tNil)) (tC (.int 0)))))
def t__law_outer (K : PySem.W.Frag) : TS :=
  (tRet (tLc (iSeq K (tVar 0)) (gName 1) (tNot (tTru K (tCB (rc_any K) (tCons (tLc (iSeq K (tVar 0)) (gName 2) tYes (tAndV (tOp (raNe K) (tVar 1) (tVar 2)) (tOp (raIn K) (tVar 1) (tVar 2))) [2]) tNil)))) (tVar 1) [1]))
def t__law_laid (K : PySem.W.Frag) : TS :=
  (tSeq (tAsg (tOp (rIx K) (tVar 0) (tC (.int 0))) (gName 1))
  (tSeq (tFor (iZipX K (tCons (tVar 0) (tCons (tSl (raSl K) (tVar 0) (tPart (tC (.int 1))) tNoPart) tNil))) (gTup K 2 (gCons (gName 2) (gCons (gName 3) gNil)))
  (tAsg (tOp (raAdd K) (tVar 1) (tSl (raSl K) (tVar 3) (tPart (tCall (spD K sp__law_overlap) [] E0 (tCons (tVar 2) (tCons (tVar 3) tNil)))) tNoPart)) (gName 1)))
  (tRet (tVar 1))))
def t__law_is_heap (K : PySem.W.Frag) : TS :=
  (tSeq (tIfS (tOr (tNot (tTru K (tCB (rc_isinstance K) (tCons (tVar 0) (tCons (tC (.ty "tuple")) tNil))))) (tOr (tNot (tTest (tChain (raLe K) (raLe K) (tC (.int 1)) (tCB (rc_len K) (tCons (tVar 0) tNil)) (tC (.int 12))))) (tNot (tTru K (tCB (rc_all K) (tCons (tLc (iSeq K (tVar 0)) (gName 1) tYes (tAndV (tCall (spD K sp__law_is_row) [] E0 (tCons (tVar 1) (tCons (tC (.int 30)) tNil))) (tOp (raNe K) (tVar 1) (tC (.str (Str.ofString ""))))) [1]) tNil))))))
  (tRet (tC (.bl false)))
  tNext)
  (tRet (tOp (raEq K) (tCB (rc_list K) (tCons (tVar 0) tNil)) (tSortedSet K (tVar 0)))))
def t__law_right (K : PySem.W.Frag) : TS :=
  (tSeq (tAsg (tCall (spD K sp__law_heap) [] E0 (tCons (tVar 0) (tCons (tC (.int 7)) tNil))) (gName 1))
  (tSeq (tIfS (tOr (tTest (tOp (raNe K) (tCall (spD K sp_outer) [] E0 (tCons (tVar 1) tNil)) (tCB (rc_tuple K) (tCons (tCall (spD K sp__law_outer) [] E0 (tCons (tVar 1) tNil)) tNil)))) (tTest (tOp (raNe K) (tCall (spD K sp_inside) [] E0 (tCons (tVar 1) tNil)) (tCB (rc_tuple K) (tCons (tLc (iSeq K (tVar 1)) (gName 13) (tTest (tOp (raNotIn K) (tVar 13) (tCall (spD K sp__law_outer) [] E0 (tCons (tVar 1) tNil)))) (tVar 13) [13]) tNil)))))
  (tRet (tC (.bl false)))
  tNext)
  (tSeq (tAsg (tLst tNil) (gName 2))
  (tSeq (tFor (iEnumerateX K (tCons (tVar 1) tNil)) (gTup K 2 (gCons (gName 3) (gCons (gName 4) gNil)))
  (tFor (iEnumerateX K (tCons (tVar 1) tNil)) (gTup K 2 (gCons (gName 5) (gCons (gName 6) gNil)))
  (tSeq (tAsg (tCB (rc_tuple K) (tCons (tLc (iRng2 (tCons (tC (.int 1)) (tCons (tCB (rc_min2 K) (tCons (tCB (rc_len K) (tCons (tVar 4) tNil)) (tCons (tCB (rc_len K) (tCons (tVar 6) tNil)) tNil))) tNil))) (gName 10) (tTest (tOp (raEq K) (tSl (raSl K) (tVar 4) (tPart (tOp (raSub K) (tCB (rc_len K) (tCons (tVar 4) tNil)) (tVar 10))) tNoPart) (tSl (raSl K) (tVar 6) tNoPart (tPart (tVar 10))))) (tVar 10) [10]) tNil)) (gName 7))
  (tSeq (tIfS (tTest (tOp (raNe K) (tCB (rc_repr K) (tCons (tTup (tCons (tCall (spD K sp_overlaps) [] E0 (tCons (tVar 4) (tCons (tVar 6) tNil))) (tCons (tCall (spD K sp_overlap) [] E0 (tCons (tVar 4) (tCons (tVar 6) tNil))) tNil))) tNil)) (tCB (rc_repr K) (tCons (tTup (tCons (tVar 7) (tCons (tCB (rc_max1 K) (tCons (tOp (raAdd K) (tTup (tCons (tC (.int 0)) tNil)) (tVar 7)) tNil)) tNil))) tNil))))
  (tRet (tC (.bl false)))
  tNext)
  (tDrop (tBM K "list" (rm_list_extend K) (tVar 2) (tCons (tIf (tAnd (tTest (tOp (raNe K) (tVar 3) (tVar 5))) (tTest (tOp (raNe K) (tVar 7) (tTup tNil)))) (tLst (tCons (tTup (tCons (tVar 3) (tCons (tVar 5) (tCons (tOp (rIx K) (tVar 7) (tUn raNeg (tC (.int 1)))) tNil)))) tNil)) (tLst tNil)) tNil)))))))
  (tSeq (tIfS (tTest (tOp (raNe K) (tCB (rc_repr K) (tCons (tCall (spD K sp_overlap_web) [] E0 (tCons (tVar 1) tNil)) tNil)) (tCB (rc_repr K) (tCons (tCB (rc_tuple K) (tCons (tVar 2) tNil)) tNil))))
  (tRet (tC (.bl false)))
  tNext)
  (tSeq (tAsg (tTup (tCons (tCB (rc_dictT K) (tCons (tLc (iSeq K (tVar 2)) (gTup K 3 (gCons (gName 3) (gCons (gName 5) (gCons (gName 10) gNil)))) tYes (tTup (tCons (tTup (tCons (tVar 3) (tCons (tVar 5) tNil))) (tCons (tVar 10) tNil))) [3, 5, 10]) tNil)) (tCons (tLst tNil) tNil))) (gTup K 2 (gCons (gName 8) (gCons (gName 9) gNil))))
  (tSeq (tFor (iSeq K (tVar 2)) (gTup K 3 (gCons (gName 3) (gCons (gName 5) (gCons (gName 10) gNil))))
  (tSeq (tAsg (tLc (iRng1 (tCons (tCB (rc_len K) (tCons (tVar 1) tNil)) tNil)) (gName 21) (tAnd (tB (tDIn (tTup (tCons (tVar 3) (tCons (tVar 21) tNil))) (tVar 8))) (tB (tDIn (tTup (tCons (tVar 21) (tCons (tVar 5) tNil))) (tVar 8)))) (tVar 21) [21]) (gName 11))
  (tDrop (tBM K "list" (rm_list_extend K) (tVar 9) (tCons (tIf (tTru K (tCB (rc_any K) (tCons (tLc (iSeq K (tVar 11)) (gName 21) tYes (tOp (raEq K) (tOp (raAdd K) (tDGet (tVar 8) (tTup (tCons (tVar 3) (tCons (tVar 21) tNil)))) (tDGet (tVar 8) (tTup (tCons (tVar 21) (tCons (tVar 5) tNil))))) (tOp (raAdd K) (tVar 10) (tCB (rc_len K) (tCons (tOp (rIx K) (tVar 1) (tVar 21)) tNil)))) [21]) tNil))) (tLst (tCons (tTup (tCons (tVar 3) (tCons (tVar 5) (tCons (tVar 10) tNil)))) tNil)) (tLst tNil)) tNil)))))
  (tSeq (tIfS (tTest (tOp (raNe K) (tCB (rc_repr K) (tCons (tCall (spD K sp_needless_overlaps) [] E0 (tCons (tVar 1) tNil)) tNil)) (tCB (rc_repr K) (tCons (tCB (rc_tuple K) (tCons (tVar 9) tNil)) tNil))))
  (tRet (tC (.bl false)))
  tNext)
  (tSeq (tAsg (tCB (rc_tuple K) (tCons (tCall (spD K sp__law_some) [] E0 (tCons (tVar 0) (tCons (tLstRg (tRg1 (tCB (rc_len K) (tCons (tVar 1) tNil)))) (tCons (tOp (raAdd K) (tC (.int 1)) (tCall (spD K sp__law_take) [] E0 (tCons (tVar 0) (tCons (tCB (rc_len K) (tCons (tVar 1) tNil)) tNil)))) tNil)))) tNil)) (gName 12))
  (tSeq (tAsg (tLc (iSeq K (tVar 12)) (gName 22) tYes (tOp (rIx K) (tVar 1) (tVar 22)) [22]) (gName 11))
  (tSeq (tAsg (tTup (tCons (tCall (spD K sp_laid) [] E0 (tCons (tVar 1) (tCons (tVar 12) tNil))) (tCons (tCB (rc_sum K) (tCons (tLc (iZipX K (tCons (tVar 11) (tCons (tSl (raSl K) (tVar 11) (tPart (tC (.int 1))) tNoPart) tNil))) (gTup K 2 (gCons (gName 4) (gCons (gName 6) gNil))) tYes (tCall (spD K sp__law_overlap) [] E0 (tCons (tVar 4) (tCons (tVar 6) tNil))) [4, 6]) tNil)) tNil))) (gTup K 2 (gCons (gName 13) (gCons (gName 14) gNil))))
  (tSeq (tIfS (tOr (tTest (tOp (raNe K) (tVar 13) (tCall (spD K sp__law_laid) [] E0 (tCons (tVar 11) tNil)))) (tOr (tTest (tOp (raNe K) (tCB (rc_repr K) (tCons (tCall (spD K sp_saved) [] E0 (tCons (tVar 1) (tCons (tVar 12) tNil))) tNil)) (tCB (rc_repr K) (tCons (tVar 14) tNil)))) (tOr (tTest (tOp (raNe K) (tCB (rc_len K) (tCons (tVar 13) tNil)) (tOp (raSub K) (tCB (rc_sum K) (tCons (tLc (iSeq K (tVar 11)) (gName 4) tYes (tCB (rc_len K) (tCons (tVar 4) tNil)) [4]) tNil)) (tVar 14)))) (tNot (tTru K (tCB (rc_all K) (tCons (tLc (iSeq K (tVar 11)) (gName 4) tYes (tOp (raIn K) (tVar 4) (tVar 13)) [4]) tNil)))))))
  (tRet (tC (.bl false)))
  tNext)
  (tSeq (tAsg (tLc (iRng1 (tCons (tC (.int 4)) tNil)) (gName 23) tYes (tCall (spD K sp__law_of) [] E0 (tCons (tVar 0) (tCons (tCB (rc_list K) (tCons (tVar 1) tNil)) tNil))) [23]) (gUnl K 4 (gCons (gName 15) (gCons (gName 16) (gCons (gName 17) (gCons (gName 18) gNil))))))
  (tSeq (tIfS (tAnd (tTest (tOp (raGe K) (tCall (spD K sp_overlap) [] E0 (tCons (tVar 15) (tCons (tVar 16) tNil))) (tCB (rc_max2 K) (tCons (tCall (spD K sp_overlap) [] E0 (tCons (tVar 15) (tCons (tVar 18) tNil))) (tCons (tCall (spD K sp_overlap) [] E0 (tCons (tVar 17) (tCons (tVar 16) tNil))) tNil))))) (tTest (tOp (raLt K) (tOp (raAdd K) (tCall (spD K sp_overlap) [] E0 (tCons (tVar 15) (tCons (tVar 16) tNil))) (tCall (spD K sp_overlap) [] E0 (tCons (tVar 17) (tCons (tVar 18) tNil)))) (tOp (raAdd K) (tCall (spD K sp_overlap) [] E0 (tCons (tVar 15) (tCons (tVar 18) tNil))) (tCall (spD K sp_overlap) [] E0 (tCons (tVar 17) (tCons (tVar 16) tNil)))))))
  (tRet (tC (.bl false)))
  tNext)
  (tSeq (tAsg (tLst (tCons (tVar 1) (tCons (tCB (rc_list K) (tCons (tVar 1) tNil)) (tCons (tRevX K (tVar 1)) (tCons (tOp (raAdd K) (tVar 1) (tTup (tCons (tOp (raMul K) (tC (.str (Str.ofString "zz"))) (tC (.int 15))) tNil))) (tCons (tOp (raAdd K) (tVar 1) (tTup (tCons (tOp (raMul K) (tC (.str (Str.ofString "zz"))) (tC (.int 16))) tNil))) (tCons (tOp (raAdd K) (tTup (tCons (tC (.str (Str.ofString ""))) tNil)) (tVar 1)) (tCons (tTup (tCons (tOp (raMul K) (tC (.str (Str.ofString "a"))) (tC (.int 31))) tNil)) (tCons (tTup (tCons (tC (.str (Str.ofString "A"))) tNil)) (tCons (tCall (spD K sp__law_odd) [] E0 (tCons (tVar 0) tNil)) tNil)))))))))) (gName 19))
  (tSeq (tFor (iSeq K (tOp (raAdd K) (tVar 19) (tLc (iRng1 (tCons (tC (.int 6)) tNil)) (gName 23) tYes (tCall (spD K sp__law_bent) [] E0 (tCons (tVar 0) (tCons (tVar 1) tNil))) [23]))) (gName 20)
  (tIfS (tTest (tOp (raNe K) (tCB (rc_repr K) (tCons (tCall (spD K sp_is_heap) [] E0 (tCons (tVar 20) tNil)) tNil)) (tCB (rc_repr K) (tCons (tCall (spD K sp__law_is_heap) [] E0 (tCons (tVar 20) tNil)) tNil))))
  (tRet (tC (.bl false)))
  tNext))
  (tRet (tC (.bl true)))))))))))))))))))
def t_law (K : PySem.W.Frag) : TS :=
  (tSeq (tFor (iSeq K (tCall (spD K sp__law_cells) [] E0 (tCons (tVar 0) (tCons (tC (.int 3)) tNil)))) (gName 1)
  (tSeq (tAsg (tCall (spD K sp__law_pot) [] E0 (tCons (tVar 0) (tCons (tVar 1) tNil))) (gName 2))
  (tIfS (tNot (tTru K (tCB (rc_all K) (tCons (tLc (iRng1 (tCons (tC (.int 5)) tNil)) (gName 3) tYes (tCall (spD K sp__law_right) [] E0 (tCons (tVar 2) tNil)) [3]) tNil))))
  (tRet (tC (.bl false)))
  tNext)))
  (tRet (tC (.bl true))))
end K60
namespace K60
open PySem L2 DL
local macro_rules | `(tactic| walk_at "w") => `(tactic| first
  | with_reducible refine ws_seq ?_
  | with_reducible refine ws_asg ?_
  | with_reducible refine ws_ret ?_
  | with_reducible refine ws_if ?_
  | with_reducible refine ws_drop ?_
  | with_reducible refine ws_next ?_
  | with_reducible refine wg_name ?_
  | with_reducible refine wg_tup (by with_unfolding_all rfl) ?_
  | with_reducible refine wgs_cons ?_
  | with_reducible refine wgs_nil ?_
  | with_reducible refine we_var (by with_unfolding_all rfl) ?_
  | with_reducible refine we_int ?_
  | with_reducible refine we_str ?_
  | with_reducible refine we_bl ?_
  | with_reducible refine we_non ?_
  | with_reducible refine we_raw ?_
  | with_reducible refine we_op ?_
  | with_reducible refine we_un ?_
  | with_reducible refine we_if ?_
  | with_reducible refine we_tup ?_
  | with_reducible refine we_CB ?_
  | with_reducible refine we_call ?_
  | with_reducible refine we_M1 ?_
  | with_reducible refine we_BM ?_
  | with_reducible refine we_sl ?_
  | with_reducible refine we_and ?_
  | with_reducible refine we_or ?_
  | with_reducible refine we_chain ?_
  | with_reducible refine we_notT ?_
  | with_reducible refine we_din ?_
  | with_reducible refine we_dget ?_
  | with_reducible refine wa_nil ?_
  | with_reducible refine wa_cons ?_
  | with_reducible refine wt_test ?_
  | with_reducible refine wt_trub ?_
  | with_reducible refine wt_and ?_
  | with_reducible refine wt_or ?_
  | with_reducible refine wt_not ?_
  | with_reducible refine wt_B ?_
  | with_reducible refine wo_none ?_
  | with_reducible refine wo_some ?_
  | with_reducible refine add_int ?_
  | with_reducible refine sub_int ?_
  | with_reducible refine lt_int ?_
  | with_reducible refine lt_str ?_
  | with_reducible refine le_int ?_
  | with_reducible refine gt_int ?_
  | with_reducible refine ge_int ?_
  | with_reducible refine eq_int ?_
  | with_reducible refine ne_int ?_
  | with_reducible refine int_int ?_
  | with_reducible refine int_bl ?_
  | with_reducible refine min_two ?_
  | with_reducible refine max_two ?_
  | with_reducible refine abs_int ?_
  | with_reducible refine endswith_str ?_
  | with_reducible refine in_str ?_
  | with_reducible refine notin_str ?_
  | with_reducible refine len_seq seqD_tup ?_
  | with_reducible refine len_seq seqD_lst ?_
  | with_reducible refine len_seq seqD_rol ?_
  | (with_reducible refine Exists.intro _ (And.intro rfl ?_)))
local macro_rules | `(tactic| walk_at "ws") => `(tactic| repeat walk_at "w")
local macro_rules | `(tactic| walk_at "set") => `(tactic| dsimp only [List.set_cons_succ, List.set_cons_zero, wipeD])
section
variable {K : PySem.W.Frag} {B : Hp} {S : Sto}
/-- what a def's reading keeps -/
abbrev Keeps (sp : SpecD) (t : PySem.W.Frag → TS) (n : Nat) : Prop := ∀ (K : PySem.W.Frag) (B : Hp) ds S P, sp ds S P → WS K B (t K) (startD n ds) S ⟨fun _ S' => P .non S', P, fun _ _ => False, fun _ _ => False⟩
theorem sol_solid {v : D} (h : sol v) : solid v = true := by cases v <;> first | exact h.elim | rfl
theorem w_is_integer : Keeps sp_is_integer t_is_integer 1 := by
  rintro K B _ S P ⟨i, rfl, p⟩
  unfold t_is_integer
  show WS K B _ [some (.int i)] S _
  walk_at "ws"
  refine isi_solid _ rfl (by decide +kernel) ?_
  walk_at "ws"
  refine ifT rfl ?_
  walk_at "ws"
  refine isi_solid _ rfl (by decide +kernel) ?_
  exact ⟨_, rfl, p⟩
theorem w_is_between : Keeps sp_is_between t_is_between 3 := by
  rintro K B _ S P ⟨v, lo, hi, rfl, p⟩
  unfold t_is_between
  show WS K B _ [some (.int v), some (.int lo), some (.int hi)] S _
  walk_at "ws"
  refine ⟨v, rfl, ?_⟩
  walk_at "ws"
  refine ifT rfl ?_
  walk_at "ws"
  split
  · rename_i h
    walk_at "ws"
    rw [h, Bool.true_and] at p
    exact p
  · rename_i h
    have h' : decide (lo ≤ v) = false := by simpa using h
    rw [h', Bool.false_and] at p
    exact p
theorem w_are_between : Keeps sp_are_between t_are_between 4 := by
  rintro K B _ S P ⟨ns, lo, hi, rfl, hl, p⟩
  unfold t_are_between
  show WS K B _ [some (.tup (ns.map dN)), some (.int lo), some (.int hi), none] S _
  walk_at "ws"
  refine isi_solid _ rfl (by decide +kernel) ?_
  walk_at "ws"
  refine ifT rfl ?_
  walk_at "ws"
  refine we_lcM ns dN (fun n => .bl (decide (lo ≤ (n : Int)) && decide ((n : Int) ≤ hi))) (gloc_name (by simp)) (wi_seq ?_)
  walk_at "w"
  refine ⟨_, _, ⟨rfl, rfl⟩, rfl, Nat.le_trans hl (by decide), trivial, fun n _ => ?_, ?_⟩
  · walk_at "w"
    walk_at "set"
    refine ⟨rfl, ?_⟩
    walk_at "ws"
    exact ⟨_, _, _, rfl, rfl, rfl⟩
  · walk_at "ws"
    exact all_map p
end
end K60
namespace K60
open PySem L2 DL
local macro_rules | `(tactic| walk_at "w") => `(tactic| first
  | with_reducible refine ws_seq ?_
  | with_reducible refine ws_asg ?_
  | with_reducible refine ws_ret ?_
  | with_reducible refine ws_if ?_
  | with_reducible refine ws_drop ?_
  | with_reducible refine ws_next ?_
  | with_reducible refine wg_name ?_
  | with_reducible refine wg_tup (by with_unfolding_all rfl) ?_
  | with_reducible refine wgs_cons ?_
  | with_reducible refine wgs_nil ?_
  | with_reducible refine we_var (by with_unfolding_all rfl) ?_
  | with_reducible refine we_int ?_
  | with_reducible refine we_str ?_
  | with_reducible refine we_bl ?_
  | with_reducible refine we_non ?_
  | with_reducible refine we_raw ?_
  | with_reducible refine we_op ?_
  | with_reducible refine we_un ?_
  | with_reducible refine we_if ?_
  | with_reducible refine we_tup ?_
  | with_reducible refine we_CB ?_
  | with_reducible refine we_call ?_
  | with_reducible refine we_M1 ?_
  | with_reducible refine we_BM ?_
  | with_reducible refine we_sl ?_
  | with_reducible refine we_and ?_
  | with_reducible refine we_or ?_
  | with_reducible refine we_chain ?_
  | with_reducible refine we_notT ?_
  | with_reducible refine we_din ?_
  | with_reducible refine we_dget ?_
  | with_reducible refine wa_nil ?_
  | with_reducible refine wa_cons ?_
  | with_reducible refine wt_test ?_
  | with_reducible refine wt_trub ?_
  | with_reducible refine wt_and ?_
  | with_reducible refine wt_or ?_
  | with_reducible refine wt_not ?_
  | with_reducible refine wt_B ?_
  | with_reducible refine wo_none ?_
  | with_reducible refine wo_some ?_
  | with_reducible refine add_int ?_
  | with_reducible refine sub_int ?_
  | with_reducible refine lt_int ?_
  | with_reducible refine lt_str ?_
  | with_reducible refine le_int ?_
  | with_reducible refine gt_int ?_
  | with_reducible refine ge_int ?_
  | with_reducible refine eq_int ?_
  | with_reducible refine ne_int ?_
  | with_reducible refine int_int ?_
  | with_reducible refine int_bl ?_
  | with_reducible refine min_two ?_
  | with_reducible refine max_two ?_
  | with_reducible refine abs_int ?_
  | with_reducible refine endswith_str ?_
  | with_reducible refine in_str ?_
  | with_reducible refine notin_str ?_
  | with_reducible refine len_seq seqD_tup ?_
  | with_reducible refine len_seq seqD_lst ?_
  | with_reducible refine len_seq seqD_rol ?_
  | (with_reducible refine Exists.intro _ (And.intro rfl ?_)))
local macro_rules | `(tactic| walk_at "ws") => `(tactic| repeat walk_at "w")
local macro_rules | `(tactic| walk_at "set") => `(tactic| dsimp only [List.set_cons_succ, List.set_cons_zero, wipeD])
section
variable {K : PySem.W.Frag} {B : Hp} {S : Sto}
theorem letB_iff (c : Nat) : letB c = true ↔ 97 ≤ c ∧ c ≤ 122 := by
  unfold letB
  rw [occurs_iff]
  constructor
  · rintro ⟨u, v, h⟩
    have : c ∈ LET := by rw [← h]; simp
    unfold LET at this
    simp at this
    omega
  · intro h
    have : c ∈ LET := by unfold LET; simp; omega
    obtain ⟨u, v, e⟩ := List.append_of_mem this
    exact ⟨u, v, by rw [e]; simp⟩
theorem let_text : (Str.ofString "abcdefghijklmnopqrstuvwxyz") = mk LET := by decide +kernel
theorem zipM {α β : Type} (f : α → D) (g : β → D) (xs : List α) (ys : List β) : zipD (xs.map f) (ys.map g) = (xs.zip ys).map fun p => .tup [f p.1, g p.2] := by
  unfold zipD
  induction xs generalizing ys with
  | nil => rfl
  | cons x xs ih => cases ys with | nil => rfl | cons y ys => simp [ih]
theorem cut_tail {α : Type} (xs : List α) : cutD xs (some 1) none = xs.tail := by
  unfold cutD HT.sIx
  cases xs with
  | nil => rfl
  | cons x xs => simp
theorem cut_map {α β : Type} (f : α → β) (xs : List α) (lo hi : Option Int) : cutD (xs.map f) lo hi = (cutD xs lo hi).map f := by
  unfold cutD; simp [List.map_take, List.map_drop]
theorem w_is_ascending : Keeps sp_is_ascending t_is_ascending 3 := by
  rintro K B _ S P ⟨h, rfl, hl, p⟩
  unfold t_is_ascending
  show WS K B _ [some (.tup (h.map dS)), none, none] S _
  walk_at "ws"
  refine we_lcM (h.zip h.tail) (fun p => .tup [dS p.1, dS p.2]) (fun p => .bl (decide (p.1 < p.2))) (gloc_tup (gsloc_cons gmono_name (gsmono_cons gmono_name gsmono_nil) (gloc_name (by simp)) (gsloc_cons gmono_name gsmono_nil (gloc_name (by simp)) gsloc_nil))) (wi_zip ?_)
  walk_at "ws"
  refine sl_tup ?_
  walk_at "ws"
  refine ⟨_, _, _, _, rfl, .inr ⟨rfl, rfl⟩, ?_, ?_, trivial, fun p _ => ?_, ?_⟩
  · rw [cut_map, cut_tail, zipM]
  · have : (h.zip h.tail).length ≤ 100 := by simp; omega
    exact Nat.le_trans this (by decide)
  · walk_at "ws"
    walk_at "set"
    refine ⟨rfl, ?_⟩
    walk_at "ws"
    exact ⟨by rw [mk_cps, mk_cps], rfl⟩
  · walk_at "ws"
    exact all_map p
/-- is_row_of, is_row: the same test -/
theorem row_signs {z : Str} : signsD z = z.cps.toList.map fun c => .str (mk [c]) := rfl
theorem isi_str {v : D} (e : isiB "str" v = true) : ∃ z, v = .str z := by cases v <;> first | exact ⟨_, rfl⟩ | (simp [isiB] at e)
theorem isi_nstr {v : D} (e : isiB "str" v = false) (m : Int) : isRowM m v = false := by cases v <;> first | rfl | (simp [isiB] at e)
theorem isi_tup {v : D} (e : isiB "tuple" v = true) : ∃ z, v = .tup z := by cases v <;> first | exact ⟨_, rfl⟩ | (simp [isiB] at e)
theorem isi_ntup {v : D} (e : isiB "tuple" v = false) : isHeapD v = false ∧ lawHeapD v = false := by cases v <;> first | exact ⟨rfl, rfl⟩ | (simp [isiB] at e)
theorem w_is_row_of : Keeps sp_is_row_of t_is_row_of 2 := by
  rintro K B _ S P ⟨v, rfl, hv, p⟩
  unfold t_is_row_of
  show WS K B _ [some v, none] S _
  walk_at "ws"
  refine isi_solid _ (sol_solid hv) (by decide +kernel) ?_
  walk_at "ws"
  refine if2 (fun e => ?_) fun e => ?_
  · obtain ⟨z, rfl⟩ := isi_str e
    walk_at "ws"
    refine len_str (Nat.le_trans hv.1 (by decide)) ?_
    walk_at "ws"
    have p' : P (.bl (decide ((z.length : Int) ≤ 400) && z.cps.toList.all letB)) S := p
    refine if2 (fun e2 => ?_) fun e2 => ?_
    · rw [e2, Bool.true_and] at p'
      walk_at "ws"
      have hz : z.cps.toList.length ≤ sizeLine := by
        have h1 : (z.length : Int) ≤ 400 := of_decide_eq_true e2
        have h2 : z.cps.toList.length = z.length := by simp [Str.length]
        exact Nat.le_trans (by omega : z.cps.toList.length ≤ 400) (by decide)
      refine we_lcM z.cps.toList (fun c => .str (mk [c])) (fun c => .bl (letB c)) (gloc_name (by simp)) (wi_seq ?_)
      walk_at "w"
      refine ⟨_, _, ⟨rfl, rfl⟩, rfl, hz, trivial, fun c _ => ?_, ?_⟩
      · walk_at "w"
        walk_at "set"
        refine ⟨rfl, ?_⟩
        walk_at "ws"
        exact ⟨by rw [let_text]; rfl, rfl⟩
      · walk_at "ws"
        exact all_map p'
    · rw [e2, Bool.false_and] at p'
      exact p'
  · have e' : isRowD v = false := isi_nstr e _
    rw [e'] at p
    exact p
theorem row_sol {r : Tx} (h : RowOk r) : sol (dS r) := ⟨by rw [mk_length]; have := h.most; omega, fun c hc => by rw [mk_cps] at hc; have := h.lets c hc; omega⟩
theorem row_isRow {r : Tx} (h : RowOk r) : isRowD (dS r) = true := by
  show (decide (((mk r).length : Int) ≤ 400) && (mk r).cps.toList.all letB) = true
  rw [mk_length, mk_cps, Bool.and_eq_true]
  refine ⟨decide_eq_true (by have := h.most; omega), ?_⟩
  rw [List.all_eq_true]
  exact fun c hc => (letB_iff c).mpr (h.lets c hc)
theorem w_check_row : Keeps sp_check_row t_check_row 1 := by
  rintro K B _ S P ⟨r, rfl, hr, p⟩
  unfold t_check_row
  show WS K B _ [some (dS r)] S _
  walk_at "ws"
  refine ⟨_, rfl, row_sol hr, ?_⟩
  walk_at "ws"
  refine ifF (by rw [row_isRow hr]; rfl) ?_
  walk_at "ws"
  exact p
end
end K60
namespace K60
open PySem L2 DL
local macro_rules | `(tactic| walk_at "w") => `(tactic| first
  | with_reducible refine ws_seq ?_
  | with_reducible refine ws_asg ?_
  | with_reducible refine ws_ret ?_
  | with_reducible refine ws_if ?_
  | with_reducible refine ws_drop ?_
  | with_reducible refine ws_next ?_
  | with_reducible refine wg_name ?_
  | with_reducible refine wg_tup (by with_unfolding_all rfl) ?_
  | with_reducible refine wgs_cons ?_
  | with_reducible refine wgs_nil ?_
  | with_reducible refine we_var (by with_unfolding_all rfl) ?_
  | with_reducible refine we_int ?_
  | with_reducible refine we_str ?_
  | with_reducible refine we_bl ?_
  | with_reducible refine we_non ?_
  | with_reducible refine we_raw ?_
  | with_reducible refine we_op ?_
  | with_reducible refine we_un ?_
  | with_reducible refine we_if ?_
  | with_reducible refine we_tup ?_
  | with_reducible refine we_CB ?_
  | with_reducible refine we_call ?_
  | with_reducible refine we_M1 ?_
  | with_reducible refine we_BM ?_
  | with_reducible refine we_sl ?_
  | with_reducible refine we_and ?_
  | with_reducible refine we_or ?_
  | with_reducible refine we_chain ?_
  | with_reducible refine we_notT ?_
  | with_reducible refine we_din ?_
  | with_reducible refine we_dget ?_
  | with_reducible refine wa_nil ?_
  | with_reducible refine wa_cons ?_
  | with_reducible refine wt_test ?_
  | with_reducible refine wt_trub ?_
  | with_reducible refine wt_and ?_
  | with_reducible refine wt_or ?_
  | with_reducible refine wt_not ?_
  | with_reducible refine wt_B ?_
  | with_reducible refine wo_none ?_
  | with_reducible refine wo_some ?_
  | with_reducible refine add_int ?_
  | with_reducible refine sub_int ?_
  | with_reducible refine lt_int ?_
  | with_reducible refine lt_str ?_
  | with_reducible refine le_int ?_
  | with_reducible refine gt_int ?_
  | with_reducible refine ge_int ?_
  | with_reducible refine eq_int ?_
  | with_reducible refine ne_int ?_
  | with_reducible refine int_int ?_
  | with_reducible refine int_bl ?_
  | with_reducible refine min_two ?_
  | with_reducible refine max_two ?_
  | with_reducible refine abs_int ?_
  | with_reducible refine endswith_str ?_
  | with_reducible refine in_str ?_
  | with_reducible refine notin_str ?_
  | with_reducible refine len_seq seqD_tup ?_
  | with_reducible refine len_seq seqD_lst ?_
  | with_reducible refine len_seq seqD_rol ?_
  | (with_reducible refine Exists.intro _ (And.intro rfl ?_)))
local macro_rules | `(tactic| walk_at "ws") => `(tactic| repeat walk_at "w")
local macro_rules | `(tactic| walk_at "set") => `(tactic| dsimp only [List.set_cons_succ, List.set_cons_zero, wipeD])
section
variable {K : PySem.W.Frag} {B : Hp} {S : Sto}
theorem sol2_solid {v : D} (h : sol2 v) : solid v = true := by cases v <;> first | rfl | exact sol_solid h
theorem txs_map (es : List D) (h : es.all (isRowM 400) = true) : es = (txs es).map dS := by
  induction es with
  | nil => rfl
  | cons e es ih =>
    rw [List.all_cons, Bool.and_eq_true] at h
    obtain ⟨z, rfl⟩ : ∃ z, e = .str z := by
      cases e <;> first | exact ⟨_, rfl⟩ | (exact absurd h.1 Bool.false_ne_true)
    have i := ih h.2
    show D.str z :: es = D.str (mk z.cps.toList) :: (txs es).map dS
    rw [← i, mk_eta z]
theorem txs_dS (h : List Tx) : txs (h.map dS) = h := by
  unfold txs
  rw [List.map_map]
  conv => rhs; rw [← List.map_id h]
  apply List.map_congr_left
  intro r _
  show (mk r).cps.toList = r
  exact mk_cps r
theorem size100 {n : Nat} (h : n ≤ 100000) : n ≤ sizeLine := Nat.le_trans h (by decide)
/-- all([is_row_of(row) for row in value]) -/
theorem w_is_heap_of : Keeps sp_is_heap_of t_is_heap_of 2 := by
  rintro K B _ S P ⟨v, rfl, hv, p⟩
  unfold t_is_heap_of
  show WS K B _ [some v, none] S _
  walk_at "w"
  refine ws_ifP (!isiB "tuple" v || (match v with | .tup es => !(decide (1 ≤ (es.length : Int)) && decide ((es.length : Int) ≤ 12)) || !es.all isRowD | _ => false)) ?_ (fun hb => ?_) fun hb => ?_
  · refine wt_orP (!isiB "tuple" v) _ ?_ (fun e => ?_) ⟨rfl, rfl⟩
    · walk_at "ws"
      refine isi_solid _ (sol2_solid hv) (by decide +kernel) ?_
      walk_at "ws"
      exact ⟨rfl, rfl⟩
    · obtain ⟨es, rfl⟩ := isi_tup (by simpa using e)
      refine wt_orP (!(decide (1 ≤ (es.length : Int)) && decide ((es.length : Int) ≤ 12))) (!es.all isRowD) ?_ (fun e2 => ?_) ⟨rfl, rfl⟩
      · walk_at "w"
        walk_at "w"
        refine we_chainLe (i := 1) (j := es.length) (l := 12) ?_ ⟨_, rfl, rfl, rfl⟩
        walk_at "w"
        refine ⟨rfl, rfl, ?_⟩
        walk_at "ws"
        refine ⟨rfl, rfl, ?_⟩
        walk_at "ws"
        exact ⟨rfl, rfl⟩
      · walk_at "ws"
        have hl : (es.length : Int) ≤ 12 := by
          simp only [Bool.not_eq_false', Bool.and_eq_true, decide_eq_true_eq] at e2
          exact e2.2
        refine we_lcM es id (fun d => .bl (isRowD d)) (gloc_name (by simp)) (wi_seq ?_)
        walk_at "w"
        refine ⟨_, _, ⟨rfl, rfl⟩, (List.map_id es).symm, size100 (by omega), trivial, fun d hd => ?_, ?_⟩
        · walk_at "w"
          walk_at "set"
          refine ⟨rfl, ?_⟩
          walk_at "ws"
          exact ⟨d, rfl, hv d hd, rfl, rfl⟩
        · walk_at "ws"
          refine all_map ?_
          walk_at "ws"
          exact ⟨rfl, rfl⟩
  · have e : isHeapD v = false := by
      cases hi : isiB "tuple" v with
      | false => exact (isi_ntup hi).1
      | true =>
        obtain ⟨es, rfl⟩ := isi_tup hi
        simp only [hi, Bool.not_true, Bool.false_or, Bool.or_eq_true, Bool.not_eq_true', Bool.and_eq_false_iff, decide_eq_false_iff_not] at hb
        show (decide (1 ≤ es.length) && decide (es.length ≤ 12) && es.all isRowD && (txs es).all (fun r => decide (1 ≤ r.length) && decide (r.length ≤ 30)) && ascB (txs es)) = false
        rcases hb with (h | h) | h
        · rw [decide_eq_false (by omega : ¬ 1 ≤ es.length)]; rfl
        · rw [decide_eq_false (by omega : ¬ es.length ≤ 12)]; simp
        · rw [h]; simp
    rw [e] at p
    walk_at "ws"
    exact p
  · have hi : isiB "tuple" v = true := by
      cases hi : isiB "tuple" v with
      | true => rfl
      | false => rw [hi] at hb; simp at hb
    obtain ⟨es, rfl⟩ := isi_tup hi
    simp only [hi, Bool.not_true, Bool.false_or, Bool.or_eq_false_iff, Bool.not_eq_false', Bool.and_eq_true, decide_eq_true_eq] at hb
    obtain ⟨⟨h1, h2⟩, h3⟩ := hb
    have hm := txs_map es h3
    have hp : P (.bl ((txs es).all (fun r => decide (1 ≤ r.length) && decide (r.length ≤ 30)) && ascB (txs es))) S := by
      have q : P (.bl (decide (1 ≤ es.length) && decide (es.length ≤ 12) && es.all isRowD && (txs es).all (fun r => decide (1 ≤ r.length) && decide (r.length ≤ 30)) && ascB (txs es))) S := p
      rw [decide_eq_true (by omega : 1 ≤ es.length), decide_eq_true (by omega : es.length ≤ 12), h3] at q
      exact q
    have hln : (txs es).length = es.length := by unfold txs; simp
    generalize txs es = h at *
    subst hm
    walk_at "w"
    walk_at "w"
    refine we_andP (h.all fun r => decide (1 ≤ r.length) && decide (r.length ≤ 30)) (ascB h) ?_ (fun _ => ?_) hp
    · walk_at "ws"
      refine we_lcM h dS (fun r => .bl (decide (1 ≤ r.length) && decide (r.length ≤ 30))) (gloc_name (by simp)) (wi_seq ?_)
      walk_at "w"
      refine ⟨_, _, ⟨rfl, rfl⟩, rfl, size100 (by omega), trivial, fun r hr => ?_, ?_⟩
      · walk_at "w"
        walk_at "set"
        refine ⟨rfl, ?_⟩
        have hz : r.length ≤ 100000 := by
          have := (hv (dS r) (List.mem_map.mpr ⟨r, hr, rfl⟩)).1
          rw [mk_length] at this; exact this
        refine we_chainLe (i := 1) (j := r.length) (l := 30) ?_ ?_
        · walk_at "w"
          refine ⟨rfl, rfl, ?_⟩
          walk_at "ws"
          refine len_str (by rw [mk_length]; exact size100 hz) ?_
          refine ⟨by rw [mk_length], rfl, ?_⟩
          walk_at "ws"
          exact ⟨rfl, rfl⟩
        · refine ⟨?_, rfl⟩
          have e1 : decide ((1 : Int) ≤ (r.length : Int)) = decide (1 ≤ r.length) := by by_cases q : 1 ≤ r.length <;> simp [q] <;> omega
          have e2 : decide ((r.length : Int) ≤ 30) = decide (r.length ≤ 30) := by by_cases q : r.length ≤ 30 <;> simp [q] <;> omega
          rw [e1, e2]
      · walk_at "ws"
        exact all_map ⟨rfl, rfl⟩
    · walk_at "ws"
      exact ⟨h, rfl, by simp at h1 h2; omega, rfl, rfl⟩
end
end K60
namespace K60
open PySem L2 DL
local macro_rules | `(tactic| walk_at "w") => `(tactic| first
  | with_reducible refine ws_seq ?_
  | with_reducible refine ws_asg ?_
  | with_reducible refine ws_ret ?_
  | with_reducible refine ws_if ?_
  | with_reducible refine ws_drop ?_
  | with_reducible refine ws_next ?_
  | with_reducible refine wg_name ?_
  | with_reducible refine wg_tup (by with_unfolding_all rfl) ?_
  | with_reducible refine wgs_cons ?_
  | with_reducible refine wgs_nil ?_
  | with_reducible refine we_var (by with_unfolding_all rfl) ?_
  | with_reducible refine we_int ?_
  | with_reducible refine we_str ?_
  | with_reducible refine we_bl ?_
  | with_reducible refine we_non ?_
  | with_reducible refine we_raw ?_
  | with_reducible refine we_op ?_
  | with_reducible refine we_un ?_
  | with_reducible refine we_if ?_
  | with_reducible refine we_tup ?_
  | with_reducible refine we_CB ?_
  | with_reducible refine we_call ?_
  | with_reducible refine we_M1 ?_
  | with_reducible refine we_BM ?_
  | with_reducible refine we_sl ?_
  | with_reducible refine we_and ?_
  | with_reducible refine we_or ?_
  | with_reducible refine we_chain ?_
  | with_reducible refine we_notT ?_
  | with_reducible refine we_din ?_
  | with_reducible refine we_dget ?_
  | with_reducible refine wa_nil ?_
  | with_reducible refine wa_cons ?_
  | with_reducible refine wt_test ?_
  | with_reducible refine wt_trub ?_
  | with_reducible refine wt_and ?_
  | with_reducible refine wt_or ?_
  | with_reducible refine wt_not ?_
  | with_reducible refine wt_B ?_
  | with_reducible refine wo_none ?_
  | with_reducible refine wo_some ?_
  | with_reducible refine add_int ?_
  | with_reducible refine sub_int ?_
  | with_reducible refine lt_int ?_
  | with_reducible refine lt_str ?_
  | with_reducible refine le_int ?_
  | with_reducible refine gt_int ?_
  | with_reducible refine ge_int ?_
  | with_reducible refine eq_int ?_
  | with_reducible refine ne_int ?_
  | with_reducible refine int_int ?_
  | with_reducible refine int_bl ?_
  | with_reducible refine min_two ?_
  | with_reducible refine max_two ?_
  | with_reducible refine abs_int ?_
  | with_reducible refine endswith_str ?_
  | with_reducible refine in_str ?_
  | with_reducible refine notin_str ?_
  | with_reducible refine len_seq seqD_tup ?_
  | with_reducible refine len_seq seqD_lst ?_
  | with_reducible refine len_seq seqD_rol ?_
  | (with_reducible refine Exists.intro _ (And.intro rfl ?_)))
local macro_rules | `(tactic| walk_at "ws") => `(tactic| repeat walk_at "w")
local macro_rules | `(tactic| walk_at "set") => `(tactic| dsimp only [List.set_cons_succ, List.set_cons_zero, wipeD])
section
variable {K : PySem.W.Frag} {B : Hp} {S : Sto}
theorem mem_mk (r : Tx) (h : List Tx) : decide (mk r ∈ h.map mk) = decide (r ∈ h) := by
  by_cases q : r ∈ h
  · rw [decide_eq_true q, decide_eq_true (List.mem_map.mpr ⟨r, q, rfl⟩)]
  · rw [decide_eq_false q]
    refine decide_eq_false fun z => q ?_
    obtain ⟨x, hx, e⟩ := List.mem_map.mp z
    rw [← mk_inj e]; exact hx
theorem dS_map (h : List Tx) : h.map dS = (h.map mk).map D.str := by rw [List.map_map]; rfl
theorem in_txs {P : D → Sto → Prop} {y : D} {r : Tx} {h : List Tx} (hs : SeqD y S (h.map dS)) (p : P (.bl (decide (r ∈ h))) S) : RD2 K B (raIn K) (dS r) y S P :=
  in_strs (js := h.map mk) (by rw [← dS_map]; exact hs) (by rw [mem_mk]; exact p)
theorem notin_txs {P : D → Sto → Prop} {y : D} {r : Tx} {h : List Tx} (hs : SeqD y S (h.map dS)) (p : P (.bl (!decide (r ∈ h))) S) : RD2 K B (raNotIn K) (dS r) y S P :=
  notin_strs (js := h.map mk) (by rw [← dS_map]; exact hs) (by rw [mem_mk]; exact p)
/-- codes that a text may have -/
def okT (r : Tx) : Prop := ∀ c ∈ r, c < 0x110000
theorem RowOk.ok {r : Tx} (h : RowOk r) : okT r := fun c hc => by have := h.lets c hc; omega
theorem eq_txs {P : D → Sto → Prop} {a b : Tx} (ha : okT a) (hb : okT b) (p : P (.bl (decide (a = b))) S) : RD2 K B (raEq K) (dS a) (dS b) S P :=
  eq_dat (d := dS a) (e := dS b) (.inl rfl) (.inl rfl) rfl rfl (shaped_mk a ha) (shaped_mk b hb) (by
    show P (.bl (mk a == mk b)) S
    rw [mk_beq]; exact p)
theorem ne_txs {P : D → Sto → Prop} {a b : Tx} (ha : okT a) (hb : okT b) (p : P (.bl (!decide (a = b))) S) : RD2 K B (raNe K) (dS a) (dS b) S P :=
  ne_dat (d := dS a) (e := dS b) (.inl rfl) (.inl rfl) rfl rfl (shaped_mk a ha) (shaped_mk b hb) (by
    show P (.bl (!(mk a == mk b))) S
    rw [mk_beq]; exact p)
theorem asc_of : ∀ {h : List Tx}, h.Pairwise (· < ·) → ascB h = true
  | [], _ => rfl
  | [a], _ => rfl
  | a :: b :: r, q => by
    have i := asc_of (h := b :: r) (List.Pairwise.of_cons q)
    unfold ascB at i ⊢
    simp only [List.tail_cons, List.zip_cons_cons, List.all_cons] at i ⊢
    have : a < b := List.rel_of_pairwise_cons q List.mem_cons_self
    simp only [this, decide_true, Bool.true_and]
    exact i
theorem HeapOk.isHeap {h : List Tx} (H : HeapOk h) : isHeapD (heapD h) = true := by
  show (decide (1 ≤ (h.map dS).length) && decide ((h.map dS).length ≤ 12) && (h.map dS).all isRowD && (txs (h.map dS)).all (fun r => decide (1 ≤ r.length) && decide (r.length ≤ 30)) && ascB (txs (h.map dS))) = true
  rw [txs_dS, List.length_map, decide_eq_true H.n1, decide_eq_true H.n2, asc_of H.asc]
  have e1 : (h.map dS).all isRowD = true := by
    rw [List.all_map, List.all_eq_true]
    exact fun r hr => row_isRow (H.row hr)
  have e2 : (h.all fun r => decide (1 ≤ r.length) && decide (r.length ≤ 30)) = true := by
    rw [List.all_eq_true]
    exact fun r hr => by rw [decide_eq_true (H.row hr).one, decide_eq_true (H.row hr).most]; rfl
  rw [e1, e2]; rfl
theorem HeapOk.sol {h : List Tx} (H : HeapOk h) : sol2 (heapD h) := fun e he => by
  obtain ⟨r, hr, rfl⟩ := List.mem_map.mp he
  exact row_sol (H.row hr)
theorem HeapOk.len {h : List Tx} (H : HeapOk h) : h.length ≤ sizeLine := size100 (by have := H.n2; omega)
theorem w_is_heap : Keeps sp_is_heap t_is_heap 1 := by
  rintro K B _ S P ⟨v, rfl, hv, p⟩
  unfold t_is_heap
  show WS K B _ [some v] S _
  walk_at "ws"
  exact ⟨v, rfl, hv, p⟩
theorem w_check_heap : Keeps sp_check_heap t_check_heap 1 := by
  rintro K B _ S P ⟨h, rfl, hh, p⟩
  unfold t_check_heap
  show WS K B _ [some (heapD h)] S _
  walk_at "ws"
  refine ⟨_, rfl, hh.sol, ?_⟩
  walk_at "ws"
  refine ifF (by rw [hh.isHeap]; rfl) ?_
  walk_at "ws"
  exact p
theorem w_check_both : Keeps sp_check_both t_check_both 3 := by
  rintro K B _ S P ⟨a, b, rfl, ha, hb, p⟩
  unfold t_check_both
  show WS K B _ [some (dS a), some (dS b), none] S _
  walk_at "ws"
  refine ⟨a, rfl, ha, ?_⟩
  walk_at "ws"
  refine ⟨b, rfl, hb, ?_⟩
  refine ws_for (wi_seq ?_)
  walk_at "ws"
  refine ⟨by show 2 ≤ sizeLine; decide, _, _, ⟨rfl, rfl⟩, fun _ Γ S' => (∃ x, Γ = [some (dS a), some (dS b), x]) ∧ S' = S, ⟨⟨_, rfl⟩, rfl⟩, fun _ _ _ _ => trivial, ?_, ?_⟩
  · rintro i d Γ S' hd ⟨⟨x, rfl⟩, rfl⟩
    obtain ⟨r, rfl, hr⟩ : ∃ r, d = dS r ∧ RowOk r := by
      have := List.mem_of_getElem? hd
      simp at this
      rcases this with rfl | rfl
      · exact ⟨a, rfl, ha⟩
      · exact ⟨b, rfl, hb⟩
    walk_at "w"
    walk_at "set"
    walk_at "ws"
    refine eq_txs (b := []) hr.ok (fun c hc => by cases hc) ?_
    refine ⟨_, rfl, ifF (decide_eq_false fun z => ?_) ?_⟩
    · have := hr.one; rw [z] at this; simp at this
    · walk_at "ws"
      exact ⟨⟨_, rfl⟩, rfl⟩
  · rintro Γ S' ⟨_, rfl⟩
    exact p
theorem cut_to {α : Type} (l : List α) (k : Nat) : cutD l none (some (k : Int)) = l.take k := by
  unfold cutD HT.sIx
  simp only [List.drop_zero, Nat.sub_zero]
  rw [if_neg (by omega)]
  rw [Int.toNat_natCast, Nat.min_comm]
  by_cases h : k ≤ l.length
  · rw [Nat.min_eq_right h]
  · rw [Nat.min_eq_left (by omega), List.take_of_length_le (by omega), List.take_of_length_le (by omega)]
theorem cut_from {α : Type} (l : List α) (k : Nat) : cutD l (some (k : Int)) none = l.drop k := by
  unfold cutD HT.sIx
  simp only [if_neg (show ¬ ((k : Int) < 0) by omega), Int.toNat_natCast]
  by_cases h : k ≤ l.length
  · rw [Nat.min_eq_left h, List.take_of_length_le (by simp)]
  · rw [Nat.min_eq_right (by omega)]
    simp
    omega
theorem w_overlaps_of : Keeps sp_overlaps_of t_overlaps_of 3 := by
  rintro K B _ S P ⟨a, b, rfl, ha, hb, p⟩
  have a1 := ha.most
  have b1 := hb.most
  unfold t_overlaps_of
  show WS K B _ [some (dS a), some (dS b), none] S _
  walk_at "w"
  refine we_lcP (List.range (min a.length b.length - 1)) (fun (i : Nat) => .int (1 + (i : Int))) (fun (i : Nat) => dN (i + 1)) (fun (i : Nat) => decide (b.take (i + 1) <:+ a)) (gloc_name (by simp)) (wi_rng2 ?_)
  walk_at "ws"
  refine len_str (by rw [mk_length]; exact size100 (by omega)) ?_
  walk_at "ws"
  refine len_str (by rw [mk_length]; exact size100 (by omega)) ?_
  walk_at "ws"
  rw [mk_length, mk_length]
  refine ⟨_, _, rfl, ?_, ?_, ?_, trivial, fun i hi => ?_, ?_⟩
  · split <;> omega
  · unfold rngD
    congr 2
    split <;> omega
  · rw [List.length_range]; exact size100 (by omega)
  · walk_at "w"
    walk_at "set"
    walk_at "ws"
    refine ⟨⟨_, rfl⟩, ?_⟩
    walk_at "ws"
    refine sl_str (by rw [mk_length]; exact size100 (by omega)) ?_
    rw [cut_mk, show (1 + (i : Int)) = ((i + 1 : Nat) : Int) by omega, cut_to]
    walk_at "ws"
    rw [ends_mk]
    refine ⟨rfl, rfl, fun _ => ?_⟩
    walk_at "ws"
    exact ⟨rfl, rfl⟩
  · have e : (ovs a b).map dN = ((List.range (min a.length b.length - 1)).filter fun k => decide (b.take (k + 1) <:+ a)).map fun i => dN (i + 1) := by
      unfold ovs; rw [List.map_map]; rfl
    rw [e] at p
    exact p
end
end K60
namespace K60
open PySem L2 DL
local macro_rules | `(tactic| walk_at "w") => `(tactic| first
  | with_reducible refine ws_seq ?_
  | with_reducible refine ws_asg ?_
  | with_reducible refine ws_ret ?_
  | with_reducible refine ws_if ?_
  | with_reducible refine ws_drop ?_
  | with_reducible refine ws_next ?_
  | with_reducible refine wg_name ?_
  | with_reducible refine wg_tup (by with_unfolding_all rfl) ?_
  | with_reducible refine wgs_cons ?_
  | with_reducible refine wgs_nil ?_
  | with_reducible refine we_var (by with_unfolding_all rfl) ?_
  | with_reducible refine we_int ?_
  | with_reducible refine we_str ?_
  | with_reducible refine we_bl ?_
  | with_reducible refine we_non ?_
  | with_reducible refine we_raw ?_
  | with_reducible refine we_op ?_
  | with_reducible refine we_un ?_
  | with_reducible refine we_if ?_
  | with_reducible refine we_tup ?_
  | with_reducible refine we_CB ?_
  | with_reducible refine we_call ?_
  | with_reducible refine we_M1 ?_
  | with_reducible refine we_BM ?_
  | with_reducible refine we_sl ?_
  | with_reducible refine we_and ?_
  | with_reducible refine we_or ?_
  | with_reducible refine we_chain ?_
  | with_reducible refine we_notT ?_
  | with_reducible refine we_din ?_
  | with_reducible refine we_dget ?_
  | with_reducible refine wa_nil ?_
  | with_reducible refine wa_cons ?_
  | with_reducible refine wt_test ?_
  | with_reducible refine wt_trub ?_
  | with_reducible refine wt_and ?_
  | with_reducible refine wt_or ?_
  | with_reducible refine wt_not ?_
  | with_reducible refine wt_B ?_
  | with_reducible refine wo_none ?_
  | with_reducible refine wo_some ?_
  | with_reducible refine add_int ?_
  | with_reducible refine sub_int ?_
  | with_reducible refine lt_int ?_
  | with_reducible refine lt_str ?_
  | with_reducible refine le_int ?_
  | with_reducible refine gt_int ?_
  | with_reducible refine ge_int ?_
  | with_reducible refine eq_int ?_
  | with_reducible refine ne_int ?_
  | with_reducible refine int_int ?_
  | with_reducible refine int_bl ?_
  | with_reducible refine min_two ?_
  | with_reducible refine max_two ?_
  | with_reducible refine abs_int ?_
  | with_reducible refine endswith_str ?_
  | with_reducible refine in_str ?_
  | with_reducible refine notin_str ?_
  | with_reducible refine len_seq seqD_tup ?_
  | with_reducible refine len_seq seqD_lst ?_
  | with_reducible refine len_seq seqD_rol ?_
  | (with_reducible refine Exists.intro _ (And.intro rfl ?_)))
local macro_rules | `(tactic| walk_at "ws") => `(tactic| repeat walk_at "w")
local macro_rules | `(tactic| walk_at "set") => `(tactic| dsimp only [List.set_cons_succ, List.set_cons_zero, wipeD])
section
variable {K : PySem.W.Frag} {B : Hp} {S : Sto}
theorem foldl_max (l : List Nat) (a : Nat) : a ≤ l.foldl max a ∧ (∀ x ∈ l, x ≤ l.foldl max a) ∧ (l.foldl max a = a ∨ l.foldl max a ∈ l) := by
  induction l generalizing a with
  | nil => exact ⟨Nat.le_refl _, fun x h => (by cases h), .inl rfl⟩
  | cons y l ih =>
    obtain ⟨h1, h2, h3⟩ := ih (max a y)
    simp only [List.foldl_cons]
    refine ⟨Nat.le_trans (Nat.le_max_left a y) h1, fun x hx => ?_, ?_⟩
    · rcases List.mem_cons.mp hx with rfl | hx
      · exact Nat.le_trans (Nat.le_max_right a x) h1
      · exact h2 x hx
    · rcases h3 with h3 | h3
      · rw [h3]
        rcases Nat.le_total a y with q | q
        · rw [Nat.max_eq_right q]; exact .inr List.mem_cons_self
        · rw [Nat.max_eq_left q]; exact .inl rfl
      · exact .inr (List.mem_cons_of_mem _ h3)
theorem ovs_lt {a b : Tx} {k : Nat} (h : k ∈ ovs a b) : 1 ≤ k ∧ k < a.length ∧ k < b.length ∧ b.take k <:+ a := by
  unfold ovs at h
  obtain ⟨i, hi, rfl⟩ := List.mem_map.mp h
  obtain ⟨h1, h2⟩ := List.mem_filter.mp hi
  have := List.mem_range.mp h1
  exact ⟨by omega, by omega, by omega, of_decide_eq_true h2⟩
theorem mem_ovs {a b : Tx} {k : Nat} : k ∈ ovs a b ↔ 1 ≤ k ∧ k < a.length ∧ k < b.length ∧ b.take k <:+ a := by
  refine ⟨ovs_lt, fun ⟨h1, h2, h3, h4⟩ => ?_⟩
  unfold ovs
  exact List.mem_map.mpr ⟨k - 1, List.mem_filter.mpr ⟨List.mem_range.mpr (by omega), decide_eq_true (by rw [Nat.sub_add_cancel h1]; exact h4)⟩, by omega⟩
theorem ovl_max {a b : Tx} {m : Int} (h1 : m ∈ (0 :: (ovs a b).map fun (n : Nat) => (n : Int))) (h2 : ∀ y ∈ (0 :: (ovs a b).map fun (n : Nat) => (n : Int)), y ≤ m) : m = (ovl a b : Int) := by
  obtain ⟨q1, q2, q3⟩ := foldl_max (ovs a b) 0
  have g1 : (ovl a b : Int) ∈ (0 :: (ovs a b).map fun (n : Nat) => (n : Int)) := by
    rcases q3 with q | q
    · rw [show ovl a b = 0 from q]; exact List.mem_cons_self
    · exact List.mem_cons_of_mem _ (List.mem_map.mpr ⟨_, q, rfl⟩)
  have g2 : m ≤ (ovl a b : Int) := by
    rcases List.mem_cons.mp h1 with rfl | h
    · exact Int.natCast_nonneg _
    · obtain ⟨n, hn, rfl⟩ := List.mem_map.mp h
      exact Int.ofNat_le.mpr (q2 n hn)
  have := h2 _ g1
  omega
theorem ovs_len (a b : Tx) : (ovs a b).length ≤ a.length := by
  unfold ovs
  rw [List.length_map]
  refine Nat.le_trans (List.length_filter_le _ _) ?_
  rw [List.length_range]
  omega
theorem w_overlap_of : Keeps sp_overlap_of t_overlap_of 2 := by
  rintro K B _ S P ⟨a, b, rfl, ha, hb, p⟩
  unfold t_overlap_of
  show WS K B _ [some (dS a), some (dS b)] S _
  walk_at "ws"
  refine we_lst ?_
  walk_at "ws"
  refine wa_star ?_
  walk_at "ws"
  refine ⟨a, b, rfl, ha, hb, _, .inl rfl, ?_⟩
  walk_at "ws"
  have hl := ovs_len a b
  have := ha.most
  refine ⟨size100 (by simp; omega), ?_⟩
  walk_at "ws"
  refine max_ints (ns := 0 :: (ovs a b).map fun (n : Nat) => (n : Int)) (by simp only [List.map_cons, List.map_map, List.append_nil]; exact lstD_lst) (by simp) fun m h1 h2 => ?_
  rw [ovl_max h1 h2]
  exact p
theorem w_overlaps : Keeps sp_overlaps t_overlaps 2 := by
  rintro K B _ S P ⟨a, b, rfl, ha, hb, p⟩
  unfold t_overlaps
  show WS K B _ [some (dS a), some (dS b)] S _
  walk_at "ws"
  refine ⟨a, b, rfl, ha, hb, ?_⟩
  walk_at "ws"
  refine ⟨a, b, rfl, ha, hb, ?_⟩
  walk_at "ws"
  exact tuple_lst lstD_lst p
theorem w_overlap : Keeps sp_overlap t_overlap 2 := by
  rintro K B _ S P ⟨a, b, rfl, ha, hb, p⟩
  unfold t_overlap
  show WS K B _ [some (dS a), some (dS b)] S _
  walk_at "ws"
  refine ⟨a, b, rfl, ha, hb, ?_⟩
  walk_at "ws"
  exact ⟨a, b, rfl, ha, hb, p⟩
theorem w_inside_of : Keeps sp_inside_of t_inside_of 3 := by
  rintro K B _ S P ⟨h, rfl, hh, p⟩
  unfold t_inside_of
  show WS K B _ [some (heapD h), none, none] S _
  walk_at "w"
  refine we_lcP h dS dS (fun r => (h.filter fun o => !decide (o = r)).any fun o => occ r o) (gloc_name (by simp)) (wi_seq ?_)
  walk_at "w"
  refine ⟨_, _, ⟨rfl, rfl⟩, rfl, hh.len, trivial, fun r hr => ?_, ?_⟩
  · walk_at "w"
    walk_at "set"
    walk_at "w"
    walk_at "w"
    walk_at "w"
    refine we_lcP h dS (fun o => .bl (occ r o)) (fun o => !decide (o = r)) (gloc_name (by simp)) (wi_seq ?_)
    walk_at "w"
    refine ⟨_, _, ⟨rfl, rfl⟩, rfl, hh.len, trivial, fun o ho => ?_, ?_⟩
    · walk_at "w"
      walk_at "set"
      walk_at "ws"
      refine ne_txs (hh.row ho).ok (hh.row hr).ok ⟨_, rfl, rfl, rfl, fun _ => ?_⟩
      walk_at "ws"
      exact ⟨rfl, rfl⟩
    · walk_at "ws"
      refine any_map ⟨_, rfl, rfl, rfl, fun _ => ?_⟩
      walk_at "ws"
      exact ⟨rfl, rfl⟩
  · exact p
theorem w_outer_of : Keeps sp_outer_of t_outer_of 3 := by
  rintro K B _ S P ⟨h, rfl, hh, p⟩
  unfold t_outer_of
  show WS K B _ [some (heapD h), none, none] S _
  walk_at "ws"
  refine ⟨h, rfl, hh, ?_⟩
  walk_at "w"
  walk_at "set"
  walk_at "w"
  refine we_lcP h dS dS (fun r => !decide (r ∈ insideL h)) (gloc_name (by simp)) (wi_seq ?_)
  walk_at "w"
  refine ⟨_, _, ⟨rfl, rfl⟩, rfl, hh.len, trivial, fun r hr => ?_, ?_⟩
  · walk_at "w"
    walk_at "set"
    walk_at "ws"
    refine notin_txs seqD_lst ⟨_, rfl, rfl, rfl, fun _ => ?_⟩
    walk_at "ws"
    exact ⟨rfl, rfl⟩
  · exact p
theorem w_inside : Keeps sp_inside t_inside 1 := by
  rintro K B _ S P ⟨h, rfl, hh, p⟩
  unfold t_inside
  show WS K B _ [some (heapD h)] S _
  walk_at "ws"
  refine ⟨h, rfl, hh, ?_⟩
  walk_at "ws"
  refine ⟨h, rfl, hh, ?_⟩
  walk_at "ws"
  exact tuple_lst lstD_lst p
theorem w_outer : Keeps sp_outer t_outer 1 := by
  rintro K B _ S P ⟨h, rfl, hh, p⟩
  unfold t_outer
  show WS K B _ [some (heapD h)] S _
  walk_at "ws"
  refine ⟨h, rfl, hh, ?_⟩
  walk_at "ws"
  refine ⟨h, rfl, hh, ?_⟩
  walk_at "ws"
  exact tuple_lst lstD_lst p
end
end K60
namespace K60
open PySem L2 DL
local macro_rules | `(tactic| walk_at "w") => `(tactic| first
  | with_reducible refine ws_seq ?_
  | with_reducible refine ws_asg ?_
  | with_reducible refine ws_ret ?_
  | with_reducible refine ws_if ?_
  | with_reducible refine ws_drop ?_
  | with_reducible refine ws_next ?_
  | with_reducible refine wg_name ?_
  | with_reducible refine wg_tup (by with_unfolding_all rfl) ?_
  | with_reducible refine wgs_cons ?_
  | with_reducible refine wgs_nil ?_
  | with_reducible refine we_var (by with_unfolding_all rfl) ?_
  | with_reducible refine we_int ?_
  | with_reducible refine we_str ?_
  | with_reducible refine we_bl ?_
  | with_reducible refine we_non ?_
  | with_reducible refine we_raw ?_
  | with_reducible refine we_op ?_
  | with_reducible refine we_un ?_
  | with_reducible refine we_if ?_
  | with_reducible refine we_tup ?_
  | with_reducible refine we_CB ?_
  | with_reducible refine we_call ?_
  | with_reducible refine we_M1 ?_
  | with_reducible refine we_BM ?_
  | with_reducible refine we_sl ?_
  | with_reducible refine we_and ?_
  | with_reducible refine we_or ?_
  | with_reducible refine we_chain ?_
  | with_reducible refine we_notT ?_
  | with_reducible refine we_din ?_
  | with_reducible refine we_dget ?_
  | with_reducible refine wa_nil ?_
  | with_reducible refine wa_cons ?_
  | with_reducible refine wt_test ?_
  | with_reducible refine wt_trub ?_
  | with_reducible refine wt_and ?_
  | with_reducible refine wt_or ?_
  | with_reducible refine wt_not ?_
  | with_reducible refine wt_B ?_
  | with_reducible refine wo_none ?_
  | with_reducible refine wo_some ?_
  | with_reducible refine add_int ?_
  | with_reducible refine sub_int ?_
  | with_reducible refine lt_int ?_
  | with_reducible refine lt_str ?_
  | with_reducible refine le_int ?_
  | with_reducible refine gt_int ?_
  | with_reducible refine ge_int ?_
  | with_reducible refine eq_int ?_
  | with_reducible refine ne_int ?_
  | with_reducible refine int_int ?_
  | with_reducible refine int_bl ?_
  | with_reducible refine min_two ?_
  | with_reducible refine max_two ?_
  | with_reducible refine abs_int ?_
  | with_reducible refine endswith_str ?_
  | with_reducible refine in_str ?_
  | with_reducible refine notin_str ?_
  | with_reducible refine len_seq seqD_tup ?_
  | with_reducible refine len_seq seqD_lst ?_
  | with_reducible refine len_seq seqD_rol ?_
  | (with_reducible refine Exists.intro _ (And.intro rfl ?_)))
local macro_rules | `(tactic| walk_at "ws") => `(tactic| repeat walk_at "w")
local macro_rules | `(tactic| walk_at "set") => `(tactic| dsimp only [List.set_cons_succ, List.set_cons_zero, wipeD])
section
variable {K : PySem.W.Frag} {B : Hp} {S : Sto}
theorem enumM {α : Type} (f : α → D) (xs : List α) : enumD (xs.map f) = xs.zipIdx.map fun p => .tup [dN p.2, f p.1] := by
  unfold enumD
  rw [List.zipIdx_map, List.map_map]
  rfl
theorem flat_len {α β : Type} (f : α → List β) (c : Nat) : ∀ l : List α, (∀ x ∈ l, (f x).length ≤ c) → (l.flatMap f).length ≤ l.length * c
  | [], _ => by simp
  | x :: l, h => by
    have i := flat_len f c l fun y hy => h y (List.mem_cons_of_mem _ hy)
    have := h x List.mem_cons_self
    rw [List.flatMap_cons, List.length_append, List.length_cons, Nat.succ_mul]
    omega
theorem webRow_len (a : Tx) (i : Nat) (q : List (Tx × Nat)) : (webRow a i q).length ≤ q.length := by
  have := flat_len (fun p : Tx × Nat => if i ≠ p.2 ∧ 0 < ovl a p.1 then [(i, p.2, ovl a p.1)] else []) 1 q fun x _ => by split <;> simp
  unfold webRow
  omega
theorem zip_row {h : List Tx} {j : Nat} {p : Tx × Nat} (e : h.zipIdx[j]? = some p) : h[j]? = some p.1 ∧ p.2 = j := by
  rw [List.getElem?_zipIdx] at e
  cases q : h[j]? with
  | none => rw [q] at e; cases e
  | some r => rw [q] at e; cases e; exact ⟨rfl, by simp⟩
theorem flat_next {α β : Type} (f : α → List β) {l : List α} {i : Nat} {x : α} (h : l[i]? = some x) : (l.take (i + 1)).flatMap f = (l.take i).flatMap f ++ f x := by
  rw [take_next h, List.flatMap_append]
  simp
theorem w_web_of : Keeps sp_web_of t_web_of 7 := by
  rintro K B S0 S P ⟨h, rfl, hh, p⟩
  have hl := hh.n2
  have hz : h.zipIdx.length = h.length := List.length_zipIdx
  unfold t_web_of
  show WS K B _ [some (heapD h), none, none, none, none, none, none] S _
  walk_at "ws"
  refine we_lstM ?_
  walk_at "w"
  refine ⟨by simp, fun a ha => ?_⟩
  walk_at "w"
  walk_at "set"
  walk_at "w"
  let acc (i : Nat) : List Arc := (h.zipIdx.take i).flatMap fun p => webRow p.1 p.2 h.zipIdx
  have accl : ∀ i, (acc i).length ≤ 144 := fun i => by
    have h1 := flat_len (fun p : Tx × Nat => webRow p.1 p.2 h.zipIdx) 12 (h.zipIdx.take i) fun x _ => by
      have := webRow_len x.1 x.2 h.zipIdx
      omega
    have h2 : (h.zipIdx.take i).length ≤ 12 := by rw [List.length_take]; omega
    show ((h.zipIdx.take i).flatMap fun p => webRow p.1 p.2 h.zipIdx).length ≤ 144
    omega
  refine ws_for (wi_enum ?_)
  walk_at "ws"
  refine ⟨_, _, rfl, .inr (.inr rfl), ?_⟩
  rw [enumM]
  refine ⟨fun i Γ S' => (∃ x2 x3 x4 x5 x6, Γ = [some (heapD h), some (.ptr a), x2, x3, x4, x5, x6]) ∧ S' = ups S a (.lst ((acc i).map arcD)), ⟨⟨_, _, _, _, _, rfl⟩, rfl⟩, fun _ _ _ _ => trivial, ?_, ?_⟩
  · rintro i d Γ S' hd ⟨⟨x2, x3, x4, x5, x6, rfl⟩, rfl⟩
    obtain ⟨q, hq, rfl⟩ := map_get hd
    obtain ⟨one, n⟩ := q
    obtain ⟨hone, rfl⟩ := zip_row hq
    have rone := hh.row (List.mem_of_getElem? hone)
    walk_at "w"
    walk_at "w"
    walk_at "w"
    walk_at "w"
    walk_at "w"
    walk_at "w"
    walk_at "set"
    refine ws_for (wi_enum ?_)
    walk_at "ws"
    refine ⟨_, _, rfl, .inr (.inr rfl), ?_⟩
    rw [enumM]
    refine ⟨fun j Γ S' => (∃ x4 x5 x6, Γ = [some (heapD h), some (.ptr a), some (dN n), some (dS one), x4, x5, x6]) ∧ S' = ups S a (.lst ((acc n ++ webRow one n (h.zipIdx.take j)).map arcD)), ⟨⟨_, _, _, rfl⟩, by simp [webRow]⟩, fun _ _ _ _ => trivial, ?_, ?_⟩
    · rintro j d Γ S' hd ⟨⟨y4, y5, y6, rfl⟩, rfl⟩
      obtain ⟨q, hq2, rfl⟩ := map_get hd
      obtain ⟨other, m⟩ := q
      obtain ⟨hother, rfl⟩ := zip_row hq2
      have roth := hh.row (List.mem_of_getElem? hother)
      walk_at "w"
      walk_at "w"
      walk_at "w"
      walk_at "w"
      walk_at "w"
      walk_at "w"
      walk_at "set"
      walk_at "w"
      walk_at "w"
      have en : (!decide ((n : Int) = (m : Int))) = decide (n ≠ m) := by by_cases e : n = m <;> simp [e] <;> omega
      have next : ∀ sz : Nat, sz = (if n ≠ m then ovl one other else 0) → WS K B (tDrop (tBM K "list" (rm_list_extend K) (tVar 1) (tCons (tIf (tTest (tOp (raGt K) (tVar 6) (tC (.int 0)))) (tLst (tCons (tTup (tCons (tVar 2) (tCons (tVar 4) (tCons (tVar 6) tNil)))) tNil)) (tLst tNil)) tNil)))
          [some (heapD h), some (.ptr a), some (dN n), some (dS one), some (dN m), some (dS other), some (dN sz)] (ups S a (.lst ((acc n ++ webRow one n (h.zipIdx.take m)).map arcD)))
          { nx := fun Γ S' => (∃ x4 x5 x6, Γ = [some (heapD h), some (.ptr a), some (dN n), some (dS one), x4, x5, x6]) ∧ S' = ups S a (.lst ((acc n ++ webRow one n (h.zipIdx.take (m + 1))).map arcD)), rt := P,
            bk := fun Γ S' => (∃ x2 x3 x4 x5 x6, Γ = [some (heapD h), some (.ptr a), x2, x3, x4, x5, x6]) ∧ S' = ups S a (.lst ((acc (n + 1)).map arcD)),
            ct := fun Γ S' => (∃ x4 x5 x6, Γ = [some (heapD h), some (.ptr a), some (dN n), some (dS one), x4, x5, x6]) ∧ S' = ups S a (.lst ((acc n ++ webRow one n (h.zipIdx.take (m + 1))).map arcD)) } := by
        intro sz hsz
        have l1 := accl n
        have l2 := webRow_len one n (h.zipIdx.take m)
        rw [List.length_take] at l2
        have step : webRow one n (h.zipIdx.take (m + 1)) = webRow one n (h.zipIdx.take m) ++ if 0 < sz then [(n, m, sz)] else [] := by
          unfold webRow
          rw [flat_next _ hq2]
          congr 1
          show (if n ≠ m ∧ 0 < ovl one other then [(n, m, ovl one other)] else []) = _
          subst hsz
          by_cases e : n = m
          · subst e; simp
          · simp [e]
        walk_at "ws"
        refine ⟨.inl ⟨rfl, _, ups_same⟩, ?_⟩
        walk_at "ws"
        refine if2 (fun e => ?_) fun e => ?_
        · refine we_lst ?_
          walk_at "ws"
          refine ⟨by show 3 ≤ sizeLine; decide, ?_⟩
          walk_at "ws"
          refine ⟨by show 1 ≤ sizeLine; decide, ?_⟩
          walk_at "ws"
          refine ext_lst ups_same lstT_lst (size100 (by simp; omega)) ⟨⟨_, _, _, rfl⟩, ?_⟩
          have e' : 0 < sz := by have := of_decide_eq_true e; omega
          rw [ups_ups, step, if_pos e', ← List.append_assoc, List.map_append, List.map_append, List.map_append]
          rfl
        · refine we_lst ?_
          walk_at "ws"
          refine ⟨by show 0 ≤ sizeLine; decide, ?_⟩
          walk_at "ws"
          refine ext_lst ups_same lstT_lst (size100 (by simp; omega)) ⟨⟨_, _, _, rfl⟩, ?_⟩
          have e' : ¬ 0 < sz := by have := of_decide_eq_false e; omega
          rw [ups_ups, step, if_neg e', List.append_nil, List.append_nil]
      walk_at "w"
      walk_at "w"
      walk_at "w"
      walk_at "w"
      walk_at "w"
      walk_at "w"
      walk_at "w"
      rw [en]
      refine if2 (fun e => ?_) fun e => ?_
      · have e' : n ≠ m := of_decide_eq_true e
        walk_at "ws"
        refine ⟨one, other, rfl, rone, roth, ?_⟩
        walk_at "w"
        walk_at "set"
        exact next _ (by rw [if_pos e'])
      · have e' : ¬ n ≠ m := of_decide_eq_false e
        walk_at "w"
        walk_at "w"
        walk_at "set"
        exact next 0 (by rw [if_neg e'])
    · rintro Γ S' ⟨⟨x4, x5, x6, rfl⟩, rfl⟩
      refine ⟨⟨_, _, _, _, _, rfl⟩, ?_⟩
      have e : acc (n + 1) = acc n ++ webRow one n h.zipIdx := flat_next _ hq
      rw [List.length_map, e, List.take_length]
  · rintro Γ S' ⟨⟨x2, x3, x4, x5, x6, rfl⟩, rfl⟩
    refine ws_retF ?_
    walk_at "w"
    refine ⟨a, _, rfl, ups_same, ?_⟩
    rw [dels_ups ha, List.length_map]
    have e : acc h.zipIdx.length = webL h := by
      show ((h.zipIdx.take _).flatMap fun p => webRow p.1 p.2 h.zipIdx) = _
      rw [List.take_length]; rfl
    rw [e]
    exact p
theorem w_overlap_web : Keeps sp_overlap_web t_overlap_web 1 := by
  rintro K B _ S P ⟨h, rfl, hh, p⟩
  unfold t_overlap_web
  show WS K B _ [some (heapD h)] S _
  walk_at "ws"
  refine ⟨h, rfl, hh, ?_⟩
  walk_at "ws"
  refine ⟨h, rfl, hh, ?_⟩
  walk_at "ws"
  exact tuple_lst lstD_lst p
end
end K60
namespace K60
open PySem L2 DL
local macro_rules | `(tactic| walk_at "w") => `(tactic| first
  | with_reducible refine ws_seq ?_
  | with_reducible refine ws_asg ?_
  | with_reducible refine ws_ret ?_
  | with_reducible refine ws_if ?_
  | with_reducible refine ws_drop ?_
  | with_reducible refine ws_next ?_
  | with_reducible refine wg_name ?_
  | with_reducible refine wg_tup (by with_unfolding_all rfl) ?_
  | with_reducible refine wgs_cons ?_
  | with_reducible refine wgs_nil ?_
  | with_reducible refine we_var (by with_unfolding_all rfl) ?_
  | with_reducible refine we_int ?_
  | with_reducible refine we_str ?_
  | with_reducible refine we_bl ?_
  | with_reducible refine we_non ?_
  | with_reducible refine we_raw ?_
  | with_reducible refine we_op ?_
  | with_reducible refine we_un ?_
  | with_reducible refine we_if ?_
  | with_reducible refine we_tup ?_
  | with_reducible refine we_CB ?_
  | with_reducible refine we_call ?_
  | with_reducible refine we_M1 ?_
  | with_reducible refine we_BM ?_
  | with_reducible refine we_sl ?_
  | with_reducible refine we_and ?_
  | with_reducible refine we_or ?_
  | with_reducible refine we_chain ?_
  | with_reducible refine we_notT ?_
  | with_reducible refine we_din ?_
  | with_reducible refine we_dget ?_
  | with_reducible refine wa_nil ?_
  | with_reducible refine wa_cons ?_
  | with_reducible refine wt_test ?_
  | with_reducible refine wt_trub ?_
  | with_reducible refine wt_and ?_
  | with_reducible refine wt_or ?_
  | with_reducible refine wt_not ?_
  | with_reducible refine wt_B ?_
  | with_reducible refine wo_none ?_
  | with_reducible refine wo_some ?_
  | with_reducible refine add_int ?_
  | with_reducible refine sub_int ?_
  | with_reducible refine lt_int ?_
  | with_reducible refine lt_str ?_
  | with_reducible refine le_int ?_
  | with_reducible refine gt_int ?_
  | with_reducible refine ge_int ?_
  | with_reducible refine eq_int ?_
  | with_reducible refine ne_int ?_
  | with_reducible refine int_int ?_
  | with_reducible refine int_bl ?_
  | with_reducible refine min_two ?_
  | with_reducible refine max_two ?_
  | with_reducible refine abs_int ?_
  | with_reducible refine endswith_str ?_
  | with_reducible refine in_str ?_
  | with_reducible refine notin_str ?_
  | with_reducible refine len_seq seqD_tup ?_
  | with_reducible refine len_seq seqD_lst ?_
  | with_reducible refine len_seq seqD_rol ?_
  | (with_reducible refine Exists.intro _ (And.intro rfl ?_)))
local macro_rules | `(tactic| walk_at "ws") => `(tactic| repeat walk_at "w")
local macro_rules | `(tactic| walk_at "set") => `(tactic| dsimp only [List.set_cons_succ, List.set_cons_zero, wipeD])
section
variable {K : PySem.W.Frag} {B : Hp} {S : Sto}
theorem dget2 {a : Addr} {kn : Kn} (i j : Nat) (hs : S a = some (.dT (kvD dN kn))) : DictGet S a (.tup [dN i, dN j]) ((valN kn (K2 i j)).map dN) := .inr ⟨_, K2 i j, hs, rfl, (valD_kv dN kn (K2 i j)).symm⟩
def needAt (kn : Kn) (p : Arc) (q : Tx × Nat) : Bool := match valN kn (K2 p.1 q.2), valN kn (K2 q.2 p.2.1) with
  | some x, some y => decide (x + y = q.1.length + p.2.2)
  | _, _ => false
theorem any_take {α : Type} {f : α → Bool} {l : List α} {i : Nat} {x : α} (h : l[i]? = some x) (h1 : (l.take i).any f = false) (h2 : f x = false) : (l.take (i + 1)).any f = false := by
  rw [take_next h, List.any_append, h1]
  simp [h2]
theorem w_is_needless : Keeps sp_is_needless t_is_needless 8 := by
  rintro K B S0 S P ⟨h, a, kn, ⟨at_, to, size⟩, rfl, hh, hs, p⟩
  have p' : P (.bl (h.zipIdx.any (needAt kn (at_, to, size)))) S := p
  unfold t_is_needless
  show WS K B _ [some (heapD h), some (.ptr a), some (arcD (at_, to, size)), none, none, none, none, none] S _
  walk_at "ws"
  walk_at "set"
  refine ws_for (wi_enum ?_)
  walk_at "ws"
  refine ⟨_, _, rfl, .inr (.inr rfl), ?_⟩
  rw [enumM]
  refine ⟨fun i Γ S' => (∃ x6 x7, Γ = [some (heapD h), some (.ptr a), some (arcD (at_, to, size)), some (dN at_), some (dN to), some (dN size), x6, x7]) ∧ S' = S ∧ (h.zipIdx.take i).any (needAt kn (at_, to, size)) = false,
    ⟨⟨_, _, rfl⟩, rfl, rfl⟩, fun _ _ _ _ => trivial, ?_, ?_⟩
  · rintro i d Γ S' hd ⟨⟨x6, x7, rfl⟩, rfl, hno⟩
    obtain ⟨q, hq, rfl⟩ := map_get hd
    obtain ⟨row, n⟩ := q
    obtain ⟨hrow, rfl⟩ := zip_row hq
    have rr : RowOk row := hh.row (List.mem_of_getElem? hrow)
    walk_at "w"
    walk_at "w"
    walk_at "w"
    walk_at "w"
    walk_at "w"
    walk_at "w"
    walk_at "set"
    refine ws_ifP (needAt kn (at_, to, size) (row, n)) ?_ (fun e => ?_) fun e => ?_
    · have key : ∀ i j : Nat, DictGet S' a (.tup [dN i, dN j]) ((valN kn (K2 i j)).map dN) := fun i j => dget2 i j hs
      have two : 2 ≤ sizeLine := by decide
      have m1 : ((valN kn (K2 at_ n)).map dN).isSome = (valN kn (K2 at_ n)).isSome := by simp
      have m2 : ((valN kn (K2 n to)).map dN).isSome = (valN kn (K2 n to)).isSome := by simp
      have val : needAt kn (at_, to, size) (row, n) = ((valN kn (K2 at_ n)).isSome && ((valN kn (K2 n to)).isSome && decide (((valN kn (K2 at_ n)).getD 0 : Int) + ((valN kn (K2 n to)).getD 0 : Int) = (row.length : Int) + (size : Int)))) := by
        unfold needAt
        cases e1 : valN kn (K2 at_ n) with
        | none => rfl
        | some x =>
          cases e2 : valN kn (K2 n to) with
          | none => rfl
          | some y =>
            show decide (x + y = row.length + size) = decide ((x : Int) + (y : Int) = (row.length : Int) + (size : Int))
            by_cases q : x + y = row.length + size
            · rw [decide_eq_true q, decide_eq_true (by omega)]
            · rw [decide_eq_false q, decide_eq_false (by omega)]
      rw [val]
      refine wt_andP _ _ ?_ (fun e1 => wt_andP _ _ ?_ (fun e2 => ?_) ⟨rfl, rfl⟩) ⟨rfl, rfl⟩
      · walk_at "ws"
        refine ⟨two, ?_⟩
        walk_at "ws"
        exact ⟨a, _, rfl, key at_ n, _, rfl, m1, rfl⟩
      · walk_at "ws"
        refine ⟨two, ?_⟩
        walk_at "ws"
        exact ⟨a, _, rfl, key n to, _, rfl, m2, rfl⟩
      · obtain ⟨x, hx⟩ := Option.isSome_iff_exists.mp e1
        obtain ⟨y, hy⟩ := Option.isSome_iff_exists.mp e2
        walk_at "ws"
        refine ⟨two, ?_⟩
        walk_at "ws"
        refine ⟨a, dN x, rfl, by have := key at_ n; rw [hx] at this; exact this, ?_⟩
        walk_at "ws"
        refine ⟨two, ?_⟩
        walk_at "ws"
        refine ⟨a, dN y, rfl, by have := key n to; rw [hy] at this; exact this, ?_⟩
        walk_at "ws"
        refine len_str (by rw [mk_length]; have := rr.most; exact size100 (by omega)) ?_
        walk_at "ws"
        rw [mk_length, hx, hy]
        exact ⟨rfl, rfl⟩
    · have : h.zipIdx.any (needAt kn (at_, to, size)) = true := List.any_eq_true.mpr ⟨_, List.mem_of_getElem? hq, e⟩
      rw [this] at p'
      walk_at "ws"
      exact p'
    · walk_at "ws"
      exact ⟨⟨_, _, rfl⟩, rfl, any_take hq hno e⟩
  · rintro Γ S' ⟨⟨x6, x7, rfl⟩, rfl, hno⟩
    rw [List.length_map, List.take_length] at hno
    rw [hno] at p'
    walk_at "ws"
    exact p'
theorem web_len {h : List Tx} (hh : HeapOk h) : (webL h).length ≤ 144 := by
  have hz : h.zipIdx.length = h.length := List.length_zipIdx
  have hl := hh.n2
  have := flat_len (fun p : Tx × Nat => webRow p.1 p.2 h.zipIdx) 12 h.zipIdx fun x _ => by
    have := webRow_len x.1 x.2 h.zipIdx
    omega
  unfold webL
  omega
theorem gloc3 {i j k : Nat} {K : PySem.W.Frag} : GLoc (gTup K 3 (gCons (gName i) (gCons (gName j) (gCons (gName k) gNil)))) [i, j, k] :=
  gloc_tup (gsloc_cons gmono_name (gsmono_cons gmono_name (gsmono_cons gmono_name gsmono_nil)) (gloc_name (by simp)) (gsloc_cons gmono_name (gsmono_cons gmono_name gsmono_nil) (gloc_name (by simp)) (gsloc_cons gmono_name gsmono_nil (gloc_name (by simp)) gsloc_nil)))
theorem gloc2 {i j : Nat} {K : PySem.W.Frag} : GLoc (gTup K 2 (gCons (gName i) (gCons (gName j) gNil))) [i, j] :=
  gloc_tup (gsloc_cons gmono_name (gsmono_cons gmono_name gsmono_nil) (gloc_name (by simp)) (gsloc_cons gmono_name gsmono_nil (gloc_name (by simp)) gsloc_nil))
theorem w_needless_overlaps : Keeps sp_needless_overlaps t_needless_overlaps 7 := by
  rintro K B S0 S P ⟨h, rfl, hh, p⟩
  have wl := web_len hh
  unfold t_needless_overlaps
  show WS K B _ [some (heapD h), none, none, none, none, none, none] S _
  walk_at "ws"
  refine ⟨h, rfl, hh, ?_⟩
  walk_at "ws"
  refine ⟨h, rfl, hh, ?_⟩
  walk_at "w"
  walk_at "set"
  walk_at "ws"
  refine we_lcM (webL h) arcD (fun p => .tup [.tup ((K2 p.1 p.2.1).map keyD), dN p.2.2]) gloc3 (wi_seq ?_)
  walk_at "w"
  refine ⟨_, _, ⟨rfl, rfl⟩, rfl, size100 (by omega), trivial, fun p _ => ?_, ?_⟩
  · walk_at "ws"
    walk_at "set"
    refine ⟨rfl, ?_⟩
    walk_at "ws"
    refine ⟨by show 2 ≤ sizeLine; decide, ?_⟩
    walk_at "ws"
    exact ⟨by show 2 ≤ sizeLine; decide, rfl, rfl⟩
  · walk_at "ws"
    have e : ((webL h).map fun p : Arc => D.tup [.tup ((K2 p.1 p.2.1).map keyD), dN p.2.2]) = ((webL h).map fun p : Arc => (K2 p.1 p.2.1, dN p.2.2)).map fun q : List Key × D => D.tup [.tup (q.1.map keyD), q.2] := by
      rw [List.map_map]; rfl
    rw [e]
    refine dict_pairs (by rw [List.length_map]; omega) fun a ha => ?_
    have e2 : ((webL h).map fun p : Arc => (K2 p.1 p.2.1, dN p.2.2)).foldl (fun acc p => putD acc p.1 p.2) [] = kvD dN (knOf (webL h)) := fold_kv dN (fun p : Arc => K2 p.1 p.2.1) (fun p : Arc => p.2.2) (webL h) []
    rw [e2]
    walk_at "w"
    walk_at "set"
    refine ws_retD ?_
    walk_at "ws"
    refine we_lcP (webL h) arcD arcD (isNeed h (knOf (webL h))) (gloc_name (by simp)) (wi_seq ?_)
    walk_at "w"
    refine ⟨_, _, ⟨rfl, rfl⟩, rfl, size100 (by omega), trivial, fun p _ => ?_, ?_⟩
    · walk_at "w"
      walk_at "set"
      walk_at "ws"
      refine ⟨h, a, knOf (webL h), p, rfl, hh, ups_same, _, rfl, rfl, rfl, fun _ => ?_⟩
      walk_at "ws"
      exact ⟨rfl, rfl⟩
    · walk_at "ws"
      exact tuple_lst lstD_lst ⟨S, sub_ups ha, p⟩
/-- is_order_of -/
theorem eq_data {P : D → Sto → Prop} {x y : D} (hx : x.plain = true) (hy : y.plain = true) (h1 : SeqAt.shaped x.py = true) (h2 : SeqAt.shaped y.py = true) (p : P (.bl (PyData.eqv x.py y.py)) S) : RD2 K B (raEq K) x y S P :=
  eq_dat (.inl rfl) (.inl rfl) hx hy h1 h2 p
theorem plains_nat (o : List Nat) : plains (o.map dN) = true := by induction o with | nil => rfl | cons x o ih => simpa [plains, D.plain] using ih
theorem pys_nat (o : List Nat) : pys (o.map dN) = o.map fun (n : Nat) => PyData.int (n : Int) := by induction o with | nil => rfl | cons x o ih => simp [pys, D.py, ih]
theorem shaped_nat (o : List Nat) : SeqAt.shaped (.tuple (o.map fun (n : Nat) => PyData.int (n : Int))) = true := by
  unfold SeqAt.shaped
  have h1 : ∀ l : List Nat, PyData.canLayAll0 (l.map fun (n : Nat) => PyData.int (n : Int)) = true := fun l => by induction l with | nil => rfl | cons x l ih => simpa [PyData.canLayAll0, PyData.canLay0] using ih
  have h2 : ∀ l : List Nat, PyData.depthAll (l.map fun (n : Nat) => PyData.int (n : Int)) = 0 := fun l => by induction l with | nil => rfl | cons x l ih => simp [PyData.depthAll, PyData.depth, ih]
  have e1 : PyData.canLay0 (.tuple (o.map fun (n : Nat) => PyData.int (n : Int))) = true := by unfold PyData.canLay0; exact h1 o
  have e2 : PyData.depth (.tuple (o.map fun (n : Nat) => PyData.int (n : Int))) = 1 := by unfold PyData.depth; rw [h2]
  rw [e1, e2]; rfl
theorem nodup_le : ∀ (n : Nat) (o : List Nat), o.Nodup → (∀ x ∈ o, x < n) → o.length ≤ n
  | 0, o, _, h => by cases o with | nil => exact Nat.le_refl _ | cons x o => exact absurd (h x List.mem_cons_self) (by omega)
  | n + 1, o, nd, h => by
    by_cases m : n ∈ o
    · have i := nodup_le n (o.erase n) (nd.erase n) fun x hx => by
        have h1 := List.mem_of_mem_erase hx
        have h2 : x ≠ n := fun z => by subst z; exact (List.Nodup.not_mem_erase nd) hx
        have := h x h1
        omega
      rw [List.length_erase_of_mem m] at i
      omega
    · have i := nodup_le n o nd fun x hx => by
        have h2 : x ≠ n := fun z => by subst z; exact m hx
        have := h x hx
        omega
      omega
theorem w_is_order_of : Keeps sp_is_order_of t_is_order_of 2 := by
  rintro K B S0 S P ⟨h, o, rfl, hh, ho, p⟩
  have hol : o.length ≤ 12 := Nat.le_trans (nodup_le _ _ ho.nd ho.lt) hh.n2
  unfold t_is_order_of
  show WS K B _ [some (heapD h), some (.tup (o.map dN))] S _
  walk_at "w"
  refine ws_ifP (false || (false || false)) ?_ (fun e => by simp at e) fun _ => ?_
  · refine wt_orP false _ ?_ (fun _ => wt_orP false false ?_ (fun _ => ?_) ⟨rfl, rfl⟩) ⟨rfl, rfl⟩
    · walk_at "ws"
      refine isi_solid _ rfl (by decide +kernel) ?_
      walk_at "ws"
      exact ⟨rfl, rfl⟩
    · walk_at "ws"
      refine ⟨by show 0 ≤ sizeLine; decide, ?_⟩
      refine eq_data (by unfold D.plain; exact plains_nat o) rfl (by unfold D.py; rw [pys_nat]; exact shaped_nat o) rfl ⟨_, rfl, ?_, rfl⟩
      cases o with
      | nil => exact absurd rfl ho.ne
      | cons x o => rfl
    · walk_at "ws"
      refine ⟨o, 0, _, rfl, by omega, _, rfl, ?_, rfl⟩
      have : (o.all fun v => decide ((0 : Int) ≤ (v : Int)) && decide ((v : Int) ≤ ((h.map dS).length : Int) - 1)) = true := by
        rw [List.all_eq_true]
        intro v hv
        have := ho.lt v hv
        rw [List.length_map, decide_eq_true (by omega), decide_eq_true (by omega)]; rfl
      rw [this]; rfl
  · walk_at "ws"
    refine we_lenSet (ns := o.map fun (n : Nat) => (n : Int)) ?_
    walk_at "ws"
    refine ⟨by rw [List.map_map]; rfl, ?_, ?_, ?_⟩
    · rw [List.length_map]; omega
    · exact List.Pairwise.map _ (fun a b hab e => hab (Int.ofNat.inj e)) ho.nd
    · walk_at "ws"
      rw [List.length_map, List.length_map, decide_eq_true rfl]
      exact p
theorem ord_len {h : List Tx} {o : List Nat} (hh : HeapOk h) (ho : OrdOk h o) : o.length ≤ 12 := Nat.le_trans (nodup_le _ _ ho.nd ho.lt) hh.n2
theorem sol_tup (ns : List Nat) : sol2 (.tup (ns.map dN)) := fun e he => by
  obtain ⟨n, _, rfl⟩ := List.mem_map.mp he
  exact trivial
theorem w_check_order : Keeps sp_check_order t_check_order 2 := by
  rintro K B S0 S P ⟨h, o, rfl, hh, ho, p⟩
  unfold t_check_order
  show WS K B _ [some (heapD h), some (.tup (o.map dN))] S _
  walk_at "ws"
  refine ⟨h, rfl, hh, ?_⟩
  walk_at "ws"
  refine ⟨h, o, rfl, hh, ho, ?_⟩
  walk_at "ws"
  refine ifF rfl ?_
  walk_at "ws"
  exact p
/-- rows laid -/
theorem lay_len (l : List (Tx × Tx)) : ∀ acc : Tx, (∀ p ∈ l, p.2.length ≤ 30) → (l.foldl (fun acc p => acc ++ p.2.drop (ovl p.1 p.2)) acc).length ≤ acc.length + 30 * l.length := by
  induction l with
  | nil => intro acc _; simp
  | cons p l ih =>
    intro acc h
    simp only [List.foldl_cons]
    have := ih (acc ++ p.2.drop (ovl p.1 p.2)) fun q hq => h q (List.mem_cons_of_mem _ hq)
    have h1 := h p List.mem_cons_self
    rw [List.length_append, List.length_drop] at this
    rw [List.length_cons]
    omega
theorem w_laid_of : Keeps sp_laid_of t_laid_of 4 := by
  rintro K B S0 S P ⟨rs, rfl, hne, hl, hr, p⟩
  unfold t_laid_of
  show WS K B _ [some (.lst (rs.map dS)), none, none, none] S _
  obtain ⟨r, ts, rfl⟩ : ∃ r ts, rs = r :: ts := by cases rs with | nil => exact absurd rfl hne | cons r ts => exact ⟨r, ts, rfl⟩
  have hts : ts.length ≤ 11 := by simp at hl; omega
  walk_at "ws"
  refine rd_ix (d := dS r) seqD_lst (DL.atI_nat (i := 0)) ?_
  walk_at "w"
  walk_at "set"
  let st (i : Nat) : Tx := (((r :: ts).zip ts).take i).foldl (fun acc p => acc ++ p.2.drop (ovl p.1 p.2)) r
  have zl : ((r :: ts).zip ts).length ≤ 11 := by simp; omega
  have stl : ∀ i, (st i).length ≤ 400 := fun i => by
    have h1 := lay_len (((r :: ts).zip ts).take i) r fun q hq => (hr q.2 (List.mem_cons_of_mem _ (List.of_mem_zip (List.mem_of_mem_take hq)).2)).most
    have h2 : (((r :: ts).zip ts).take i).length ≤ 11 := by rw [List.length_take]; omega
    have h3 := (hr r List.mem_cons_self).most
    show (List.foldl _ r _).length ≤ 400
    omega
  walk_at "w"
  refine ws_for (wi_zip ?_)
  walk_at "ws"
  refine sl_lst lstD_lst ?_
  walk_at "ws"
  refine ⟨_, _, _, _, rfl, .inl ⟨rfl, rfl⟩, ?_⟩
  rw [cut_tail]
  show ∃ I : Nat → Sl → Sto → Prop, _
  rw [show ((r :: ts).map dS).tail = ts.map dS from rfl, zipM]
  refine ⟨fun i Γ S' => (∃ x2 x3, Γ = [some (.lst ((r :: ts).map dS)), some (dS (st i)), x2, x3]) ∧ S' = S, ⟨⟨_, _, rfl⟩, rfl⟩, fun _ _ _ _ => trivial, ?_, ?_⟩
  · rintro i d Γ S' hd ⟨⟨x2, x3, rfl⟩, rfl⟩
    obtain ⟨q, hq, rfl⟩ := map_get hd
    have hm := List.of_mem_zip (List.mem_of_getElem? hq)
    have r1 := hr q.1 hm.1
    have r2 := hr q.2 (List.mem_cons_of_mem _ hm.2)
    walk_at "w"
    walk_at "w"
    walk_at "w"
    walk_at "w"
    walk_at "w"
    walk_at "w"
    walk_at "set"
    walk_at "ws"
    refine ⟨q.1, q.2, rfl, r1, r2, _, rfl, ?_⟩
    walk_at "ws"
    refine sl_str (by rw [mk_length]; have := r2.most; exact size100 (by omega)) ?_
    rw [cut_mk, cut_from]
    refine add_str (by rw [mk_length, mk_length, List.length_drop]; have := stl i; have := r2.most; exact size100 (by omega)) ?_
    rw [mk_append]
    walk_at "w"
    walk_at "set"
    refine ⟨⟨some (dS q.1), some (dS q.2), ?_⟩, rfl⟩
    have e : st (i + 1) = st i ++ q.2.drop (ovl q.1 q.2) := by
      show List.foldl _ r (((r :: ts).zip ts).take (i + 1)) = _
      rw [take_next hq, List.foldl_append]; rfl
    rw [e]
  · rintro Γ S' ⟨⟨x2, x3, rfl⟩, rfl⟩
    walk_at "ws"
    rw [List.length_map]
    have e : st ((r :: ts).zip ts).length = laidL (r :: ts) := by
      show List.foldl _ r (((r :: ts).zip ts).take _) = _
      rw [List.take_length]; rfl
    rw [e]
    exact p
theorem pick_len (h : List Tx) (o : List Nat) : (pick h o).length = o.length := by simp [pick]
theorem pick_row {h : List Tx} {o : List Nat} (hh : HeapOk h) (ho : OrdOk h o) : ∀ r ∈ pick h o, RowOk r := by
  intro r hr
  obtain ⟨i, hi, rfl⟩ := List.mem_map.mp hr
  have := ho.lt i hi
  rw [show h.getD i [] = h[i] by simp [List.getD, this]]
  exact hh.row (List.getElem_mem this)
theorem ix_heap {P : D → Sto → Prop} {h : List Tx} {i : Nat} (hi : i < h.length) (p : P (dS (h.getD i [])) S) : RD2 K B (rIx K) (heapD h) (dN i) S P :=
  rd_ix (d := dS (h.getD i [])) seqD_tup (by rw [DL.atI_nat, List.getElem?_map]; simp [hi]) p
theorem w_laid : Keeps sp_laid t_laid 3 := by
  rintro K B S0 S P ⟨h, o, rfl, hh, ho, p⟩
  have ol := ord_len hh ho
  unfold t_laid
  show WS K B _ [some (heapD h), some (.tup (o.map dN)), none] S _
  walk_at "ws"
  refine ⟨h, o, rfl, hh, ho, ?_⟩
  walk_at "ws"
  refine we_lcM o dN (fun i => dS (h.getD i [])) (gloc_name (by simp)) (wi_seq ?_)
  walk_at "w"
  refine ⟨_, _, ⟨rfl, rfl⟩, rfl, size100 (by omega), trivial, fun i hi => ?_, ?_⟩
  · walk_at "w"
    walk_at "set"
    refine ⟨rfl, ?_⟩
    walk_at "ws"
    exact ix_heap (ho.lt i hi) ⟨rfl, rfl⟩
  · walk_at "ws"
    refine ⟨pick h o, by unfold pick; rw [List.map_map]; rfl, fun z => ho.ne (by unfold pick at z; simpa using z), by rw [pick_len]; exact ol, pick_row hh ho, p⟩
theorem w_saved : Keeps sp_saved t_saved 6 := by
  rintro K B S0 S P ⟨h, o, rfl, hh, ho, p⟩
  have ol := ord_len hh ho
  unfold t_saved
  show WS K B _ [some (heapD h), some (.tup (o.map dN)), none, none, none, none] S _
  walk_at "ws"
  refine ⟨h, o, rfl, hh, ho, ?_⟩
  walk_at "ws"
  refine we_lcM o dN (fun i => dS (h.getD i [])) (gloc_name (by simp)) (wi_seq ?_)
  walk_at "w"
  refine ⟨_, _, ⟨rfl, rfl⟩, rfl, size100 (by omega), trivial, fun i hi => ?_, ?_⟩
  · walk_at "w"
    walk_at "set"
    refine ⟨rfl, ?_⟩
    walk_at "ws"
    exact ix_heap (ho.lt i hi) ⟨rfl, rfl⟩
  · rw [show (o.map fun i => dS (h.getD i [])) = (pick h o).map dS by unfold pick; rw [List.map_map]; rfl]
    walk_at "w"
    walk_at "set"
    walk_at "ws"
    refine we_lcM ((pick h o).zip (pick h o).tail) (fun p => .tup [dS p.1, dS p.2]) (fun p => dN (ovl p.1 p.2)) gloc2 (wi_zip ?_)
    walk_at "ws"
    refine sl_lst lstD_lst ?_
    walk_at "ws"
    refine ⟨_, _, _, _, rfl, .inl ⟨rfl, rfl⟩, ?_, ?_, trivial, fun q hq => ?_, ?_⟩
    · rw [cut_map, cut_tail, zipM]
    · have := pick_len h o
      exact size100 (by simp; omega)
    · have hm := List.of_mem_zip hq
      walk_at "ws"
      walk_at "set"
      refine ⟨rfl, ?_⟩
      walk_at "ws"
      exact ⟨q.1, q.2, rfl, pick_row hh ho _ hm.1, pick_row hh ho _ (List.mem_of_mem_tail hm.2), rfl, rfl⟩
    · walk_at "ws"
      refine sum_ints (ns := ((pick h o).zip (pick h o).tail).map fun p => (ovl p.1 p.2 : Int)) (by rw [List.map_map]; exact lstD_lst) ?_
      have e : (((pick h o).zip (pick h o).tail).map fun p => (ovl p.1 p.2 : Int)).sum = (savedL (pick h o) : Int) := by
        unfold savedL
        generalize (pick h o).zip (pick h o).tail = l
        induction l with | nil => rfl | cons x l ih => simp only [List.map_cons, List.sum_cons]; rw [ih]; simp
      rw [e]
      exact p
end
end K60
namespace K60
open PySem L2 DL
local macro_rules | `(tactic| walk_at "w") => `(tactic| first
  | with_reducible refine ws_seq ?_
  | with_reducible refine ws_asg ?_
  | with_reducible refine ws_ret ?_
  | with_reducible refine ws_if ?_
  | with_reducible refine ws_drop ?_
  | with_reducible refine ws_next ?_
  | with_reducible refine wg_name ?_
  | with_reducible refine wg_tup (by with_unfolding_all rfl) ?_
  | with_reducible refine wgs_cons ?_
  | with_reducible refine wgs_nil ?_
  | with_reducible refine we_var (by with_unfolding_all rfl) ?_
  | with_reducible refine we_int ?_
  | with_reducible refine we_str ?_
  | with_reducible refine we_bl ?_
  | with_reducible refine we_non ?_
  | with_reducible refine we_raw ?_
  | with_reducible refine we_op ?_
  | with_reducible refine we_un ?_
  | with_reducible refine we_if ?_
  | with_reducible refine we_tup ?_
  | with_reducible refine we_CB ?_
  | with_reducible refine we_call ?_
  | with_reducible refine we_M1 ?_
  | with_reducible refine we_BM ?_
  | with_reducible refine we_sl ?_
  | with_reducible refine we_and ?_
  | with_reducible refine we_or ?_
  | with_reducible refine we_chain ?_
  | with_reducible refine we_notT ?_
  | with_reducible refine we_din ?_
  | with_reducible refine we_dget ?_
  | with_reducible refine wa_nil ?_
  | with_reducible refine wa_cons ?_
  | with_reducible refine wt_test ?_
  | with_reducible refine wt_trub ?_
  | with_reducible refine wt_and ?_
  | with_reducible refine wt_or ?_
  | with_reducible refine wt_not ?_
  | with_reducible refine wt_B ?_
  | with_reducible refine wo_none ?_
  | with_reducible refine wo_some ?_
  | with_reducible refine add_int ?_
  | with_reducible refine sub_int ?_
  | with_reducible refine lt_int ?_
  | with_reducible refine lt_str ?_
  | with_reducible refine le_int ?_
  | with_reducible refine gt_int ?_
  | with_reducible refine ge_int ?_
  | with_reducible refine eq_int ?_
  | with_reducible refine ne_int ?_
  | with_reducible refine int_int ?_
  | with_reducible refine int_bl ?_
  | with_reducible refine min_two ?_
  | with_reducible refine max_two ?_
  | with_reducible refine abs_int ?_
  | with_reducible refine endswith_str ?_
  | with_reducible refine in_str ?_
  | with_reducible refine notin_str ?_
  | with_reducible refine len_seq seqD_tup ?_
  | with_reducible refine len_seq seqD_lst ?_
  | with_reducible refine len_seq seqD_rol ?_
  | (with_reducible refine Exists.intro _ (And.intro rfl ?_)))
local macro_rules | `(tactic| walk_at "ws") => `(tactic| repeat walk_at "w")
local macro_rules | `(tactic| walk_at "set") => `(tactic| dsimp only [List.set_cons_succ, List.set_cons_zero, wipeD])
section
variable {K : PySem.W.Frag} {B : Hp} {S : Sto}
theorem Pot.more {a : Addr} {k k' : Nat} {S : Sto} (p : Pot S a k) (h : k ≤ k') : Pot S a k' := by
  obtain ⟨p0, p1, p2, e, h1, h2, h3, h4, h5⟩ := p
  exact ⟨p0, p1, p2, e, h1, h2, h3, h4, by omega⟩
theorem Pot.keep {a : Addr} {k : Nat} {S S' : Sto} (p : Pot S a k) (h : S' a = S a) : Pot S' a k := by
  obtain ⟨p0, p1, p2, e, r⟩ := p
  exact ⟨p0, p1, p2, by rw [h]; exact e, r⟩
theorem fmod_pos {a b : Int} (hb : 0 < b) : 0 ≤ a.fmod b ∧ a.fmod b < b := by
  rw [Int.fmod_eq_emod_of_nonneg a (by omega)]
  exact ⟨Int.emod_nonneg a (by omega), Int.emod_lt_of_pos a hb⟩
theorem bits60 : CPowX ((10 : Int) ^ (60 : Int).toNat) 5 := by unfold CPowX; decide +kernel
theorem ix3 {P : D → Sto → Prop} {a : Addr} {x0 x1 x2 d : D} (i : Nat) (hs : S a = some (.lst [x0, x1, x2])) (hi : [x0, x1, x2][i]? = some d) (p : P d S) : RD2 K B (rIx K) (.ptr a) (.int (i : Int)) S P :=
  rd_ix (seqD_ptr hs) (by rw [DL.atI_nat]; exact hi) p
theorem w_law_pot : Keeps sp__law_pot t__law_pot 5 := by
  rintro K B S0 S P ⟨ns, place, rfl, hl, hpl, p⟩
  unfold t__law_pot
  show WS K B _ [some (.rol (ns.map dI)), some (dN place), none, none, none] S _
  walk_at "w"
  walk_at "w"
  have rest : ∀ cell : Int, WS K B (tSeq (tAsg (tOp (raMul K) (tOp (raMod K) (tCB (rc_int K) (tCons (tCB (rc_abs K) (tCons (tVar 2) tNil)) tNil)) (tOp (raPow K) (tOp (raPow K) (tC (.int 10)) (tC (.int 60))) (tC (.int 5)))) (tCB (rc_int K) (tCons (tOp (raGe K) (tCB (rc_abs K) (tCons (tVar 2) tNil)) (tOp (raPow K) (tC (.int 10)) (tC (.int 18)))) tNil))) (gName 3))
  (tSeq (tAsg (tOp (raMod K) (tCB (rc_int K) (tCons (tVar 2) tNil)) (tC (.int 2305843009213693951))) (gName 4))
  (tRet (tLst (tCons (tVar 3) (tCons (tOp (raMod K) (tCB (rc_int K) (tCons (tOp (raAdd K) (tOp (raAdd K) (tOp (raMul K) (tVar 4) (tC (.int 28411))) (tOp (raMul K) (tOp (raMul K) (tC (.int 7723)) (tVar 1)) (tVar 1))) (tC (.int 1621))) tNil)) (tC (.int 2305843009213693921))) (tCons (tC (.int 0)) tNil)))))))
      [some (.rol (ns.map dI)), some (dN place), some (.int cell), none, none] S ⟨fun _ S' => P .non S', P, fun _ _ => False, fun _ _ => False⟩ := by
    intro cell
    walk_at "ws"
    refine DL.pow_int ⟨by decide, by decide, by decide⟩ ?_
    walk_at "ws"
    refine DL.pow_intX bits60 ?_
    refine DL.mod_int (by decide +kernel) ?_
    walk_at "ws"
    refine DL.pow_int ⟨by decide, by decide, by decide⟩ ?_
    walk_at "ws"
    have hb : ∀ b : Bool, 0 ≤ (if b = true then (1 : Int) else 0) ∧ (if b = true then (1 : Int) else 0) ≤ 1 := by intro b; cases b <;> decide
    refine DL.mul_intR ⟨by have := hb (decide ((10 : Int) ^ (18 : Int).toNat ≤ if cell < 0 then -cell else cell)); split <;> have := hb (decide ((10 : Int) ^ (18 : Int).toNat ≤ cell)) <;> have := hb (decide ((10 : Int) ^ (18 : Int).toNat ≤ -cell)) <;> omega, by split <;> have := hb (decide ((10 : Int) ^ (18 : Int).toNat ≤ cell)) <;> have := hb (decide ((10 : Int) ^ (18 : Int).toNat ≤ -cell)) <;> omega⟩ ?_
    walk_at "w"
    walk_at "set"
    walk_at "ws"
    refine DL.mod_int (by decide) ?_
    walk_at "w"
    walk_at "set"
    walk_at "w"
    refine we_lstM ?_
    walk_at "ws"
    refine DL.mul_intR ⟨by decide, by decide⟩ ?_
    walk_at "ws"
    refine DL.mul_intL ⟨by decide, by decide⟩ ?_
    walk_at "ws"
    refine DL.mul_intR ⟨by omega, by omega⟩ ?_
    walk_at "ws"
    refine DL.mod_int (by decide) ?_
    walk_at "ws"
    refine ⟨by show 3 ≤ sizeLine; decide, fun a ha => p a _ ha ⟨_, _, _, ups_same, ?_, (fmod_pos (by decide)).1, (fmod_pos (by decide)).2, Int.le_refl 0, Int.le_refl 0⟩ But.ups⟩
    refine Int.mul_nonneg (fmod_pos ?_).1 ?_
    · decide +kernel
    · split <;> exact (hb _).1
  refine we_ifP (decide ((place : Int) < (ns.length : Int))) ?_ (fun e => ?_) fun e => ?_
  · walk_at "ws"
    rw [List.length_map]
    exact ⟨rfl, rfl⟩
  · have hlt : place < ns.length := by have := of_decide_eq_true e; omega
    walk_at "ws"
    refine rd_ix (d := dI ns[place]) seqD_rol (by rw [DL.atI_nat, List.getElem?_map]; simp [hlt]) ?_
    walk_at "w"
    walk_at "set"
    exact rest _
  · walk_at "ws"
    refine sl_lst lstD_rol ?_
    walk_at "ws"
    rw [show (1 : Int) = ((1 : Nat) : Int) from rfl, cut_to, ← List.map_take]
    refine sum_ints (ns := ns.take 1) lstD_lst ?_
    walk_at "ws"
    refine DL.mod_int (by decide) ?_
    walk_at "ws"
    refine DL.mul_intL ⟨by decide, by decide⟩ ?_
    refine add_int ?_
    walk_at "w"
    refine add_int ?_
    walk_at "w"
    walk_at "set"
    exact rest _
end
end K60
namespace K60
open PySem L2 DL
local macro_rules | `(tactic| walk_at "w") => `(tactic| first
  | with_reducible refine ws_seq ?_
  | with_reducible refine ws_asg ?_
  | with_reducible refine ws_ret ?_
  | with_reducible refine ws_if ?_
  | with_reducible refine ws_drop ?_
  | with_reducible refine ws_next ?_
  | with_reducible refine wg_name ?_
  | with_reducible refine wg_tup (by with_unfolding_all rfl) ?_
  | with_reducible refine wgs_cons ?_
  | with_reducible refine wgs_nil ?_
  | with_reducible refine we_var (by with_unfolding_all rfl) ?_
  | with_reducible refine we_int ?_
  | with_reducible refine we_str ?_
  | with_reducible refine we_bl ?_
  | with_reducible refine we_non ?_
  | with_reducible refine we_raw ?_
  | with_reducible refine we_op ?_
  | with_reducible refine we_un ?_
  | with_reducible refine we_if ?_
  | with_reducible refine we_tup ?_
  | with_reducible refine we_CB ?_
  | with_reducible refine we_call ?_
  | with_reducible refine we_M1 ?_
  | with_reducible refine we_BM ?_
  | with_reducible refine we_sl ?_
  | with_reducible refine we_and ?_
  | with_reducible refine we_or ?_
  | with_reducible refine we_chain ?_
  | with_reducible refine we_notT ?_
  | with_reducible refine we_din ?_
  | with_reducible refine we_dget ?_
  | with_reducible refine wa_nil ?_
  | with_reducible refine wa_cons ?_
  | with_reducible refine wt_test ?_
  | with_reducible refine wt_trub ?_
  | with_reducible refine wt_and ?_
  | with_reducible refine wt_or ?_
  | with_reducible refine wt_not ?_
  | with_reducible refine wt_B ?_
  | with_reducible refine wo_none ?_
  | with_reducible refine wo_some ?_
  | with_reducible refine add_int ?_
  | with_reducible refine sub_int ?_
  | with_reducible refine lt_int ?_
  | with_reducible refine lt_str ?_
  | with_reducible refine le_int ?_
  | with_reducible refine gt_int ?_
  | with_reducible refine ge_int ?_
  | with_reducible refine eq_int ?_
  | with_reducible refine DL.eq_str ?_
  | with_reducible refine DL.ne_str ?_
  | with_reducible refine ne_int ?_
  | with_reducible refine int_int ?_
  | with_reducible refine int_bl ?_
  | with_reducible refine min_two ?_
  | with_reducible refine max_two ?_
  | with_reducible refine abs_int ?_
  | with_reducible refine endswith_str ?_
  | with_reducible refine in_str ?_
  | with_reducible refine notin_str ?_
  | with_reducible refine len_seq seqD_tup ?_
  | with_reducible refine len_seq seqD_lst ?_
  | with_reducible refine len_seq seqD_rol ?_
  | (with_reducible refine Exists.intro _ (And.intro rfl ?_)))
local macro_rules | `(tactic| walk_at "ws") => `(tactic| repeat walk_at "w")
local macro_rules | `(tactic| walk_at "set") => `(tactic| dsimp only [List.set_cons_succ, List.set_cons_zero, wipeD])
section
variable {K : PySem.W.Frag} {B : Hp} {S : Sto}
theorem Pot.put {a : Addr} {S : Sto} {k : Nat} {p0 p1 p2 : Int} (h0 : 0 ≤ p0) (h1 : 0 ≤ p1) (h2 : p1 < 2305843009213693921) (h3 : 0 ≤ p2) (h4 : p2 ≤ (k : Int)) : Pot (ups S a (.lst [.int p0, .int p1, .int p2])) a k := ⟨p0, p1, p2, ups_same, h0, h1, h2, h3, h4⟩
theorem w_law_take : Keeps sp__law_take t__law_take 5 := by
  rintro K B S0 S P ⟨a, u, k, rfl, hu, hu2, hp, hk, p⟩
  obtain ⟨p0, p1, p2, hs, g0, g1, g2, g3, g4⟩ := hp
  unfold t__law_take
  show WS K B _ [some (.ptr a), some (.int u), none, none, none] S _
  walk_at "w"
  refine ws_ifP (decide (p0 > 0)) ?_ (fun e => ?_) fun e => ?_
  · walk_at "ws"
    refine ix3 0 hs rfl ?_
    walk_at "ws"
    exact ⟨rfl, rfl⟩
  · have e0 := of_decide_eq_true e
    walk_at "ws"
    refine ix3 0 hs rfl ?_
    walk_at "ws"
    refine DL.mod_int (by omega) ?_
    walk_at "w"
    walk_at "set"
    walk_at "ws"
    refine ix3 0 hs rfl ?_
    walk_at "ws"
    refine DL.div_int ⟨by omega, by omega⟩ ?_
    refine wg_setL ?_
    walk_at "ws"
    refine ⟨0, _, rfl, hs, (by show _ < 3; omega), ?_⟩
    walk_at "w"
    walk_at "w"
    refine p _ _ (fmod_pos hu).1 (fmod_pos hu).2 (Pot.put ?_ g1 g2 g3 (by omega)) But.ups
    rw [Int.fdiv_eq_ediv_of_nonneg _ (by omega)]
    exact Int.ediv_nonneg (by omega) (by omega)
  · iterate 7 walk_at "w"
    refine ix3 2 hs rfl ?_
    walk_at "ws"
    refine wg_setL ?_
    walk_at "ws"
    refine ⟨2, _, rfl, hs, (by show _ < 3; omega), ?_⟩
    have hs2 : ups S a (.lst ([D.int p0, .int p1, .int p2].set 2 (.int (p2 + 1)))) a = some (.lst [.int p0, .int p1, .int (p2 + 1)]) := ups_same
    have hPot : Pot (ups S a (.lst ([D.int p0, .int p1, .int p2].set 2 (.int (p2 + 1))))) a (k + 1) := Pot.put g0 g1 g2 (by omega) (by omega)
    generalize hS2 : ups S a (.lst ([D.int p0, .int p1, .int p2].set 2 (.int (p2 + 1)))) = S2 at hs2 hPot
    have hbut : But a S S2 := by rw [← hS2]; exact But.ups
    clear hS2
    have hm5 := fmod_pos (a := p2 + 1) (b := 5) (by decide)
    walk_at "w"
    walk_at "w"
    walk_at "w"
    refine we_lst ?_
    walk_at "ws"
    refine ⟨by show 5 ≤ sizeLine; decide, ?_⟩
    walk_at "ws"
    refine ix3 2 hs2 rfl ?_
    walk_at "ws"
    refine DL.mod_int (by decide) ?_
    have hq : ∃ m : Int, (0 < m ∧ m < 2 ^ 32) ∧ atI [D.int 2147480419, .int 2147480411, .int 2147480407, .int 2147480347, .int 2147480281] ((p2 + 1).fmod 5) = some (.int m) := by
      generalize (p2 + 1).fmod 5 = j at hm5
      have : j = 0 ∨ j = 1 ∨ j = 2 ∨ j = 3 ∨ j = 4 := by omega
      rcases this with rfl | rfl | rfl | rfl | rfl
      all_goals exact ⟨_, ⟨by decide, by decide⟩, rfl⟩
    obtain ⟨m, hm, hat⟩ := hq
    refine rd_ix seqD_lst hat ?_
    walk_at "w"
    walk_at "set"
    walk_at "ws"
    refine ix3 1 hs2 rfl ?_
    walk_at "ws"
    refine ix3 2 hs2 rfl ?_
    refine DL.mul_intL ⟨by decide, by decide⟩ ?_
    walk_at "ws"
    refine ix3 2 hs2 rfl ?_
    refine DL.mul_intR ⟨by omega, by omega⟩ ?_
    walk_at "ws"
    have hsq : 0 ≤ 39461 * (p2 + 1) * (p2 + 1) ∧ 39461 * (p2 + 1) * (p2 + 1) ≤ 39461 * 10001 * 10001 :=
      ⟨Int.mul_nonneg (by omega) (by omega), Int.mul_le_mul (by omega) (by omega) (by omega) (by omega)⟩
    refine DL.pow_int ⟨by decide, by decide, by omega⟩ ?_
    walk_at "ws"
    refine DL.mod_int (by omega) ?_
    walk_at "w"
    walk_at "set"
    walk_at "ws"
    refine DL.mod_int (by decide) ?_
    walk_at "ws"
    refine ix3 2 hs2 rfl ?_
    refine DL.mul_intL ⟨by decide, by decide⟩ ?_
    have h72 := fun x : Int => fmod_pos (a := x) (b := 7247) (by decide)
    refine add_int ?_
    refine DL.mul_intR ⟨by have := h72 ((((p1 + 39461 * (p2 + 1) * (p2 + 1) + 2081) ^ (3 : Int).toNat)).fmod m); omega, by have := h72 ((((p1 + 39461 * (p2 + 1) * (p2 + 1) + 2081) ^ (3 : Int).toNat)).fmod m); omega⟩ ?_
    walk_at "ws"
    refine DL.mod_int (by decide) ?_
    walk_at "w"
    walk_at "set"
    walk_at "ws"
    refine DL.div_int ⟨by decide, by decide⟩ ?_
    walk_at "ws"
    refine DL.mod_int (by omega) ?_
    exact p _ _ (fmod_pos hu).1 (fmod_pos hu).2 hPot hbut
theorem w_law_of : Keeps sp__law_of t__law_of 2 := by
  rintro K B S0 S P ⟨a, x, es, k, rfl, hx, hne, he, hl, hp, hk, p⟩
  unfold t__law_of
  show WS K B _ [some (.ptr a), some x] S _
  walk_at "ws"
  refine len_seq hx ?_
  walk_at "ws"
  have h0 : 0 < es.length := List.length_pos_iff.mpr he
  refine ⟨a, _, k, rfl, by omega, by omega, hp, hk, fun r S' h1 h2 hp' hb => ?_⟩
  obtain ⟨n, rfl⟩ := Int.eq_ofNat_of_zero_le h1
  have hn : n < es.length := by omega
  have hx' : SeqD x S' es := by
    rcases hx with (h | h | ⟨q, h, _⟩) | h
    · exact .inl (.inl h)
    · exact .inl (.inr (.inl h))
    · exact (hne q h).elim
    · exact .inr h
  exact rd_ix hx' (by rw [DL.atI_nat]; exact List.getElem?_eq_getElem hn) (p _ (List.getElem_mem hn) S' hp' hb)
theorem w_law_cells : Keeps sp__law_cells t__law_cells 2 := by
  rintro K B S0 S P ⟨ns, rfl, hl, p⟩
  unfold t__law_cells
  show WS K B _ [some (.rol (ns.map dI)), some (.int 3)] S _
  walk_at "w"
  refine we_lrg1 ?_
  walk_at "ws"
  rw [List.length_map]
  have h : ∃ n : Nat, 1 ≤ n ∧ n ≤ 3 ∧ (if (if ((ns.length : Nat) : Int) < 3 then ((ns.length : Nat) : Int) else 3) > 1 then (if ((ns.length : Nat) : Int) < 3 then ((ns.length : Nat) : Int) else 3) else 1) = (n : Int) := by
    refine ⟨(if (if ((ns.length : Nat) : Int) < 3 then ((ns.length : Nat) : Int) else 3) > 1 then (if ((ns.length : Nat) : Int) < 3 then ((ns.length : Nat) : Int) else 3) else 1).toNat, ?_, ?_, ?_⟩ <;> split <;> split <;> omega
  obtain ⟨n, h1, h2, h3⟩ := h
  refine ⟨?_, ?_, ?_⟩
  · rw [h3]; omega
  · rw [h3]; omega
  · rw [h3, Int.toNat_natCast]
    have := p n h1 h2
    unfold rngD
    simpa using this
theorem law_is_row_B {z : Str} {most : Int} : (decide ((z.length : Int) ≤ most) && z.cps.toList.all letB) = rowB z most := rfl
end
end K60
namespace K60
open PySem L2 DL
local macro_rules | `(tactic| walk_at "w") => `(tactic| first
  | with_reducible refine ws_seq ?_
  | with_reducible refine ws_asg ?_
  | with_reducible refine ws_ret ?_
  | with_reducible refine ws_if ?_
  | with_reducible refine ws_drop ?_
  | with_reducible refine ws_next ?_
  | with_reducible refine wg_name ?_
  | with_reducible refine wg_tup (by with_unfolding_all rfl) ?_
  | with_reducible refine wgs_cons ?_
  | with_reducible refine wgs_nil ?_
  | with_reducible refine we_var (by with_unfolding_all rfl) ?_
  | with_reducible refine we_int ?_
  | with_reducible refine we_str ?_
  | with_reducible refine we_bl ?_
  | with_reducible refine we_non ?_
  | with_reducible refine we_raw ?_
  | with_reducible refine we_op ?_
  | with_reducible refine we_un ?_
  | with_reducible refine we_if ?_
  | with_reducible refine we_tup ?_
  | with_reducible refine we_CB ?_
  | with_reducible refine we_call ?_
  | with_reducible refine we_M1 ?_
  | with_reducible refine we_BM ?_
  | with_reducible refine we_sl ?_
  | with_reducible refine we_and ?_
  | with_reducible refine we_or ?_
  | with_reducible refine we_chain ?_
  | with_reducible refine we_notT ?_
  | with_reducible refine we_din ?_
  | with_reducible refine we_dget ?_
  | with_reducible refine wa_nil ?_
  | with_reducible refine wa_cons ?_
  | with_reducible refine wt_test ?_
  | with_reducible refine wt_trub ?_
  | with_reducible refine wt_and ?_
  | with_reducible refine wt_or ?_
  | with_reducible refine wt_not ?_
  | with_reducible refine wt_B ?_
  | with_reducible refine wo_none ?_
  | with_reducible refine wo_some ?_
  | with_reducible refine add_int ?_
  | with_reducible refine sub_int ?_
  | with_reducible refine lt_int ?_
  | with_reducible refine lt_str ?_
  | with_reducible refine le_int ?_
  | with_reducible refine gt_int ?_
  | with_reducible refine ge_int ?_
  | with_reducible refine eq_int ?_
  | with_reducible refine DL.eq_str ?_
  | with_reducible refine DL.ne_str ?_
  | with_reducible refine ne_int ?_
  | with_reducible refine int_int ?_
  | with_reducible refine int_bl ?_
  | with_reducible refine min_two ?_
  | with_reducible refine max_two ?_
  | with_reducible refine abs_int ?_
  | with_reducible refine endswith_str ?_
  | with_reducible refine in_str ?_
  | with_reducible refine notin_str ?_
  | with_reducible refine len_seq seqD_tup ?_
  | with_reducible refine len_seq seqD_lst ?_
  | with_reducible refine len_seq seqD_rol ?_
  | (with_reducible refine Exists.intro _ (And.intro rfl ?_)))
local macro_rules | `(tactic| walk_at "ws") => `(tactic| repeat walk_at "w")
local macro_rules | `(tactic| walk_at "set") => `(tactic| dsimp only [List.set_cons_succ, List.set_cons_zero, wipeD])
section
variable {K : PySem.W.Frag} {B : Hp} {S : Sto}
theorem erase_map {α : Type} (f : α → D) : ∀ (l : List α) (j : Nat), (l.map f).eraseIdx j = (l.eraseIdx j).map f
  | [], _ => rfl
  | _ :: _, 0 => rfl
  | x :: l, j + 1 => by simp only [List.map_cons, List.eraseIdx_cons_succ]; rw [erase_map f l j]
theorem erase_perm {α : Type} : ∀ (l : List α) (j : Nat) (h : j < l.length), (l[j] :: l.eraseIdx j).Perm l
  | x :: l, 0, h => List.Perm.refl _
  | x :: l, j + 1, h => by
    simp only [List.getElem_cons_succ, List.eraseIdx_cons_succ]
    exact (List.Perm.swap x _ _).trans ((erase_perm l j (by simpa using h)).cons x)
theorem Pot.some {a : Addr} {k : Nat} {S : Sto} (p : Pot S a k) : S a ≠ none := by
  obtain ⟨p0, p1, p2, e, r⟩ := p
  rw [e]; exact fun z => (by cases z)
theorem none_ups {S : Sto} {l o : Addr} {m : MO} (h : ups S l m o = none) : o ≠ l ∧ S o = none := by
  by_cases e : o = l
  · subst e; rw [ups_same] at h; cases h
  · exact ⟨e, by rw [ups_ne e] at h; exact h⟩
theorem w_law_some : Keeps sp__law_some t__law_some 6 := by
  rintro K B S0 S P ⟨a, xs, m, k, rfl, hm, hl, nd, hp, hk, p⟩
  unfold t__law_some
  show WS K B _ [some (.ptr a), some (.lst (xs.map dN)), some (dN m), none, none, none] S _
  walk_at "w"
  refine ws_par ?_
  walk_at "ws"
  refine list_seqM seqD_lst fun l hl0 => ?_
  walk_at "w"
  refine we_lstM ?_
  walk_at "w"
  refine ⟨by decide, fun o ho => ?_⟩
  obtain ⟨hol, ho0⟩ := none_ups ho
  have hal : a ≠ l := fun z => hp.some (by rw [z]; exact hl0)
  have hao : a ≠ o := fun z => hp.some (by rw [z]; exact ho0)
  walk_at "w"
  refine ⟨_, _, rfl, ?_⟩
  walk_at "set"
  walk_at "w"
  refine ws_for (wi_rng1 ?_)
  walk_at "w"
  walk_at "w"
  walk_at "w"
  refine ⟨m, rfl, by omega, by omega, ?_⟩
  rw [Int.toNat_natCast]
  refine ⟨fun i Γ S' => ∃ (left out : List Nat) (x5 : Option D), Γ = [some (.ptr a), some (.lst (xs.map dN)), some (dN m), some (.ptr l), some (.ptr o), x5] ∧ S' l = some (.lst (left.map dN)) ∧ S' o = some (.lst (out.map dN)) ∧ Pot S' a (k + i) ∧ (∀ b, b ≠ a → b ≠ l → b ≠ o → S' b = S b) ∧ (left ++ out).Perm xs ∧ out.length = i, ?_, fun _ _ _ _ => trivial, ?_, ?_⟩
  · refine ⟨xs, [], none, rfl, ?_, ups_same, ?_, fun b h1 h2 h3 => ?_, by simp, rfl⟩
    · rw [ups_ne (Ne.symm hol)]; exact ups_same
    · exact hp.keep (by rw [ups_ne hao, ups_ne hal])
    · rw [ups_ne h3, ups_ne h2]
  · rintro i d Γ S' hd ⟨left, out, x5, rfl, h1, h2, h3, h4, h5, h6⟩
    have him : i < m := by
      have := (List.getElem?_eq_some_iff.mp hd).1
      simpa [rngD] using this
    have hlen : left.length + i = xs.length := by rw [← h6, ← List.length_append]; exact h5.length_eq
    walk_at "w"
    walk_at "set"
    walk_at "w"
    refine we_BM ?_
    walk_at "w"
    refine ⟨.inl ⟨rfl, _, h2⟩, ?_⟩
    walk_at "w"
    refine we_BM ?_
    walk_at "w"
    refine ⟨.inl ⟨rfl, _, h1⟩, ?_⟩
    walk_at "ws"
    refine len_seq (seqD_ptr h1) ?_
    walk_at "ws"
    rw [List.length_map]
    refine ⟨a, _, k + i, rfl, by omega, by omega, h3, by omega, fun r S2 r1 r2 hp2 hb => ?_⟩
    obtain ⟨j, rfl⟩ := Int.eq_ofNat_of_zero_le r1
    have hj : j < left.length := by omega
    have g1 : S2 l = some (.lst (left.map dN)) := by rw [hb l (Ne.symm hal)]; exact h1
    have g2 : S2 o = some (.lst (out.map dN)) := by rw [hb o (Ne.symm hao)]; exact h2
    walk_at "ws"
    refine pop_at (d := dN left[j]) g1 (by rw [List.getElem?_map]; simp [hj]) (by rw [List.length_map]; exact size100 (by omega)) ?_
    walk_at "ws"
    have e : (left.map dN).eraseIdx j = (left.eraseIdx j).map dN := erase_map dN left j
    rw [e]
    refine app_lst (by rw [ups_ne hol]; exact g2) (by rw [List.length_map]; have := size100 (n := 101) (by omega); omega) ?_
    refine ⟨left.eraseIdx j, out ++ [left[j]], _, rfl, ?_, ?_, ?_, fun b q1 q2 q3 => ?_, ?_, ?_⟩
    · rw [ups_ne (Ne.symm hol)]; exact ups_same
    · rw [ups_same, List.map_append]; rfl
    · exact hp2.keep (by rw [ups_ne hao, ups_ne hal])
    · rw [ups_ne q3, ups_ne q2, hb b q1]; exact h4 b q1 q2 q3
    · refine List.Perm.trans ?_ h5
      have := erase_perm left j hj
      refine List.Perm.trans ?_ (List.Perm.append_right out this)
      rw [← List.append_assoc]
      exact List.perm_append_comm.trans (by simp)
    · rw [List.length_append]; show out.length + 1 = i + 1; omega
  · rintro Γ S' ⟨left, out, x5, rfl, h1, h2, h3, h4, h5, h6⟩
    rw [show (rngD 0 m).length = m by simp [rngD]] at *
    refine ws_drops (S' := dels S' l) (fun b u hb => ?_) ?_
    · unfold dels at hb
      by_cases e : b = l
      · rw [if_pos e] at hb; cases hb
      · rw [if_neg e] at hb; exact hb
    · refine ws_retF ?_
      walk_at "w"
      refine ⟨o, _, rfl, by unfold dels; rw [if_neg hol]; exact h2, ?_⟩
      refine p out _ h6 ?_ (fun x hx => h5.subset (List.mem_append_right _ hx)) (h3.keep (by unfold dels; rw [if_neg hao, if_neg hal])) fun b hb => ?_
      · exact (List.nodup_append.mp (h5.nodup_iff.mpr nd)).2.1
      · unfold dels
        by_cases e1 : b = o
        · rw [if_pos e1, e1]; exact ho0.symm
        · rw [if_neg e1]
          by_cases e2 : b = l
          · rw [if_pos e2, e2]; exact hl0.symm
          · rw [if_neg e2]; exact h4 b hb e2 e1
theorem w_law_is_row : Keeps sp__law_is_row t__law_is_row 3 := by
  rintro K B _ S P ⟨v, rfl, hv, p⟩
  unfold t__law_is_row
  show WS K B _ [some v, some (.int 30), none] S _
  walk_at "ws"
  refine isi_solid _ (sol_solid hv) (by decide +kernel) ?_
  walk_at "ws"
  refine if2 (fun e => ?_) fun e => ?_
  · obtain ⟨z, rfl⟩ := isi_str e
    walk_at "ws"
    refine len_str (Nat.le_trans hv.1 (by decide)) ?_
    walk_at "ws"
    have p' : P (.bl (decide ((z.length : Int) ≤ 30) && z.cps.toList.all letB)) S := p
    refine if2 (fun e2 => ?_) fun e2 => ?_
    · rw [e2, Bool.true_and] at p'
      walk_at "ws"
      have hz : z.cps.toList.length ≤ sizeLine := by
        have h1 : (z.length : Int) ≤ 30 := of_decide_eq_true e2
        have h2 : z.cps.toList.length = z.length := by simp [Str.length]
        exact Nat.le_trans (by omega : z.cps.toList.length ≤ 400) (by decide)
      refine we_lcM z.cps.toList (fun c => .str (mk [c])) (fun c => .bl (letB c)) (gloc_name (by simp)) (wi_seq ?_)
      walk_at "w"
      refine ⟨_, _, ⟨rfl, rfl⟩, rfl, hz, trivial, fun c _ => ?_, ?_⟩
      · walk_at "w"
        walk_at "set"
        refine ⟨rfl, ?_⟩
        walk_at "ws"
        exact ⟨by rw [let_text]; rfl, rfl⟩
      · walk_at "ws"
        exact all_map p'
    · rw [e2, Bool.false_and] at p'
      exact p'
  · rw [isi_nstr e 30] at p
    exact p
end
end K60
namespace K60
open PySem L2 DL
local macro_rules | `(tactic| walk_at "w") => `(tactic| first
  | with_reducible refine ws_seq ?_
  | with_reducible refine ws_asg ?_
  | with_reducible refine ws_ret ?_
  | with_reducible refine ws_if ?_
  | with_reducible refine ws_drop ?_
  | with_reducible refine ws_next ?_
  | with_reducible refine wg_name ?_
  | with_reducible refine wg_tup (by with_unfolding_all rfl) ?_
  | with_reducible refine wgs_cons ?_
  | with_reducible refine wgs_nil ?_
  | with_reducible refine we_var (by with_unfolding_all rfl) ?_
  | with_reducible refine we_int ?_
  | with_reducible refine we_str ?_
  | with_reducible refine we_bl ?_
  | with_reducible refine we_non ?_
  | with_reducible refine we_raw ?_
  | with_reducible refine we_op ?_
  | with_reducible refine we_un ?_
  | with_reducible refine we_if ?_
  | with_reducible refine we_tup ?_
  | with_reducible refine we_CB ?_
  | with_reducible refine we_call ?_
  | with_reducible refine we_M1 ?_
  | with_reducible refine we_BM ?_
  | with_reducible refine we_sl ?_
  | with_reducible refine we_and ?_
  | with_reducible refine we_or ?_
  | with_reducible refine we_chain ?_
  | with_reducible refine we_notT ?_
  | with_reducible refine we_din ?_
  | with_reducible refine we_dget ?_
  | with_reducible refine wa_nil ?_
  | with_reducible refine wa_cons ?_
  | with_reducible refine wt_test ?_
  | with_reducible refine wt_trub ?_
  | with_reducible refine wt_and ?_
  | with_reducible refine wt_or ?_
  | with_reducible refine wt_not ?_
  | with_reducible refine wt_B ?_
  | with_reducible refine wo_none ?_
  | with_reducible refine wo_some ?_
  | with_reducible refine add_int ?_
  | with_reducible refine sub_int ?_
  | with_reducible refine lt_int ?_
  | with_reducible refine lt_str ?_
  | with_reducible refine le_int ?_
  | with_reducible refine gt_int ?_
  | with_reducible refine ge_int ?_
  | with_reducible refine eq_int ?_
  | with_reducible refine DL.eq_str ?_
  | with_reducible refine DL.ne_str ?_
  | with_reducible refine ne_int ?_
  | with_reducible refine int_int ?_
  | with_reducible refine int_bl ?_
  | with_reducible refine min_two ?_
  | with_reducible refine max_two ?_
  | with_reducible refine abs_int ?_
  | with_reducible refine endswith_str ?_
  | with_reducible refine in_str ?_
  | with_reducible refine notin_str ?_
  | with_reducible refine len_seq seqD_tup ?_
  | with_reducible refine len_seq seqD_lst ?_
  | with_reducible refine len_seq seqD_rol ?_
  | (with_reducible refine Exists.intro _ (And.intro rfl ?_)))
local macro_rules | `(tactic| walk_at "ws") => `(tactic| repeat walk_at "w")
local macro_rules | `(tactic| walk_at "set") => `(tactic| dsimp only [List.set_cons_succ, List.set_cons_zero, wipeD])
section
variable {K : PySem.W.Frag} {B : Hp} {S : Sto}
def lovs (a b : Tx) : List Nat := (List.range (min a.length b.length)).filter fun k => decide (a.drop (a.length - k) = b.take k)
theorem mem_lovs {a b : Tx} {k : Nat} : k ∈ lovs a b ↔ k < a.length ∧ k < b.length ∧ b.take k <:+ a := by
  unfold lovs
  rw [List.mem_filter, List.mem_range, decide_eq_true_eq]
  have h : k < a.length → k < b.length → (a.drop (a.length - k) = b.take k ↔ b.take k <:+ a) := fun h1 h2 => by
    constructor
    · intro e; rw [← e]; exact List.drop_suffix _ _
    · intro e
      have := List.suffix_iff_eq_drop.mp e
      rw [List.length_take, Nat.min_eq_left (by omega)] at this
      exact this.symm
  constructor
  · rintro ⟨h1, h2⟩; exact ⟨by omega, by omega, (h (by omega) (by omega)).mp h2⟩
  · rintro ⟨h1, h2, h3⟩; exact ⟨by omega, (h h1 h2).mpr h3⟩
theorem lovs_max {a b : Tx} {m : Int} (h1 : m ∈ (lovs a b).map fun (n : Nat) => (n : Int)) (h2 : ∀ y ∈ (lovs a b).map fun (n : Nat) => (n : Int), y ≤ m) : m = (ovl a b : Int) := by
  refine ovl_max ?_ fun y hy => ?_
  · obtain ⟨n, hn, rfl⟩ := List.mem_map.mp h1
    cases n with
    | zero => exact List.mem_cons_self
    | succ n => exact List.mem_cons_of_mem _ (List.mem_map.mpr ⟨n + 1, mem_ovs.mpr ⟨by omega, mem_lovs.mp hn⟩, rfl⟩)
  · rcases List.mem_cons.mp hy with rfl | hy
    · obtain ⟨n, hn, rfl⟩ := List.mem_map.mp h1; exact Int.natCast_nonneg _
    · obtain ⟨n, hn, rfl⟩ := List.mem_map.mp hy
      exact h2 _ (List.mem_map.mpr ⟨n, mem_lovs.mpr (mem_ovs.mp hn).2, rfl⟩)
theorem gds_nat {o : List Nat} (h : ∀ n ∈ o, n < 10 ^ 12) : GDs 0 (51 * o.length) (o.map dN) := by
  have := GDs.of (n := 0) (w := 50) (l := o.map dN) fun d hd => by
    obtain ⟨n, hn, rfl⟩ := List.mem_map.mp hd
    exact gd_nat (h n hn)
  rw [List.length_map] at this
  exact this
theorem gds_txs {h : List Tx} (hr : ∀ r ∈ h, RowOk r) : GDs 0 (31 * h.length) (h.map dS) := by
  have := GDs.of (n := 0) (w := 30) (l := h.map dS) fun d hd => by
    obtain ⟨r, hr', rfl⟩ := List.mem_map.mp hd
    have q := hr r hr'
    exact gd_mk q.most fun c hc => by have := q.lets c hc; omega
  rw [List.length_map] at this
  exact this
theorem dN_ints (o : List Nat) : o.map dN = (o.map fun (n : Nat) => (n : Int)).map D.int := by rw [List.map_map]; rfl
theorem w_law_overlap : Keeps sp__law_overlap t__law_overlap 4 := by
  rintro K B S0 S P ⟨a, b, rfl, ha, hb, p⟩
  have a1 := ha.most
  have b1 := hb.most
  unfold t__law_overlap
  show WS K B _ [some (dS a), some (dS b), none, none] S _
  walk_at "w"
  walk_at "w"
  refine we_lcP (List.range (min a.length b.length)) dN dN (fun k => decide (a.drop (a.length - k) = b.take k)) (gloc_name (by simp)) (wi_rng1 ?_)
  walk_at "ws"
  refine len_str (by rw [mk_length]; exact size100 (by omega)) ?_
  walk_at "ws"
  refine len_str (by rw [mk_length]; exact size100 (by omega)) ?_
  walk_at "ws"
  rw [mk_length, mk_length]
  refine ⟨?_, ?_, ?_, ?_, trivial, fun i hi => ?_, ?_⟩
  · split <;> omega
  · split <;> omega
  · unfold rngD
    have e : (if ((b.length : Nat) : Int) < ((a.length : Nat) : Int) then ((b.length : Nat) : Int) else ((a.length : Nat) : Int)).toNat = min a.length b.length := by split <;> omega
    rw [e]
    exact List.map_congr_left fun x _ => by simp
  · rw [List.length_range]; exact size100 (by omega)
  · have hi' := List.mem_range.mp hi
    walk_at "w"
    walk_at "set"
    walk_at "ws"
    refine len_str (by rw [mk_length]; exact size100 (by omega)) ?_
    walk_at "ws"
    refine sl_str (by rw [mk_length]; exact size100 (by omega)) ?_
    rw [mk_length, cut_mk, show ((a.length : Int) - (i : Int)) = ((a.length - i : Nat) : Int) by omega, cut_from]
    walk_at "ws"
    refine sl_str (by rw [mk_length]; exact size100 (by omega)) ?_
    rw [cut_mk, cut_to]
    walk_at "ws"
    rw [mk_dec]
    refine ⟨rfl, rfl, fun _ => ?_⟩
    walk_at "ws"
    exact ⟨rfl, rfl⟩
  · show WG K B _ (D.lst ((lovs a b).map dN)) _ _ _
    have g : GD 1 (51 * (lovs a b).length) (D.lst ((lovs a b).map dN)) := (gds_nat fun n hn => by have := (mem_lovs.mp hn).1; omega).lst
    have h0 : 0 ∈ lovs a b := mem_lovs.mpr ⟨ha.one, hb.one, by simp⟩
    walk_at "w"
    walk_at "set"
    walk_at "w"
    refine we_ifP true ?_ (fun _ => ?_) (fun z => by cases z)
    · walk_at "ws"
      refine we_lst ?_
      walk_at "ws"
      refine ⟨by decide, ne_gd g (GDs.nil (n := 0) (w := 0)).lst (by decide) (by decide) ?_⟩
      refine ⟨_, rfl, ?_, rfl⟩
      show (!PyData.eqvAll (pys ((lovs a b).map dN)) (pys (([] : List Int).map D.int))) = true
      rw [dN_ints, eqvAll_ints]
      simp
      exact List.ne_nil_of_mem h0
    · walk_at "ws"
      refine max_ints (ns := (lovs a b).map fun (n : Nat) => (n : Int)) (by rw [← dN_ints]; exact lstD_lst) (by rw [List.length_map]; exact List.length_pos_of_mem h0) fun m h1 h2 => ?_
      rw [lovs_max h1 h2]
      exact p
theorem w_law_outer : Keeps sp__law_outer t__law_outer 3 := by
  rintro K B S0 S P ⟨h, rfl, hh, p⟩
  unfold t__law_outer
  show WS K B _ [some (heapD h), none, none] S _
  walk_at "w"
  refine we_lcP h dS dS (fun r => !(h.any fun o => !decide (r = o) && occ r o)) (gloc_name (by simp)) (wi_seq ?_)
  walk_at "w"
  refine ⟨_, _, ⟨rfl, rfl⟩, rfl, hh.len, trivial, fun r hr => ?_, ?_⟩
  · walk_at "w"
    walk_at "set"
    walk_at "w"
    walk_at "w"
    walk_at "w"
    walk_at "w"
    refine we_lcM h dS (fun o => .bl (!decide (r = o) && occ r o)) (gloc_name (by simp)) (wi_seq ?_)
    walk_at "w"
    refine ⟨_, _, ⟨rfl, rfl⟩, rfl, hh.len, trivial, fun o ho => ?_, ?_⟩
    · walk_at "w"
      walk_at "set"
      refine ⟨rfl, we_andP (!decide (r = o)) (occ r o) ?_ (fun _ => ?_) ⟨rfl, rfl⟩⟩
      · walk_at "ws"
        rw [mk_dec]
        exact ⟨rfl, rfl⟩
      · walk_at "ws"
        exact ⟨rfl, rfl⟩
    · walk_at "ws"
      refine any_map ?_
      walk_at "ws"
      refine ⟨rfl, rfl, fun _ => ?_⟩
      walk_at "ws"
      exact ⟨rfl, rfl⟩
  · have e : h.filter (fun r => !(h.any fun o => !decide (r = o) && occ r o)) = outerL h := by
      unfold outerL insideL
      apply List.filter_congr
      intro r hr
      congr 1
      rw [Bool.eq_iff_iff, decide_eq_true_eq, List.mem_filter, List.any_eq_true, List.any_eq_true]
      constructor
      · rintro ⟨o, h1, h2⟩
        simp at h2
        exact ⟨hr, o, List.mem_filter.mpr ⟨h1, by simpa using fun z => h2.1 z.symm⟩, h2.2⟩
      · rintro ⟨_, o, h1, h2⟩
        obtain ⟨h3, h4⟩ := List.mem_filter.mp h1
        simp at h4
        exact ⟨o, h3, by simp [h2]; exact fun z => h4 z.symm⟩
    rw [← e] at p
    exact p
end
end K60
namespace K60
open PySem L2 DL
local macro_rules | `(tactic| walk_at "w") => `(tactic| first
  | with_reducible refine ws_seq ?_
  | with_reducible refine ws_asg ?_
  | with_reducible refine ws_ret ?_
  | with_reducible refine ws_if ?_
  | with_reducible refine ws_drop ?_
  | with_reducible refine ws_next ?_
  | with_reducible refine wg_name ?_
  | with_reducible refine wg_tup (by with_unfolding_all rfl) ?_
  | with_reducible refine wgs_cons ?_
  | with_reducible refine wgs_nil ?_
  | with_reducible refine we_var (by with_unfolding_all rfl) ?_
  | with_reducible refine we_int ?_
  | with_reducible refine we_str ?_
  | with_reducible refine we_bl ?_
  | with_reducible refine we_non ?_
  | with_reducible refine we_raw ?_
  | with_reducible refine we_op ?_
  | with_reducible refine we_un ?_
  | with_reducible refine we_if ?_
  | with_reducible refine we_tup ?_
  | with_reducible refine we_CB ?_
  | with_reducible refine we_call ?_
  | with_reducible refine we_M1 ?_
  | with_reducible refine we_BM ?_
  | with_reducible refine we_sl ?_
  | with_reducible refine we_and ?_
  | with_reducible refine we_or ?_
  | with_reducible refine we_chain ?_
  | with_reducible refine we_notT ?_
  | with_reducible refine we_din ?_
  | with_reducible refine we_dget ?_
  | with_reducible refine wa_nil ?_
  | with_reducible refine wa_cons ?_
  | with_reducible refine wt_test ?_
  | with_reducible refine wt_trub ?_
  | with_reducible refine wt_and ?_
  | with_reducible refine wt_or ?_
  | with_reducible refine wt_not ?_
  | with_reducible refine wt_B ?_
  | with_reducible refine wo_none ?_
  | with_reducible refine wo_some ?_
  | with_reducible refine add_int ?_
  | with_reducible refine sub_int ?_
  | with_reducible refine lt_int ?_
  | with_reducible refine lt_str ?_
  | with_reducible refine le_int ?_
  | with_reducible refine gt_int ?_
  | with_reducible refine ge_int ?_
  | with_reducible refine eq_int ?_
  | with_reducible refine DL.eq_str ?_
  | with_reducible refine DL.ne_str ?_
  | with_reducible refine ne_int ?_
  | with_reducible refine int_int ?_
  | with_reducible refine int_bl ?_
  | with_reducible refine min_two ?_
  | with_reducible refine max_two ?_
  | with_reducible refine abs_int ?_
  | with_reducible refine endswith_str ?_
  | with_reducible refine in_str ?_
  | with_reducible refine notin_str ?_
  | with_reducible refine len_seq seqD_tup ?_
  | with_reducible refine len_seq seqD_lst ?_
  | with_reducible refine len_seq seqD_rol ?_
  | (with_reducible refine Exists.intro _ (And.intro rfl ?_)))
local macro_rules | `(tactic| walk_at "ws") => `(tactic| repeat walk_at "w")
local macro_rules | `(tactic| walk_at "set") => `(tactic| dsimp only [List.set_cons_succ, List.set_cons_zero, wipeD])
section
variable {K : PySem.W.Frag} {B : Hp} {S : Sto}
theorem w_law_laid : Keeps sp__law_laid t__law_laid 4 := w_laid_of
theorem tx_irrefl (a : Tx) : ¬ a < a := List.lt_irrefl a
theorem tx_trans {a b c : Tx} (h : a < b) (g : b < c) : a < c := List.lt_trans h g
theorem pw_of_asc : ∀ {h : List Tx}, ascB h = true → h.Pairwise (· < ·)
  | [], _ => .nil
  | [x], _ => by simp
  | x :: y :: l, e => by
    unfold ascB at e
    simp only [List.tail_cons, List.zip_cons_cons, List.all_cons, Bool.and_eq_true, decide_eq_true_eq] at e
    have i : (y :: l).Pairwise (· < ·) := pw_of_asc (h := y :: l) (by unfold ascB; exact e.2)
    refine .cons (fun z hz => ?_) i
    rcases List.mem_cons.mp hz with rfl | hz
    · exact e.1
    · exact tx_trans e.1 ((List.pairwise_cons.mp i).1 z hz)
theorem sorted_uniq : ∀ {a b : List Tx}, a.Pairwise (· < ·) → b.Pairwise (· < ·) → (∀ x, x ∈ a ↔ x ∈ b) → a = b
  | [], [], _, _, _ => rfl
  | [], y :: b, _, _, m => by have := (m y).mpr List.mem_cons_self; cases this
  | x :: a, [], _, _, m => by have := (m x).mp List.mem_cons_self; cases this
  | x :: a, y :: b, pa, pb, m => by
    obtain ⟨a1, a2⟩ := List.pairwise_cons.mp pa
    obtain ⟨b1, b2⟩ := List.pairwise_cons.mp pb
    have e : x = y := by
      rcases List.mem_cons.mp ((m x).mp List.mem_cons_self) with h | h
      · exact h
      · rcases List.mem_cons.mp ((m y).mpr List.mem_cons_self) with g | g
        · exact g.symm
        · exact absurd (tx_trans (b1 x h) (a1 y g)) (tx_irrefl y)
    subst e
    rw [sorted_uniq a2 b2 fun z => ?_]
    constructor
    · intro hz
      rcases List.mem_cons.mp ((m z).mp (List.mem_cons_of_mem _ hz)) with rfl | q
      · exact absurd (a1 z hz) (tx_irrefl z)
      · exact q
    · intro hz
      rcases List.mem_cons.mp ((m z).mpr (List.mem_cons_of_mem _ hz)) with rfl | q
      · exact absurd (b1 z hz) (tx_irrefl z)
      · exact q
theorem ltCps_iff : ∀ a b : Tx, PySem.Spec.ltCps a b = decide (a < b)
  | [], [] => by simp [PySem.Spec.ltCps]
  | [], y :: b => by simp [PySem.Spec.ltCps]
  | x :: a, [] => by simp [PySem.Spec.ltCps]
  | x :: a, y :: b => by
    have := ltCps_iff a b
    rw [Bool.eq_iff_iff, decide_eq_true_eq, List.cons_lt_cons_iff]
    simp [PySem.Spec.ltCps, this]
theorem pw_of_sorted : ∀ {ys : List Str}, ys.Nodup → PyProof.Rows.sortedS ys = true → (ys.map fun z => z.cps.toList).Pairwise (· < ·) := by
  have key : ∀ (ys : List Str) (x : Str), (x :: ys).Nodup → PyProof.Rows.risingS x ys = true → ascB ((x :: ys).map fun z => z.cps.toList) = true := by
    intro ys
    induction ys with
    | nil => intro x _ _; rfl
    | cons y ys ih =>
      intro x nd h
      simp only [PyProof.Rows.risingS, Bool.and_eq_true, Bool.not_eq_true'] at h
      have nd' := List.nodup_cons.mp nd
      have i := ih y nd'.2 h.2
      have e := h.1
      rw [ltCps_iff, decide_eq_false_iff_not] at e
      have ne : x.cps.toList ≠ y.cps.toList := fun z => nd'.1 (by
        have : x = y := by rw [← mk_eta x, ← mk_eta y, z]
        rw [this]; exact List.mem_cons_self)
      have lt : x.cps.toList < y.cps.toList := by
        rcases Std.lt_trichotomy x.cps.toList y.cps.toList with q | q | q
        · exact q
        · exact absurd q ne
        · exact absurd q e
      unfold ascB at i ⊢
      simp only [List.map_cons, List.tail_cons, List.zip_cons_cons, List.all_cons, Bool.and_eq_true, decide_eq_true_eq] at i ⊢
      exact ⟨lt, i⟩
  intro ys nd h
  cases ys with
  | nil => exact .nil
  | cons x ys => exact pw_of_asc (key ys x nd h)
theorem sorted_of_pw : ∀ {h : List Tx}, h.Pairwise (· < ·) → PyProof.Rows.sortedS (h.map mk) = true
  | [], _ => rfl
  | x :: h, p => by
    show PyProof.Rows.risingS (mk x) (h.map mk) = true
    induction h generalizing x with
    | nil => rfl
    | cons y h ih =>
      obtain ⟨p1, p2⟩ := List.pairwise_cons.mp p
      simp only [List.map_cons, PyProof.Rows.risingS, Bool.and_eq_true, Bool.not_eq_true', ltCps_iff, mk_cps, decide_eq_false_iff_not]
      exact ⟨fun q => tx_irrefl x (tx_trans (p1 y List.mem_cons_self) q), ih y p2⟩
theorem pw_nodup {h : List Tx} (p : h.Pairwise (· < ·)) : h.Nodup := p.imp fun {a b} q e => by subst e; exact tx_irrefl a q
/-- list(value) == sorted(set(value)) -/
theorem asc_sorted {h : List Tx} {ys : List Str} (nd : ys.Nodup) (hm : ∀ z, z ∈ ys ↔ z ∈ h.map mk) (s : PyProof.Rows.sortedS ys = true) : decide (h.map mk = ys) = ascB h := by
  rw [Bool.eq_iff_iff, decide_eq_true_eq]
  constructor
  · intro e
    have := pw_of_sorted nd s
    rw [← e, List.map_map] at this
    have e2 : h.map ((fun z : Str => z.cps.toList) ∘ mk) = h := by
      conv => rhs; rw [← List.map_id h]
      exact List.map_congr_left fun x _ => mk_cps x
    rw [e2] at this
    exact asc_of this
  · intro a
    have p1 := pw_of_asc a
    have p2 := pw_of_sorted nd s
    have e : h = ys.map fun z => z.cps.toList := sorted_uniq p1 p2 fun x => by
      constructor
      · intro hx; exact List.mem_map.mpr ⟨mk x, (hm _).mpr (List.mem_map.mpr ⟨x, hx, rfl⟩), mk_cps x⟩
      · intro hx
        obtain ⟨z, hz, rfl⟩ := List.mem_map.mp hx
        obtain ⟨r, hr, e⟩ := List.mem_map.mp ((hm z).mp hz)
        rw [← e, mk_cps]; exact hr
    rw [e, List.map_map]
    conv => rhs; rw [← List.map_id ys]
    exact List.map_congr_left fun z _ => mk_eta z
theorem gd_sols {es : List D} (hv : ∀ e ∈ es, sol e) {h : List Tx} (e : es = h.map dS) : GDs 0 (100001 * h.length) (h.map dS) := by
  have := GDs.of (n := 0) (w := 100000) (l := h.map dS) fun d hd => by
    have q := hv d (by rw [e]; exact hd)
    obtain ⟨r, hr, rfl⟩ := List.mem_map.mp hd
    exact gd_str q.1 q.2
  rw [List.length_map] at this
  exact this
theorem w_law_is_heap : Keeps sp__law_is_heap t__law_is_heap 2 := by
  rintro K B S0 S P ⟨v, rfl, hv, p⟩
  unfold t__law_is_heap
  show WS K B _ [some v, none] S _
  walk_at "w"
  refine ws_ifP (!isiB "tuple" v || (match v with | .tup es => !(decide (1 ≤ (es.length : Int)) && decide ((es.length : Int) ≤ 12)) || !es.all (fun r => isRowM 30 r && !decide (txs [r] = [[]])) | _ => false)) ?_ (fun hb => ?_) fun hb => ?_
  · refine wt_orP (!isiB "tuple" v) _ ?_ (fun e => ?_) ⟨rfl, rfl⟩
    · walk_at "ws"
      refine isi_solid _ (sol2_solid hv) (by decide +kernel) ?_
      walk_at "ws"
      exact ⟨rfl, rfl⟩
    · obtain ⟨es, rfl⟩ := isi_tup (by simpa using e)
      refine wt_orP (!(decide (1 ≤ (es.length : Int)) && decide ((es.length : Int) ≤ 12))) (!es.all (fun r => isRowM 30 r && !decide (txs [r] = [[]]))) ?_ (fun e2 => ?_) ⟨rfl, rfl⟩
      · walk_at "w"
        walk_at "w"
        refine we_chainLe (i := 1) (j := es.length) (l := 12) ?_ ⟨_, rfl, rfl, rfl⟩
        walk_at "w"
        refine ⟨rfl, rfl, ?_⟩
        walk_at "ws"
        refine ⟨rfl, rfl, ?_⟩
        walk_at "ws"
        exact ⟨rfl, rfl⟩
      · walk_at "ws"
        have hl : (es.length : Int) ≤ 12 := by
          simp only [Bool.not_eq_false', Bool.and_eq_true, decide_eq_true_eq] at e2
          exact e2.2
        refine we_lcM es id (fun d => .bl (isRowM 30 d && !decide (txs [d] = [[]]))) (gloc_name (by simp)) (wi_seq ?_)
        walk_at "w"
        refine ⟨_, _, ⟨rfl, rfl⟩, (List.map_id es).symm, size100 (by omega), trivial, fun d hd => ?_, ?_⟩
        · walk_at "w"
          walk_at "set"
          refine ⟨rfl, we_andP (isRowM 30 d) (!decide (txs [d] = [[]])) ?_ (fun e3 => ?_) ⟨rfl, rfl⟩⟩
          · walk_at "ws"
            exact ⟨d, rfl, hv d hd, rfl, rfl⟩
          · have : ∃ z, d = .str z := by cases d <;> first | exact ⟨_, rfl⟩ | (cases e3)
            obtain ⟨z, rfl⟩ := this
            walk_at "ws"
            refine DL.ne_str (i := z) ⟨?_, rfl⟩
            congr 1
            show (!decide (z = Str.ofString "")) = !decide ([z.cps.toList] = [[]])
            congr 1
            rw [Bool.eq_iff_iff, decide_eq_true_eq, decide_eq_true_eq]
            constructor
            · rintro rfl; decide +kernel
            · intro e
              rw [← mk_eta z]
              have : z.cps.toList = [] := by simpa using e
              rw [this]; decide +kernel
        · walk_at "ws"
          refine all_map ?_
          walk_at "ws"
          exact ⟨rfl, rfl⟩
  · have e : lawHeapD v = false := by
      cases hi : isiB "tuple" v with
      | false => exact (isi_ntup hi).2
      | true =>
        obtain ⟨es, rfl⟩ := isi_tup hi
        simp only [hi, Bool.not_true, Bool.false_or, Bool.or_eq_true, Bool.not_eq_true', Bool.and_eq_false_iff, decide_eq_false_iff_not] at hb
        show (decide (1 ≤ es.length) && decide (es.length ≤ 12) && es.all (fun r => isRowM 30 r && !decide (txs [r] = [[]])) && ascB (txs es)) = false
        rcases hb with (h | h) | h
        · rw [decide_eq_false (by omega : ¬ 1 ≤ es.length)]; rfl
        · rw [decide_eq_false (by omega : ¬ es.length ≤ 12)]; simp
        · rw [h]; simp
    rw [e] at p
    walk_at "ws"
    exact p
  · have hi : isiB "tuple" v = true := by
      cases hi : isiB "tuple" v with
      | true => rfl
      | false => rw [hi] at hb; simp at hb
    obtain ⟨es, rfl⟩ := isi_tup hi
    simp only [hi, Bool.not_true, Bool.false_or, Bool.or_eq_false_iff, Bool.not_eq_false', Bool.and_eq_true, decide_eq_true_eq] at hb
    obtain ⟨⟨h1, h2⟩, h3⟩ := hb
    have hm : es = (txs es).map dS := txs_map es (by
      rw [List.all_eq_true] at h3 ⊢
      intro r hr
      have q := h3 r hr
      rw [Bool.and_eq_true] at q
      have q1 := q.1
      cases r <;> first | (cases q1; done) | skip
      rename_i z
      have q2 : (decide ((z.length : Int) ≤ 30) && z.cps.toList.all letB) = true := q1
      rw [Bool.and_eq_true, decide_eq_true_eq] at q2
      show (decide ((z.length : Int) ≤ 400) && z.cps.toList.all letB) = true
      rw [q2.2, decide_eq_true (by omega)]; rfl)
    have hp : P (.bl (ascB (txs es))) S := by
      have q : P (.bl (decide (1 ≤ es.length) && decide (es.length ≤ 12) && es.all (fun r => isRowM 30 r && !decide (txs [r] = [[]])) && ascB (txs es))) S := p
      rw [decide_eq_true (by omega : 1 ≤ es.length), decide_eq_true (by omega : es.length ≤ 12), h3] at q
      exact q
    have hln : (txs es).length = es.length := by unfold txs; simp
    have g := gd_sols hv hm
    generalize txs es = h at *
    subst hm
    have hl : h.length ≤ 12 := by simp at h2; omega
    walk_at "ws"
    refine list_seq seqD_tup ?_
    refine we_sortedSet (zs := h.map mk) ?_
    walk_at "w"
    refine ⟨by rw [dS_map], by rw [List.length_map]; omega, fun ys nd me so => ?_⟩
    have gy : GDs 0 (100001 * ys.length) (ys.map D.str) := by
      have := GDs.of (n := 0) (w := 100000) (l := ys.map D.str) fun d hd => by
        obtain ⟨z, hz, rfl⟩ := List.mem_map.mp hd
        obtain ⟨r, hr, rfl⟩ := List.mem_map.mp ((me z).mp hz)
        have q := hv (dS r) (List.mem_map.mpr ⟨r, hr, rfl⟩)
        exact gd_str q.1 q.2
      rw [List.length_map] at this
      exact this
    refine eq_gd g.lst gy.lst (by decide) (by decide) ?_
    show P (.bl (PyData.eqvAll (pys (h.map dS)) (pys (ys.map D.str)))) S
    rw [dS_map, eqvAll_strs, asc_sorted nd me so]
    exact hp
end
end K60
namespace K60
open PySem L2 DL
local macro_rules | `(tactic| walk_at "w") => `(tactic| first
  | with_reducible refine ws_seq ?_
  | with_reducible refine ws_asg ?_
  | with_reducible refine ws_ret ?_
  | with_reducible refine ws_if ?_
  | with_reducible refine ws_drop ?_
  | with_reducible refine ws_next ?_
  | with_reducible refine wg_name ?_
  | with_reducible refine wg_tup (by with_unfolding_all rfl) ?_
  | with_reducible refine wgs_cons ?_
  | with_reducible refine wgs_nil ?_
  | with_reducible refine we_var (by with_unfolding_all rfl) ?_
  | with_reducible refine we_int ?_
  | with_reducible refine we_str ?_
  | with_reducible refine we_bl ?_
  | with_reducible refine we_non ?_
  | with_reducible refine we_raw ?_
  | with_reducible refine we_op ?_
  | with_reducible refine we_un ?_
  | with_reducible refine we_if ?_
  | with_reducible refine we_tup ?_
  | with_reducible refine we_CB ?_
  | with_reducible refine we_call ?_
  | with_reducible refine we_M1 ?_
  | with_reducible refine we_BM ?_
  | with_reducible refine we_sl ?_
  | with_reducible refine we_and ?_
  | with_reducible refine we_or ?_
  | with_reducible refine we_chain ?_
  | with_reducible refine we_notT ?_
  | with_reducible refine we_din ?_
  | with_reducible refine we_dget ?_
  | with_reducible refine wa_nil ?_
  | with_reducible refine wa_cons ?_
  | with_reducible refine wt_test ?_
  | with_reducible refine wt_trub ?_
  | with_reducible refine wt_and ?_
  | with_reducible refine wt_or ?_
  | with_reducible refine wt_not ?_
  | with_reducible refine wt_B ?_
  | with_reducible refine wo_none ?_
  | with_reducible refine wo_some ?_
  | with_reducible refine add_int ?_
  | with_reducible refine sub_int ?_
  | with_reducible refine lt_int ?_
  | with_reducible refine lt_str ?_
  | with_reducible refine le_int ?_
  | with_reducible refine gt_int ?_
  | with_reducible refine ge_int ?_
  | with_reducible refine eq_int ?_
  | with_reducible refine DL.eq_str ?_
  | with_reducible refine DL.ne_str ?_
  | with_reducible refine ne_int ?_
  | with_reducible refine int_int ?_
  | with_reducible refine int_bl ?_
  | with_reducible refine min_two ?_
  | with_reducible refine max_two ?_
  | with_reducible refine abs_int ?_
  | with_reducible refine endswith_str ?_
  | with_reducible refine in_str ?_
  | with_reducible refine notin_str ?_
  | with_reducible refine len_seq seqD_tup ?_
  | with_reducible refine len_seq seqD_lst ?_
  | with_reducible refine len_seq seqD_rol ?_
  | (with_reducible refine Exists.intro _ (And.intro rfl ?_)))
local macro_rules | `(tactic| walk_at "ws") => `(tactic| repeat walk_at "w")
local macro_rules | `(tactic| walk_at "set") => `(tactic| dsimp only [List.set_cons_succ, List.set_cons_zero, wipeD])
section
variable {K : PySem.W.Frag} {B : Hp} {S : Sto}
local macro_rules | `(tactic| walk_at "lit") => `(tactic| repeat first
  | walk_at "w"
  | refine DL.neg_int ?_
  | refine DL.pow_int ⟨by decide, by decide, by decide⟩ ?_
  | with_reducible refine we_lst ?_
  | with_reducible refine we_dnew0 ?_
  | with_reducible refine we_disp1I ?_
  | with_reducible refine we_disp1V (by with_unfolding_all rfl) ?_
  | refine ⟨(by show (_ : Nat) ≤ sizeLine; first | decide | (simp only [List.length_cons, List.length_nil]; decide)), ?_⟩)
theorem sol_of {s : Str} (h : s.length ≤ 1000) (g : ∀ c ∈ s.cps.toList, c < 0x110000) : sol (.str s) := ⟨by omega, g⟩
theorem sol_mk {l : Tx} (h : l.length ≤ 1000) (g : ∀ c ∈ l, c < 0x110000) : sol (dS l) := sol_of (by rw [mk_length]; exact h) (by rw [mk_cps]; exact g)
theorem sol2_of {v : D} (h : sol v) (g : ∀ es, v = .tup es → ∀ e ∈ es, sol e) : sol2 v := by
  cases v <;> first | exact h | exact g _ rfl
theorem law_of1 {P : D → Sto → Prop} {a : Addr} {es : List D} {k : Nat} (h0 : es ≠ []) (hl : es.length < 100000) (hp : Pot S a k) (hk : k < 10000) (p : ∀ d ∈ es, ∀ S', Pot S' a (k + 1) → But a S S' → P d S') : sp__law_of [.ptr a, .lst es] S P :=
  ⟨a, _, es, k, rfl, seqD_lst, fun l z => (by cases z), h0, hl, hp, hk, p⟩
theorem law_take1 {P : D → Sto → Prop} {a : Addr} {u : Int} {k : Nat} (h1 : 0 < u) (h2 : u < 1000000) (hp : Pot S a k) (hk : k < 10000) (p : ∀ (n : Nat) S', (n : Int) < u → Pot S' a (k + 1) → But a S S' → P (dN n) S') : sp__law_take [.ptr a, .int u] S P :=
  ⟨a, u, k, rfl, h1, h2, hp, hk, fun r S' r1 r2 q b => by obtain ⟨n, rfl⟩ := Int.eq_ofNat_of_zero_le r1; exact p n S' r2 q b⟩
theorem w_law_odd : Keeps sp__law_odd t__law_odd 4 := by
  rintro K B S0 S P ⟨a, k, rfl, hp, hk, p⟩
  unfold t__law_odd
  show WS K B _ [some (.ptr a), none, none, none] S _
  walk_at "lit"
  walk_at "set"
  walk_at "ws"
  refine law_of1 (by simp) (by simp) hp (by omega) fun v hv S1 hp1 hb1 => ?_
  have hs : ∀ z : Str, (z = Str.ofString "" ∨ z = Str.ofString "a" ∨ z = Str.ofString "ab") → sol (.str z) := by
    rintro z (rfl | rfl | rfl) <;> exact sol_of (by decide +kernel) (by decide +kernel)
  have hv2 : sol v ∧ sol2 v := by
    simp only [List.mem_cons, List.not_mem_nil, or_false] at hv
    rcases hv with rfl | rfl | rfl | rfl | rfl | rfl | rfl | rfl | rfl | rfl | rfl | rfl | rfl | rfl | rfl | rfl | rfl | rfl | rfl
    all_goals first
      | exact ⟨trivial, trivial⟩
      | exact ⟨hs _ (by simp), hs _ (by simp)⟩
      | exact ⟨trivial, fun e he => by first | (simp at he; done) | (simp at he; subst he; trivial)⟩
  clear hv
  walk_at "w"
  walk_at "set"
  walk_at "w"
  refine ws_for (wi_rng1 ?_)
  walk_at "ws"
  refine law_take1 (by decide) (by decide) hp1 (by omega) fun n S2 hn hp2 hb2 => ?_
  walk_at "ws"
  refine ⟨by omega, by omega, ?_⟩
  rw [Int.toNat_natCast]
  refine ⟨fun i Γ S' => ∃ (x1 : Option D) (v : D) (x3 : Option D), Γ = [some (.ptr a), x1, some v, x3] ∧ sol v ∧ sol2 v ∧ Pot S' a (k + 1 + 1 + i) ∧ But a S S', ⟨_, v, _, rfl, hv2.1, hv2.2, hp2, hb1.trans hb2⟩, fun _ _ _ _ => trivial, ?_, ?_⟩
  · rintro i d Γ S' hd ⟨x1, v, x3, rfl, h1, h2, h3, h4⟩
    have hin : i < n := by
      have := (List.getElem?_eq_some_iff.mp hd).1
      simpa [rngD] using this
    walk_at "w"
    walk_at "set"
    walk_at "lit"
    refine law_of1 (by simp) (by simp) h3 (by omega) fun w hw S3 hp3 hb3 => ?_
    walk_at "w"
    walk_at "set"
    refine ⟨x1, w, _, rfl, ?_, ?_, hp3, h4.trans hb3⟩
    all_goals
      simp only [List.mem_cons, List.not_mem_nil, or_false] at hw
      rcases hw with rfl | rfl | rfl | rfl | rfl
    any_goals exact trivial
    all_goals
      intro e he
      simp at he
      first
        | (subst he; exact h1)
        | (rcases he with rfl | rfl <;> first | exact h1 | trivial)
  · rintro Γ S' ⟨x1, v, x3, rfl, h1, h2, h3, h4⟩
    walk_at "ws"
    have hl : (rngD 0 n).length = n := by simp [rngD]
    exact p v S' h2 h1 (h3.more (by omega)) h4
end
end K60
namespace K60
open PySem L2 DL
local macro_rules | `(tactic| walk_at "w") => `(tactic| first
  | with_reducible refine ws_seq ?_
  | with_reducible refine ws_asg ?_
  | with_reducible refine ws_ret ?_
  | with_reducible refine ws_if ?_
  | with_reducible refine ws_drop ?_
  | with_reducible refine ws_next ?_
  | with_reducible refine wg_name ?_
  | with_reducible refine wg_tup (by with_unfolding_all rfl) ?_
  | with_reducible refine wgs_cons ?_
  | with_reducible refine wgs_nil ?_
  | with_reducible refine we_var (by with_unfolding_all rfl) ?_
  | with_reducible refine we_int ?_
  | with_reducible refine we_str ?_
  | with_reducible refine we_bl ?_
  | with_reducible refine we_non ?_
  | with_reducible refine we_raw ?_
  | with_reducible refine we_op ?_
  | with_reducible refine we_un ?_
  | with_reducible refine we_if ?_
  | with_reducible refine we_tup ?_
  | with_reducible refine we_CB ?_
  | with_reducible refine we_call ?_
  | with_reducible refine we_M1 ?_
  | with_reducible refine we_BM ?_
  | with_reducible refine we_sl ?_
  | with_reducible refine we_and ?_
  | with_reducible refine we_or ?_
  | with_reducible refine we_chain ?_
  | with_reducible refine we_notT ?_
  | with_reducible refine we_din ?_
  | with_reducible refine we_dget ?_
  | with_reducible refine wa_nil ?_
  | with_reducible refine wa_cons ?_
  | with_reducible refine wt_test ?_
  | with_reducible refine wt_trub ?_
  | with_reducible refine wt_and ?_
  | with_reducible refine wt_or ?_
  | with_reducible refine wt_not ?_
  | with_reducible refine wt_B ?_
  | with_reducible refine wo_none ?_
  | with_reducible refine wo_some ?_
  | with_reducible refine add_int ?_
  | with_reducible refine sub_int ?_
  | with_reducible refine lt_int ?_
  | with_reducible refine lt_str ?_
  | with_reducible refine le_int ?_
  | with_reducible refine gt_int ?_
  | with_reducible refine ge_int ?_
  | with_reducible refine eq_int ?_
  | with_reducible refine DL.eq_str ?_
  | with_reducible refine DL.ne_str ?_
  | with_reducible refine ne_int ?_
  | with_reducible refine int_int ?_
  | with_reducible refine int_bl ?_
  | with_reducible refine min_two ?_
  | with_reducible refine max_two ?_
  | with_reducible refine abs_int ?_
  | with_reducible refine endswith_str ?_
  | with_reducible refine in_str ?_
  | with_reducible refine notin_str ?_
  | with_reducible refine len_seq seqD_tup ?_
  | with_reducible refine len_seq seqD_lst ?_
  | with_reducible refine len_seq seqD_rol ?_
  | (with_reducible refine Exists.intro _ (And.intro rfl ?_)))
local macro_rules | `(tactic| walk_at "ws") => `(tactic| repeat walk_at "w")
local macro_rules | `(tactic| walk_at "set") => `(tactic| dsimp only [List.set_cons_succ, List.set_cons_zero, wipeD])
section
variable {K : PySem.W.Frag} {B : Hp} {S : Sto}
local macro_rules | `(tactic| walk_at "lit") => `(tactic| repeat first
  | walk_at "w"
  | with_reducible refine we_lst ?_
  | refine ⟨(by show (_ : Nat) ≤ sizeLine; first | decide | (simp only [List.length_cons, List.length_nil]; decide)), ?_⟩)
theorem abc_signs : (Str.ofString "abc").cps.toList.map (fun c => D.str ⟨#[c]⟩) = [97, 98, 99].map fun c => dS [c] := by
  have : (Str.ofString "abc").cps.toList = [97, 98, 99] := by decide +kernel
  rw [this]; rfl
theorem w_bentT : Keeps spT__law_bent (t__law_bent (fun _ _ _ => False)) 4 := by
  rintro K B S0 S P ⟨a, r, k, rfl, hr, hp, hk, p⟩
  have r1 := hr.one
  have r2 := hr.most
  have rl : (mk r).length ≤ sizeLine := by rw [mk_length]; exact size100 (by omega)
  unfold t__law_bent
  show WS K B _ [some (.ptr a), some (dS r), none, none] S _
  walk_at "w"
  refine ws_ifP false ?_ (fun z => by cases z) (fun _ => ?_)
  · walk_at "ws"
    refine isi_solid _ rfl (by decide +kernel) ?_
    walk_at "ws"
    exact ifF rfl ⟨rfl, rfl⟩
  walk_at "w"
  walk_at "w"
  refine ws_ifP false ?_ (fun z => by cases z) (fun _ => ?_)
  · walk_at "ws"
    refine isi_solid _ rfl (by decide +kernel) ?_
    walk_at "ws"
    exact ⟨rfl, rfl⟩
  walk_at "ws"
  refine isi_solid _ rfl (by decide +kernel) ?_
  walk_at "ws"
  refine ifT rfl ?_
  walk_at "ws"
  refine ifT ?_ ?_
  · have : mk r ≠ Str.ofString "" := fun z => by
      have e : (mk r).cps.toList = [] := by rw [z]; decide +kernel
      rw [mk_cps] at e; rw [e] at r1; simp at r1
    simpa using this
  walk_at "ws"
  refine law_take1 (by decide) (by decide) hp (by omega) fun n S1 hn hp1 hb1 => ?_
  walk_at "ws"
  refine if2 (fun _ => ?_) fun _ => ?_
  · walk_at "ws"
    refine len_str rl ?_
    walk_at "ws"
    rw [mk_length]
    refine law_take1 (by omega) (by omega) hp1 (by omega) fun m S2 hm hp2 hb2 => ?_
    have hm' : m < r.length := by omega
    walk_at "w"
    walk_at "set"
    walk_at "lit"
    refine sl_str rl ?_
    rw [cut_mk, cut_to]
    walk_at "ws"
    refine sl_str rl ?_
    rw [cut_mk, show ((m : Int) + 1) = ((m + 1 : Nat) : Int) from rfl, cut_from]
    refine add_str (by rw [mk_length, mk_length, List.length_take, List.length_drop]; exact size100 (by omega)) ?_
    rw [mk_append]
    walk_at "ws"
    refine sl_str rl ?_
    rw [cut_mk, cut_to]
    walk_at "ws"
    refine list_str (by decide +kernel) ?_
    rw [abc_signs]
    walk_at "ws"
    refine law_of1 (by simp) (by simp) hp2 (by omega) fun v hv S3 hp3 hb3 => ?_
    obtain ⟨c, hc, rfl⟩ := List.mem_map.mp hv
    have hc' : c < 0x110000 := by simp at hc; omega
    refine add_str (by rw [mk_length, mk_length, List.length_take]; exact size100 (by simp; omega)) ?_
    rw [mk_append]
    walk_at "ws"
    refine sl_str rl ?_
    rw [cut_mk, show ((m : Int) + 1) = ((m + 1 : Nat) : Int) from rfl, cut_from]
    refine add_str (by rw [mk_length, mk_length, List.length_append, List.length_take, List.length_drop]; exact size100 (by simp; omega)) ?_
    rw [mk_append]
    walk_at "ws"
    refine rd_ixS (c := r[m]) rl (by rw [mk_cps, DL.atI_nat]; exact List.getElem?_eq_getElem hm') ?_
    refine add_str (by rw [mk_length]; show r.length + 1 ≤ _; exact size100 (by omega)) ?_
    rw [show (⟨#[r[m]]⟩ : Str) = mk [r[m]] from rfl, mk_append]
    walk_at "w"
    refine we_rev ?_
    walk_at "w"
    refine .inr (.inr ⟨_, rfl, rl, ?_⟩)
    rw [rev_mk]
    walk_at "lit"
    refine law_of1 (by simp) (by simp) hp3 (by omega) fun v hv S4 hp4 hb4 => ?_
    have hok := hr.ok
    have sv : sol v := by
      simp only [List.mem_cons, List.not_mem_nil, or_false] at hv
      rcases hv with rfl | rfl | rfl | rfl
      · exact sol_mk (by simp; omega) fun c h => by
          rcases List.mem_append.mp h with h | h
          · exact hok c (List.mem_of_mem_take h)
          · exact hok c (List.mem_of_mem_drop h)
      · exact sol_mk (by simp; omega) fun d h => by
          rcases List.mem_append.mp h with h | h
          · rcases List.mem_append.mp h with h | h
            · exact hok d (List.mem_of_mem_take h)
            · rw [List.mem_singleton.mp h]; exact hc'
          · exact hok d (List.mem_of_mem_drop h)
      · exact sol_mk (by simp; omega) fun d h => by
          rcases List.mem_append.mp h with h | h
          · exact hok d h
          · simp at h; subst h; exact hok _ (List.getElem_mem hm')
      · exact sol_mk (by simp; omega) fun d h => hok d (List.mem_reverse.mp h)
    have sv2 : sol2 v := by
      simp only [List.mem_cons, List.not_mem_nil, or_false] at hv
      rcases hv with rfl | rfl | rfl | rfl <;> exact sv
    exact p v S4 sv2 sv (hp4.more (by omega)) (((hb1.trans hb2).trans hb3).trans hb4)
  · walk_at "ws"
    refine isi_solid _ rfl (by decide +kernel) ?_
    walk_at "ws"
    refine ifF rfl ?_
    walk_at "ws"
    refine isi_solid _ rfl (by decide +kernel) ?_
    walk_at "ws"
    refine ifT rfl ?_
    walk_at "ws"
    exact ⟨a, k + 1, rfl, hp1, by omega, fun v S' s2 s1 hp2 hb2 => p v S' s2 s1 (hp2.more (by omega)) (hb1.trans hb2)⟩
end
end K60
namespace K60
open PySem L2 DL
local macro_rules | `(tactic| walk_at "w") => `(tactic| first
  | with_reducible refine ws_seq ?_
  | with_reducible refine ws_asg ?_
  | with_reducible refine ws_ret ?_
  | with_reducible refine ws_if ?_
  | with_reducible refine ws_drop ?_
  | with_reducible refine ws_next ?_
  | with_reducible refine wg_name ?_
  | with_reducible refine wg_tup (by with_unfolding_all rfl) ?_
  | with_reducible refine wgs_cons ?_
  | with_reducible refine wgs_nil ?_
  | with_reducible refine we_var (by with_unfolding_all rfl) ?_
  | with_reducible refine we_int ?_
  | with_reducible refine we_str ?_
  | with_reducible refine we_bl ?_
  | with_reducible refine we_non ?_
  | with_reducible refine we_raw ?_
  | with_reducible refine we_op ?_
  | with_reducible refine we_un ?_
  | with_reducible refine we_if ?_
  | with_reducible refine we_tup ?_
  | with_reducible refine we_CB ?_
  | with_reducible refine we_call ?_
  | with_reducible refine we_M1 ?_
  | with_reducible refine we_BM ?_
  | with_reducible refine we_sl ?_
  | with_reducible refine we_and ?_
  | with_reducible refine we_or ?_
  | with_reducible refine we_chain ?_
  | with_reducible refine we_notT ?_
  | with_reducible refine we_din ?_
  | with_reducible refine we_dget ?_
  | with_reducible refine wa_nil ?_
  | with_reducible refine wa_cons ?_
  | with_reducible refine wt_test ?_
  | with_reducible refine wt_trub ?_
  | with_reducible refine wt_and ?_
  | with_reducible refine wt_or ?_
  | with_reducible refine wt_not ?_
  | with_reducible refine wt_B ?_
  | with_reducible refine wo_none ?_
  | with_reducible refine wo_some ?_
  | with_reducible refine add_int ?_
  | with_reducible refine sub_int ?_
  | with_reducible refine lt_int ?_
  | with_reducible refine lt_str ?_
  | with_reducible refine le_int ?_
  | with_reducible refine gt_int ?_
  | with_reducible refine ge_int ?_
  | with_reducible refine eq_int ?_
  | with_reducible refine DL.eq_str ?_
  | with_reducible refine DL.ne_str ?_
  | with_reducible refine ne_int ?_
  | with_reducible refine int_int ?_
  | with_reducible refine int_bl ?_
  | with_reducible refine min_two ?_
  | with_reducible refine max_two ?_
  | with_reducible refine abs_int ?_
  | with_reducible refine endswith_str ?_
  | with_reducible refine in_str ?_
  | with_reducible refine notin_str ?_
  | with_reducible refine len_seq seqD_tup ?_
  | with_reducible refine len_seq seqD_lst ?_
  | with_reducible refine len_seq seqD_rol ?_
  | (with_reducible refine Exists.intro _ (And.intro rfl ?_)))
local macro_rules | `(tactic| walk_at "ws") => `(tactic| repeat walk_at "w")
local macro_rules | `(tactic| walk_at "set") => `(tactic| dsimp only [List.set_cons_succ, List.set_cons_zero, wipeD])
section
variable {K : PySem.W.Frag} {B : Hp} {S : Sto}
local macro_rules | `(tactic| walk_at "lit") => `(tactic| repeat first
  | walk_at "w"
  | with_reducible refine we_lst ?_
  | refine ⟨(by show (_ : Nat) ≤ sizeLine; first | decide | (simp only [List.length_cons, List.length_nil]; decide)), ?_⟩)
theorem cut_sub {α : Type} {l : List α} {lo hi : Option Int} : ∀ x ∈ cutD l lo hi, x ∈ l := by
  intro x hx
  unfold cutD at hx
  first
    | exact List.mem_of_mem_take (List.mem_of_mem_drop hx)
    | exact List.mem_of_mem_drop (List.mem_of_mem_take hx)
theorem cut_len {α : Type} (l : List α) (lo hi : Option Int) : (cutD l lo hi).length ≤ l.length := by
  unfold cutD
  simp only [List.length_take, List.length_drop]
  omega
theorem w_bentH : Keeps sp__law_bent (t__law_bent spT__law_bent) 4 := by
  rintro K B S0 S P ⟨a, h, k, rfl, hh, hp, hk, p⟩
  have h1 := hh.n1
  have h2 := hh.n2
  have hs : ∀ e ∈ h.map dS, sol e := hh.sol
  have lm : (h.map dS).length = h.length := List.length_map ..
  have g : GDs 0 (31 * h.length) (h.map dS) := gds_txs fun r hr => hh.row hr
  unfold t__law_bent
  show WS K B _ [some (.ptr a), some (heapD h), none, none] S _
  walk_at "ws"
  refine isi_solid _ rfl (by decide +kernel) ?_
  walk_at "ws"
  refine ifT rfl ?_
  walk_at "ws"
  refine ⟨by decide, ne_gd g.tup (GDs.nil (n := 0) (w := 0)).tup (by decide) (by decide) ⟨_, rfl, ifT ?_ ?_⟩⟩
  · show (!PyData.eqvAll (pys (h.map dS)) (pys (([] : List Str).map D.str))) = true
    rw [dS_map, eqvAll_strs]
    cases h with
    | nil => simp at h1
    | cons x h => simp
  walk_at "ws"
  refine law_take1 (by decide) (by decide) hp (by omega) fun n S1 hn hp1 hb1 => ?_
  walk_at "ws"
  refine if2 (fun _ => ?_) fun _ => ?_
  · walk_at "ws"
    rw [lm]
    refine law_take1 (by omega) (by omega) hp1 (by omega) fun m S2 hm hp2 hb2 => ?_
    have hm' : m < h.length := by omega
    walk_at "w"
    walk_at "set"
    walk_at "ws"
    refine sl_tup ?_
    rw [cut_to]
    walk_at "ws"
    refine ix_heap hm' ?_
    walk_at "ws"
    refine ⟨a, h.getD m [], k + 2, rfl, hh.row (by rw [show h.getD m [] = h[m] by simp [List.getD, hm']]; exact List.getElem_mem hm'), hp2, by omega, fun v S3 s2 s1 hp3 hb3 => ?_⟩
    walk_at "lit"
    refine add_tup (by rw [List.length_take, lm]; exact size100 (by simp; omega)) ?_
    walk_at "ws"
    refine sl_tup ?_
    rw [show ((m : Int) + 1) = ((m + 1 : Nat) : Int) from rfl, cut_from]
    refine add_tup (by rw [List.length_append, List.length_take, List.length_drop, lm]; exact size100 (by simp; omega)) ?_
    refine p _ S3 (fun e he => ?_) (hp3.more (by omega)) ((hb1.trans hb2).trans hb3)
    rcases List.mem_append.mp he with he | he
    · rcases List.mem_append.mp he with he | he
      · exact hs e (List.mem_of_mem_take he)
      · rw [List.mem_singleton.mp he]; exact s1
    · exact hs e (List.mem_of_mem_drop he)
  · walk_at "ws"
    refine isi_solid _ rfl (by decide +kernel) ?_
    walk_at "ws"
    refine ifT rfl ?_
    walk_at "ws"
    rw [lm]
    refine law_take1 (by omega) (by omega) hp1 (by omega) fun m S2 hm hp2 hb2 => ?_
    walk_at "w"
    walk_at "set"
    walk_at "lit"
    refine list_seq seqD_tup ?_
    walk_at "ws"
    refine sl_tup ?_
    walk_at "ws"
    refine sl_tup ?_
    refine add_tup (by have := cut_len (h.map dS) none (some (m : Int)); have := cut_len (h.map dS) (some ((m : Int) + 1)) none; exact size100 (by omega)) ?_
    walk_at "ws"
    refine sl_tup ?_
    refine add_tup (by have := cut_len (h.map dS) (some (m : Int)) (some ((m : Int) + 1)); exact size100 (by omega)) ?_
    walk_at "w"
    refine we_rev ?_
    walk_at "w"
    refine .inr (.inl ⟨_, rfl, fun z => ?_, ?_⟩)
    · have := congrArg List.length z
      rw [lm] at this; simp at this; rw [this] at h1; simp at h1
    walk_at "ws"
    refine sl_tup ?_
    walk_at "ws"
    refine ⟨a, k + 2, rfl, hp2, by omega, fun v S3 s2 s1 hp3 hb3 => ?_⟩
    walk_at "lit"
    refine add_tup (by have := cut_len (h.map dS) none (some (m : Int)); exact size100 (by simp; omega)) ?_
    walk_at "ws"
    refine sl_tup ?_
    refine add_tup (by have := cut_len (h.map dS) none (some (m : Int)); have := cut_len (h.map dS) (some (m : Int)) none; exact size100 (by simp; omega)) ?_
    walk_at "lit"
    walk_at "set"
    walk_at "lit"
    refine law_of1 (by simp) (by simp) hp3 (by omega) fun w hw S4 hp4 hb4 => ?_
    refine p w S4 ?_ (hp4.more (by omega)) (((hb1.trans hb2).trans hb3).trans hb4)
    simp only [List.mem_cons, List.not_mem_nil, or_false] at hw
    rcases hw with rfl | rfl | rfl | rfl | rfl
    · trivial
    · intro e he
      rcases List.mem_append.mp he with he | he <;> exact hs e (cut_sub e he)
    · intro e he
      rcases List.mem_append.mp he with he | he
      · exact hs e he
      · exact hs e (cut_sub e he)
    · intro e he
      exact hs e (List.mem_reverse.mp he)
    · intro e he
      rcases List.mem_append.mp he with he | he
      · rcases List.mem_append.mp he with he | he
        · exact hs e (cut_sub e he)
        · rw [List.mem_singleton.mp he]; exact s1
      · exact hs e (cut_sub e he)
end
end K60
namespace K60
open PySem L2 DL
local macro_rules | `(tactic| walk_at "w") => `(tactic| first
  | with_reducible refine ws_seq ?_
  | with_reducible refine ws_asg ?_
  | with_reducible refine ws_ret ?_
  | with_reducible refine ws_if ?_
  | with_reducible refine ws_drop ?_
  | with_reducible refine ws_next ?_
  | with_reducible refine wg_name ?_
  | with_reducible refine wg_tup (by with_unfolding_all rfl) ?_
  | with_reducible refine wgs_cons ?_
  | with_reducible refine wgs_nil ?_
  | with_reducible refine we_var (by with_unfolding_all rfl) ?_
  | with_reducible refine we_int ?_
  | with_reducible refine we_str ?_
  | with_reducible refine we_bl ?_
  | with_reducible refine we_non ?_
  | with_reducible refine we_raw ?_
  | with_reducible refine we_op ?_
  | with_reducible refine we_un ?_
  | with_reducible refine we_if ?_
  | with_reducible refine we_tup ?_
  | with_reducible refine we_CB ?_
  | with_reducible refine we_call ?_
  | with_reducible refine we_M1 ?_
  | with_reducible refine we_BM ?_
  | with_reducible refine we_sl ?_
  | with_reducible refine we_and ?_
  | with_reducible refine we_or ?_
  | with_reducible refine we_chain ?_
  | with_reducible refine we_notT ?_
  | with_reducible refine we_din ?_
  | with_reducible refine we_dget ?_
  | with_reducible refine wa_nil ?_
  | with_reducible refine wa_cons ?_
  | with_reducible refine wt_test ?_
  | with_reducible refine wt_trub ?_
  | with_reducible refine wt_and ?_
  | with_reducible refine wt_or ?_
  | with_reducible refine wt_not ?_
  | with_reducible refine wt_B ?_
  | with_reducible refine wo_none ?_
  | with_reducible refine wo_some ?_
  | with_reducible refine add_int ?_
  | with_reducible refine sub_int ?_
  | with_reducible refine lt_int ?_
  | with_reducible refine lt_str ?_
  | with_reducible refine le_int ?_
  | with_reducible refine gt_int ?_
  | with_reducible refine ge_int ?_
  | with_reducible refine eq_int ?_
  | with_reducible refine DL.eq_str ?_
  | with_reducible refine DL.ne_str ?_
  | with_reducible refine ne_int ?_
  | with_reducible refine int_int ?_
  | with_reducible refine int_bl ?_
  | with_reducible refine min_two ?_
  | with_reducible refine max_two ?_
  | with_reducible refine abs_int ?_
  | with_reducible refine endswith_str ?_
  | with_reducible refine in_str ?_
  | with_reducible refine notin_str ?_
  | with_reducible refine len_seq seqD_tup ?_
  | with_reducible refine len_seq seqD_lst ?_
  | with_reducible refine len_seq seqD_rol ?_
  | (with_reducible refine Exists.intro _ (And.intro rfl ?_)))
local macro_rules | `(tactic| walk_at "ws") => `(tactic| repeat walk_at "w")
local macro_rules | `(tactic| walk_at "set") => `(tactic| dsimp only [List.set_cons_succ, List.set_cons_zero, wipeD])
section
variable {K : PySem.W.Frag} {B : Hp} {S : Sto}
theorem cut_mid {α : Type} (l : List α) (m e : Nat) : cutD l (some (m : Int)) (some (e : Int)) = (l.drop (min m l.length)).take (min e l.length - min m l.length) := by
  unfold cutD HT.sIx
  simp only [if_neg (show ¬ ((m : Int) < 0) by omega), if_neg (show ¬ ((e : Int) < 0) by omega), Int.toNat_natCast]
theorem join_ones (cs : Tx) : Txt.join (Str.ofString "") ((cs.map fun c => [c]).map mk) = mk cs := by
  rw [show Str.ofString "" = mk [] from by decide +kernel, join_mk_nil]
  congr 1
  induction cs with | nil => rfl | cons c cs ih => simpa using ih
theorem join_lets {P : D → Sto → Prop} (cs : Tx) (hl : cs.length ≤ 1000) (p : P (dS cs) S) : RDM K B (rm_str_join K) (.str (Str.ofString "")) [.lst (cs.map fun c => dS [c])] S P := by
  refine join_strs (zs := (cs.map fun c => [c]).map mk) (by rw [List.map_map, List.map_map]; exact seqD_lst) ?_ (by rw [join_ones]; exact p)
  have h0 : (Str.ofString "").length = 0 := by decide +kernel
  have h1 : (((cs.map fun c => [c]).map mk).map (·.length)).sum = cs.length := by
    clear p hl
    induction cs with
    | nil => rfl
    | cons c cs ih => simp only [List.map_cons, List.sum_cons, List.length_cons]; rw [ih, mk_length]; simp; omega
  rw [h1, h0]
  omega
abbrev Lets (l : Tx) : Prop := ∀ c ∈ l, 97 ≤ c ∧ c ≤ 122
theorem lets_lc {P : D → Sto → Prop} {wi : TI} {a : Addr} {L : Tx} {Γ : Sl} (j : Nat) (hL : Lets L) (hL1 : L ≠ []) (hL4 : L.length ≤ 100)
    (g0 : ∀ d, ((wipeD Γ [j]).set j (some d))[0]? = some (some (.ptr a))) (g2 : ∀ d, ((wipeD Γ [j]).set j (some d))[2]? = some (some (dS L)))
    (h : WI K B wi Γ S fun ds Lk S1 => ∃ n k, ds = rngD 0 n ∧ (∀ S', Lk S') ∧ n ≤ 1000 ∧ Pot S1 a k ∧ k + n < 10000 ∧ ∀ (cs : Tx) S2, cs.length = n → Lets cs → Pot S2 a (k + n) → But a S1 S2 → P (.lst (cs.map fun c => dS [c])) S2) :
    WE K B (tLc wi (gName j) tYes (tCall (spD K sp__law_of) [] E0 (tCons (tVar 0) (tCons (tCB (rc_list K) (tCons (tVar 2) tNil)) tNil))) [j]) Γ S P := by
  refine we_lc (gloc_name (by simp)) fun F σ H R Q k0 => h F σ H R Q fun J ds Lk H' F' S' ⟨n, k, e, hlk, hn, hp, hk, p⟩ => k0 J ds Lk H' F' S' ?_
  subst e
  have hlen : (rngD 0 n).length = n := by simp [rngD]
  refine ⟨by rw [hlen]; exact size100 (by omega), fun i acc S2 => ∃ cs : Tx, acc = cs.map (fun c => dS [c]) ∧ cs.length = i ∧ Lets cs ∧ Pot S2 a (k + i) ∧ But a S' S2, ⟨[], rfl, rfl, (fun c hc => by cases hc), hp, But.refl _ _⟩, fun _ _ _ _ => hlk _, fun i d acc S2 hd ⟨cs, e1, e2, e3, e4, e5⟩ => ?_, fun acc S2 hl ⟨cs, e1, e2, e3, e4, e5⟩ => ?_⟩
  · have hin : i < n := by rw [← hlen]; exact (List.getElem?_eq_some_iff.mp hd).1
    refine wg_name (wt_yes (ifT rfl (we_call (wa_cons (we_var (g0 d) (wa_cons (we_CB (wa_cons (we_var (g2 d) (wa_nil ?_))))))))))
    refine list_str (by rw [mk_length]; exact size100 (by omega)) ?_
    refine wa_nil ?_
    rw [mk_cps]
    refine law_of1 (by simpa using hL1) (by simp; omega) e4 (by omega) fun v hv S3 hp3 hb3 => ?_
    obtain ⟨c, hc, rfl⟩ := List.mem_map.mp hv
    refine ⟨cs ++ [c], by rw [e1, List.map_append]; rfl, by rw [List.length_append, e2]; rfl, fun x hx => ?_, hp3, e5.trans hb3⟩
    rcases List.mem_append.mp hx with hx | hx
    · exact e3 x hx
    · rw [List.mem_singleton.mp hx]; exact hL c hc
  · subst e1
    rw [hlen] at e2 e4
    exact p cs S2 e2 e3 e4 e5
def keysD (ks : List Tx) : List (Key × D) := ks.map fun r => (Sum.inr (mk r), D.bl true)
theorem put_keys (ks : List Tx) (r : Tx) : putD (keysD ks) (Sum.inr (mk r)) (.bl true) = keysD (if r ∈ ks then ks else ks ++ [r]) := by
  unfold putD keysD
  have e : ((ks.map fun r => ((Sum.inr (mk r) : Key), D.bl true)).any fun kv => decide (kv.1 = Sum.inr (mk r))) = decide (r ∈ ks) := by
    rw [List.any_map, Bool.eq_iff_iff, List.any_eq_true, decide_eq_true_eq]
    constructor
    · rintro ⟨x, hx, h⟩
      have : mk x = mk r := by simpa using h
      rw [← mk_inj this]; exact hx
    · intro h; exact ⟨r, h, by simp⟩
  rw [e]
  by_cases h : r ∈ ks
  · rw [if_pos (by simpa using h), if_pos h, List.map_map]
    apply List.map_congr_left
    intro x _
    simp only [Function.comp]
    split <;> rfl
  · rw [if_neg (by simpa using h), if_neg h, List.map_append]; rfl
theorem w_law_heap : Keeps sp__law_heap t__law_heap 10 := by
  rintro K B S0 S P ⟨a, k, rfl, hp, hk, p⟩
  unfold t__law_heap
  show WS K B _ [some (.ptr a), some (.int 7), none, none, none, none, none, none, none, none] S _
  walk_at "w"
  walk_at "w"
  walk_at "w"
  walk_at "w"
  walk_at "w"
  walk_at "w"
  walk_at "w"
  walk_at "w"
  refine we_lst ?_
  walk_at "ws"
  refine ⟨by show 4 ≤ sizeLine; decide, ?_⟩
  walk_at "ws"
  refine law_of1 (by simp) (by simp) hp (by omega) fun v hv S1 hp1 hb1 => ?_
  have hL : ∃ L : Tx, v = dS L ∧ Lets L ∧ L ≠ [] ∧ L.length ≤ 100 := by
    simp only [List.mem_cons, List.not_mem_nil, or_false] at hv
    rcases hv with rfl | rfl | rfl | rfl
    · exact ⟨[97, 98], by rw [show Str.ofString "ab" = mk [97, 98] from by decide +kernel], by decide, by decide, by decide⟩
    · exact ⟨[97, 98, 99], by rw [show Str.ofString "abc" = mk [97, 98, 99] from by decide +kernel], by decide, by decide, by decide⟩
    · exact ⟨[97], by rw [show Str.ofString "a" = mk [97] from by decide +kernel], by decide, by decide, by decide⟩
    · exact ⟨[97, 98, 99, 100], by rw [show Str.ofString "abcd" = mk [97, 98, 99, 100] from by decide +kernel], by decide, by decide, by decide⟩
  obtain ⟨L, rfl, hL, hL1, hL4⟩ := hL
  clear hv
  walk_at "w"
  refine we_dnewK fun d hd => ?_
  have had : a ≠ d := fun z => hp1.some (by rw [z]; exact hd)
  have hSd : S d = none := by rw [← hb1 d (Ne.symm had)]; exact hd
  walk_at "w"
  refine ⟨by show 2 ≤ sizeLine; decide, ?_⟩
  walk_at "w"
  walk_at "w"
  walk_at "w"
  walk_at "w"
  walk_at "w"
  walk_at "w"
  walk_at "set"
  have hp1' : Pot (ups S1 d (.dK [])) a (k + 1) := hp1.keep (by rw [ups_ne had])
  have hb1' : ∀ b, b ≠ a → b ≠ d → ups S1 d (.dK []) b = S b := fun b x y => by rw [ups_ne y]; exact hb1 b x
  have hd1 : ups S1 d (.dK []) d = some (.dK []) := ups_same
  generalize ups S1 d (.dK []) = S2 at *
  walk_at "w"
  walk_at "w"
  walk_at "w"
  walk_at "w"
  refine ⟨⟨_, rfl⟩, ?_⟩
  refine lets_lc 5 hL hL1 hL4 (fun d => rfl) (fun d => rfl) (wi_rng1 ?_)
  walk_at "ws"
  refine law_take1 (by decide) (by decide) hp1' (by omega) fun n13 S3 hn13 hp3 hb3 => ?_
  walk_at "ws"
  refine ⟨by omega, by omega, 8 + n13, k + 1 + 1, ?_, fun _ => trivial, by omega, hp3, by omega, fun line S4 hl4 hlets hp4 hb4 => ?_⟩
  · congr 1
  refine join_lets line (by omega) ?_
  walk_at "w"
  walk_at "set"
  walk_at "w"
  refine ws_for (wi_rng1 ?_)
  walk_at "ws"
  refine law_take1 (by decide) (by decide) hp4 (by omega) fun n7 S5 hn7 hp5 hb5 => ?_
  walk_at "ws"
  refine ⟨by omega, by omega, ?_⟩
  have e7 : ((1 : Int) + (n7 : Int)).toNat = 1 + n7 := by omega
  rw [e7]
  have hlen : (rngD 0 (1 + n7)).length = 1 + n7 := by simp [rngD]
  have hd5 : S5 d = some (.dK []) := by rw [hb5 d (Ne.symm had), hb4 d (Ne.symm had), hb3 d (Ne.symm had)]; exact hd1
  refine ⟨fun i Γ S' => ∃ (x5 x6 x7 x8 x9 : Option D) (ks : List Tx), Γ = [some (.ptr a), some (.int 7), some (dS L), some (.ptr d), some (dS line), x5, x6, x7, x8, x9] ∧ S' d = some (.dK (keysD ks)) ∧ ks.Nodup ∧ (∀ r ∈ ks, RowOk r) ∧ ks.length ≤ i ∧ (1 ≤ i → ks ≠ []) ∧ Pot S' a (k + 25 + 11 * i) ∧ (∀ b, b ≠ a → b ≠ d → S' b = S b), ?_, fun _ _ _ _ => trivial, ?_, ?_⟩
  · exact ⟨_, _, _, _, _, [], rfl, hd5, List.nodup_nil, fun r hr => (by cases hr), Nat.le_refl _, fun z => (by omega), hp5.more (by omega), fun b x y => by rw [hb5 b x, hb4 b x, hb3 b x]; exact hb1' b x y⟩
  · rintro i dd Γ S' hdd ⟨x5, x6, x7, x8, x9, ks, rfl, q1, q2, q3, q4, q5, q6, q7⟩
    have hin : i < 1 + n7 := by rw [← hlen]; exact (List.getElem?_eq_some_iff.mp hdd).1
    walk_at "w"
    walk_at "set"
    walk_at "w"
    refine ws_par ?_
    walk_at "ws"
    refine len_str (by rw [mk_length]; exact size100 (by omega)) ?_
    walk_at "ws"
    rw [mk_length]
    refine law_take1 (by omega) (by omega) q6 (by omega) fun m S6 hm hp6 hb6 => ?_
    walk_at "ws"
    refine law_take1 (by decide) (by decide) hp6 (by omega) fun z S7 hz hp7 hb7 => ?_
    walk_at "ws"
    refine ⟨_, _, rfl, ?_⟩
    walk_at "set"
    have hm' : m < line.length := by omega
    have hz' : z < 7 := by omega
    have ll : (mk line).length ≤ sizeLine := by rw [mk_length]; exact size100 (by omega)
    walk_at "w"
    walk_at "w"
    walk_at "w"
    walk_at "w"
    walk_at "w"
    walk_at "w"
    refine we_lst ?_
    walk_at "ws"
    refine sl_str ll ?_
    rw [cut_mk, show ((m : Int) + (1 + (z : Int))) = ((m + (1 + z) : Nat) : Int) by omega]
    walk_at "ws"
    refine sl_str ll ?_
    rw [cut_mk, show ((m : Int) + (1 + (z : Int))) = ((m + (1 + z) : Nat) : Int) by omega]
    walk_at "w"
    walk_at "w"
    walk_at "w"
    refine ⟨⟨_, rfl⟩, ?_⟩
    refine lets_lc 9 hL hL1 hL4 (fun d => rfl) (fun d => rfl) (wi_rng1 ?_)
    walk_at "ws"
    refine ⟨by omega, by omega, 1 + z, k + 25 + 11 * i + 1 + 1, ?_, fun _ => trivial, by omega, hp7, by omega, fun cs S8 hcs hlets2 hp8 hb8 => ?_⟩
    · congr 1
    refine join_lets cs (by omega) ?_
    walk_at "w"
    refine ⟨by show 3 ≤ sizeLine; decide, ?_⟩
    walk_at "ws"
    refine law_of1 (by simp) (by simp) hp8 (by omega) fun v hv S9 hp9 hb9 => ?_
    have hrow : ∃ r, v = dS r ∧ RowOk r := by
      simp only [List.mem_cons, List.not_mem_nil, or_false] at hv
      have h1 : RowOk (cutD line (some (m : Int)) (some ((m + (1 + z) : Nat) : Int))) := by
        refine ⟨fun c hc => hlets c (cut_sub c hc), ?_, ?_⟩
        · rw [cut_mid, List.length_take, List.length_drop]; omega
        · rw [cut_mid, List.length_take, List.length_drop]; omega
      rcases hv with rfl | rfl | rfl
      · exact ⟨_, rfl, h1⟩
      · exact ⟨_, rfl, h1⟩
      · exact ⟨cs, rfl, hlets2, by omega, by omega⟩
    obtain ⟨r, rfl, hr⟩ := hrow
    walk_at "w"
    walk_at "set"
    refine ws_dput ?_
    walk_at "ws"
    have hS9 : S9 d = some (.dK (keysD ks)) := by rw [hb9 d (Ne.symm had), hb8 d (Ne.symm had), hb7 d (Ne.symm had), hb6 d (Ne.symm had)]; exact q1
    refine .inl ⟨keysD ks, Sum.inr (mk r), hS9, rfl, by unfold keysD; rw [List.length_map]; have := size100 (n := 101) (by omega); omega, ?_⟩
    rw [put_keys]
    refine ⟨_, _, _, _, _, if r ∈ ks then ks else ks ++ [r], rfl, ups_same, ?_, ?_, ?_, ?_, ?_, ?_⟩
    · split
      · exact q2
      · rename_i hne
        exact List.nodup_append.mpr ⟨q2, by simp, fun x hx y hy => by rw [List.mem_singleton.mp hy]; rintro rfl; exact hne hx⟩
    · intro x hx
      split at hx
      · exact q3 x hx
      · rcases List.mem_append.mp hx with hx | hx
        · exact q3 x hx
        · rw [List.mem_singleton.mp hx]; exact hr
    · split
      · omega
      · rw [List.length_append]; simp; omega
    · intro _
      split
      · rename_i hne; exact List.ne_nil_of_mem hne
      · simp
    · exact (hp9.keep (by rw [ups_ne had])).more (by omega)
    · intro b x y
      rw [ups_ne y, hb9 b x, hb8 b x, hb7 b x, hb6 b x]
      exact q7 b x y
  · rintro Γ S' ⟨x5, x6, x7, x8, x9, ks, rfl, q1, q2, q3, q4, q5, q6, q7⟩
    rw [hlen] at q4 q5 q6
    refine ws_retD ?_
    walk_at "ws"
    refine sorted_dK (ks := ks.map mk) q1 (by unfold keysD; rw [List.map_map, List.map_map]; rfl) (by rw [List.length_map]; omega) fun ys pm so => ?_
    walk_at "ws"
    refine tuple_lst lstD_lst ⟨dels S' d, fun b o hb => ?_, ?_⟩
    · unfold dels at hb
      by_cases e : b = d
      · rw [if_pos e] at hb; cases hb
      · rw [if_neg e] at hb; exact hb
    · have nd : ys.Nodup := pm.nodup_iff.mpr (List.Pairwise.map mk (fun x y h e => h (mk_inj e)) q2)
      have e1 : ys.map D.str = (ys.map fun z => z.cps.toList).map dS := by
        rw [List.map_map]; exact List.map_congr_left fun z _ => by show D.str z = D.str (mk z.cps.toList); rw [mk_eta]
      have hlen2 : ys.length = ks.length := by rw [pm.length_eq, List.length_map]
      rw [e1]
      refine p _ _ ⟨?_, ?_, fun r hr => ?_, pw_of_sorted nd so⟩ ((q6.keep (by unfold dels; rw [if_neg had])).more (by omega)) fun b hb => ?_
      · rw [List.length_map, hlen2]; exact List.length_pos_iff.mpr (q5 (by omega))
      · rw [List.length_map, hlen2]; omega
      · obtain ⟨z, hz, rfl⟩ := List.mem_map.mp hr
        obtain ⟨x, hx, e⟩ := List.mem_map.mp (pm.subset hz)
        rw [← e, mk_cps]
        have := q3 x hx
        exact ⟨this.lets, this.one, this.most⟩
      · unfold dels
        by_cases e : b = d
        · rw [if_pos e, e, hSd]
        · rw [if_neg e]; exact q7 b hb e
end
end K60
namespace K60
open PySem L2 DL
local macro_rules | `(tactic| walk_at "w") => `(tactic| first
  | with_reducible refine ws_seq ?_
  | with_reducible refine ws_asg ?_
  | with_reducible refine ws_ret ?_
  | with_reducible refine ws_if ?_
  | with_reducible refine ws_drop ?_
  | with_reducible refine ws_next ?_
  | with_reducible refine wg_name ?_
  | with_reducible refine wg_tup (by with_unfolding_all rfl) ?_
  | with_reducible refine wgs_cons ?_
  | with_reducible refine wgs_nil ?_
  | with_reducible refine we_var (by with_unfolding_all rfl) ?_
  | with_reducible refine we_int ?_
  | with_reducible refine we_str ?_
  | with_reducible refine we_bl ?_
  | with_reducible refine we_non ?_
  | with_reducible refine we_raw ?_
  | with_reducible refine we_op ?_
  | with_reducible refine we_un ?_
  | with_reducible refine we_if ?_
  | with_reducible refine we_tup ?_
  | with_reducible refine we_CB ?_
  | with_reducible refine we_call ?_
  | with_reducible refine we_M1 ?_
  | with_reducible refine we_BM ?_
  | with_reducible refine we_sl ?_
  | with_reducible refine we_and ?_
  | with_reducible refine we_or ?_
  | with_reducible refine we_chain ?_
  | with_reducible refine we_notT ?_
  | with_reducible refine we_din ?_
  | with_reducible refine we_dget ?_
  | with_reducible refine wa_nil ?_
  | with_reducible refine wa_cons ?_
  | with_reducible refine wt_test ?_
  | with_reducible refine wt_trub ?_
  | with_reducible refine wt_and ?_
  | with_reducible refine wt_or ?_
  | with_reducible refine wt_not ?_
  | with_reducible refine wt_B ?_
  | with_reducible refine wo_none ?_
  | with_reducible refine wo_some ?_
  | with_reducible refine add_int ?_
  | with_reducible refine sub_int ?_
  | with_reducible refine lt_int ?_
  | with_reducible refine lt_str ?_
  | with_reducible refine le_int ?_
  | with_reducible refine gt_int ?_
  | with_reducible refine ge_int ?_
  | with_reducible refine eq_int ?_
  | with_reducible refine DL.eq_str ?_
  | with_reducible refine DL.ne_str ?_
  | with_reducible refine ne_int ?_
  | with_reducible refine int_int ?_
  | with_reducible refine int_bl ?_
  | with_reducible refine min_two ?_
  | with_reducible refine max_two ?_
  | with_reducible refine abs_int ?_
  | with_reducible refine endswith_str ?_
  | with_reducible refine in_str ?_
  | with_reducible refine notin_str ?_
  | with_reducible refine len_seq seqD_tup ?_
  | with_reducible refine len_seq seqD_lst ?_
  | with_reducible refine len_seq seqD_rol ?_
  | (with_reducible refine Exists.intro _ (And.intro rfl ?_)))
local macro_rules | `(tactic| walk_at "ws") => `(tactic| repeat walk_at "w")
local macro_rules | `(tactic| walk_at "set") => `(tactic| dsimp only [List.set_cons_succ, List.set_cons_zero, wipeD])
section
variable {K : PySem.W.Frag} {B : Hp} {S : Sto}
theorem ovs_pw (a b : Tx) : (ovs a b).Pairwise (· < ·) := by
  unfold ovs
  exact List.Pairwise.map _ (fun x y h => by omega) (List.Pairwise.filter _ List.pairwise_lt_range)
theorem last_max : ∀ {l : List Nat}, l.Pairwise (· < ·) → ∀ m, m ∈ l → (∀ x ∈ l, x ≤ m) → l.getLast? = some m
  | [], _, m, h, _ => by cases h
  | [x], _, m, h, _ => by rw [List.mem_singleton.mp h]; rfl
  | x :: y :: l, p, m, h, g => by
    obtain ⟨p1, p2⟩ := List.pairwise_cons.mp p
    rw [List.getLast?_cons_cons]
    refine last_max p2 m ?_ fun z hz => g z (List.mem_cons_of_mem _ hz)
    rcases List.mem_cons.mp h with rfl | h
    · have h1 := p1 y List.mem_cons_self
      have h2 := g y (List.mem_cons_of_mem _ List.mem_cons_self)
      omega
    · exact h
theorem ovl_mem (a b : Tx) : ovl a b = 0 ∧ ovs a b = [] ∨ ovl a b ∈ ovs a b := by
  obtain ⟨q1, q2, q3⟩ := foldl_max (ovs a b) 0
  rcases q3 with q | q
  · refine .inl ⟨q, List.eq_nil_iff_forall_not_mem.mpr fun x hx => ?_⟩
    have h1 := q2 x hx
    have h2 := (ovs_lt hx).1
    omega
  · exact .inr q
theorem ovl_ge {a b : Tx} {k : Nat} (h : k ∈ ovs a b) : k ≤ ovl a b := (foldl_max (ovs a b) 0).2.1 k h
theorem ovs_last {a b : Tx} (h : ovs a b ≠ []) : (ovs a b).getLast? = some (ovl a b) := by
  rcases ovl_mem a b with ⟨_, q⟩ | q
  · exact absurd q h
  · exact last_max (ovs_pw a b) _ q fun x hx => ovl_ge hx
theorem ovs_pos {a b : Tx} : ovs a b ≠ [] ↔ 0 < ovl a b := by
  constructor
  · intro h
    rcases ovl_mem a b with ⟨_, q⟩ | q
    · exact absurd q h
    · exact (ovs_lt q).1
  · intro h z
    rcases ovl_mem a b with ⟨q, _⟩ | q
    · omega
    · rw [z] at q; cases q
/-- what the law's own test of an overlap says -/
theorem drop_take {a b : Tx} {k : Nat} (h1 : k ≤ a.length) (h2 : k ≤ b.length) : decide (a.drop (a.length - k) = b.take k) = decide (b.take k <:+ a) := by
  rw [Bool.eq_iff_iff, decide_eq_true_eq, decide_eq_true_eq]
  constructor
  · intro e; rw [← e]; exact List.drop_suffix _ _
  · intro e
    have := List.suffix_iff_eq_drop.mp e
    rw [List.length_take, Nat.min_eq_left h2] at this
    exact this.symm
theorem inside_outer (h : List Tx) : h.filter (fun r => !decide (r ∈ outerL h)) = insideL h := by
  unfold outerL
  conv => rhs; unfold insideL
  apply List.filter_congr
  intro r hr
  have e : decide (r ∈ h.filter fun r => !decide (r ∈ insideL h)) = !decide (r ∈ insideL h) := by
    rw [Bool.eq_iff_iff, decide_eq_true_eq, List.mem_filter]
    exact ⟨fun z => z.2, fun z => ⟨hr, z⟩⟩
  rw [e, Bool.not_not]
  unfold insideL
  rw [Bool.eq_iff_iff, decide_eq_true_eq, List.mem_filter]
  exact ⟨fun z => z.2, fun z => ⟨hr, z⟩⟩
/-! the row laid -/
abbrev lay1 (acc : Tx) (p : Tx × Tx) : Tx := acc ++ p.2.drop (ovl p.1 p.2)
theorem lay_pre (l : List (Tx × Tx)) : ∀ acc : Tx, acc <+: l.foldl lay1 acc := by
  induction l with
  | nil => exact fun acc => List.prefix_refl _
  | cons p l ih => exact fun acc => (List.prefix_append _ _).trans (ih _)
theorem lay_suf (r t acc : Tx) (h : r <:+ acc) : t <:+ acc ++ t.drop (ovl r t) := by
  have k : t.take (ovl r t) <:+ r := by
    rcases ovl_mem r t with ⟨q, _⟩ | q
    · rw [q]; simp
    · exact (ovs_lt q).2.2.2
  obtain ⟨u, e⟩ := k.trans h
  refine ⟨u, ?_⟩
  rw [← e, List.append_assoc, List.take_append_drop]
theorem lay_all : ∀ (ts : List Tx) (r acc : Tx), r <:+ acc → ∀ x ∈ r :: ts, x <:+: ((r :: ts).zip ts).foldl lay1 acc
  | [], r, acc, h, x, hx => by rw [List.mem_singleton.mp hx]; exact h.isInfix
  | t :: ts, r, acc, h, x, hx => by
    show x <:+: ((t :: ts).zip ts).foldl lay1 (lay1 acc (r, t))
    rcases List.mem_cons.mp hx with rfl | hx
    · exact (h.isInfix.trans (List.prefix_append _ _).isInfix).trans (lay_pre _ _).isInfix
    · exact lay_all ts t _ (lay_suf r t acc h) x hx
theorem laid_all {rs : List Tx} {x : Tx} (hx : x ∈ rs) : x <:+: laidL rs := by
  cases rs with
  | nil => cases hx
  | cons r ts => exact lay_all ts r r (List.suffix_refl _) x hx
theorem ovl_le (a b : Tx) : ovl a b ≤ b.length := by
  rcases ovl_mem a b with ⟨q, _⟩ | q
  · omega
  · have := ovs_lt q; omega
theorem lay_len2 : ∀ (ts : List Tx) (r acc : Tx), (((r :: ts).zip ts).foldl lay1 acc).length + (((r :: ts).zip ts).map fun p => ovl p.1 p.2).sum = acc.length + (ts.map List.length).sum
  | [], r, acc => rfl
  | t :: ts, r, acc => by
    have ih := lay_len2 ts t (lay1 acc (r, t))
    have h1 := ovl_le r t
    show (((t :: ts).zip ts).foldl lay1 (lay1 acc (r, t))).length + (ovl r t + (((t :: ts).zip ts).map fun p => ovl p.1 p.2).sum) = acc.length + (t.length + (ts.map List.length).sum)
    have h2 : (lay1 acc (r, t)).length = acc.length + (t.length - ovl r t) := by simp [lay1]
    rw [h2] at ih
    omega
theorem laid_len (rs : List Tx) (h : rs ≠ []) : (laidL rs).length + savedL rs = (rs.map List.length).sum := by
  cases rs with
  | nil => exact absurd rfl h
  | cons r ts => exact lay_len2 ts r r
/-- two overlaps crossed are no longer than two straight ones -/
theorem monge {a b c d : Tx} (h1 : ovl a d ≤ ovl a b) (h2 : ovl c b ≤ ovl a b) : ovl a d + ovl c b ≤ ovl a b + ovl c d := by
  by_cases hs : ovl a d + ovl c b ≤ ovl a b
  · omega
  · have hq : ovl a d ∈ ovs a d := by rcases ovl_mem a d with ⟨q, _⟩ | q <;> first | exact q | omega
    have hr : ovl c b ∈ ovs c b := by rcases ovl_mem c b with ⟨q, _⟩ | q <;> first | exact q | omega
    have hp : ovl a b ∈ ovs a b := by rcases ovl_mem a b with ⟨q, _⟩ | q <;> first | exact q | omega
    generalize ovl a d = q at *
    generalize ovl c b = r at *
    generalize ovl a b = p at *
    obtain ⟨q1, q2, q3, q4⟩ := ovs_lt hq
    obtain ⟨r1, r2, r3, r4⟩ := ovs_lt hr
    obtain ⟨p1, p2, p3, p4⟩ := ovs_lt hp
    have lq : (d.take q).length = q := by rw [List.length_take]; omega
    have lp : (b.take p).length = p := by rw [List.length_take]; omega
    obtain ⟨u, e⟩ := List.suffix_of_suffix_length_le q4 p4 (by omega)
    have lu : u.length + q = p := by rw [← lp, ← e, List.length_append, lq]
    have e2 : b.take r = u ++ d.take (q + r - p) := by
      have : b.take r = (b.take p).take r := by rw [List.take_take, Nat.min_eq_left h2]
      rw [this, ← e, List.take_append, List.take_of_length_le (by omega : u.length ≤ r), List.take_take, Nat.min_eq_left (by omega)]
      congr 2
      omega
    have : q + r - p ∈ ovs c d := mem_ovs.mpr ⟨by omega, by omega, by omega, (List.suffix_append u _ |>.trans (by rw [← e2]; exact List.suffix_refl _)).trans r4⟩
    have := ovl_ge this
    omega
/-- both tests of a heap agree -/
theorem heap_same (v : D) : isHeapD v = lawHeapD v := by
  cases v <;> first | rfl | skip
  rename_i es
  have key : ∀ es : List D, (es.all isRowD && (txs es).all fun r => decide (1 ≤ r.length) && decide (r.length ≤ 30)) = es.all fun r => isRowM 30 r && !decide (txs [r] = [[]]) := by
    intro es
    induction es with
    | nil => rfl
    | cons e es ih =>
      rw [List.all_cons, List.all_cons, ← ih]
      show (isRowD e && es.all isRowD && ((txs (e :: es)).all fun r => decide (1 ≤ r.length) && decide (r.length ≤ 30))) = _
      have one : (isRowD e && (txs [e]).all fun r => decide (1 ≤ r.length) && decide (r.length ≤ 30)) = (isRowM 30 e && !decide (txs [e] = [[]])) := by
        cases e <;> first | rfl | skip
        rename_i z
        show (rowB z 400 && ([z.cps.toList].all fun r => decide (1 ≤ r.length) && decide (r.length ≤ 30))) = (rowB z 30 && !decide ([z.cps.toList] = [[]]))
        unfold rowB
        have hl : z.length = z.cps.toList.length := by simp [Str.length]
        rw [hl]
        generalize z.cps.toList = l
        generalize l.all letB = b
        rw [Bool.eq_iff_iff]
        cases l with
        | nil => simp
        | cons x l => cases b <;> simp <;> omega
      have e1 : txs (e :: es) = txs [e] ++ txs es := rfl
      rw [e1, List.all_append, ← one]
      generalize isRowD e = b1
      generalize es.all isRowD = b2
      generalize ((txs [e]).all fun r => decide (1 ≤ r.length) && decide (r.length ≤ 30)) = b3
      generalize ((txs es).all fun r => decide (1 ≤ r.length) && decide (r.length ≤ 30)) = b4
      cases b1 <;> cases b2 <;> cases b3 <;> cases b4 <;> rfl
  show (decide (1 ≤ es.length) && decide (es.length ≤ 12) && es.all isRowD && (txs es).all (fun r => decide (1 ≤ r.length) && decide (r.length ≤ 30)) && ascB (txs es)) = (decide (1 ≤ es.length) && decide (es.length ≤ 12) && es.all (fun r => isRowM 30 r && !decide (txs [r] = [[]])) && ascB (txs es))
  rw [← key es]
  simp only [Bool.and_assoc]
end
end K60
namespace K60
open PySem L2 DL
local macro_rules | `(tactic| walk_at "w") => `(tactic| first
  | with_reducible refine ws_seq ?_
  | with_reducible refine ws_asg ?_
  | with_reducible refine ws_ret ?_
  | with_reducible refine ws_if ?_
  | with_reducible refine ws_drop ?_
  | with_reducible refine ws_next ?_
  | with_reducible refine wg_name ?_
  | with_reducible refine wg_tup (by with_unfolding_all rfl) ?_
  | with_reducible refine wgs_cons ?_
  | with_reducible refine wgs_nil ?_
  | with_reducible refine we_var (by with_unfolding_all rfl) ?_
  | with_reducible refine we_int ?_
  | with_reducible refine we_str ?_
  | with_reducible refine we_bl ?_
  | with_reducible refine we_non ?_
  | with_reducible refine we_raw ?_
  | with_reducible refine we_op ?_
  | with_reducible refine we_un ?_
  | with_reducible refine we_if ?_
  | with_reducible refine we_tup ?_
  | with_reducible refine we_CB ?_
  | with_reducible refine we_call ?_
  | with_reducible refine we_M1 ?_
  | with_reducible refine we_BM ?_
  | with_reducible refine we_sl ?_
  | with_reducible refine we_and ?_
  | with_reducible refine we_or ?_
  | with_reducible refine we_chain ?_
  | with_reducible refine we_notT ?_
  | with_reducible refine we_din ?_
  | with_reducible refine we_dget ?_
  | with_reducible refine wa_nil ?_
  | with_reducible refine wa_cons ?_
  | with_reducible refine wt_test ?_
  | with_reducible refine wt_trub ?_
  | with_reducible refine wt_and ?_
  | with_reducible refine wt_or ?_
  | with_reducible refine wt_not ?_
  | with_reducible refine wt_B ?_
  | with_reducible refine wo_none ?_
  | with_reducible refine wo_some ?_
  | with_reducible refine add_int ?_
  | with_reducible refine sub_int ?_
  | with_reducible refine lt_int ?_
  | with_reducible refine lt_str ?_
  | with_reducible refine le_int ?_
  | with_reducible refine gt_int ?_
  | with_reducible refine ge_int ?_
  | with_reducible refine eq_int ?_
  | with_reducible refine DL.eq_str ?_
  | with_reducible refine DL.ne_str ?_
  | with_reducible refine ne_int ?_
  | with_reducible refine int_int ?_
  | with_reducible refine int_bl ?_
  | with_reducible refine min_two ?_
  | with_reducible refine max_two ?_
  | with_reducible refine abs_int ?_
  | with_reducible refine endswith_str ?_
  | with_reducible refine in_str ?_
  | with_reducible refine notin_str ?_
  | with_reducible refine len_seq seqD_tup ?_
  | with_reducible refine len_seq seqD_lst ?_
  | with_reducible refine len_seq seqD_rol ?_
  | (with_reducible refine Exists.intro _ (And.intro rfl ?_)))
local macro_rules | `(tactic| walk_at "ws") => `(tactic| repeat walk_at "w")
local macro_rules | `(tactic| walk_at "set") => `(tactic| dsimp only [List.set_cons_succ, List.set_cons_zero, wipeD])
section
variable {K : PySem.W.Frag} {B : Hp} {S : Sto}
def r0 (K : PySem.W.Frag) : TS := (tAsg (tCall (spD K sp__law_heap) [] E0 (tCons (tVar 0) (tCons (tC (.int 7)) tNil))) (gName 1))
def r1 (K : PySem.W.Frag) : TS := (tIfS (tOr (tTest (tOp (raNe K) (tCall (spD K sp_outer) [] E0 (tCons (tVar 1) tNil)) (tCB (rc_tuple K) (tCons (tCall (spD K sp__law_outer) [] E0 (tCons (tVar 1) tNil)) tNil)))) (tTest (tOp (raNe K) (tCall (spD K sp_inside) [] E0 (tCons (tVar 1) tNil)) (tCB (rc_tuple K) (tCons (tLc (iSeq K (tVar 1)) (gName 13) (tTest (tOp (raNotIn K) (tVar 13) (tCall (spD K sp__law_outer) [] E0 (tCons (tVar 1) tNil)))) (tVar 13) [13]) tNil))))) (tRet (tC (.bl false))) tNext)
def r2 (K : PySem.W.Frag) : TS := (tAsg (tLst tNil) (gName 2))
def r3 (K : PySem.W.Frag) : TS := (tFor (iEnumerateX K (tCons (tVar 1) tNil)) (gTup K 2 (gCons (gName 3) (gCons (gName 4) gNil))) (tFor (iEnumerateX K (tCons (tVar 1) tNil)) (gTup K 2 (gCons (gName 5) (gCons (gName 6) gNil))) (tSeq (tAsg (tCB (rc_tuple K) (tCons (tLc (iRng2 (tCons (tC (.int 1)) (tCons (tCB (rc_min2 K) (tCons (tCB (rc_len K) (tCons (tVar 4) tNil)) (tCons (tCB (rc_len K) (tCons (tVar 6) tNil)) tNil))) tNil))) (gName 10) (tTest (tOp (raEq K) (tSl (raSl K) (tVar 4) (tPart (tOp (raSub K) (tCB (rc_len K) (tCons (tVar 4) tNil)) (tVar 10))) tNoPart) (tSl (raSl K) (tVar 6) tNoPart (tPart (tVar 10))))) (tVar 10) [10]) tNil)) (gName 7)) (tSeq (tIfS (tTest (tOp (raNe K) (tCB (rc_repr K) (tCons (tTup (tCons (tCall (spD K sp_overlaps) [] E0 (tCons (tVar 4) (tCons (tVar 6) tNil))) (tCons (tCall (spD K sp_overlap) [] E0 (tCons (tVar 4) (tCons (tVar 6) tNil))) tNil))) tNil)) (tCB (rc_repr K) (tCons (tTup (tCons (tVar 7) (tCons (tCB (rc_max1 K) (tCons (tOp (raAdd K) (tTup (tCons (tC (.int 0)) tNil)) (tVar 7)) tNil)) tNil))) tNil)))) (tRet (tC (.bl false))) tNext) (tDrop (tBM K "list" (rm_list_extend K) (tVar 2) (tCons (tIf (tAnd (tTest (tOp (raNe K) (tVar 3) (tVar 5))) (tTest (tOp (raNe K) (tVar 7) (tTup tNil)))) (tLst (tCons (tTup (tCons (tVar 3) (tCons (tVar 5) (tCons (tOp (rIx K) (tVar 7) (tUn raNeg (tC (.int 1)))) tNil)))) tNil)) (tLst tNil)) tNil)))))))
def r4 (K : PySem.W.Frag) : TS := (tIfS (tTest (tOp (raNe K) (tCB (rc_repr K) (tCons (tCall (spD K sp_overlap_web) [] E0 (tCons (tVar 1) tNil)) tNil)) (tCB (rc_repr K) (tCons (tCB (rc_tuple K) (tCons (tVar 2) tNil)) tNil)))) (tRet (tC (.bl false))) tNext)
def r5 (K : PySem.W.Frag) : TS := (tAsg (tTup (tCons (tCB (rc_dictT K) (tCons (tLc (iSeq K (tVar 2)) (gTup K 3 (gCons (gName 3) (gCons (gName 5) (gCons (gName 10) gNil)))) tYes (tTup (tCons (tTup (tCons (tVar 3) (tCons (tVar 5) tNil))) (tCons (tVar 10) tNil))) [3, 5, 10]) tNil)) (tCons (tLst tNil) tNil))) (gTup K 2 (gCons (gName 8) (gCons (gName 9) gNil))))
def r6 (K : PySem.W.Frag) : TS := (tFor (iSeq K (tVar 2)) (gTup K 3 (gCons (gName 3) (gCons (gName 5) (gCons (gName 10) gNil)))) (tSeq (tAsg (tLc (iRng1 (tCons (tCB (rc_len K) (tCons (tVar 1) tNil)) tNil)) (gName 21) (tAnd (tB (tDIn (tTup (tCons (tVar 3) (tCons (tVar 21) tNil))) (tVar 8))) (tB (tDIn (tTup (tCons (tVar 21) (tCons (tVar 5) tNil))) (tVar 8)))) (tVar 21) [21]) (gName 11)) (tDrop (tBM K "list" (rm_list_extend K) (tVar 9) (tCons (tIf (tTru K (tCB (rc_any K) (tCons (tLc (iSeq K (tVar 11)) (gName 21) tYes (tOp (raEq K) (tOp (raAdd K) (tDGet (tVar 8) (tTup (tCons (tVar 3) (tCons (tVar 21) tNil)))) (tDGet (tVar 8) (tTup (tCons (tVar 21) (tCons (tVar 5) tNil))))) (tOp (raAdd K) (tVar 10) (tCB (rc_len K) (tCons (tOp (rIx K) (tVar 1) (tVar 21)) tNil)))) [21]) tNil))) (tLst (tCons (tTup (tCons (tVar 3) (tCons (tVar 5) (tCons (tVar 10) tNil)))) tNil)) (tLst tNil)) tNil)))))
def r7 (K : PySem.W.Frag) : TS := (tIfS (tTest (tOp (raNe K) (tCB (rc_repr K) (tCons (tCall (spD K sp_needless_overlaps) [] E0 (tCons (tVar 1) tNil)) tNil)) (tCB (rc_repr K) (tCons (tCB (rc_tuple K) (tCons (tVar 9) tNil)) tNil)))) (tRet (tC (.bl false))) tNext)
def r8 (K : PySem.W.Frag) : TS := (tAsg (tCB (rc_tuple K) (tCons (tCall (spD K sp__law_some) [] E0 (tCons (tVar 0) (tCons (tLstRg (tRg1 (tCB (rc_len K) (tCons (tVar 1) tNil)))) (tCons (tOp (raAdd K) (tC (.int 1)) (tCall (spD K sp__law_take) [] E0 (tCons (tVar 0) (tCons (tCB (rc_len K) (tCons (tVar 1) tNil)) tNil)))) tNil)))) tNil)) (gName 12))
def r9 (K : PySem.W.Frag) : TS := (tAsg (tLc (iSeq K (tVar 12)) (gName 22) tYes (tOp (rIx K) (tVar 1) (tVar 22)) [22]) (gName 11))
def r10 (K : PySem.W.Frag) : TS := (tAsg (tTup (tCons (tCall (spD K sp_laid) [] E0 (tCons (tVar 1) (tCons (tVar 12) tNil))) (tCons (tCB (rc_sum K) (tCons (tLc (iZipX K (tCons (tVar 11) (tCons (tSl (raSl K) (tVar 11) (tPart (tC (.int 1))) tNoPart) tNil))) (gTup K 2 (gCons (gName 4) (gCons (gName 6) gNil))) tYes (tCall (spD K sp__law_overlap) [] E0 (tCons (tVar 4) (tCons (tVar 6) tNil))) [4, 6]) tNil)) tNil))) (gTup K 2 (gCons (gName 13) (gCons (gName 14) gNil))))
def r11 (K : PySem.W.Frag) : TS := (tIfS (tOr (tTest (tOp (raNe K) (tVar 13) (tCall (spD K sp__law_laid) [] E0 (tCons (tVar 11) tNil)))) (tOr (tTest (tOp (raNe K) (tCB (rc_repr K) (tCons (tCall (spD K sp_saved) [] E0 (tCons (tVar 1) (tCons (tVar 12) tNil))) tNil)) (tCB (rc_repr K) (tCons (tVar 14) tNil)))) (tOr (tTest (tOp (raNe K) (tCB (rc_len K) (tCons (tVar 13) tNil)) (tOp (raSub K) (tCB (rc_sum K) (tCons (tLc (iSeq K (tVar 11)) (gName 4) tYes (tCB (rc_len K) (tCons (tVar 4) tNil)) [4]) tNil)) (tVar 14)))) (tNot (tTru K (tCB (rc_all K) (tCons (tLc (iSeq K (tVar 11)) (gName 4) tYes (tOp (raIn K) (tVar 4) (tVar 13)) [4]) tNil))))))) (tRet (tC (.bl false))) tNext)
def r12 (K : PySem.W.Frag) : TS := (tAsg (tLc (iRng1 (tCons (tC (.int 4)) tNil)) (gName 23) tYes (tCall (spD K sp__law_of) [] E0 (tCons (tVar 0) (tCons (tCB (rc_list K) (tCons (tVar 1) tNil)) tNil))) [23]) (gUnl K 4 (gCons (gName 15) (gCons (gName 16) (gCons (gName 17) (gCons (gName 18) gNil))))))
def r13 (K : PySem.W.Frag) : TS := (tIfS (tAnd (tTest (tOp (raGe K) (tCall (spD K sp_overlap) [] E0 (tCons (tVar 15) (tCons (tVar 16) tNil))) (tCB (rc_max2 K) (tCons (tCall (spD K sp_overlap) [] E0 (tCons (tVar 15) (tCons (tVar 18) tNil))) (tCons (tCall (spD K sp_overlap) [] E0 (tCons (tVar 17) (tCons (tVar 16) tNil))) tNil))))) (tTest (tOp (raLt K) (tOp (raAdd K) (tCall (spD K sp_overlap) [] E0 (tCons (tVar 15) (tCons (tVar 16) tNil))) (tCall (spD K sp_overlap) [] E0 (tCons (tVar 17) (tCons (tVar 18) tNil)))) (tOp (raAdd K) (tCall (spD K sp_overlap) [] E0 (tCons (tVar 15) (tCons (tVar 18) tNil))) (tCall (spD K sp_overlap) [] E0 (tCons (tVar 17) (tCons (tVar 16) tNil))))))) (tRet (tC (.bl false))) tNext)
def r14 (K : PySem.W.Frag) : TS := (tAsg (tLst (tCons (tVar 1) (tCons (tCB (rc_list K) (tCons (tVar 1) tNil)) (tCons (tRevX K (tVar 1)) (tCons (tOp (raAdd K) (tVar 1) (tTup (tCons (tOp (raMul K) (tC (.str (Str.ofString "zz"))) (tC (.int 15))) tNil))) (tCons (tOp (raAdd K) (tVar 1) (tTup (tCons (tOp (raMul K) (tC (.str (Str.ofString "zz"))) (tC (.int 16))) tNil))) (tCons (tOp (raAdd K) (tTup (tCons (tC (.str (Str.ofString ""))) tNil)) (tVar 1)) (tCons (tTup (tCons (tOp (raMul K) (tC (.str (Str.ofString "a"))) (tC (.int 31))) tNil)) (tCons (tTup (tCons (tC (.str (Str.ofString "A"))) tNil)) (tCons (tCall (spD K sp__law_odd) [] E0 (tCons (tVar 0) tNil)) tNil)))))))))) (gName 19))
def r15 (K : PySem.W.Frag) : TS := (tFor (iSeq K (tOp (raAdd K) (tVar 19) (tLc (iRng1 (tCons (tC (.int 6)) tNil)) (gName 23) tYes (tCall (spD K sp__law_bent) [] E0 (tCons (tVar 0) (tCons (tVar 1) tNil))) [23]))) (gName 20) (tIfS (tTest (tOp (raNe K) (tCB (rc_repr K) (tCons (tCall (spD K sp_is_heap) [] E0 (tCons (tVar 20) tNil)) tNil)) (tCB (rc_repr K) (tCons (tCall (spD K sp__law_is_heap) [] E0 (tCons (tVar 20) tNil)) tNil)))) (tRet (tC (.bl false))) tNext))
def r16 (K : PySem.W.Frag) : TS := (tRet (tC (.bl true)))
def T16 (K : PySem.W.Frag) : TS := r16 K
def T15 (K : PySem.W.Frag) : TS := tSeq (r15 K) (T16 K)
def T14 (K : PySem.W.Frag) : TS := tSeq (r14 K) (T15 K)
def T13 (K : PySem.W.Frag) : TS := tSeq (r13 K) (T14 K)
def T12 (K : PySem.W.Frag) : TS := tSeq (r12 K) (T13 K)
def T11 (K : PySem.W.Frag) : TS := tSeq (r11 K) (T12 K)
def T10 (K : PySem.W.Frag) : TS := tSeq (r10 K) (T11 K)
def T9 (K : PySem.W.Frag) : TS := tSeq (r9 K) (T10 K)
def T8 (K : PySem.W.Frag) : TS := tSeq (r8 K) (T9 K)
def T7 (K : PySem.W.Frag) : TS := tSeq (r7 K) (T8 K)
def T6 (K : PySem.W.Frag) : TS := tSeq (r6 K) (T7 K)
def T5 (K : PySem.W.Frag) : TS := tSeq (r5 K) (T6 K)
def T4 (K : PySem.W.Frag) : TS := tSeq (r4 K) (T5 K)
def T3 (K : PySem.W.Frag) : TS := tSeq (r3 K) (T4 K)
def T2 (K : PySem.W.Frag) : TS := tSeq (r2 K) (T3 K)
def T1 (K : PySem.W.Frag) : TS := tSeq (r1 K) (T2 K)
def T0 (K : PySem.W.Frag) : TS := tSeq (r0 K) (T1 K)
theorem right_T (K : PySem.W.Frag) : t__law_right K = T0 K := rfl
abbrev kF (P : D → Sto → Prop) : Ko := ⟨fun _ S' => P .non S', P, fun _ _ => False, fun _ _ => False⟩
local macro_rules | `(tactic| walk_at "lit") => `(tactic| repeat first
  | walk_at "w"
  | refine ⟨(by show (_ : Nat) ≤ sizeLine; first | decide | (simp only [List.length_cons, List.length_nil]; decide)), ?_⟩)
theorem lit_str (z : Str) (h : (decide (z.length ≤ 1000) && z.cps.toList.all fun c => decide (c < 0x110000)) = true) : sol (.str z) := by
  rw [Bool.and_eq_true, decide_eq_true_eq, List.all_eq_true] at h
  exact sol_of h.1 fun c hc => of_decide_eq_true (h.2 c hc)
theorem g_values {P : D → Sto → Prop} {a : Addr} {h : List Tx} {k : Nat} {x2 x3 x4 x5 x6 x7 x8 x9 x10 x11 x12 x13 x14 x15 x16 x17 x18 x19 x20 x21 x22 x23 : Option D} (hh : HeapOk h) (hp : Pot S a k) (hk : k + 300 < 10000)
    (p : ∀ S', Pot S' a (k + 200) → But a S S' → P (.bl true) S') :
    WS K B (T14 K) [some (.ptr a), some (heapD h), x2, x3, x4, x5, x6, x7, x8, x9, x10, x11, x12, x13, x14, x15, x16, x17, x18, x19, x20, x21, x22, x23] S (kF P) := by
  have h1 := hh.n1
  have h2 := hh.n2
  have hs : ∀ e ∈ h.map dS, sol e := hh.sol
  have lm : (h.map dS).length = h.length := List.length_map ..
  unfold T14 r14 T15 r15 T16 r16
  walk_at "w"
  walk_at "w"
  refine we_lst ?_
  walk_at "ws"
  refine list_seq seqD_tup ?_
  walk_at "w"
  refine we_rev ?_
  walk_at "w"
  refine .inr (.inl ⟨_, rfl, fun z => ?_, ?_⟩)
  · have := congrArg List.length z
    rw [lm] at this; simp at this; rw [this] at h1; simp at h1
  walk_at "ws"
  refine mul_str (by decide) (by decide +kernel) (by decide +kernel) ?_
  walk_at "lit"
  refine add_tup (by rw [lm]; exact size100 (by simp; omega)) ?_
  walk_at "ws"
  refine mul_str (by decide) (by decide +kernel) (by decide +kernel) ?_
  walk_at "lit"
  refine add_tup (by rw [lm]; exact size100 (by simp; omega)) ?_
  walk_at "lit"
  refine add_tup (by rw [lm]; exact size100 (by simp; omega)) ?_
  walk_at "ws"
  refine mul_str (by decide) (by decide +kernel) (by decide +kernel) ?_
  walk_at "lit"
  refine ⟨a, k, rfl, hp, by omega, fun v S1 v2 v1 hp1 hb1 => ?_⟩
  walk_at "lit"
  walk_at "set"
  have hall : ∀ e ∈ [heapD h, .lst (h.map dS), .tup (h.map dS).reverse, .tup (h.map dS ++ [.str (Txt.mul (Str.ofString "zz") 15)]), .tup (h.map dS ++ [.str (Txt.mul (Str.ofString "zz") 16)]), .tup ([.str (Str.ofString "")] ++ h.map dS), .tup [.str (Txt.mul (Str.ofString "a") 31)], .tup [.str (Str.ofString "A")], v], sol2 e := by
    intro e he
    simp only [List.mem_cons, List.not_mem_nil, or_false] at he
    rcases he with rfl | rfl | rfl | rfl | rfl | rfl | rfl | rfl | rfl
    · exact hh.sol
    · trivial
    · exact fun x hx => hs x (List.mem_reverse.mp hx)
    · intro x hx
      rcases List.mem_append.mp hx with hx | hx
      · exact hs x hx
      · rw [List.mem_singleton.mp hx]; exact lit_str _ (by decide +kernel)
    · intro x hx
      rcases List.mem_append.mp hx with hx | hx
      · exact hs x hx
      · rw [List.mem_singleton.mp hx]; exact lit_str _ (by decide +kernel)
    · intro x hx
      rcases List.mem_append.mp hx with hx | hx
      · rw [List.mem_singleton.mp hx]; exact lit_str _ (by decide +kernel)
      · exact hs x hx
    · intro x hx
      rw [List.mem_singleton.mp hx]; exact lit_str _ (by decide +kernel)
    · intro x hx
      rw [List.mem_singleton.mp hx]; exact lit_str _ (by decide +kernel)
    · exact v2
  have hlv : [heapD h, .lst (h.map dS), .tup (h.map dS).reverse, .tup (h.map dS ++ [.str (Txt.mul (Str.ofString "zz") 15)]), .tup (h.map dS ++ [.str (Txt.mul (Str.ofString "zz") 16)]), .tup ([.str (Str.ofString "")] ++ h.map dS), .tup [.str (Txt.mul (Str.ofString "a") 31)], .tup [.str (Str.ofString "A")], v].length = 9 := rfl
  generalize [heapD h, .lst (h.map dS), .tup (h.map dS).reverse, .tup (h.map dS ++ [.str (Txt.mul (Str.ofString "zz") 15)]), .tup (h.map dS ++ [.str (Txt.mul (Str.ofString "zz") 16)]), .tup ([.str (Str.ofString "")] ++ h.map dS), .tup [.str (Txt.mul (Str.ofString "a") 31)], .tup [.str (Str.ofString "A")], v] = vals at *
  refine ws_for (wi_seq ?_)
  walk_at "w"
  walk_at "w"
  have l6 : (rngD 0 6).length = 6 := rfl
  refine we_lc (gloc_name (by simp)) (wi_rng1 ?_)
  walk_at "ws"
  refine ⟨by decide, by decide, by show 6 ≤ sizeLine; decide, fun i acc S2 => (∀ e ∈ acc, sol2 e) ∧ Pot S2 a (k + 4 + 20 * i) ∧ But a S1 S2, ⟨by simp, hp1, But.refl _ _⟩, fun _ _ _ _ => trivial, fun i d acc S2 hd ⟨e1, e2, e3⟩ => ?_, fun acc S2 hl ⟨e1, e2, e3⟩ => ?_⟩
  · have hin : i < 6 := by rw [← l6]; exact (List.getElem?_eq_some_iff.mp hd).1
    walk_at "w"
    refine wt_yes (ifT rfl ?_)
    walk_at "ws"
    refine ⟨a, h, k + 4 + 20 * i, rfl, hh, e2, by omega, fun w S3 w2 hp3 hb3 => ?_⟩
    refine ⟨fun e he => ?_, hp3.more (by omega), e3.trans hb3⟩
    rcases List.mem_append.mp he with he | he
    · exact e1 e he
    · rw [List.mem_singleton.mp he]; exact w2
  · replace hl : acc.length ≤ 6 := hl
    refine add_lst lstT_lst lstT_lst (by rw [hlv]; exact size100 (by omega)) ?_
    have hall2 : ∀ e ∈ vals ++ acc, sol2 e := fun e he => by
      rcases List.mem_append.mp he with he | he
      · exact hall e he
      · exact e1 e he
    refine ⟨_, _, ⟨rfl, rfl⟩, fun i Γ S' => (∃ y19 y20, Γ = [some (.ptr a), some (heapD h), x2, x3, x4, x5, x6, x7, x8, x9, x10, x11, x12, x13, x14, x15, x16, x17, x18, y19, y20, x21, x22, x23]) ∧ S' = S2, ⟨⟨_, _, rfl⟩, rfl⟩, fun _ _ _ _ => trivial, ?_, ?_⟩
    · rintro i d Γ S' hd ⟨⟨y19, y20, rfl⟩, rfl⟩
      have hd2 := hall2 d (List.mem_of_getElem? hd)
      walk_at "w"
      walk_at "set"
      walk_at "ws"
      refine ⟨d, rfl, hd2, ?_⟩
      walk_at "ws"
      refine repr_gd (gd_bl _) (by decide) (by decide) ?_
      walk_at "ws"
      refine ⟨d, rfl, hd2, ?_⟩
      walk_at "ws"
      refine repr_gd (gd_bl _) (by decide) (by decide) ?_
      rw [heap_same]
      refine DL.ne_str ⟨_, rfl, ifF (by simp) ?_⟩
      walk_at "ws"
      exact ⟨⟨_, _, rfl⟩, rfl⟩
    · rintro Γ S' ⟨⟨y19, y20, rfl⟩, rfl⟩
      walk_at "ws"
      exact p S' (e2.more (by have : (rngD 0 (Int.toNat 6)).length = 6 := rfl; omega)) (hb1.trans e3)
end
end K60
namespace K60
open PySem L2 DL
local macro_rules | `(tactic| walk_at "w") => `(tactic| first
  | with_reducible refine ws_seq ?_
  | with_reducible refine ws_asg ?_
  | with_reducible refine ws_ret ?_
  | with_reducible refine ws_if ?_
  | with_reducible refine ws_drop ?_
  | with_reducible refine ws_next ?_
  | with_reducible refine wg_name ?_
  | with_reducible refine wg_tup (by with_unfolding_all rfl) ?_
  | with_reducible refine wgs_cons ?_
  | with_reducible refine wgs_nil ?_
  | with_reducible refine we_var (by with_unfolding_all rfl) ?_
  | with_reducible refine we_int ?_
  | with_reducible refine we_str ?_
  | with_reducible refine we_bl ?_
  | with_reducible refine we_non ?_
  | with_reducible refine we_raw ?_
  | with_reducible refine we_op ?_
  | with_reducible refine we_un ?_
  | with_reducible refine we_if ?_
  | with_reducible refine we_tup ?_
  | with_reducible refine we_CB ?_
  | with_reducible refine we_call ?_
  | with_reducible refine we_M1 ?_
  | with_reducible refine we_BM ?_
  | with_reducible refine we_sl ?_
  | with_reducible refine we_and ?_
  | with_reducible refine we_or ?_
  | with_reducible refine we_chain ?_
  | with_reducible refine we_notT ?_
  | with_reducible refine we_din ?_
  | with_reducible refine we_dget ?_
  | with_reducible refine wa_nil ?_
  | with_reducible refine wa_cons ?_
  | with_reducible refine wt_test ?_
  | with_reducible refine wt_trub ?_
  | with_reducible refine wt_and ?_
  | with_reducible refine wt_or ?_
  | with_reducible refine wt_not ?_
  | with_reducible refine wt_B ?_
  | with_reducible refine wo_none ?_
  | with_reducible refine wo_some ?_
  | with_reducible refine add_int ?_
  | with_reducible refine sub_int ?_
  | with_reducible refine lt_int ?_
  | with_reducible refine lt_str ?_
  | with_reducible refine le_int ?_
  | with_reducible refine gt_int ?_
  | with_reducible refine ge_int ?_
  | with_reducible refine eq_int ?_
  | with_reducible refine DL.eq_str ?_
  | with_reducible refine DL.ne_str ?_
  | with_reducible refine ne_int ?_
  | with_reducible refine int_int ?_
  | with_reducible refine int_bl ?_
  | with_reducible refine min_two ?_
  | with_reducible refine max_two ?_
  | with_reducible refine abs_int ?_
  | with_reducible refine endswith_str ?_
  | with_reducible refine in_str ?_
  | with_reducible refine notin_str ?_
  | with_reducible refine len_seq seqD_tup ?_
  | with_reducible refine len_seq seqD_lst ?_
  | with_reducible refine len_seq seqD_rol ?_
  | (with_reducible refine Exists.intro _ (And.intro rfl ?_)))
local macro_rules | `(tactic| walk_at "ws") => `(tactic| repeat walk_at "w")
local macro_rules | `(tactic| walk_at "set") => `(tactic| dsimp only [List.set_cons_succ, List.set_cons_zero, wipeD])
section
variable {K : PySem.W.Frag} {B : Hp} {S : Sto}
theorem g_monge {P : D → Sto → Prop} {a : Addr} {h : List Tx} {k : Nat} {x2 x3 x4 x5 x6 x7 x8 x9 x10 x11 x12 x13 x14 x15 x16 x17 x18 x19 x20 x21 x22 x23 : Option D} (hh : HeapOk h) (hp : Pot S a k) (hk : k + 310 < 10000)
    (p : ∀ S', Pot S' a (k + 204) → But a S S' → P (.bl true) S') :
    WS K B (T12 K) [some (.ptr a), some (heapD h), x2, x3, x4, x5, x6, x7, x8, x9, x10, x11, x12, x13, x14, x15, x16, x17, x18, x19, x20, x21, x22, x23] S (kF P) := by
  have h1 := hh.n1
  have h2 := hh.n2
  have lm : (h.map dS).length = h.length := List.length_map ..
  unfold T12 r12 T13 r13
  walk_at "w"
  walk_at "w"
  have l4 : (rngD 0 (Int.toNat 4)).length = 4 := rfl
  refine we_lc (gloc_name (by simp)) (wi_rng1 ?_)
  walk_at "ws"
  refine ⟨by decide, by decide, by show 4 ≤ sizeLine; decide, fun i acc S2 => ∃ rs : List Tx, acc = rs.map dS ∧ rs.length = i ∧ (∀ r ∈ rs, RowOk r) ∧ Pot S2 a (k + i) ∧ But a S S2, ⟨[], rfl, rfl, fun r hr => (by cases hr), hp, But.refl _ _⟩, fun _ _ _ _ => trivial, fun i d acc S2 hd ⟨rs, e1, e2, e3, e4, e5⟩ => ?_, fun acc S2 hl ⟨rs, e1, e2, e3, e4, e5⟩ => ?_⟩
  · have hin : i < 4 := by rw [← l4]; exact (List.getElem?_eq_some_iff.mp hd).1
    walk_at "w"
    refine wt_yes (ifT rfl ?_)
    walk_at "ws"
    refine list_seq seqD_tup ?_
    walk_at "ws"
    refine law_of1 (fun z => ?_) (by rw [lm]; omega) e4 (by omega) fun v hv S3 hp3 hb3 => ?_
    · rw [z] at lm; simp at lm; omega
    obtain ⟨r, hr, rfl⟩ := List.mem_map.mp hv
    refine ⟨rs ++ [r], by rw [e1, List.map_append]; rfl, by rw [List.length_append, e2]; rfl, fun x hx => ?_, hp3, e5.trans hb3⟩
    rcases List.mem_append.mp hx with hx | hx
    · exact e3 x hx
    · rw [List.mem_singleton.mp hx]; exact hh.row hr
  · rw [l4] at e2 e4
    subst e1
    match rs, e2 with
    | [ra, rb, rc, rd], _ =>
      have ka := e3 ra (by simp)
      have kb := e3 rb (by simp)
      have kc := e3 rc (by simp)
      have kd := e3 rd (by simp)
      refine wg_unl rfl ?_
      show WGs K B _ [dS ra, dS rb, dS rc, dS rd] _ _ _
      walk_at "w"
      walk_at "w"
      walk_at "w"
      walk_at "w"
      walk_at "w"
      walk_at "w"
      walk_at "w"
      walk_at "w"
      walk_at "w"
      walk_at "set"
      walk_at "w"
      have fin : WS K B (T14 K) [some (.ptr a), some (heapD h), x2, x3, x4, x5, x6, x7, x8, x9, x10, x11, x12, x13, x14, some (dS ra), some (dS rb), some (dS rc), some (dS rd), x19, x20, x21, x22, x23] S2 (kF P) :=
        g_values hh e4 (by omega) fun S' q b => p S' (q.more (by omega)) (e5.trans b)
      refine ws_ifP false ?_ (fun z => by cases z) (fun _ => ?_)
      · refine wt_andP (decide (ovl ra rd ≤ ovl ra rb) && decide (ovl rc rb ≤ ovl ra rb)) (decide (ovl ra rb + ovl rc rd < ovl ra rd + ovl rc rb)) ?_ (fun _ => ?_) ?_
        · walk_at "ws"
          refine ⟨ra, rb, rfl, ka, kb, ?_⟩
          walk_at "ws"
          refine ⟨ra, rd, rfl, ka, kd, ?_⟩
          walk_at "ws"
          refine ⟨rc, rb, rfl, kc, kb, ?_⟩
          walk_at "ws"
          refine ⟨?_, rfl⟩
          rw [← Bool.decide_and, Bool.eq_iff_iff, decide_eq_true_eq, decide_eq_true_eq]
          split <;> omega
        · walk_at "ws"
          refine ⟨ra, rb, rfl, ka, kb, ?_⟩
          walk_at "ws"
          refine ⟨rc, rd, rfl, kc, kd, ?_⟩
          walk_at "ws"
          refine ⟨ra, rd, rfl, ka, kd, ?_⟩
          walk_at "ws"
          refine ⟨rc, rb, rfl, kc, kb, ?_⟩
          walk_at "ws"
          refine ⟨?_, rfl⟩
          rw [Bool.eq_iff_iff, decide_eq_true_eq, decide_eq_true_eq]
          omega
        · refine ⟨?_, rfl⟩
          by_cases q1 : ovl ra rd ≤ ovl ra rb
          · by_cases q2 : ovl rc rb ≤ ovl ra rb
            · have := monge q1 q2
              simp
              omega
            · simp [q2]
          · simp [q1]
      · walk_at "w"
        exact fin
end
end K60
namespace K60
open PySem L2 DL
local macro_rules | `(tactic| walk_at "w") => `(tactic| first
  | with_reducible refine ws_seq ?_
  | with_reducible refine ws_asg ?_
  | with_reducible refine ws_ret ?_
  | with_reducible refine ws_if ?_
  | with_reducible refine ws_drop ?_
  | with_reducible refine ws_next ?_
  | with_reducible refine wg_name ?_
  | with_reducible refine wg_tup (by with_unfolding_all rfl) ?_
  | with_reducible refine wgs_cons ?_
  | with_reducible refine wgs_nil ?_
  | with_reducible refine we_var (by with_unfolding_all rfl) ?_
  | with_reducible refine we_int ?_
  | with_reducible refine we_str ?_
  | with_reducible refine we_bl ?_
  | with_reducible refine we_non ?_
  | with_reducible refine we_raw ?_
  | with_reducible refine we_op ?_
  | with_reducible refine we_un ?_
  | with_reducible refine we_if ?_
  | with_reducible refine we_tup ?_
  | with_reducible refine we_CB ?_
  | with_reducible refine we_call ?_
  | with_reducible refine we_M1 ?_
  | with_reducible refine we_BM ?_
  | with_reducible refine we_sl ?_
  | with_reducible refine we_and ?_
  | with_reducible refine we_or ?_
  | with_reducible refine we_chain ?_
  | with_reducible refine we_notT ?_
  | with_reducible refine we_din ?_
  | with_reducible refine we_dget ?_
  | with_reducible refine wa_nil ?_
  | with_reducible refine wa_cons ?_
  | with_reducible refine wt_test ?_
  | with_reducible refine wt_trub ?_
  | with_reducible refine wt_and ?_
  | with_reducible refine wt_or ?_
  | with_reducible refine wt_not ?_
  | with_reducible refine wt_B ?_
  | with_reducible refine wo_none ?_
  | with_reducible refine wo_some ?_
  | with_reducible refine add_int ?_
  | with_reducible refine sub_int ?_
  | with_reducible refine lt_int ?_
  | with_reducible refine lt_str ?_
  | with_reducible refine le_int ?_
  | with_reducible refine gt_int ?_
  | with_reducible refine ge_int ?_
  | with_reducible refine eq_int ?_
  | with_reducible refine DL.eq_str ?_
  | with_reducible refine DL.ne_str ?_
  | with_reducible refine ne_int ?_
  | with_reducible refine int_int ?_
  | with_reducible refine int_bl ?_
  | with_reducible refine min_two ?_
  | with_reducible refine max_two ?_
  | with_reducible refine abs_int ?_
  | with_reducible refine endswith_str ?_
  | with_reducible refine in_str ?_
  | with_reducible refine notin_str ?_
  | with_reducible refine len_seq seqD_tup ?_
  | with_reducible refine len_seq seqD_lst ?_
  | with_reducible refine len_seq seqD_rol ?_
  | (with_reducible refine Exists.intro _ (And.intro rfl ?_)))
local macro_rules | `(tactic| walk_at "ws") => `(tactic| repeat walk_at "w")
local macro_rules | `(tactic| walk_at "set") => `(tactic| dsimp only [List.set_cons_succ, List.set_cons_zero, wipeD])
section
variable {K : PySem.W.Frag} {B : Hp} {S : Sto}
theorem rng0 (n : Nat) : rngD 0 n = (List.range n).map dN := by
  unfold rngD
  exact List.map_congr_left fun x _ => by simp
theorem saved_sum (rs : List Tx) : ((rs.zip rs.tail).map fun p => (ovl p.1 p.2 : Int)).sum = (savedL rs : Int) := by
  unfold savedL
  generalize rs.zip rs.tail = l
  induction l with | nil => rfl | cons x l ih => simp only [List.map_cons, List.sum_cons]; rw [ih]; simp
theorem len_sum (rs : List Tx) : (rs.map fun r => (r.length : Int)).sum = ((rs.map List.length).sum : Int) := by
  induction rs with | nil => rfl | cons x l ih => simp only [List.map_cons, List.sum_cons]; rw [ih]; simp
theorem laid_le {rs : List Tx} (h : rs.length ≤ 12) (hr : ∀ r ∈ rs, RowOk r) : (laidL rs).length ≤ 400 := by
  cases rs with
  | nil => simp [laidL]
  | cons r ts =>
    have h1 := lay_len2 ts r r
    have h2 : ∀ l : List Tx, (∀ r ∈ l, RowOk r) → (l.map List.length).sum ≤ 30 * l.length := by
      intro l
      induction l with
      | nil => intro _; simp
      | cons x l ih =>
        intro g
        have a1 := ih fun r hr => g r (List.mem_cons_of_mem _ hr)
        have a2 := (g x List.mem_cons_self).most
        simp only [List.map_cons, List.sum_cons, List.length_cons]
        omega
    have h3 := h2 ts fun r hr' => hr r (List.mem_cons_of_mem _ hr')
    have h4 := (hr r List.mem_cons_self).most
    simp at h
    show (List.foldl lay1 r _).length ≤ 400
    omega
theorem g_order {P : D → Sto → Prop} {a : Addr} {h : List Tx} {k : Nat} {x2 x3 x4 x5 x6 x7 x8 x9 x10 x11 x12 x13 x14 x15 x16 x17 x18 x19 x20 x21 x22 x23 : Option D} (hh : HeapOk h) (hp : Pot S a k) (hk : k + 400 < 10000)
    (p : ∀ S', Pot S' a (k + 240) → But a S S' → P (.bl true) S') :
    WS K B (T8 K) [some (.ptr a), some (heapD h), x2, x3, x4, x5, x6, x7, x8, x9, x10, x11, x12, x13, x14, x15, x16, x17, x18, x19, x20, x21, x22, x23] S (kF P) := by
  have h1 := hh.n1
  have h2 := hh.n2
  have lm : (h.map dS).length = h.length := List.length_map ..
  unfold T8 r8 T9 r9 T10 r10 T11 r11
  walk_at "w"
  walk_at "w"
  walk_at "w"
  walk_at "w"
  walk_at "w"
  walk_at "w"
  walk_at "w"
  walk_at "w"
  refine we_lrg1 ?_
  walk_at "ws"
  rw [lm]
  refine ⟨by omega, by omega, ?_⟩
  rw [Int.toNat_natCast, rng0]
  walk_at "ws"
  rw [lm]
  refine law_take1 (by omega) (by omega) hp (by omega) fun j S1 hj hp1 hb1 => ?_
  walk_at "ws"
  refine ⟨a, List.range h.length, 1 + j, k + 1, by rw [show ((1 : Int) + (j : Int)) = ((1 + j : Nat) : Int) by omega], by rw [List.length_range]; omega, by rw [List.length_range]; omega, List.nodup_range, hp1, by omega, fun o S2 o1 o2 o3 hp2 hb2 => ?_⟩
  have ho : OrdOk h o := ⟨fun z => (by rw [z] at o1; simp at o1; omega), fun i hi => List.mem_range.mp (o3 i hi), o2⟩
  have ol := ord_len hh ho
  have pl := pick_len h o
  have pr := pick_row hh ho
  have pne : pick h o ≠ [] := fun z => ho.ne (by unfold pick at z; simpa using z)
  walk_at "ws"
  refine tuple_lst lstD_lst ?_
  walk_at "w"
  walk_at "set"
  walk_at "ws"
  refine we_lcM o dN (fun i => dS (h.getD i [])) (gloc_name (by simp)) (wi_seq ?_)
  walk_at "w"
  refine ⟨_, _, ⟨rfl, rfl⟩, rfl, size100 (by omega), trivial, fun i hi => ?_, ?_⟩
  · walk_at "w"
    walk_at "set"
    refine ⟨rfl, ?_⟩
    walk_at "ws"
    exact ix_heap (ho.lt i hi) ⟨rfl, rfl⟩
  rw [show (o.map fun i => dS (h.getD i [])) = (pick h o).map dS by unfold pick; rw [List.map_map]; rfl]
  walk_at "w"
  walk_at "set"
  walk_at "ws"
  refine ⟨h, o, rfl, hh, ho, ?_⟩
  walk_at "ws"
  refine we_lcM ((pick h o).zip (pick h o).tail) (fun p => .tup [dS p.1, dS p.2]) (fun p => dN (ovl p.1 p.2)) gloc2 (wi_zip ?_)
  walk_at "ws"
  refine sl_lst lstD_lst ?_
  walk_at "ws"
  refine ⟨_, _, _, _, rfl, .inl ⟨rfl, rfl⟩, ?_, ?_, trivial, fun q hq => ?_, ?_⟩
  · rw [cut_map, cut_tail, zipM]
  · exact size100 (by simp; omega)
  · have hm := List.of_mem_zip hq
    walk_at "ws"
    walk_at "set"
    refine ⟨rfl, ?_⟩
    walk_at "ws"
    exact ⟨q.1, q.2, rfl, pr _ hm.1, pr _ (List.mem_of_mem_tail hm.2), rfl, rfl⟩
  walk_at "ws"
  refine sum_ints (ns := ((pick h o).zip (pick h o).tail).map fun p => (ovl p.1 p.2 : Int)) (by rw [List.map_map]; exact lstD_lst) ?_
  rw [saved_sum]
  have ll := laid_le (by omega : (pick h o).length ≤ 12) pr
  have lsz : (mk (laidL (pick h o))).length ≤ sizeLine := by rw [mk_length]; exact size100 (by omega)
  have sv : savedL (pick h o) ≤ 400 := by
    have e1 := laid_len (pick h o) pne
    have e2 : ((pick h o).map List.length).sum ≤ 30 * (pick h o).length := by
      generalize pick h o = l at *
      clear e1 ll lsz pne pl ho ol o1 o2 o3
      induction l with
      | nil => simp
      | cons x l ih =>
        have a1 := ih fun r hr => pr r (List.mem_cons_of_mem _ hr)
        have a2 := (pr x List.mem_cons_self).most
        simp only [List.map_cons, List.sum_cons, List.length_cons]
        omega
    omega
  have fin : ∀ y4 y6 : Option D, WS K B (T12 K) [some (.ptr a), some (heapD h), x2, x3, x4, x5, x6, x7, x8, x9, x10, some (.lst ((pick h o).map dS)), some (.tup (o.map dN)), some (dS (laidL (pick h o))), some (dN (savedL (pick h o))), x15, x16, x17, x18, x19, x20, x21, x22, x23] S2 (kF P) := fun _ _ =>
    g_monge hh hp2 (by omega) fun S' q b => p S' (q.more (by omega)) ((hb1.trans hb2).trans b)
  generalize hR : pick h o = rs at *
  walk_at "ws"
  refine ⟨by show 2 ≤ sizeLine; decide, ?_⟩
  walk_at "w"
  walk_at "w"
  walk_at "w"
  walk_at "w"
  walk_at "w"
  walk_at "set"
  walk_at "w"
  refine ws_ifP false ?_ (fun z => by cases z) (fun _ => ?_)
  · refine wt_orP false false ?_ (fun _ => wt_orP false false ?_ (fun _ => wt_orP false false ?_ (fun _ => ?_) ⟨rfl, rfl⟩) ⟨rfl, rfl⟩) ⟨rfl, rfl⟩
    · walk_at "ws"
      refine ⟨rs, rfl, pne, by omega, pr, ?_⟩
      walk_at "ws"
      exact ⟨by simp, rfl⟩
    · walk_at "ws"
      refine ⟨h, o, rfl, hh, ho, ?_⟩
      rw [hR]
      walk_at "ws"
      refine repr_gd (gd_nat (by omega)) (by decide) (by decide) ?_
      walk_at "ws"
      refine repr_gd (gd_nat (by omega)) (by decide) (by decide) ?_
      refine DL.ne_str ⟨_, rfl, by simp, rfl⟩
    · walk_at "ws"
      refine len_str lsz ?_
      walk_at "ws"
      refine we_lcM rs dS (fun r => dN r.length) (gloc_name (by simp)) (wi_seq ?_)
      walk_at "w"
      refine ⟨_, _, ⟨rfl, rfl⟩, rfl, size100 (by omega), trivial, fun r hr => ?_, ?_⟩
      · walk_at "w"
        walk_at "set"
        refine ⟨rfl, ?_⟩
        walk_at "ws"
        refine len_str (by rw [mk_length]; have := (pr r hr).most; exact size100 (by omega)) ?_
        rw [mk_length]
        exact ⟨rfl, rfl⟩
      · walk_at "ws"
        refine sum_ints (ns := rs.map fun r => (r.length : Int)) (by rw [List.map_map]; exact lstD_lst) ?_
        walk_at "ws"
        rw [len_sum, mk_length]
        refine ⟨?_, rfl⟩
        have e1 := laid_len rs pne
        rw [Bool.eq_iff_iff]
        simp
        omega
    · walk_at "w"
      walk_at "w"
      walk_at "w"
      walk_at "w"
      refine we_lcM rs dS (fun r => .bl (occ r (laidL rs))) (gloc_name (by simp)) (wi_seq ?_)
      walk_at "w"
      refine ⟨_, _, ⟨rfl, rfl⟩, rfl, size100 (by omega), trivial, fun r hr => ?_, ?_⟩
      · walk_at "w"
        walk_at "set"
        refine ⟨rfl, ?_⟩
        walk_at "ws"
        exact ⟨rfl, rfl⟩
      · walk_at "ws"
        refine all_map ?_
        walk_at "ws"
        refine ⟨?_, rfl⟩
        have : rs.all (fun r => occ r (laidL rs)) = true := List.all_eq_true.mpr fun r hr => (occurs_iff r (laidL rs)).mpr (laid_all hr)
        rw [this]; rfl
  · skip
    exact fin none none
end
end K60
namespace K60
open PySem L2 DL
local macro_rules | `(tactic| walk_at "w") => `(tactic| first
  | with_reducible refine ws_seq ?_
  | with_reducible refine ws_asg ?_
  | with_reducible refine ws_ret ?_
  | with_reducible refine ws_if ?_
  | with_reducible refine ws_drop ?_
  | with_reducible refine ws_next ?_
  | with_reducible refine wg_name ?_
  | with_reducible refine wg_tup (by with_unfolding_all rfl) ?_
  | with_reducible refine wgs_cons ?_
  | with_reducible refine wgs_nil ?_
  | with_reducible refine we_var (by with_unfolding_all rfl) ?_
  | with_reducible refine we_int ?_
  | with_reducible refine we_str ?_
  | with_reducible refine we_bl ?_
  | with_reducible refine we_non ?_
  | with_reducible refine we_raw ?_
  | with_reducible refine we_op ?_
  | with_reducible refine we_un ?_
  | with_reducible refine we_if ?_
  | with_reducible refine we_tup ?_
  | with_reducible refine we_CB ?_
  | with_reducible refine we_call ?_
  | with_reducible refine we_M1 ?_
  | with_reducible refine we_BM ?_
  | with_reducible refine we_sl ?_
  | with_reducible refine we_and ?_
  | with_reducible refine we_or ?_
  | with_reducible refine we_chain ?_
  | with_reducible refine we_notT ?_
  | with_reducible refine we_din ?_
  | with_reducible refine we_dget ?_
  | with_reducible refine wa_nil ?_
  | with_reducible refine wa_cons ?_
  | with_reducible refine wt_test ?_
  | with_reducible refine wt_trub ?_
  | with_reducible refine wt_and ?_
  | with_reducible refine wt_or ?_
  | with_reducible refine wt_not ?_
  | with_reducible refine wt_B ?_
  | with_reducible refine wo_none ?_
  | with_reducible refine wo_some ?_
  | with_reducible refine add_int ?_
  | with_reducible refine sub_int ?_
  | with_reducible refine lt_int ?_
  | with_reducible refine lt_str ?_
  | with_reducible refine le_int ?_
  | with_reducible refine gt_int ?_
  | with_reducible refine ge_int ?_
  | with_reducible refine eq_int ?_
  | with_reducible refine DL.eq_str ?_
  | with_reducible refine DL.ne_str ?_
  | with_reducible refine ne_int ?_
  | with_reducible refine int_int ?_
  | with_reducible refine int_bl ?_
  | with_reducible refine min_two ?_
  | with_reducible refine max_two ?_
  | with_reducible refine abs_int ?_
  | with_reducible refine endswith_str ?_
  | with_reducible refine in_str ?_
  | with_reducible refine notin_str ?_
  | with_reducible refine len_seq seqD_tup ?_
  | with_reducible refine len_seq seqD_lst ?_
  | with_reducible refine len_seq seqD_rol ?_
  | (with_reducible refine Exists.intro _ (And.intro rfl ?_)))
local macro_rules | `(tactic| walk_at "ws") => `(tactic| repeat walk_at "w")
local macro_rules | `(tactic| walk_at "set") => `(tactic| dsimp only [List.set_cons_succ, List.set_cons_zero, wipeD])
section
variable {K : PySem.W.Frag} {B : Hp} {S : Sto}
theorem gd_arcs (l : List Arc) (hl : l.length ≤ 144) (hb : ∀ p ∈ l, p.1 < 1000 ∧ p.2.1 < 1000 ∧ p.2.2 < 1000) : GD 2 30000 (.tup (l.map arcD)) := by
  have := GDs.of (n := 1) (w := 160) (l := l.map arcD) fun d hd => by
    obtain ⟨p, hp, rfl⟩ := List.mem_map.mp hd
    obtain ⟨b1, b2, b3⟩ := hb p hp
    have g : GDs 0 153 [dN p.1, dN p.2.1, dN p.2.2] := GDs.cons (w' := 102) (gd_nat (by omega)) (GDs.cons (w' := 51) (gd_nat (by omega)) (GDs.cons (w' := 0) (gd_nat (by omega)) GDs.nil))
    exact g.tup.more (by omega) (by omega)
  rw [List.length_map] at this
  exact (this.more (Nat.le_refl _) (by omega)).tup
theorem web_small {h : List Tx} (hh : HeapOk h) : ∀ p ∈ webL h, p.1 < 1000 ∧ p.2.1 < 1000 ∧ p.2.2 < 1000 := by
  intro p hp
  unfold webL webRow at hp
  obtain ⟨x, hx, hp⟩ := List.mem_flatMap.mp hp
  obtain ⟨y, hy, hp⟩ := List.mem_flatMap.mp hp
  split at hp
  · rw [List.mem_singleton.mp hp]
    obtain ⟨i, hi⟩ := List.mem_iff_getElem?.mp hx
    obtain ⟨j, hj⟩ := List.mem_iff_getElem?.mp hy
    obtain ⟨h1, h2⟩ := zip_row hi
    obtain ⟨h3, h4⟩ := zip_row hj
    have l1 := (List.getElem?_eq_some_iff.mp h1).1
    have l2 := (List.getElem?_eq_some_iff.mp h3).1
    have l3 := hh.n2
    have l4 := ovl_le x.1 y.1
    have l5 := (hh.row (List.mem_of_getElem? h3)).most
    show x.2 < 1000 ∧ y.2 < 1000 ∧ ovl x.1 y.1 < 1000
    omega
  · cases hp
theorem need_same (h : List Tx) (kn : Kn) (p : Arc) :
    (((List.range h.length).filter fun i => (valN kn (K2 p.1 i)).isSome && (valN kn (K2 i p.2.1)).isSome).any fun i => needAt kn p (h.getD i [], i)) = isNeed h kn p := by
  rw [Bool.eq_iff_iff, List.any_eq_true]
  show _ ↔ h.zipIdx.any (needAt kn p) = true
  rw [List.any_eq_true]
  constructor
  · rintro ⟨i, hi, h2⟩
    have hi' := List.mem_range.mp (List.mem_filter.mp hi).1
    refine ⟨(h.getD i [], i), ?_, h2⟩
    rw [show h.getD i [] = h[i] by simp [List.getD, hi']]
    exact List.mem_of_getElem? (i := i) (by rw [List.getElem?_zipIdx]; simp [hi'])
  · rintro ⟨q, hq, h2⟩
    obtain ⟨j, hj⟩ := List.mem_iff_getElem?.mp hq
    obtain ⟨e1, e2⟩ := zip_row hj
    have l1 := (List.getElem?_eq_some_iff.mp e1).1
    have e3 : h.getD j [] = q.1 := by simp [List.getD, e1]
    obtain ⟨q1, q2⟩ := q
    subst e2
    refine ⟨q2, List.mem_filter.mpr ⟨List.mem_range.mpr l1, ?_⟩, by rw [e3]; exact h2⟩
    unfold needAt at h2
    cases e4 : valN kn (K2 p.1 q2) with
    | none => rw [e4] at h2; cases h2
    | some x =>
      cases e5 : valN kn (K2 q2 p.2.1) with
      | none => rw [e4, e5] at h2; cases h2
      | some y => rfl
theorem filter_next {α : Type} (f : α → Bool) {l : List α} {i : Nat} {x : α} (h : l[i]? = some x) : (l.take (i + 1)).filter f = (l.take i).filter f ++ if f x = true then [x] else [] := by
  rw [take_next h, List.filter_append]
  congr 1
  by_cases e : f x = true
  · rw [if_pos e, List.filter_cons_of_pos e, List.filter_nil]
  · rw [if_neg e, List.filter_cons_of_neg e, List.filter_nil]
theorem g_need {P : D → Sto → Prop} {a w : Addr} {S0 : Sto} {h : List Tx} {k : Nat} {x3 x4 x5 x6 x7 x8 x9 x10 x11 x12 x13 x14 x15 x16 x17 x18 x19 x20 x21 x22 x23 : Option D} (hh : HeapOk h)
    (hw : S w = some (.lst ((webL h).map arcD))) (hsub : ∀ b o, S0 b = some o → S b = some o) (hp : Pot S0 a k) (hk : k + 400 < 10000)
    (p : ∀ S', Pot S' a (k + 240) → But a S0 S' → P (.bl true) S') :
    WS K B (T5 K) [some (.ptr a), some (heapD h), some (.ptr w), x3, x4, x5, x6, x7, x8, x9, x10, x11, x12, x13, x14, x15, x16, x17, x18, x19, x20, x21, x22, x23] S (kF P) := by
  have h1 := hh.n1
  have h2 := hh.n2
  have wl := web_len hh
  have lm : (h.map dS).length = h.length := List.length_map ..
  have two : 2 ≤ sizeLine := by decide
  unfold T5 r5 T6 r6 T7 r7
  walk_at "w"
  walk_at "w"
  walk_at "w"
  walk_at "w"
  walk_at "w"
  walk_at "w"
  refine we_lcM (webL h) arcD (fun p => .tup [.tup ((K2 p.1 p.2.1).map keyD), dN p.2.2]) gloc3 (wi_seq ?_)
  walk_at "w"
  refine ⟨_, _, ⟨hw, rfl⟩, rfl, size100 (by omega), hw, fun p _ => ?_, ?_⟩
  · walk_at "ws"
    walk_at "set"
    refine ⟨rfl, ?_⟩
    walk_at "ws"
    refine ⟨two, ?_⟩
    walk_at "ws"
    exact ⟨two, rfl, rfl⟩
  walk_at "ws"
  have e : ((webL h).map fun p : Arc => D.tup [.tup ((K2 p.1 p.2.1).map keyD), dN p.2.2]) = ((webL h).map fun p : Arc => (K2 p.1 p.2.1, dN p.2.2)).map fun q : List Key × D => D.tup [.tup (q.1.map keyD), q.2] := by
    rw [List.map_map]; rfl
  rw [e]
  refine dict_pairs (by rw [List.length_map]; omega) fun d hd => ?_
  have e2 : ((webL h).map fun p : Arc => (K2 p.1 p.2.1, dN p.2.2)).foldl (fun acc p => putD acc p.1 p.2) [] = kvD dN (knOf (webL h)) := fold_kv dN (fun p : Arc => K2 p.1 p.2.1) (fun p : Arc => p.2.2) (webL h) []
  rw [e2]
  walk_at "w"
  refine we_lstM ?_
  walk_at "w"
  refine ⟨by decide, fun n hn => ?_⟩
  obtain ⟨hnd, hn0⟩ := none_ups hn
  have hwd : w ≠ d := fun z => by subst z; rw [hw] at hd; cases hd
  have hwn : w ≠ n := fun z => by subst z; rw [hw] at hn0; cases hn0
  walk_at "w"
  refine ⟨by show 2 ≤ sizeLine; decide, ?_⟩
  walk_at "w"
  walk_at "w"
  walk_at "w"
  walk_at "w"
  walk_at "w"
  walk_at "w"
  walk_at "set"
  generalize hS2 : ups (ups S d (.dT (kvD dN (knOf (webL h))))) n (.lst []) = S2
  have f1 : S2 w = some (.lst ((webL h).map arcD)) := by rw [← hS2, ups_ne hwn, ups_ne hwd]; exact hw
  have f2 : S2 d = some (.dT (kvD dN (knOf (webL h)))) := by rw [← hS2, ups_ne (Ne.symm hnd)]; exact ups_same
  have f3 : S2 n = some (.lst []) := by rw [← hS2]; exact ups_same
  have f4 : ∀ b o, S0 b = some o → b ≠ n ∧ S2 b = some o := fun b o hb => by
    have g := hsub b o hb
    have g1 : b ≠ d := fun z => by subst z; rw [hd] at g; cases g
    have g2 : b ≠ n := fun z => by subst z; rw [hn0] at g; cases g
    exact ⟨g2, by rw [← hS2, ups_ne g2, ups_ne g1]; exact g⟩
  clear hS2
  walk_at "w"
  refine ws_for (wi_seq ?_)
  walk_at "w"
  generalize hkn : knOf (webL h) = kn at *
  refine ⟨_, _, ⟨f1, rfl⟩, fun i Γ S' => (∃ y3 y5 y10 y11 y21, Γ = [some (.ptr a), some (heapD h), some (.ptr w), y3, x4, y5, x6, x7, some (.ptr d), some (.ptr n), y10, y11, x12, x13, x14, x15, x16, x17, x18, x19, x20, y21, x22, x23]) ∧ S' = ups S2 n (.lst ((((webL h).take i).filter (isNeed h kn)).map arcD)), ⟨⟨_, _, _, _, _, rfl⟩, ?_⟩, ?_, ?_, ?_⟩
  · funext b
    by_cases z : b = n
    · subst z; rw [ups_same, f3]; rfl
    · rw [ups_ne z]
  · rintro i Γ S' ⟨_, rfl⟩
    rw [ups_ne hwn]; exact f1
  · rintro i dd Γ S' hdd ⟨⟨y3, y5, y10, y11, y21, rfl⟩, rfl⟩
    obtain ⟨q, hq, rfl⟩ := map_get hdd
    have hst := filter_next (isNeed h kn) hq
    have hns := need_same h kn q
    obtain ⟨at_, to, size⟩ := q
    have ln : ((((webL h).take i).filter (isNeed h kn)).map arcD).length ≤ 144 := by
      rw [List.length_map]
      refine Nat.le_trans (List.length_filter_le _ _) ?_
      rw [List.length_take]; omega
    have g2 : ups S2 n (.lst ((((webL h).take i).filter (isNeed h kn)).map arcD)) d = some (.dT (kvD dN kn)) := by rw [ups_ne (Ne.symm hnd)]; exact f2
    have g3 : ups S2 n (.lst ((((webL h).take i).filter (isNeed h kn)).map arcD)) n = some (.lst ((((webL h).take i).filter (isNeed h kn)).map arcD)) := ups_same
    have upn : ∀ o, ups (ups S2 n (.lst ((((webL h).take i).filter (isNeed h kn)).map arcD))) n o = ups S2 n o := fun o => ups_ups
    generalize ups S2 n (.lst ((((webL h).take i).filter (isNeed h kn)).map arcD)) = S3 at *
    have key : ∀ i j : Nat, DictGet S3 d (.tup [dN i, dN j]) ((valN kn (K2 i j)).map dN) := fun i j => dget2 i j g2
    walk_at "w"
    walk_at "w"
    walk_at "w"
    walk_at "w"
    walk_at "w"
    walk_at "w"
    walk_at "w"
    walk_at "w"
    walk_at "set"
    walk_at "w"
    walk_at "w"
    refine we_lcP (List.range h.length) dN dN (fun i => (valN kn (K2 at_ i)).isSome && (valN kn (K2 i to)).isSome) (gloc_name (by simp)) (wi_rng1 ?_)
    walk_at "ws"
    rw [lm]
    refine ⟨by omega, by omega, by rw [Int.toNat_natCast, rng0], by rw [List.length_range]; exact size100 (by omega), trivial, fun j hj => ?_, ?_⟩
    · have hj' := List.mem_range.mp hj
      walk_at "w"
      walk_at "set"
      refine wt_andP _ _ ?_ (fun _ => ?_) ⟨rfl, rfl, fun _ => ?_⟩
      · walk_at "ws"
        refine ⟨two, ?_⟩
        walk_at "ws"
        exact ⟨d, _, rfl, key at_ j, _, rfl, by first | rfl | simp, rfl⟩
      · walk_at "ws"
        refine ⟨two, ?_⟩
        walk_at "ws"
        exact ⟨d, _, rfl, key j to, _, rfl, by first | rfl | simp, rfl⟩
      · walk_at "ws"
        exact ⟨rfl, rfl⟩
    walk_at "w"
    walk_at "set"
    have rl : ((List.range h.length).filter fun i => (valN kn (K2 at_ i)).isSome && (valN kn (K2 i to)).isSome).length ≤ 12 := by
      refine Nat.le_trans (List.length_filter_le _ _) ?_
      rw [List.length_range]; exact h2
    have rm : ∀ i ∈ (List.range h.length).filter fun i => (valN kn (K2 at_ i)).isSome && (valN kn (K2 i to)).isSome, i < h.length ∧ (∃ x, valN kn (K2 at_ i) = some x) ∧ ∃ y, valN kn (K2 i to) = some y := by
      intro i hi
      obtain ⟨r1, r2⟩ := List.mem_filter.mp hi
      rw [Bool.and_eq_true] at r2
      exact ⟨List.mem_range.mp r1, Option.isSome_iff_exists.mp r2.1, Option.isSome_iff_exists.mp r2.2⟩
    show WS K B _ [_, _, _, _, _, _, _, _, _, _, _, some (.lst (((List.range h.length).filter fun i => (valN kn (K2 at_ i)).isSome && (valN kn (K2 i to)).isSome).map dN)), _, _, _, _, _, _, _, _, _, _, _, _] S3 _
    replace hns : (((List.range h.length).filter fun i => (valN kn (K2 at_ i)).isSome && (valN kn (K2 i to)).isSome).any fun i => needAt kn (at_, to, size) (h.getD i [], i)) = isNeed h kn (at_, to, size) := hns
    generalize ((List.range h.length).filter fun i => (valN kn (K2 at_ i)).isSome && (valN kn (K2 i to)).isSome) = rows at *
    walk_at "w"
    refine we_BM ?_
    walk_at "w"
    refine ⟨.inl ⟨rfl, _, g3⟩, ?_⟩
    walk_at "w"
    refine we_ifP (isNeed h kn (at_, to, size)) ?_ (fun en => ?_) fun en => ?_
    · walk_at "w"
      walk_at "w"
      walk_at "w"
      refine we_lcM rows dN (fun i => .bl (needAt kn (at_, to, size) (h.getD i [], i))) (gloc_name (by simp)) (wi_seq ?_)
      walk_at "w"
      refine ⟨_, _, ⟨rfl, rfl⟩, rfl, size100 (by omega), trivial, fun j hj => ?_, ?_⟩
      · obtain ⟨j1, ⟨x, hx⟩, ⟨y, hy⟩⟩ := rm j hj
        walk_at "w"
        walk_at "set"
        refine ⟨rfl, ?_⟩
        walk_at "ws"
        refine ⟨two, ?_⟩
        walk_at "ws"
        refine ⟨d, dN x, rfl, by have := key at_ j; rw [hx] at this; exact this, ?_⟩
        walk_at "ws"
        refine ⟨two, ?_⟩
        walk_at "ws"
        refine ⟨d, dN y, rfl, by have := key j to; rw [hy] at this; exact this, ?_⟩
        walk_at "ws"
        refine ix_heap j1 ?_
        walk_at "ws"
        refine len_str (by rw [mk_length]; have := (hh.row (by rw [show h.getD j [] = h[j] by simp [List.getD, j1]]; exact List.getElem_mem j1) : RowOk (h.getD j [])).most; exact size100 (by omega)) ?_
        walk_at "ws"
        rw [mk_length]
        refine ⟨?_, rfl⟩
        unfold needAt
        rw [hx, hy]
        congr 1
        rw [Bool.eq_iff_iff, decide_eq_true_eq, decide_eq_true_eq]
        dsimp only
        omega
      · walk_at "ws"
        refine any_map ?_
        rw [hns]
        walk_at "ws"
        exact ⟨rfl, rfl⟩
    · refine we_lst ?_
      walk_at "ws"
      refine ⟨by show 3 ≤ sizeLine; decide, ?_⟩
      walk_at "ws"
      refine ⟨by show 1 ≤ sizeLine; decide, ?_⟩
      walk_at "ws"
      refine ext_lst g3 lstT_lst (size100 (by show _ + 1 ≤ _; omega)) ⟨⟨_, _, _, _, _, rfl⟩, ?_⟩
      rw [upn, hst, if_pos en, List.map_append]
      rfl
    · refine we_lst ?_
      walk_at "ws"
      refine ⟨by show 0 ≤ sizeLine; decide, ?_⟩
      walk_at "ws"
      refine ext_lst g3 lstT_lst (size100 (by show _ + 0 ≤ _; omega)) ⟨⟨_, _, _, _, _, rfl⟩, ?_⟩
      rw [upn, hst, if_neg (by rw [en]; decide), List.append_nil, List.append_nil]
  · rintro Γ S' ⟨⟨y3, y5, y10, y11, y21, rfl⟩, rfl⟩
    rw [List.length_map, List.take_length]
    have en : (webL h).filter (isNeed h kn) = needL h := by unfold needL; rw [hkn]
    rw [en]
    have nl : (needL h).length ≤ 144 := Nat.le_trans (List.length_filter_le _ _) wl
    have gn : GD 2 30000 (.tup ((needL h).map arcD)) := gd_arcs _ nl fun p hp => web_small hh p (List.mem_filter.mp hp).1
    walk_at "w"
    refine ws_ifP false ?_ (fun z => by cases z) (fun _ => ?_)
    · walk_at "ws"
      refine ⟨h, rfl, hh, ?_⟩
      walk_at "ws"
      refine repr_gd gn (by decide) (by decide) ?_
      walk_at "ws"
      refine tuple_lst (lstD_ptr ups_same) ?_
      walk_at "ws"
      refine repr_gd gn (by decide) (by decide) ?_
      exact DL.ne_str ⟨_, rfl, by simp, rfl⟩
    · walk_at "w"
      refine ws_drops (S' := S0) (fun b o hb => ?_) ?_
      · obtain ⟨q1, q2⟩ := f4 b o hb
        rw [ups_ne q1]; exact q2
      · exact g_order hh hp hk p
end
end K60
namespace K60
open PySem L2 DL
local macro_rules | `(tactic| walk_at "w") => `(tactic| first
  | with_reducible refine ws_seq ?_
  | with_reducible refine ws_asg ?_
  | with_reducible refine ws_ret ?_
  | with_reducible refine ws_if ?_
  | with_reducible refine ws_drop ?_
  | with_reducible refine ws_next ?_
  | with_reducible refine wg_name ?_
  | with_reducible refine wg_tup (by with_unfolding_all rfl) ?_
  | with_reducible refine wgs_cons ?_
  | with_reducible refine wgs_nil ?_
  | with_reducible refine we_var (by with_unfolding_all rfl) ?_
  | with_reducible refine we_int ?_
  | with_reducible refine we_str ?_
  | with_reducible refine we_bl ?_
  | with_reducible refine we_non ?_
  | with_reducible refine we_raw ?_
  | with_reducible refine we_op ?_
  | with_reducible refine we_un ?_
  | with_reducible refine we_if ?_
  | with_reducible refine we_tup ?_
  | with_reducible refine we_CB ?_
  | with_reducible refine we_call ?_
  | with_reducible refine we_M1 ?_
  | with_reducible refine we_BM ?_
  | with_reducible refine we_sl ?_
  | with_reducible refine we_and ?_
  | with_reducible refine we_or ?_
  | with_reducible refine we_chain ?_
  | with_reducible refine we_notT ?_
  | with_reducible refine we_din ?_
  | with_reducible refine we_dget ?_
  | with_reducible refine wa_nil ?_
  | with_reducible refine wa_cons ?_
  | with_reducible refine wt_test ?_
  | with_reducible refine wt_trub ?_
  | with_reducible refine wt_and ?_
  | with_reducible refine wt_or ?_
  | with_reducible refine wt_not ?_
  | with_reducible refine wt_B ?_
  | with_reducible refine wo_none ?_
  | with_reducible refine wo_some ?_
  | with_reducible refine add_int ?_
  | with_reducible refine sub_int ?_
  | with_reducible refine lt_int ?_
  | with_reducible refine lt_str ?_
  | with_reducible refine le_int ?_
  | with_reducible refine gt_int ?_
  | with_reducible refine ge_int ?_
  | with_reducible refine eq_int ?_
  | with_reducible refine DL.eq_str ?_
  | with_reducible refine DL.ne_str ?_
  | with_reducible refine ne_int ?_
  | with_reducible refine int_int ?_
  | with_reducible refine int_bl ?_
  | with_reducible refine min_two ?_
  | with_reducible refine max_two ?_
  | with_reducible refine abs_int ?_
  | with_reducible refine endswith_str ?_
  | with_reducible refine in_str ?_
  | with_reducible refine notin_str ?_
  | with_reducible refine len_seq seqD_tup ?_
  | with_reducible refine len_seq seqD_lst ?_
  | with_reducible refine len_seq seqD_rol ?_
  | (with_reducible refine Exists.intro _ (And.intro rfl ?_)))
local macro_rules | `(tactic| walk_at "ws") => `(tactic| repeat walk_at "w")
local macro_rules | `(tactic| walk_at "set") => `(tactic| dsimp only [List.set_cons_succ, List.set_cons_zero, wipeD])
section
variable {K : PySem.W.Frag} {B : Hp} {S : Sto}
theorem atI_last {α : Type} (xs : List α) : atI xs (-1) = xs.getLast? := by
  rw [List.getLast?_eq_getElem?]
  unfold atI ixN
  rw [if_neg (by omega)]
  by_cases h : xs.length = 0
  · have : xs = [] := List.length_eq_zero_iff.mp h
    subst this; rfl
  · rw [if_pos (by omega)]
    show xs[_]? = _
    congr 1
    omega
theorem g_web {P : D → Sto → Prop} {a : Addr} {h : List Tx} {k : Nat} {x2 x3 x4 x5 x6 x7 x8 x9 x10 x11 x12 x13 x14 x15 x16 x17 x18 x19 x20 x21 x22 x23 : Option D} (hh : HeapOk h) (hp : Pot S a k) (hk : k + 400 < 10000)
    (p : ∀ S', Pot S' a (k + 240) → But a S S' → P (.bl true) S') :
    WS K B (T2 K) [some (.ptr a), some (heapD h), x2, x3, x4, x5, x6, x7, x8, x9, x10, x11, x12, x13, x14, x15, x16, x17, x18, x19, x20, x21, x22, x23] S (kF P) := by
  have hl := hh.n2
  have lm : (h.map dS).length = h.length := List.length_map ..
  have hz : h.zipIdx.length = h.length := List.length_zipIdx
  unfold T2 r2 T3 r3 T4 r4
  walk_at "w"
  walk_at "w"
  refine we_lstM ?_
  walk_at "w"
  refine ⟨by simp, fun w hw0 => ?_⟩
  walk_at "w"
  walk_at "set"
  let acc (i : Nat) : List Arc := (h.zipIdx.take i).flatMap fun p => webRow p.1 p.2 h.zipIdx
  have accl : ∀ i, (acc i).length ≤ 144 := fun i => by
    have h1 := flat_len (fun p : Tx × Nat => webRow p.1 p.2 h.zipIdx) 12 (h.zipIdx.take i) fun x _ => by
      have := webRow_len x.1 x.2 h.zipIdx
      omega
    have h2 : (h.zipIdx.take i).length ≤ 12 := by rw [List.length_take]; omega
    show ((h.zipIdx.take i).flatMap fun p => webRow p.1 p.2 h.zipIdx).length ≤ 144
    omega
  walk_at "w"
  refine ws_for (wi_enum ?_)
  walk_at "ws"
  refine ⟨_, _, rfl, .inr (.inr rfl), ?_⟩
  rw [enumM]
  refine ⟨fun i Γ S' => (∃ y3 y4 y5 y6 y7 y10, Γ = [some (.ptr a), some (heapD h), some (.ptr w), y3, y4, y5, y6, y7, x8, x9, y10, x11, x12, x13, x14, x15, x16, x17, x18, x19, x20, x21, x22, x23]) ∧ S' = ups S w (.lst ((acc i).map arcD)), ⟨⟨_, _, _, _, _, _, rfl⟩, rfl⟩, fun _ _ _ _ => trivial, ?_, ?_⟩
  · rintro i d Γ S' hd ⟨⟨y3, y4, y5, y6, y7, y10, rfl⟩, rfl⟩
    obtain ⟨q, hq, rfl⟩ := map_get hd
    obtain ⟨one, n⟩ := q
    obtain ⟨hone, rfl⟩ := zip_row hq
    have rone : RowOk one := hh.row (List.mem_of_getElem? hone)
    walk_at "w"
    walk_at "w"
    walk_at "w"
    walk_at "w"
    walk_at "w"
    walk_at "w"
    walk_at "set"
    refine ws_for (wi_enum ?_)
    walk_at "ws"
    refine ⟨_, _, rfl, .inr (.inr rfl), ?_⟩
    rw [enumM]
    refine ⟨fun j Γ S' => (∃ y5 y6 y7 y10, Γ = [some (.ptr a), some (heapD h), some (.ptr w), some (dN n), some (dS one), y5, y6, y7, x8, x9, y10, x11, x12, x13, x14, x15, x16, x17, x18, x19, x20, x21, x22, x23]) ∧ S' = ups S w (.lst ((acc n ++ webRow one n (h.zipIdx.take j)).map arcD)), ⟨⟨_, _, _, _, rfl⟩, by simp [webRow]⟩, fun _ _ _ _ => trivial, ?_, ?_⟩
    · rintro j d Γ S' hd ⟨⟨y5, y6, y7, y10, rfl⟩, rfl⟩
      obtain ⟨q, hq2, rfl⟩ := map_get hd
      obtain ⟨other, m⟩ := q
      obtain ⟨hother, rfl⟩ := zip_row hq2
      have roth : RowOk other := hh.row (List.mem_of_getElem? hother)
      have a1 := rone.most
      have b1 := roth.most
      walk_at "w"
      walk_at "w"
      walk_at "w"
      walk_at "w"
      walk_at "w"
      walk_at "w"
      walk_at "set"
      walk_at "w"
      walk_at "w"
      walk_at "w"
      walk_at "w"
      refine we_lcP (List.range (min one.length other.length - 1)) (fun (i : Nat) => .int (1 + (i : Int))) (fun (i : Nat) => dN (i + 1)) (fun (i : Nat) => decide (other.take (i + 1) <:+ one)) (gloc_name (by simp)) (wi_rng2 ?_)
      walk_at "ws"
      refine len_str (by rw [mk_length]; exact size100 (by omega)) ?_
      walk_at "ws"
      refine len_str (by rw [mk_length]; exact size100 (by omega)) ?_
      walk_at "ws"
      rw [mk_length, mk_length]
      refine ⟨_, _, rfl, ?_, ?_, ?_, trivial, fun i hi => ?_, ?_⟩
      · split <;> omega
      · unfold rngD
        congr 2
        split <;> omega
      · rw [List.length_range]; exact size100 (by omega)
      · have hi' := List.mem_range.mp hi
        walk_at "w"
        walk_at "set"
        walk_at "ws"
        refine len_str (by rw [mk_length]; exact size100 (by omega)) ?_
        walk_at "ws"
        refine sl_str (by rw [mk_length]; exact size100 (by omega)) ?_
        rw [mk_length, cut_mk, show ((one.length : Int) - (1 + (i : Int))) = ((one.length - (i + 1) : Nat) : Int) by omega, cut_from]
        walk_at "ws"
        refine sl_str (by rw [mk_length]; exact size100 (by omega)) ?_
        rw [cut_mk, show (1 + (i : Int)) = ((i + 1 : Nat) : Int) by omega, cut_to]
        walk_at "ws"
        rw [mk_dec, drop_take (by omega) (by omega)]
        refine ⟨rfl, rfl, fun _ => ?_⟩
        walk_at "ws"
        exact ⟨rfl, rfl⟩
      have eo : ((List.range (min one.length other.length - 1)).filter fun k => decide (other.take (k + 1) <:+ one)).map (fun i => dN (i + 1)) = (ovs one other).map dN := by
        unfold ovs; rw [List.map_map]; rfl
      rw [eo]
      have ol := ovs_len one other
      have osm : ∀ x ∈ ovs one other, x < 10 ^ 12 := fun x hx => by have := ovs_lt hx; omega
      have ovm := ovl_le one other
      have og := gds_nat osm
      have g2 : GD 2 2000 (.tup [.tup ((ovs one other).map dN), dN (ovl one other)]) :=
        (GDs.cons (n := 1) (w := 51 * (ovs one other).length) (w' := 51) og.tup (GDs.cons (w := 50) (w' := 0) ((gd_nat (by omega)).more (Nat.zero_le _) (Nat.le_refl _)) GDs.nil)).tup.more (Nat.le_refl _) (by omega)
      walk_at "ws"
      refine tuple_lst lstD_lst ?_
      walk_at "w"
      walk_at "set"
      walk_at "w"
      refine ws_ifP false ?_ (fun z => by cases z) (fun _ => ?_)
      · walk_at "ws"
        refine ⟨one, other, rfl, rone, roth, ?_⟩
        walk_at "ws"
        refine ⟨one, other, rfl, rone, roth, ?_⟩
        walk_at "ws"
        refine ⟨by show 2 ≤ sizeLine; decide, ?_⟩
        walk_at "ws"
        refine repr_gd g2 (by decide) (by decide) ?_
        walk_at "ws"
        refine ⟨by show 1 ≤ sizeLine; decide, ?_⟩
        walk_at "ws"
        refine add_tup (by rw [List.length_map]; exact size100 (by simp; omega)) ?_
        walk_at "ws"
        have em : [D.int 0] ++ (ovs one other).map dN = (0 :: (ovs one other).map fun (n : Nat) => (n : Int)).map D.int := by rw [dN_ints]; rfl
        rw [em]
        refine max_intsT (by simp) fun m' m1 m2 => ?_
        rw [ovl_max m1 m2]
        walk_at "ws"
        refine ⟨by show 2 ≤ sizeLine; decide, ?_⟩
        walk_at "ws"
        refine repr_gd g2 (by decide) (by decide) ?_
        exact DL.ne_str ⟨_, rfl, by simp, rfl⟩
      walk_at "w"
      have l1 := accl n
      have l2 := webRow_len one n (h.zipIdx.take m)
      rw [List.length_take] at l2
      have step : webRow one n (h.zipIdx.take (m + 1)) = webRow one n (h.zipIdx.take m) ++ if n ≠ m ∧ 0 < ovl one other then [(n, m, ovl one other)] else [] := by
        unfold webRow
        rw [flat_next _ hq2]
      walk_at "w"
      refine we_BM ?_
      walk_at "w"
      refine ⟨.inl ⟨rfl, _, ups_same⟩, ?_⟩
      walk_at "w"
      refine we_ifP (decide (n ≠ m) && decide (ovs one other ≠ [])) ?_ (fun e => ?_) fun e => ?_
      · refine wt_andP _ _ ?_ (fun _ => ?_) ⟨rfl, rfl⟩
        · walk_at "ws"
          refine ⟨?_, rfl⟩
          by_cases e : n = m <;> simp [e] <;> omega
        · walk_at "ws"
          refine ⟨by decide, ne_gd og.tup (GDs.nil (n := 0) (w := 0)).tup (by decide) (by decide) ⟨_, rfl, ?_, rfl⟩⟩
          show (!PyData.eqvAll (pys ((ovs one other).map dN)) (pys (([] : List Int).map D.int))) = _
          rw [dN_ints, eqvAll_ints]
          simp
      · rw [Bool.and_eq_true, decide_eq_true_eq, decide_eq_true_eq] at e
        refine we_lst ?_
        walk_at "ws"
        refine DL.neg_int ?_
        refine rd_ix (d := dN (ovl one other)) seqD_tup (by rw [atI_last, List.getLast?_map, ovs_last e.2]; rfl) ?_
        walk_at "ws"
        refine ⟨by show 3 ≤ sizeLine; decide, ?_⟩
        walk_at "ws"
        refine ⟨by show 1 ≤ sizeLine; decide, ?_⟩
        walk_at "ws"
        refine ext_lst ups_same lstT_lst (size100 (by simp; omega)) ⟨⟨_, _, _, _, rfl⟩, ?_⟩
        rw [ups_ups, step, if_pos ⟨e.1, ovs_pos.mp e.2⟩, ← List.append_assoc, List.map_append, List.map_append, List.map_append]
        rfl
      · refine we_lst ?_
        walk_at "ws"
        refine ⟨by show 0 ≤ sizeLine; decide, ?_⟩
        walk_at "ws"
        refine ext_lst ups_same lstT_lst (size100 (by simp; omega)) ⟨⟨_, _, _, _, rfl⟩, ?_⟩
        have e' : ¬ (n ≠ m ∧ 0 < ovl one other) := by
          rintro ⟨z1, z2⟩
          rw [decide_eq_true z1, decide_eq_true (ovs_pos.mpr z2)] at e
          cases e
        rw [ups_ups, step, if_neg e', List.append_nil, List.append_nil]
    · rintro Γ S' ⟨⟨y5, y6, y7, y10, rfl⟩, rfl⟩
      refine ⟨⟨_, _, _, _, _, _, rfl⟩, ?_⟩
      have e : acc (n + 1) = acc n ++ webRow one n h.zipIdx := flat_next _ hq
      rw [List.length_map, e, List.take_length]
  · rintro Γ S' ⟨⟨y3, y4, y5, y6, y7, y10, rfl⟩, rfl⟩
    have e : acc (h.zipIdx.map fun p => D.tup [dN p.2, dS p.1]).length = webL h := by
      rw [List.length_map]
      show ((h.zipIdx.take _).flatMap fun p => webRow p.1 p.2 h.zipIdx) = _
      rw [List.take_length]; rfl
    rw [e]
    have gw := gd_arcs _ (web_len hh) (web_small hh)
    walk_at "w"
    refine ws_ifP false ?_ (fun z => by cases z) (fun _ => ?_)
    · walk_at "ws"
      refine ⟨h, rfl, hh, ?_⟩
      walk_at "ws"
      refine repr_gd gw (by decide) (by decide) ?_
      walk_at "ws"
      refine tuple_lst (lstD_ptr ups_same) ?_
      walk_at "ws"
      refine repr_gd gw (by decide) (by decide) ?_
      exact DL.ne_str ⟨_, rfl, by simp, rfl⟩
    · walk_at "w"
      exact g_need hh ups_same (sub_ups hw0) hp hk p
end
end K60
namespace K60
open PySem L2 DL
local macro_rules | `(tactic| walk_at "w") => `(tactic| first
  | with_reducible refine ws_seq ?_
  | with_reducible refine ws_asg ?_
  | with_reducible refine ws_ret ?_
  | with_reducible refine ws_if ?_
  | with_reducible refine ws_drop ?_
  | with_reducible refine ws_next ?_
  | with_reducible refine wg_name ?_
  | with_reducible refine wg_tup (by with_unfolding_all rfl) ?_
  | with_reducible refine wgs_cons ?_
  | with_reducible refine wgs_nil ?_
  | with_reducible refine we_var (by with_unfolding_all rfl) ?_
  | with_reducible refine we_int ?_
  | with_reducible refine we_str ?_
  | with_reducible refine we_bl ?_
  | with_reducible refine we_non ?_
  | with_reducible refine we_raw ?_
  | with_reducible refine we_op ?_
  | with_reducible refine we_un ?_
  | with_reducible refine we_if ?_
  | with_reducible refine we_tup ?_
  | with_reducible refine we_CB ?_
  | with_reducible refine we_call ?_
  | with_reducible refine we_M1 ?_
  | with_reducible refine we_BM ?_
  | with_reducible refine we_sl ?_
  | with_reducible refine we_and ?_
  | with_reducible refine we_or ?_
  | with_reducible refine we_chain ?_
  | with_reducible refine we_notT ?_
  | with_reducible refine we_din ?_
  | with_reducible refine we_dget ?_
  | with_reducible refine wa_nil ?_
  | with_reducible refine wa_cons ?_
  | with_reducible refine wt_test ?_
  | with_reducible refine wt_trub ?_
  | with_reducible refine wt_and ?_
  | with_reducible refine wt_or ?_
  | with_reducible refine wt_not ?_
  | with_reducible refine wt_B ?_
  | with_reducible refine wo_none ?_
  | with_reducible refine wo_some ?_
  | with_reducible refine add_int ?_
  | with_reducible refine sub_int ?_
  | with_reducible refine lt_int ?_
  | with_reducible refine lt_str ?_
  | with_reducible refine le_int ?_
  | with_reducible refine gt_int ?_
  | with_reducible refine ge_int ?_
  | with_reducible refine eq_int ?_
  | with_reducible refine DL.eq_str ?_
  | with_reducible refine DL.ne_str ?_
  | with_reducible refine ne_int ?_
  | with_reducible refine int_int ?_
  | with_reducible refine int_bl ?_
  | with_reducible refine min_two ?_
  | with_reducible refine max_two ?_
  | with_reducible refine abs_int ?_
  | with_reducible refine endswith_str ?_
  | with_reducible refine in_str ?_
  | with_reducible refine notin_str ?_
  | with_reducible refine len_seq seqD_tup ?_
  | with_reducible refine len_seq seqD_lst ?_
  | with_reducible refine len_seq seqD_rol ?_
  | (with_reducible refine Exists.intro _ (And.intro rfl ?_)))
local macro_rules | `(tactic| walk_at "ws") => `(tactic| repeat walk_at "w")
local macro_rules | `(tactic| walk_at "set") => `(tactic| dsimp only [List.set_cons_succ, List.set_cons_zero, wipeD])
section
variable {K : PySem.W.Frag} {B : Hp} {S : Sto}
theorem w_law_right : Keeps sp__law_right t__law_right 24 := by
  rintro K B S0 S P ⟨a, k, rfl, hp, hk, p⟩
  rw [right_T]
  show WS K B _ [some (.ptr a), none, none, none, none, none, none, none, none, none, none, none, none, none, none, none, none, none, none, none, none, none, none, none] S (kF P)
  unfold T0 r0 T1 r1
  walk_at "ws"
  refine ⟨a, k, rfl, hp, by omega, fun h S1 hh hp1 hb1 => ?_⟩
  have hl := hh.n2
  walk_at "w"
  walk_at "set"
  walk_at "w"
  have oh : ∀ r ∈ outerL h, RowOk r := fun r hr => hh.row (List.mem_filter.mp hr).1
  have ih : ∀ r ∈ insideL h, RowOk r := fun r hr => hh.row (List.mem_filter.mp hr).1
  have ohl : (outerL h).length ≤ h.length := List.length_filter_le _ _
  have ihl : (insideL h).length ≤ h.length := List.length_filter_le _ _
  have go : GDs 0 400 ((outerL h).map dS) := (gds_txs oh).more (Nat.le_refl _) (by omega)
  have gi : GDs 0 400 ((insideL h).map dS) := (gds_txs ih).more (Nat.le_refl _) (by omega)
  refine ws_ifP false ?_ (fun z => by cases z) (fun _ => ?_)
  · refine wt_orP false false ?_ (fun _ => ?_) ⟨rfl, rfl⟩
    · walk_at "ws"
      refine ⟨h, rfl, hh, ?_⟩
      walk_at "ws"
      refine ⟨h, rfl, hh, ?_⟩
      walk_at "ws"
      refine tuple_lst lstD_lst ?_
      exact ne_refl go.tup (by decide) ⟨_, rfl, rfl, rfl⟩
    · walk_at "ws"
      refine ⟨h, rfl, hh, ?_⟩
      walk_at "ws"
      refine we_lcP h dS dS (fun r => !decide (r ∈ outerL h)) (gloc_name (by simp)) (wi_seq ?_)
      walk_at "w"
      refine ⟨_, _, ⟨rfl, rfl⟩, rfl, hh.len, trivial, fun r hr => ?_, ?_⟩
      · walk_at "w"
        walk_at "set"
        walk_at "ws"
        refine ⟨h, rfl, hh, ?_⟩
        refine notin_txs seqD_lst ⟨_, rfl, rfl, rfl, fun _ => ?_⟩
        walk_at "ws"
        exact ⟨rfl, rfl⟩
      · rw [inside_outer]
        walk_at "ws"
        refine tuple_lst lstD_lst ?_
        exact ne_refl gi.tup (by decide) ⟨_, rfl, rfl, rfl⟩
  · walk_at "w"
    exact g_web hh hp1 (by omega) fun S' q b => p S' (q.more (by omega)) (hb1.trans b)
theorem w_law : Keeps sp_law t_law 4 := by
  rintro K B S0 S P ⟨ns, rfl, hl, p⟩
  unfold t_law
  show WS K B _ [some (.rol (ns.map dI)), none, none, none] S _
  walk_at "w"
  refine ws_for (wi_seq ?_)
  walk_at "ws"
  refine ⟨ns, rfl, hl, fun n n1 n3 => ?_⟩
  refine ⟨_, _, ⟨rfl, rfl⟩, fun i Γ S' => (∃ x1 x2 x3, Γ = [some (.rol (ns.map dI)), x1, x2, x3]) ∧ S' = S, ⟨⟨_, _, _, rfl⟩, rfl⟩, fun _ _ _ _ => trivial, ?_, ?_⟩
  · rintro i d Γ S' hd ⟨⟨x1, x2, x3, rfl⟩, rfl⟩
    obtain ⟨q, hq, rfl⟩ := map_get hd
    have hq3 : q < 3 := by
      have := List.mem_range.mp (List.mem_of_getElem? hq)
      omega
    walk_at "w"
    walk_at "set"
    walk_at "ws"
    refine ⟨ns, q, rfl, hl, by omega, fun a S1 ha hp hb => ?_⟩
    walk_at "w"
    walk_at "set"
    walk_at "w"
    walk_at "w"
    walk_at "w"
    walk_at "w"
    walk_at "w"
    have l5 : (rngD 0 (Int.toNat 5)).length = 5 := rfl
    refine we_lc (gloc_name (by simp)) (wi_rng1 ?_)
    walk_at "ws"
    refine ⟨by decide, by decide, by show 5 ≤ sizeLine; decide, fun i acc S2 => acc = (List.range i).map (fun _ => .bl true) ∧ Pot S2 a (1000 * i) ∧ But a S1 S2, ⟨rfl, hp, But.refl _ _⟩, fun _ _ _ _ => trivial, fun i d acc S2 hd ⟨e1, e2, e3⟩ => ?_, fun acc S2 hl ⟨e1, e2, e3⟩ => ?_⟩
    · have hin : i < 5 := by rw [← l5]; exact (List.getElem?_eq_some_iff.mp hd).1
      walk_at "w"
      refine wt_yes (ifT rfl ?_)
      walk_at "ws"
      refine ⟨a, 1000 * i, rfl, e2, by omega, fun S3 hp3 hb3 => ?_⟩
      exact ⟨by rw [e1, List.range_succ, List.map_append]; rfl, hp3.more (by omega), e3.trans hb3⟩
    · walk_at "ws"
      subst e1
      refine all_map (f := fun _ => true) ?_
      walk_at "ws"
      refine ifF (by simp) ?_
      refine ws_drops (S' := S') (fun b o hb' => ?_) ?_
      · have hba : b ≠ a := fun z => by subst z; rw [ha] at hb'; cases hb'
        rw [e3 b hba, hb b hba]; exact hb'
      · walk_at "w"
        exact ⟨⟨_, _, _, rfl⟩, rfl⟩
  · rintro Γ S' ⟨⟨x1, x2, x3, rfl⟩, rfl⟩
    walk_at "ws"
    exact p
end
end K60
namespace K60
open PySem L2 DL
def top (i : Nat) : Stmt := PySem.Challenge.pw_everyrowhasit_k60_whole_overlaps_of_heap.main.body.getD i (.Pass ⟨0, 0, 0, 0⟩)
abbrev s_is_integer : Stmt := top 9
abbrev s_is_between : Stmt := top 10
abbrev s_are_between : Stmt := top 11
abbrev s_is_ascending : Stmt := top 12
abbrev s_is_row_of : Stmt := top 13
abbrev s_check_row : Stmt := top 15
abbrev s_is_heap_of : Stmt := top 19
abbrev s_is_heap : Stmt := top 20
abbrev s_check_heap : Stmt := top 21
abbrev s_check_both : Stmt := top 22
abbrev s_overlaps_of : Stmt := top 23
abbrev s_overlap_of : Stmt := top 24
abbrev s_overlaps : Stmt := top 25
abbrev s_overlap : Stmt := top 26
abbrev s_inside_of : Stmt := top 27
abbrev s_outer_of : Stmt := top 28
abbrev s_inside : Stmt := top 29
abbrev s_outer : Stmt := top 30
abbrev s_web_of : Stmt := top 31
abbrev s_overlap_web : Stmt := top 32
abbrev s_is_needless : Stmt := top 33
abbrev s_needless_overlaps : Stmt := top 34
abbrev s_is_order_of : Stmt := top 35
abbrev s_check_order : Stmt := top 36
abbrev s_laid_of : Stmt := top 37
abbrev s_laid : Stmt := top 38
abbrev s_saved : Stmt := top 39
abbrev s__law_pot : Stmt := top 41
abbrev s__law_take : Stmt := top 42
abbrev s__law_of : Stmt := top 43
abbrev s__law_some : Stmt := top 44
abbrev s__law_cells : Stmt := top 45
abbrev s__law_is_row : Stmt := top 46
abbrev s__law_odd : Stmt := top 47
abbrev s__law_bent : Stmt := top 48
abbrev s__law_heap : Stmt := top 49
abbrev s__law_overlap : Stmt := top 50
abbrev s__law_outer : Stmt := top 51
abbrev s__law_laid : Stmt := top 52
abbrev s__law_is_heap : Stmt := top 53
abbrev s__law_right : Stmt := top 54
abbrev s_law : Stmt := top 55
theorem sc_is_integer : FnScope ["value"] ["value"] (defScope s_is_integer) := ⟨rfl, rfl, rfl, by decide +kernel, rfl, by decide +kernel, by decide +kernel⟩
theorem sc_is_between : FnScope ["value", "low", "high"] ["value", "low", "high"] (defScope s_is_between) := ⟨rfl, rfl, rfl, by decide +kernel, rfl, by decide +kernel, by decide +kernel⟩
theorem sc_are_between : FnScope ["value", "low", "high", "one"] ["value", "low", "high"] (defScope s_are_between) := ⟨rfl, rfl, rfl, by decide +kernel, rfl, by decide +kernel, by decide +kernel⟩
theorem sc_is_ascending : FnScope ["value", "one", "other"] ["value"] (defScope s_is_ascending) := ⟨rfl, rfl, rfl, by decide +kernel, rfl, by decide +kernel, by decide +kernel⟩
theorem sc_is_row_of : FnScope ["value", "sign"] ["value"] (defScope s_is_row_of) := ⟨rfl, rfl, rfl, by decide +kernel, rfl, by decide +kernel, by decide +kernel⟩
theorem sc_check_row : FnScope ["value"] ["value"] (defScope s_check_row) := ⟨rfl, rfl, rfl, by decide +kernel, rfl, by decide +kernel, by decide +kernel⟩
theorem sc_is_heap_of : FnScope ["value", "row"] ["value"] (defScope s_is_heap_of) := ⟨rfl, rfl, rfl, by decide +kernel, rfl, by decide +kernel, by decide +kernel⟩
theorem sc_is_heap : FnScope ["value"] ["value"] (defScope s_is_heap) := ⟨rfl, rfl, rfl, by decide +kernel, rfl, by decide +kernel, by decide +kernel⟩
theorem sc_check_heap : FnScope ["heap"] ["heap"] (defScope s_check_heap) := ⟨rfl, rfl, rfl, by decide +kernel, rfl, by decide +kernel, by decide +kernel⟩
theorem sc_check_both : FnScope ["one", "other", "row"] ["one", "other"] (defScope s_check_both) := ⟨rfl, rfl, rfl, by decide +kernel, rfl, by decide +kernel, by decide +kernel⟩
theorem sc_overlaps_of : FnScope ["one", "other", "size"] ["one", "other"] (defScope s_overlaps_of) := ⟨rfl, rfl, rfl, by decide +kernel, rfl, by decide +kernel, by decide +kernel⟩
theorem sc_overlap_of : FnScope ["one", "other"] ["one", "other"] (defScope s_overlap_of) := ⟨rfl, rfl, rfl, by decide +kernel, rfl, by decide +kernel, by decide +kernel⟩
theorem sc_overlaps : FnScope ["one", "other"] ["one", "other"] (defScope s_overlaps) := ⟨rfl, rfl, rfl, by decide +kernel, rfl, by decide +kernel, by decide +kernel⟩
theorem sc_overlap : FnScope ["one", "other"] ["one", "other"] (defScope s_overlap) := ⟨rfl, rfl, rfl, by decide +kernel, rfl, by decide +kernel, by decide +kernel⟩
theorem sc_inside_of : FnScope ["heap", "row", "other"] ["heap"] (defScope s_inside_of) := ⟨rfl, rfl, rfl, by decide +kernel, rfl, by decide +kernel, by decide +kernel⟩
theorem sc_outer_of : FnScope ["heap", "gone", "row"] ["heap"] (defScope s_outer_of) := ⟨rfl, rfl, rfl, by decide +kernel, rfl, by decide +kernel, by decide +kernel⟩
theorem sc_inside : FnScope ["heap"] ["heap"] (defScope s_inside) := ⟨rfl, rfl, rfl, by decide +kernel, rfl, by decide +kernel, by decide +kernel⟩
theorem sc_outer : FnScope ["heap"] ["heap"] (defScope s_outer) := ⟨rfl, rfl, rfl, by decide +kernel, rfl, by decide +kernel, by decide +kernel⟩
theorem sc_web_of : FnScope ["rows", "found", "at", "one", "to", "other", "size"] ["rows"] (defScope s_web_of) := ⟨rfl, rfl, rfl, by decide +kernel, rfl, by decide +kernel, by decide +kernel⟩
theorem sc_overlap_web : FnScope ["heap"] ["heap"] (defScope s_overlap_web) := ⟨rfl, rfl, rfl, by decide +kernel, rfl, by decide +kernel, by decide +kernel⟩
theorem sc_is_needless : FnScope ["heap", "known", "arc", "at", "to", "size", "by", "row"] ["heap", "known", "arc"] (defScope s_is_needless) := ⟨rfl, rfl, rfl, by decide +kernel, rfl, by decide +kernel, by decide +kernel⟩
theorem sc_needless_overlaps : FnScope ["heap", "arcs", "known", "at", "to", "size", "arc"] ["heap"] (defScope s_needless_overlaps) := ⟨rfl, rfl, rfl, by decide +kernel, rfl, by decide +kernel, by decide +kernel⟩
theorem sc_is_order_of : FnScope ["heap", "value"] ["heap", "value"] (defScope s_is_order_of) := ⟨rfl, rfl, rfl, by decide +kernel, rfl, by decide +kernel, by decide +kernel⟩
theorem sc_check_order : FnScope ["heap", "order"] ["heap", "order"] (defScope s_check_order) := ⟨rfl, rfl, rfl, by decide +kernel, rfl, by decide +kernel, by decide +kernel⟩
theorem sc_laid_of : FnScope ["rows", "found", "one", "other"] ["rows"] (defScope s_laid_of) := ⟨rfl, rfl, rfl, by decide +kernel, rfl, by decide +kernel, by decide +kernel⟩
theorem sc_laid : FnScope ["heap", "order", "place"] ["heap", "order"] (defScope s_laid) := ⟨rfl, rfl, rfl, by decide +kernel, rfl, by decide +kernel, by decide +kernel⟩
theorem sc_saved : FnScope ["heap", "order", "rows", "place", "one", "other"] ["heap", "order"] (defScope s_saved) := ⟨rfl, rfl, rfl, by decide +kernel, rfl, by decide +kernel, by decide +kernel⟩
theorem sc__law_pot : FnScope ["script", "place", "cell", "own", "small"] ["script", "place"] (defScope s__law_pot) := ⟨rfl, rfl, rfl, by decide +kernel, rfl, by decide +kernel, by decide +kernel⟩
theorem sc__law_take : FnScope ["pot", "upto", "digit", "prime", "blend"] ["pot", "upto"] (defScope s__law_take) := ⟨rfl, rfl, rfl, by decide +kernel, rfl, by decide +kernel, by decide +kernel⟩
theorem sc__law_of : FnScope ["pot", "some"] ["pot", "some"] (defScope s__law_of) := ⟨rfl, rfl, rfl, by decide +kernel, rfl, by decide +kernel, by decide +kernel⟩
theorem sc__law_some : FnScope ["pot", "some", "many", "left", "found", "lap"] ["pot", "some", "many"] (defScope s__law_some) := ⟨rfl, rfl, rfl, by decide +kernel, rfl, by decide +kernel, by decide +kernel⟩
theorem sc__law_cells : FnScope ["script", "most"] ["script", "most"] (defScope s__law_cells) := ⟨rfl, rfl, rfl, by decide +kernel, rfl, by decide +kernel, by decide +kernel⟩
theorem sc__law_is_row : FnScope ["value", "most", "sign"] ["value", "most"] (defScope s__law_is_row) := ⟨rfl, rfl, rfl, by decide +kernel, rfl, by decide +kernel, by decide +kernel⟩
theorem sc__law_odd : FnScope ["pot", "some", "value", "lap"] ["pot"] (defScope s__law_odd) := ⟨rfl, rfl, rfl, by decide +kernel, rfl, by decide +kernel, by decide +kernel⟩
theorem sc__law_bent : FnScope ["pot", "value", "at", "bents"] ["pot", "value"] (defScope s__law_bent) := ⟨rfl, rfl, rfl, by decide +kernel, rfl, by decide +kernel, by decide +kernel⟩
theorem sc__law_heap : FnScope ["pot", "most", "letters", "found", "source", "lap", "at", "size", "row", "letter"] ["pot", "most"] (defScope s__law_heap) := ⟨rfl, rfl, rfl, by decide +kernel, rfl, by decide +kernel, by decide +kernel⟩
theorem sc__law_overlap : FnScope ["one", "other", "fine", "size"] ["one", "other"] (defScope s__law_overlap) := ⟨rfl, rfl, rfl, by decide +kernel, rfl, by decide +kernel, by decide +kernel⟩
theorem sc__law_outer : FnScope ["heap", "row", "other"] ["heap"] (defScope s__law_outer) := ⟨rfl, rfl, rfl, by decide +kernel, rfl, by decide +kernel, by decide +kernel⟩
theorem sc__law_laid : FnScope ["rows", "found", "one", "other"] ["rows"] (defScope s__law_laid) := ⟨rfl, rfl, rfl, by decide +kernel, rfl, by decide +kernel, by decide +kernel⟩
theorem sc__law_is_heap : FnScope ["value", "row"] ["value"] (defScope s__law_is_heap) := ⟨rfl, rfl, rfl, by decide +kernel, rfl, by decide +kernel, by decide +kernel⟩
theorem sc__law_right : FnScope ["pot", "heap", "web", "at", "one", "to", "other", "due", "known", "needless", "size", "rows", "order", "row", "less", "a", "b", "c", "d", "values", "value", "by", "place", "lap"] ["pot"] (defScope s__law_right) := ⟨rfl, rfl, rfl, by decide +kernel, rfl, by decide +kernel, by decide +kernel⟩
theorem sc_law : FnScope ["script", "place", "pot", "lap"] ["script"] (defScope s_law) := ⟨rfl, rfl, rfl, by decide +kernel, rfl, by decide +kernel, by decide +kernel⟩
structure Txt (K : PySem.W.Frag) (mg : Str → Option Value) where
  m_abs : mg "abs" = none
  m_all : mg "all" = none
  m_any : mg "any" = none
  m_bool : mg "bool" = none
  m_dict : mg "dict" = none
  m_enumerate : mg "enumerate" = none
  m_int : mg "int" = none
  m_isinstance : mg "isinstance" = none
  m_len : mg "len" = none
  m_list : mg "list" = none
  m_max : mg "max" = none
  m_min : mg "min" = none
  m_range : mg "range" = none
  m_repr : mg "repr" = none
  m_set : mg "set" = none
  m_sorted : mg "sorted" = none
  m_str : mg "str" = none
  m_sum : mg "sum" = none
  m_tuple : mg "tuple" = none
  m_zip : mg "zip" = none
  c_LETTERS : ∃ t, mg "LETTERS" = some (.str (Str.ofString "abcdefghijklmnopqrstuvwxyz") t)
  c_MOST_ROW : ∃ t, mg "MOST_ROW" = some (.int 400 t)
  c_MOST_HEAP : ∃ t, mg "MOST_HEAP" = some (.int 12 t)
  c_MOST_EACH : ∃ t, mg "MOST_EACH" = some (.int 30 t)
  f_is_integer : Addr
  fd_is_integer : FuncData
  F_is_integer : Fun K "is_integer" "is_integer" s_is_integer f_is_integer fd_is_integer
  m_is_integer : mg "is_integer" = some (.ref f_is_integer)
  b_is_integer : Binds K fd_is_integer ["value"] []
  f_is_between : Addr
  fd_is_between : FuncData
  F_is_between : Fun K "is_between" "is_between" s_is_between f_is_between fd_is_between
  m_is_between : mg "is_between" = some (.ref f_is_between)
  b_is_between : Binds K fd_is_between ["value", "low", "high"] []
  f_are_between : Addr
  fd_are_between : FuncData
  F_are_between : Fun K "are_between" "are_between" s_are_between f_are_between fd_are_between
  m_are_between : mg "are_between" = some (.ref f_are_between)
  b_are_between : Binds K fd_are_between ["value", "low", "high"] []
  f_is_ascending : Addr
  fd_is_ascending : FuncData
  F_is_ascending : Fun K "is_ascending" "is_ascending" s_is_ascending f_is_ascending fd_is_ascending
  m_is_ascending : mg "is_ascending" = some (.ref f_is_ascending)
  b_is_ascending : Binds K fd_is_ascending ["value"] []
  f_is_row_of : Addr
  fd_is_row_of : FuncData
  F_is_row_of : Fun K "is_row_of" "is_row_of" s_is_row_of f_is_row_of fd_is_row_of
  m_is_row_of : mg "is_row_of" = some (.ref f_is_row_of)
  b_is_row_of : Binds K fd_is_row_of ["value"] []
  f_check_row : Addr
  fd_check_row : FuncData
  F_check_row : Fun K "check_row" "check_row" s_check_row f_check_row fd_check_row
  m_check_row : mg "check_row" = some (.ref f_check_row)
  b_check_row : Binds K fd_check_row ["value"] []
  f_is_heap_of : Addr
  fd_is_heap_of : FuncData
  F_is_heap_of : Fun K "is_heap_of" "is_heap_of" s_is_heap_of f_is_heap_of fd_is_heap_of
  m_is_heap_of : mg "is_heap_of" = some (.ref f_is_heap_of)
  b_is_heap_of : Binds K fd_is_heap_of ["value"] []
  f_is_heap : Addr
  fd_is_heap : FuncData
  F_is_heap : Fun K "is_heap" "is_heap" s_is_heap f_is_heap fd_is_heap
  m_is_heap : mg "is_heap" = some (.ref f_is_heap)
  b_is_heap : Binds K fd_is_heap ["value"] []
  f_check_heap : Addr
  fd_check_heap : FuncData
  F_check_heap : Fun K "check_heap" "check_heap" s_check_heap f_check_heap fd_check_heap
  m_check_heap : mg "check_heap" = some (.ref f_check_heap)
  b_check_heap : Binds K fd_check_heap ["heap"] []
  f_check_both : Addr
  fd_check_both : FuncData
  F_check_both : Fun K "check_both" "check_both" s_check_both f_check_both fd_check_both
  m_check_both : mg "check_both" = some (.ref f_check_both)
  b_check_both : Binds K fd_check_both ["one", "other"] []
  f_overlaps_of : Addr
  fd_overlaps_of : FuncData
  F_overlaps_of : Fun K "overlaps_of" "overlaps_of" s_overlaps_of f_overlaps_of fd_overlaps_of
  m_overlaps_of : mg "overlaps_of" = some (.ref f_overlaps_of)
  b_overlaps_of : Binds K fd_overlaps_of ["one", "other"] []
  f_overlap_of : Addr
  fd_overlap_of : FuncData
  F_overlap_of : Fun K "overlap_of" "overlap_of" s_overlap_of f_overlap_of fd_overlap_of
  m_overlap_of : mg "overlap_of" = some (.ref f_overlap_of)
  b_overlap_of : Binds K fd_overlap_of ["one", "other"] []
  f_overlaps : Addr
  fd_overlaps : FuncData
  F_overlaps : Fun K "overlaps" "overlaps" s_overlaps f_overlaps fd_overlaps
  m_overlaps : mg "overlaps" = some (.ref f_overlaps)
  b_overlaps : Binds K fd_overlaps ["one", "other"] []
  f_overlap : Addr
  fd_overlap : FuncData
  F_overlap : Fun K "overlap" "overlap" s_overlap f_overlap fd_overlap
  m_overlap : mg "overlap" = some (.ref f_overlap)
  b_overlap : Binds K fd_overlap ["one", "other"] []
  f_inside_of : Addr
  fd_inside_of : FuncData
  F_inside_of : Fun K "inside_of" "inside_of" s_inside_of f_inside_of fd_inside_of
  m_inside_of : mg "inside_of" = some (.ref f_inside_of)
  b_inside_of : Binds K fd_inside_of ["heap"] []
  f_outer_of : Addr
  fd_outer_of : FuncData
  F_outer_of : Fun K "outer_of" "outer_of" s_outer_of f_outer_of fd_outer_of
  m_outer_of : mg "outer_of" = some (.ref f_outer_of)
  b_outer_of : Binds K fd_outer_of ["heap"] []
  f_inside : Addr
  fd_inside : FuncData
  F_inside : Fun K "inside" "inside" s_inside f_inside fd_inside
  m_inside : mg "inside" = some (.ref f_inside)
  b_inside : Binds K fd_inside ["heap"] []
  f_outer : Addr
  fd_outer : FuncData
  F_outer : Fun K "outer" "outer" s_outer f_outer fd_outer
  m_outer : mg "outer" = some (.ref f_outer)
  b_outer : Binds K fd_outer ["heap"] []
  f_web_of : Addr
  fd_web_of : FuncData
  F_web_of : Fun K "web_of" "web_of" s_web_of f_web_of fd_web_of
  m_web_of : mg "web_of" = some (.ref f_web_of)
  b_web_of : Binds K fd_web_of ["rows"] []
  f_overlap_web : Addr
  fd_overlap_web : FuncData
  F_overlap_web : Fun K "overlap_web" "overlap_web" s_overlap_web f_overlap_web fd_overlap_web
  m_overlap_web : mg "overlap_web" = some (.ref f_overlap_web)
  b_overlap_web : Binds K fd_overlap_web ["heap"] []
  f_is_needless : Addr
  fd_is_needless : FuncData
  F_is_needless : Fun K "is_needless" "is_needless" s_is_needless f_is_needless fd_is_needless
  m_is_needless : mg "is_needless" = some (.ref f_is_needless)
  b_is_needless : Binds K fd_is_needless ["heap", "known", "arc"] []
  f_needless_overlaps : Addr
  fd_needless_overlaps : FuncData
  F_needless_overlaps : Fun K "needless_overlaps" "needless_overlaps" s_needless_overlaps f_needless_overlaps fd_needless_overlaps
  m_needless_overlaps : mg "needless_overlaps" = some (.ref f_needless_overlaps)
  b_needless_overlaps : Binds K fd_needless_overlaps ["heap"] []
  f_is_order_of : Addr
  fd_is_order_of : FuncData
  F_is_order_of : Fun K "is_order_of" "is_order_of" s_is_order_of f_is_order_of fd_is_order_of
  m_is_order_of : mg "is_order_of" = some (.ref f_is_order_of)
  b_is_order_of : Binds K fd_is_order_of ["heap", "value"] []
  f_check_order : Addr
  fd_check_order : FuncData
  F_check_order : Fun K "check_order" "check_order" s_check_order f_check_order fd_check_order
  m_check_order : mg "check_order" = some (.ref f_check_order)
  b_check_order : Binds K fd_check_order ["heap", "order"] []
  f_laid_of : Addr
  fd_laid_of : FuncData
  F_laid_of : Fun K "laid_of" "laid_of" s_laid_of f_laid_of fd_laid_of
  m_laid_of : mg "laid_of" = some (.ref f_laid_of)
  b_laid_of : Binds K fd_laid_of ["rows"] []
  f_laid : Addr
  fd_laid : FuncData
  F_laid : Fun K "laid" "laid" s_laid f_laid fd_laid
  m_laid : mg "laid" = some (.ref f_laid)
  b_laid : Binds K fd_laid ["heap", "order"] []
  f_saved : Addr
  fd_saved : FuncData
  F_saved : Fun K "saved" "saved" s_saved f_saved fd_saved
  m_saved : mg "saved" = some (.ref f_saved)
  b_saved : Binds K fd_saved ["heap", "order"] []
  f__law_pot : Addr
  fd__law_pot : FuncData
  F__law_pot : Fun K "_law_pot" "_law_pot" s__law_pot f__law_pot fd__law_pot
  m__law_pot : mg "_law_pot" = some (.ref f__law_pot)
  b__law_pot : Binds K fd__law_pot ["script", "place"] []
  f__law_take : Addr
  fd__law_take : FuncData
  F__law_take : Fun K "_law_take" "_law_take" s__law_take f__law_take fd__law_take
  m__law_take : mg "_law_take" = some (.ref f__law_take)
  b__law_take : Binds K fd__law_take ["pot", "upto"] []
  f__law_of : Addr
  fd__law_of : FuncData
  F__law_of : Fun K "_law_of" "_law_of" s__law_of f__law_of fd__law_of
  m__law_of : mg "_law_of" = some (.ref f__law_of)
  b__law_of : Binds K fd__law_of ["pot", "some"] []
  f__law_some : Addr
  fd__law_some : FuncData
  F__law_some : Fun K "_law_some" "_law_some" s__law_some f__law_some fd__law_some
  m__law_some : mg "_law_some" = some (.ref f__law_some)
  b__law_some : Binds K fd__law_some ["pot", "some", "many"] []
  f__law_cells : Addr
  fd__law_cells : FuncData
  F__law_cells : Fun K "_law_cells" "_law_cells" s__law_cells f__law_cells fd__law_cells
  m__law_cells : mg "_law_cells" = some (.ref f__law_cells)
  b__law_cells : Binds K fd__law_cells ["script", "most"] []
  f__law_is_row : Addr
  fd__law_is_row : FuncData
  F__law_is_row : Fun K "_law_is_row" "_law_is_row" s__law_is_row f__law_is_row fd__law_is_row
  m__law_is_row : mg "_law_is_row" = some (.ref f__law_is_row)
  b__law_is_row : Binds K fd__law_is_row ["value", "most"] []
  f__law_odd : Addr
  fd__law_odd : FuncData
  F__law_odd : Fun K "_law_odd" "_law_odd" s__law_odd f__law_odd fd__law_odd
  m__law_odd : mg "_law_odd" = some (.ref f__law_odd)
  b__law_odd : Binds K fd__law_odd ["pot"] []
  f__law_bent : Addr
  fd__law_bent : FuncData
  F__law_bent : Fun K "_law_bent" "_law_bent" s__law_bent f__law_bent fd__law_bent
  m__law_bent : mg "_law_bent" = some (.ref f__law_bent)
  b__law_bent : Binds K fd__law_bent ["pot", "value"] []
  f__law_heap : Addr
  fd__law_heap : FuncData
  F__law_heap : Fun K "_law_heap" "_law_heap" s__law_heap f__law_heap fd__law_heap
  m__law_heap : mg "_law_heap" = some (.ref f__law_heap)
  b__law_heap : Binds K fd__law_heap ["pot", "most"] []
  f__law_overlap : Addr
  fd__law_overlap : FuncData
  F__law_overlap : Fun K "_law_overlap" "_law_overlap" s__law_overlap f__law_overlap fd__law_overlap
  m__law_overlap : mg "_law_overlap" = some (.ref f__law_overlap)
  b__law_overlap : Binds K fd__law_overlap ["one", "other"] []
  f__law_outer : Addr
  fd__law_outer : FuncData
  F__law_outer : Fun K "_law_outer" "_law_outer" s__law_outer f__law_outer fd__law_outer
  m__law_outer : mg "_law_outer" = some (.ref f__law_outer)
  b__law_outer : Binds K fd__law_outer ["heap"] []
  f__law_laid : Addr
  fd__law_laid : FuncData
  F__law_laid : Fun K "_law_laid" "_law_laid" s__law_laid f__law_laid fd__law_laid
  m__law_laid : mg "_law_laid" = some (.ref f__law_laid)
  b__law_laid : Binds K fd__law_laid ["rows"] []
  f__law_is_heap : Addr
  fd__law_is_heap : FuncData
  F__law_is_heap : Fun K "_law_is_heap" "_law_is_heap" s__law_is_heap f__law_is_heap fd__law_is_heap
  m__law_is_heap : mg "_law_is_heap" = some (.ref f__law_is_heap)
  b__law_is_heap : Binds K fd__law_is_heap ["value"] []
  f__law_right : Addr
  fd__law_right : FuncData
  F__law_right : Fun K "_law_right" "_law_right" s__law_right f__law_right fd__law_right
  m__law_right : mg "_law_right" = some (.ref f__law_right)
  b__law_right : Binds K fd__law_right ["pot"] []
  f_law : Addr
  fd_law : FuncData
  F_law : Fun K "law" "law" s_law f_law fd_law
  m_law : mg "law" = some (.ref f_law)
  b_law : Binds K fd_law ["script"] []
theorem Txt.k_is_integer {K : PySem.W.Frag} {mg : Str → Option Value} (T : Txt K mg) : PySem.W.keepIn K (.ref T.f_is_integer) = true := T.F_is_integer.kp
theorem Txt.k_is_between {K : PySem.W.Frag} {mg : Str → Option Value} (T : Txt K mg) : PySem.W.keepIn K (.ref T.f_is_between) = true := T.F_is_between.kp
theorem Txt.k_are_between {K : PySem.W.Frag} {mg : Str → Option Value} (T : Txt K mg) : PySem.W.keepIn K (.ref T.f_are_between) = true := T.F_are_between.kp
theorem Txt.k_is_ascending {K : PySem.W.Frag} {mg : Str → Option Value} (T : Txt K mg) : PySem.W.keepIn K (.ref T.f_is_ascending) = true := T.F_is_ascending.kp
theorem Txt.k_is_row_of {K : PySem.W.Frag} {mg : Str → Option Value} (T : Txt K mg) : PySem.W.keepIn K (.ref T.f_is_row_of) = true := T.F_is_row_of.kp
theorem Txt.k_check_row {K : PySem.W.Frag} {mg : Str → Option Value} (T : Txt K mg) : PySem.W.keepIn K (.ref T.f_check_row) = true := T.F_check_row.kp
theorem Txt.k_is_heap_of {K : PySem.W.Frag} {mg : Str → Option Value} (T : Txt K mg) : PySem.W.keepIn K (.ref T.f_is_heap_of) = true := T.F_is_heap_of.kp
theorem Txt.k_is_heap {K : PySem.W.Frag} {mg : Str → Option Value} (T : Txt K mg) : PySem.W.keepIn K (.ref T.f_is_heap) = true := T.F_is_heap.kp
theorem Txt.k_check_heap {K : PySem.W.Frag} {mg : Str → Option Value} (T : Txt K mg) : PySem.W.keepIn K (.ref T.f_check_heap) = true := T.F_check_heap.kp
theorem Txt.k_check_both {K : PySem.W.Frag} {mg : Str → Option Value} (T : Txt K mg) : PySem.W.keepIn K (.ref T.f_check_both) = true := T.F_check_both.kp
theorem Txt.k_overlaps_of {K : PySem.W.Frag} {mg : Str → Option Value} (T : Txt K mg) : PySem.W.keepIn K (.ref T.f_overlaps_of) = true := T.F_overlaps_of.kp
theorem Txt.k_overlap_of {K : PySem.W.Frag} {mg : Str → Option Value} (T : Txt K mg) : PySem.W.keepIn K (.ref T.f_overlap_of) = true := T.F_overlap_of.kp
theorem Txt.k_overlaps {K : PySem.W.Frag} {mg : Str → Option Value} (T : Txt K mg) : PySem.W.keepIn K (.ref T.f_overlaps) = true := T.F_overlaps.kp
theorem Txt.k_overlap {K : PySem.W.Frag} {mg : Str → Option Value} (T : Txt K mg) : PySem.W.keepIn K (.ref T.f_overlap) = true := T.F_overlap.kp
theorem Txt.k_inside_of {K : PySem.W.Frag} {mg : Str → Option Value} (T : Txt K mg) : PySem.W.keepIn K (.ref T.f_inside_of) = true := T.F_inside_of.kp
theorem Txt.k_outer_of {K : PySem.W.Frag} {mg : Str → Option Value} (T : Txt K mg) : PySem.W.keepIn K (.ref T.f_outer_of) = true := T.F_outer_of.kp
theorem Txt.k_inside {K : PySem.W.Frag} {mg : Str → Option Value} (T : Txt K mg) : PySem.W.keepIn K (.ref T.f_inside) = true := T.F_inside.kp
theorem Txt.k_outer {K : PySem.W.Frag} {mg : Str → Option Value} (T : Txt K mg) : PySem.W.keepIn K (.ref T.f_outer) = true := T.F_outer.kp
theorem Txt.k_web_of {K : PySem.W.Frag} {mg : Str → Option Value} (T : Txt K mg) : PySem.W.keepIn K (.ref T.f_web_of) = true := T.F_web_of.kp
theorem Txt.k_overlap_web {K : PySem.W.Frag} {mg : Str → Option Value} (T : Txt K mg) : PySem.W.keepIn K (.ref T.f_overlap_web) = true := T.F_overlap_web.kp
theorem Txt.k_is_needless {K : PySem.W.Frag} {mg : Str → Option Value} (T : Txt K mg) : PySem.W.keepIn K (.ref T.f_is_needless) = true := T.F_is_needless.kp
theorem Txt.k_needless_overlaps {K : PySem.W.Frag} {mg : Str → Option Value} (T : Txt K mg) : PySem.W.keepIn K (.ref T.f_needless_overlaps) = true := T.F_needless_overlaps.kp
theorem Txt.k_is_order_of {K : PySem.W.Frag} {mg : Str → Option Value} (T : Txt K mg) : PySem.W.keepIn K (.ref T.f_is_order_of) = true := T.F_is_order_of.kp
theorem Txt.k_check_order {K : PySem.W.Frag} {mg : Str → Option Value} (T : Txt K mg) : PySem.W.keepIn K (.ref T.f_check_order) = true := T.F_check_order.kp
theorem Txt.k_laid_of {K : PySem.W.Frag} {mg : Str → Option Value} (T : Txt K mg) : PySem.W.keepIn K (.ref T.f_laid_of) = true := T.F_laid_of.kp
theorem Txt.k_laid {K : PySem.W.Frag} {mg : Str → Option Value} (T : Txt K mg) : PySem.W.keepIn K (.ref T.f_laid) = true := T.F_laid.kp
theorem Txt.k_saved {K : PySem.W.Frag} {mg : Str → Option Value} (T : Txt K mg) : PySem.W.keepIn K (.ref T.f_saved) = true := T.F_saved.kp
theorem Txt.k__law_pot {K : PySem.W.Frag} {mg : Str → Option Value} (T : Txt K mg) : PySem.W.keepIn K (.ref T.f__law_pot) = true := T.F__law_pot.kp
theorem Txt.k__law_take {K : PySem.W.Frag} {mg : Str → Option Value} (T : Txt K mg) : PySem.W.keepIn K (.ref T.f__law_take) = true := T.F__law_take.kp
theorem Txt.k__law_of {K : PySem.W.Frag} {mg : Str → Option Value} (T : Txt K mg) : PySem.W.keepIn K (.ref T.f__law_of) = true := T.F__law_of.kp
theorem Txt.k__law_some {K : PySem.W.Frag} {mg : Str → Option Value} (T : Txt K mg) : PySem.W.keepIn K (.ref T.f__law_some) = true := T.F__law_some.kp
theorem Txt.k__law_cells {K : PySem.W.Frag} {mg : Str → Option Value} (T : Txt K mg) : PySem.W.keepIn K (.ref T.f__law_cells) = true := T.F__law_cells.kp
theorem Txt.k__law_is_row {K : PySem.W.Frag} {mg : Str → Option Value} (T : Txt K mg) : PySem.W.keepIn K (.ref T.f__law_is_row) = true := T.F__law_is_row.kp
theorem Txt.k__law_odd {K : PySem.W.Frag} {mg : Str → Option Value} (T : Txt K mg) : PySem.W.keepIn K (.ref T.f__law_odd) = true := T.F__law_odd.kp
theorem Txt.k__law_bent {K : PySem.W.Frag} {mg : Str → Option Value} (T : Txt K mg) : PySem.W.keepIn K (.ref T.f__law_bent) = true := T.F__law_bent.kp
theorem Txt.k__law_heap {K : PySem.W.Frag} {mg : Str → Option Value} (T : Txt K mg) : PySem.W.keepIn K (.ref T.f__law_heap) = true := T.F__law_heap.kp
theorem Txt.k__law_overlap {K : PySem.W.Frag} {mg : Str → Option Value} (T : Txt K mg) : PySem.W.keepIn K (.ref T.f__law_overlap) = true := T.F__law_overlap.kp
theorem Txt.k__law_outer {K : PySem.W.Frag} {mg : Str → Option Value} (T : Txt K mg) : PySem.W.keepIn K (.ref T.f__law_outer) = true := T.F__law_outer.kp
theorem Txt.k__law_laid {K : PySem.W.Frag} {mg : Str → Option Value} (T : Txt K mg) : PySem.W.keepIn K (.ref T.f__law_laid) = true := T.F__law_laid.kp
theorem Txt.k__law_is_heap {K : PySem.W.Frag} {mg : Str → Option Value} (T : Txt K mg) : PySem.W.keepIn K (.ref T.f__law_is_heap) = true := T.F__law_is_heap.kp
theorem Txt.k__law_right {K : PySem.W.Frag} {mg : Str → Option Value} (T : Txt K mg) : PySem.W.keepIn K (.ref T.f__law_right) = true := T.F__law_right.kp
theorem Txt.k_law {K : PySem.W.Frag} {mg : Str → Option Value} (T : Txt K mg) : PySem.W.keepIn K (.ref T.f_law) = true := T.F_law.kp
local macro_rules | `(tactic| walk_at "len") => `(tactic| (intro ds S P h; (repeat (obtain ⟨_, h⟩ := h)); subst_vars; rfl))
theorem l_is_integer : ∀ ds S P, sp_is_integer ds S P → ds.length = 1 := by walk_at "len"
theorem l_is_ascending : ∀ ds S P, sp_is_ascending ds S P → ds.length = 1 := by walk_at "len"
theorem l_is_row_of : ∀ ds S P, sp_is_row_of ds S P → ds.length = 1 := by walk_at "len"
theorem l_overlaps_of : ∀ ds S P, sp_overlaps_of ds S P → ds.length = 2 := by walk_at "len"
theorem l_inside_of : ∀ ds S P, sp_inside_of ds S P → ds.length = 1 := by walk_at "len"
theorem l_is_needless : ∀ ds S P, sp_is_needless ds S P → ds.length = 3 := by walk_at "len"
theorem l__law_pot : ∀ ds S P, sp__law_pot ds S P → ds.length = 2 := by walk_at "len"
theorem l__law_take : ∀ ds S P, sp__law_take ds S P → ds.length = 2 := by walk_at "len"
theorem l__law_cells : ∀ ds S P, sp__law_cells ds S P → ds.length = 2 := by walk_at "len"
theorem l__law_is_row : ∀ ds S P, sp__law_is_row ds S P → ds.length = 2 := by walk_at "len"
theorem l__law_overlap : ∀ ds S P, sp__law_overlap ds S P → ds.length = 2 := by walk_at "len"
theorem l__law_outer : ∀ ds S P, sp__law_outer ds S P → ds.length = 1 := by walk_at "len"
theorem l_is_between : ∀ ds S P, sp_is_between ds S P → ds.length = 3 := by walk_at "len"
theorem l_check_row : ∀ ds S P, sp_check_row ds S P → ds.length = 1 := by walk_at "len"
theorem l_is_heap_of : ∀ ds S P, sp_is_heap_of ds S P → ds.length = 1 := by walk_at "len"
theorem l_overlap_of : ∀ ds S P, sp_overlap_of ds S P → ds.length = 2 := by walk_at "len"
theorem l_outer_of : ∀ ds S P, sp_outer_of ds S P → ds.length = 1 := by walk_at "len"
theorem l__law_of : ∀ ds S P, sp__law_of ds S P → ds.length = 2 := by walk_at "len"
theorem l__law_some : ∀ ds S P, sp__law_some ds S P → ds.length = 3 := by walk_at "len"
theorem l__law_laid : ∀ ds S P, sp__law_laid ds S P → ds.length = 1 := by walk_at "len"
theorem l__law_is_heap : ∀ ds S P, sp__law_is_heap ds S P → ds.length = 1 := by walk_at "len"
theorem l_are_between : ∀ ds S P, sp_are_between ds S P → ds.length = 3 := by walk_at "len"
theorem l_is_heap : ∀ ds S P, sp_is_heap ds S P → ds.length = 1 := by walk_at "len"
theorem l_check_heap : ∀ ds S P, sp_check_heap ds S P → ds.length = 1 := by walk_at "len"
theorem l_check_both : ∀ ds S P, sp_check_both ds S P → ds.length = 2 := by walk_at "len"
theorem l_web_of : ∀ ds S P, sp_web_of ds S P → ds.length = 1 := by walk_at "len"
theorem l_laid_of : ∀ ds S P, sp_laid_of ds S P → ds.length = 1 := by walk_at "len"
theorem l__law_odd : ∀ ds S P, sp__law_odd ds S P → ds.length = 1 := by walk_at "len"
theorem l__law_heap : ∀ ds S P, sp__law_heap ds S P → ds.length = 2 := by walk_at "len"
theorem l_overlaps : ∀ ds S P, sp_overlaps ds S P → ds.length = 2 := by walk_at "len"
theorem l_overlap : ∀ ds S P, sp_overlap ds S P → ds.length = 2 := by walk_at "len"
theorem l_inside : ∀ ds S P, sp_inside ds S P → ds.length = 1 := by walk_at "len"
theorem l_outer : ∀ ds S P, sp_outer ds S P → ds.length = 1 := by walk_at "len"
theorem l_overlap_web : ∀ ds S P, sp_overlap_web ds S P → ds.length = 1 := by walk_at "len"
theorem l_needless_overlaps : ∀ ds S P, sp_needless_overlaps ds S P → ds.length = 1 := by walk_at "len"
theorem l_is_order_of : ∀ ds S P, sp_is_order_of ds S P → ds.length = 2 := by walk_at "len"
theorem l__law_bent : ∀ ds S P, sp__law_bent ds S P → ds.length = 2 := by walk_at "len"
theorem lT__law_bent : ∀ ds S P, spT__law_bent ds S P → ds.length = 2 := by walk_at "len"
theorem l_check_order : ∀ ds S P, sp_check_order ds S P → ds.length = 2 := by walk_at "len"
theorem l_laid : ∀ ds S P, sp_laid ds S P → ds.length = 2 := by walk_at "len"
theorem l_saved : ∀ ds S P, sp_saved ds S P → ds.length = 2 := by walk_at "len"
theorem l__law_right : ∀ ds S P, sp__law_right ds S P → ds.length = 1 := by walk_at "len"
theorem l_law : ∀ ds S P, sp_law ds S P → ds.length = 1 := by walk_at "len"
section
variable {P : Program} {w : World} {K : PySem.W.Frag} {mg : Str → Option Value} {base : Heap}
theorem ok_is_integer (T : Txt K mg) : FnG P w K mg base CX0 1 T.f_is_integer T.fd_is_integer ["value"] (spD K sp_is_integer) := by
  refine FunG (k := 0) T.F_is_integer sc_is_integer (fun vs H Q E h => spD_len h (l_is_integer)) (fun cdv A outer s H vs Q E hr hgd h => ?_)
  have hu := hr.units
  have hu1 := hu_of hr
  have nd := sc_is_integer.nd
  exact ⟨t_is_integer K,
    (pss_one (ps_ret (pe_and (pe_callB (ca_isinstance rfl) (by rfl) T.m_isinstance bt_isinstance (pa_cons (pv 0) (pa_cons (pe_bltn (v := .ty "int") (by rfl) T.m_int (by decide +kernel) rfl) pa_nil))) (pe_one (pe_notT (pe_callB (ca_isinstance rfl) (by rfl) T.m_isinstance bt_isinstance (pa_cons (pv 0) (pa_cons (pe_bltn (v := .ty "bool") (by rfl) T.m_bool (by decide +kernel) rfl) pa_nil)))))))),
    fn_body (w_is_integer K) h⟩
theorem ok_is_ascending (T : Txt K mg) : FnG P w K mg base CX0 1 T.f_is_ascending T.fd_is_ascending ["value"] (spD K sp_is_ascending) := by
  refine FunG (k := 0) T.F_is_ascending sc_is_ascending (fun vs H Q E h => spD_len h (l_is_ascending)) (fun cdv A outer s H vs Q E hr hgd h => ?_)
  have hu := hr.units
  have hu1 := hu_of hr
  have nd := sc_is_ascending.nd
  exact ⟨t_is_ascending K,
    (pss_one (ps_ret (pe_callB (ca_all rfl) (by rfl) T.m_all bt_all (pa_cons (pe_lc (own := [("one", 1), ("other", 2)]) (g := (gTup K 2 (gCons (gName 1) (gCons (gName 2) gNil)))) rfl nd (pi_zipX (by rfl) T.m_zip (pa_cons (pv 0) (pa_cons (pe_slice oaSl (pv 0) (po_some pe_int) po_none) pa_nil))) (blkOk_by (own := [("one", 1), ("other", 2)]) (N := ["value", "one", "other"]) (sc := defScope s_is_ascending) (by decide +kernel)) (fun _ _ _ _ _ => (pg_tup rfl (pgs_cons (pg_name (i := 1) nd rfl (Or.inl rfl)) (pgs_cons (pg_name (i := 2) nd rfl (Or.inl rfl)) pgs_nil)))) (fun _ _ _ _ _ => pts_nil) (fun _ _ _ _ _ => (pe_cmpR oaLt (pv 1) (pv 2) (nomark _)))) pa_nil)))),
    fn_body (w_is_ascending K) h⟩
theorem ok_is_row_of (T : Txt K mg) : FnG P w K mg base CX0 1 T.f_is_row_of T.fd_is_row_of ["value"] (spD K sp_is_row_of) := by
  refine FunG (k := 0) T.F_is_row_of sc_is_row_of (fun vs H Q E h => spD_len h (l_is_row_of)) (fun cdv A outer s H vs Q E hr hgd h => ?_)
  have hu := hr.units
  have hu1 := hu_of hr
  have nd := sc_is_row_of.nd
  exact ⟨t_is_row_of K,
    (pss_one (ps_ret (pe_and (pe_callB (ca_isinstance rfl) (by rfl) T.m_isinstance bt_isinstance (pa_cons (pv 0) (pa_cons (pe_bltn (v := .ty "str") (by rfl) T.m_str (by decide +kernel) rfl) pa_nil))) (pe_and (pe_cmpR oaLe (pe_callB (ca_len rfl) (by rfl) T.m_len bt_len (pa_cons (pv 0) pa_nil)) (pe_globI rfl T.c_MOST_ROW) (nomark _)) (pe_one (pe_callB (ca_all rfl) (by rfl) T.m_all bt_all (pa_cons (pe_lc (own := [("sign", 1)]) (g := (gName 1)) rfl nd (pi_seq (pv 0)) (blkOk_by (own := [("sign", 1)]) (N := ["value", "sign"]) (sc := defScope s_is_row_of) (by decide +kernel)) (fun _ _ _ _ _ => (pg_name (i := 1) nd rfl (Or.inl rfl))) (fun _ _ _ _ _ => pts_nil) (fun _ _ _ _ _ => (pe_cmpR oaIn (pv 1) (pe_globS rfl T.c_LETTERS) rfl))) pa_nil))))))),
    fn_body (w_is_row_of K) h⟩
theorem ok_overlaps_of (T : Txt K mg) : FnG P w K mg base CX0 1 T.f_overlaps_of T.fd_overlaps_of ["one", "other"] (spD K sp_overlaps_of) := by
  refine FunG (k := 0) T.F_overlaps_of sc_overlaps_of (fun vs H Q E h => spD_len h (l_overlaps_of)) (fun cdv A outer s H vs Q E hr hgd h => ?_)
  have hu := hr.units
  have hu1 := hu_of hr
  have nd := sc_overlaps_of.nd
  exact ⟨t_overlaps_of K,
    (pss_one (ps_ret (pe_lc (own := [("size", 2)]) (g := (gName 2)) rfl nd (pi_range2 (by rfl) T.m_range (pa_cons pe_int (pa_cons (pe_callB (ca_min2 rfl) (by rfl) T.m_min bt_min (pa_cons (pe_callB (ca_len rfl) (by rfl) T.m_len bt_len (pa_cons (pv 0) pa_nil)) (pa_cons (pe_callB (ca_len rfl) (by rfl) T.m_len bt_len (pa_cons (pv 1) pa_nil)) pa_nil))) pa_nil))) (blkOk_by (own := [("size", 2)]) (N := ["one", "other", "size"]) (sc := defScope s_overlaps_of) (by decide +kernel)) (fun _ _ _ _ _ => (pg_name (i := 2) nd rfl (Or.inl rfl))) (fun _ _ _ _ _ => (pts_one (pt_truthX (pe_m1 PySem.F.slot_str_endswith PySem.F.type_str_endswith ma_str_endswith (pv 0) (pe_slice oaSl (pv 1) po_none (po_some (pv 2)))) (by intro _; rfl)))) (fun _ _ _ _ _ => (pv 2))))),
    fn_body (w_overlaps_of K) h⟩
theorem ok_inside_of (T : Txt K mg) : FnG P w K mg base CX0 1 T.f_inside_of T.fd_inside_of ["heap"] (spD K sp_inside_of) := by
  refine FunG (k := 0) T.F_inside_of sc_inside_of (fun vs H Q E h => spD_len h (l_inside_of)) (fun cdv A outer s H vs Q E hr hgd h => ?_)
  have hu := hr.units
  have hu1 := hu_of hr
  have nd := sc_inside_of.nd
  exact ⟨t_inside_of K,
    (pss_one (ps_ret (pe_lc (own := [("row", 1)]) (g := (gName 1)) rfl nd (pi_seq (pv 0)) (blkOk_by (own := [("row", 1)]) (N := ["heap", "row", "other"]) (sc := defScope s_inside_of) (by decide +kernel)) (fun _ _ _ _ _ => (pg_name (i := 1) nd rfl (Or.inr rfl))) (fun _ _ _ _ _ => (pts_one (pt_truthX (pe_callB (ca_any rfl) (by rfl) T.m_any bt_any (pa_cons (pe_lc (own := [("other", 2)]) (g := (gName 2)) rfl nd (pi_seq (pv 0)) (blkOk_by (own := [("other", 2)]) (by kernel_rfl)) (fun _ _ _ _ _ => (pg_name (i := 2) nd rfl (Or.inl rfl))) (fun _ _ _ _ _ => (pts_one (pt_cmpR (oaNe hu) (pv 2) (pv 1) (nomark _)))) (fun _ _ _ _ _ => (pe_cmpR oaIn (pv 1) (pv 2) rfl))) pa_nil)) (by intro _; rfl)))) (fun _ _ _ _ _ => (pv 1))))),
    fn_body (w_inside_of K) h⟩
theorem ok_is_needless (T : Txt K mg) : FnG P w K mg base CX0 1 T.f_is_needless T.fd_is_needless ["heap", "known", "arc"] (spD K sp_is_needless) := by
  refine FunG (k := 0) T.F_is_needless sc_is_needless (fun vs H Q E h => spD_len h (l_is_needless)) (fun cdv A outer s H vs Q E hr hgd h => ?_)
  have hu := hr.units
  have hu1 := hu_of hr
  have nd := sc_is_needless.nd
  exact ⟨t_is_needless K,
    (pss_cons (ps_asg (pv 2) (pg_tup rfl (pgs_cons (pg_name (i := 3) nd rfl (Or.inl rfl)) (pgs_cons (pg_name (i := 4) nd rfl (Or.inl rfl)) (pgs_cons (pg_name (i := 5) nd rfl (Or.inl rfl)) pgs_nil)))))
      (pss_cons (ps_for PassesOwn.never rfl (pi_enumerateX (by rfl) T.m_enumerate (pa_cons (pv 0) pa_nil)) (pg_tup rfl (pgs_cons (pg_name (i := 6) nd rfl (Or.inl rfl)) (pgs_cons (pg_name (i := 7) nd rfl (Or.inl rfl)) pgs_nil)))
      (pss_one (ps_if (PW.pt (pw_and (pt_cmp (pc_din hu1 (pe_tup (pa_cons (pv 3) (pa_cons (pv 6) pa_nil))) (pv 1))) (pw_and (pt_cmp (pc_din hu1 (pe_tup (pa_cons (pv 6) (pa_cons (pv 4) pa_nil))) (pv 1))) (pw_and1 (pt_cmpR (oaEq hu) (pe_op oaAdd (pe_dget hu1 (pv 1) (pe_tup (pa_cons (pv 3) (pa_cons (pv 6) pa_nil))) (fun _ _ => rfl)) (pe_dget hu1 (pv 1) (pe_tup (pa_cons (pv 6) (pa_cons (pv 4) pa_nil))) (fun _ _ => rfl))) (pe_op oaAdd (pe_callB (ca_len rfl) (by rfl) T.m_len bt_len (pa_cons (pv 7) pa_nil)) (pv 5)) (nomark _))))))
      (pss_one (ps_ret pe_bl))
      pss_nil)))
      (pss_one (ps_ret pe_bl)))),
    fn_body (w_is_needless K) h⟩
theorem ok__law_pot (T : Txt K mg) : FnG P w K mg base CX0 1 T.f__law_pot T.fd__law_pot ["script", "place"] (spD K sp__law_pot) := by
  refine FunG (k := 0) T.F__law_pot sc__law_pot (fun vs H Q E h => spD_len h (l__law_pot)) (fun cdv A outer s H vs Q E hr hgd h => ?_)
  have hu := hr.units
  have hu1 := hu_of hr
  have nd := sc__law_pot.nd
  exact ⟨t__law_pot K,
    (pss_cons (ps_set (i := 2) nd rfl (Or.inl rfl) (pe_ifExp (pt_cmpR oaLt (pv 1) (pe_callB (ca_len rfl) (by rfl) T.m_len bt_len (pa_cons (pv 0) pa_nil)) (nomark _)) (pe_ix ix_seq (pv 0) (pv 1) (fun _ _ => rfl)) (pe_op oaAdd (pe_op oaAdd (pe_op oaMod (pe_callB (ca_sum rfl) (by rfl) T.m_sum bt_sum (pa_cons (pe_slice oaSl (pv 0) po_none (po_some pe_int)) pa_nil)) pe_int) (pe_op oaMul pe_int (pv 1))) pe_int)))
      (pss_cons (ps_set (i := 3) nd rfl (Or.inl rfl) (pe_op oaMul (pe_op oaMod (pe_callTy (ca_int rfl) (by rfl) T.m_int bt_int (pa_cons (pe_callB (ca_abs rfl) (by rfl) T.m_abs bt_abs (pa_cons (pv 2) pa_nil)) pa_nil)) (pe_op oaPow (pe_op oaPow pe_int pe_int) pe_int)) (pe_callTy (ca_int rfl) (by rfl) T.m_int bt_int (pa_cons (pe_cmpR oaGe (pe_callB (ca_abs rfl) (by rfl) T.m_abs bt_abs (pa_cons (pv 2) pa_nil)) (pe_op oaPow pe_int pe_int) (nomark _)) pa_nil))))
      (pss_cons (ps_set (i := 4) nd rfl (Or.inl rfl) (pe_op oaMod (pe_callTy (ca_int rfl) (by rfl) T.m_int bt_int (pa_cons (pv 2) pa_nil)) pe_int))
      (pss_one (ps_ret (pe_lst (pa_cons (pv 3) (pa_cons (pe_op oaMod (pe_callTy (ca_int rfl) (by rfl) T.m_int bt_int (pa_cons (pe_op oaAdd (pe_op oaAdd (pe_op oaMul (pv 4) pe_int) (pe_op oaMul (pe_op oaMul pe_int (pv 1)) (pv 1))) pe_int) pa_nil)) pe_int) (pa_cons pe_int pa_nil))))))))),
    fn_body (w_law_pot K) h⟩
theorem ok__law_take (T : Txt K mg) : FnG P w K mg base CX0 1 T.f__law_take T.fd__law_take ["pot", "upto"] (spD K sp__law_take) := by
  refine FunG (k := 0) T.F__law_take sc__law_take (fun vs H Q E h => spD_len h (l__law_take)) (fun cdv A outer s H vs Q E hr hgd h => ?_)
  have hu := hr.units
  have hu1 := hu_of hr
  have nd := sc__law_take.nd
  exact ⟨t__law_take K,
    (pss_cons (ps_if (pt_cmpR oaGt (pe_ix ix_seq (pv 0) pe_int (fun _ _ => rfl)) pe_int (nomark _))
      (pss_cons (ps_set (i := 2) nd rfl (Or.inl rfl) (pe_op oaMod (pe_callTy (ca_int rfl) (by rfl) T.m_int bt_int (pa_cons (pe_ix ix_seq (pv 0) pe_int (fun _ _ => rfl)) pa_nil)) (pv 1)))
      (pss_cons (ps_asg (pe_op oaDiv (pe_ix ix_seq (pv 0) pe_int (fun _ _ => rfl)) (pv 1)) (pg_sub (pv 0) pe_int set_list))
      (pss_one (ps_ret (pv 2)))))
      pss_nil)
      (pss_cons (ps_asg (pe_op oaAdd (pe_ix ix_seq (pv 0) pe_int (fun _ _ => rfl)) pe_int) (pg_sub (pv 0) pe_int set_list))
      (pss_cons (ps_set (i := 3) nd rfl (Or.inl rfl) (pe_ix ix_seq (pe_lst (pa_cons pe_int (pa_cons pe_int (pa_cons pe_int (pa_cons pe_int (pa_cons pe_int pa_nil)))))) (pe_op oaMod (pe_callTy (ca_int rfl) (by rfl) T.m_int bt_int (pa_cons (pe_ix ix_seq (pv 0) pe_int (fun _ _ => rfl)) pa_nil)) pe_int) (fun _ _ => rfl)))
      (pss_cons (ps_set (i := 4) nd rfl (Or.inl rfl) (pe_op oaMod (pe_callTy (ca_int rfl) (by rfl) T.m_int bt_int (pa_cons (pe_op oaPow (pe_callTy (ca_int rfl) (by rfl) T.m_int bt_int (pa_cons (pe_op oaAdd (pe_op oaAdd (pe_ix ix_seq (pv 0) pe_int (fun _ _ => rfl)) (pe_op oaMul (pe_op oaMul pe_int (pe_ix ix_seq (pv 0) pe_int (fun _ _ => rfl))) (pe_ix ix_seq (pv 0) pe_int (fun _ _ => rfl)))) pe_int) pa_nil)) pe_int) pa_nil)) (pv 3)))
      (pss_cons (ps_set (i := 4) nd rfl (Or.inl rfl) (pe_op oaMod (pe_callTy (ca_int rfl) (by rfl) T.m_int bt_int (pa_cons (pe_op oaMul (pv 4) (pe_op oaAdd (pe_op oaMod (pe_callTy (ca_int rfl) (by rfl) T.m_int bt_int (pa_cons (pv 4) pa_nil)) pe_int) (pe_op oaMul pe_int (pe_ix ix_seq (pv 0) pe_int (fun _ _ => rfl))))) pa_nil)) pe_int))
      (pss_one (ps_ret (pe_op oaMod (pe_callTy (ca_int rfl) (by rfl) T.m_int bt_int (pa_cons (pe_op oaDiv (pv 4) pe_int) pa_nil)) (pv 1))))))))),
    fn_body (w_law_take K) h⟩
theorem ok__law_cells (T : Txt K mg) : FnG P w K mg base CX0 1 T.f__law_cells T.fd__law_cells ["script", "most"] (spD K sp__law_cells) := by
  refine FunG (k := 0) T.F__law_cells sc__law_cells (fun vs H Q E h => spD_len h (l__law_cells)) (fun cdv A outer s H vs Q E hr hgd h => ?_)
  have hu := hr.units
  have hu1 := hu_of hr
  have nd := sc__law_cells.nd
  exact ⟨t__law_cells K,
    (pss_one (ps_ret (pe_listRg rfl (by rfl) T.m_list (prg_1 (by rfl) T.m_range (pe_callB (ca_max2 rfl) (by rfl) T.m_max bt_max (pa_cons pe_int (pa_cons (pe_callB (ca_min2 rfl) (by rfl) T.m_min bt_min (pa_cons (pv 1) (pa_cons (pe_callB (ca_len rfl) (by rfl) T.m_len bt_len (pa_cons (pv 0) pa_nil)) pa_nil))) pa_nil))))))),
    fn_body (w_law_cells K) h⟩
theorem ok__law_is_row (T : Txt K mg) : FnG P w K mg base CX0 1 T.f__law_is_row T.fd__law_is_row ["value", "most"] (spD K sp__law_is_row) := by
  refine FunG (k := 0) T.F__law_is_row sc__law_is_row (fun vs H Q E h => spD_len h (l__law_is_row)) (fun cdv A outer s H vs Q E hr hgd h => ?_)
  have hu := hr.units
  have hu1 := hu_of hr
  have nd := sc__law_is_row.nd
  exact ⟨t__law_is_row K,
    (pss_one (ps_ret (pe_and (pe_callB (ca_isinstance rfl) (by rfl) T.m_isinstance bt_isinstance (pa_cons (pv 0) (pa_cons (pe_bltn (v := .ty "str") (by rfl) T.m_str (by decide +kernel) rfl) pa_nil))) (pe_and (pe_cmpR oaLe (pe_callB (ca_len rfl) (by rfl) T.m_len bt_len (pa_cons (pv 0) pa_nil)) (pv 1) (nomark _)) (pe_one (pe_callB (ca_all rfl) (by rfl) T.m_all bt_all (pa_cons (pe_lc (own := [("sign", 2)]) (g := (gName 2)) rfl nd (pi_seq (pv 0)) (blkOk_by (own := [("sign", 2)]) (N := ["value", "most", "sign"]) (sc := defScope s__law_is_row) (by decide +kernel)) (fun _ _ _ _ _ => (pg_name (i := 2) nd rfl (Or.inl rfl))) (fun _ _ _ _ _ => pts_nil) (fun _ _ _ _ _ => (pe_cmpR oaIn (pv 2) pe_str rfl))) pa_nil))))))),
    fn_body (w_law_is_row K) h⟩
theorem ok__law_overlap (T : Txt K mg) : FnG P w K mg base CX0 1 T.f__law_overlap T.fd__law_overlap ["one", "other"] (spD K sp__law_overlap) := by
  refine FunG (k := 0) T.F__law_overlap sc__law_overlap (fun vs H Q E h => spD_len h (l__law_overlap)) (fun cdv A outer s H vs Q E hr hgd h => ?_)
  have hu := hr.units
  have hu1 := hu_of hr
  have nd := sc__law_overlap.nd
  exact ⟨t__law_overlap K,
    (pss_cons (ps_setLc (i := 2) (own := [("size", 3)]) (g := (gName 3)) rfl nd rfl rfl (sw_true rfl rfl rfl (by decide +kernel)) (pi_range1 (by rfl) T.m_range (pa_cons (pe_callB (ca_min2 rfl) (by rfl) T.m_min bt_min (pa_cons (pe_callB (ca_len rfl) (by rfl) T.m_len bt_len (pa_cons (pv 0) pa_nil)) (pa_cons (pe_callB (ca_len rfl) (by rfl) T.m_len bt_len (pa_cons (pv 1) pa_nil)) pa_nil))) pa_nil)) (blkOk_by (own := [("size", 3)]) (N := ["one", "other", "fine", "size"]) (sc := defScope s__law_overlap) (by decide +kernel)) (fun _ _ _ _ _ => (pg_name (i := 3) nd rfl (Or.inl rfl))) (fun _ _ _ _ _ => (pts_one (pt_cmpR (oaEq hu) (pe_slice oaSl (pv 0) (po_some (pe_op oaSub (pe_callB (ca_len rfl) (by rfl) T.m_len bt_len (pa_cons (pv 0) pa_nil)) (pv 3))) po_none) (pe_slice oaSl (pv 1) po_none (po_some (pv 3))) (nomark _)))) (fun _ _ _ _ _ => (pv 3)))
      (pss_one (ps_ret (pe_ifExp (pt_cmpR (oaNe hu) (pv 2) (pe_lst pa_nil) (nomark _)) (pe_callB (ca_max1 rfl) (by rfl) T.m_max bt_max (pa_cons (pv 2) pa_nil)) pe_int)))),
    fn_body (w_law_overlap K) h⟩
theorem ok__law_outer (T : Txt K mg) : FnG P w K mg base CX0 1 T.f__law_outer T.fd__law_outer ["heap"] (spD K sp__law_outer) := by
  refine FunG (k := 0) T.F__law_outer sc__law_outer (fun vs H Q E h => spD_len h (l__law_outer)) (fun cdv A outer s H vs Q E hr hgd h => ?_)
  have hu := hr.units
  have hu1 := hu_of hr
  have nd := sc__law_outer.nd
  exact ⟨t__law_outer K,
    (pss_one (ps_ret (pe_lc (own := [("row", 1)]) (g := (gName 1)) rfl nd (pi_seq (pv 0)) (blkOk_by (own := [("row", 1)]) (N := ["heap", "row", "other"]) (sc := defScope s__law_outer) (by decide +kernel)) (fun _ _ _ _ _ => (pg_name (i := 1) nd rfl (Or.inr rfl))) (fun _ _ _ _ _ => (pts_one (pt_not (pt_truthX (pe_callB (ca_any rfl) (by rfl) T.m_any bt_any (pa_cons (pe_lc (own := [("other", 2)]) (g := (gName 2)) rfl nd (pi_seq (pv 0)) (blkOk_by (own := [("other", 2)]) (by kernel_rfl)) (fun _ _ _ _ _ => (pg_name (i := 2) nd rfl (Or.inl rfl))) (fun _ _ _ _ _ => pts_nil) (fun _ _ _ _ _ => (pe_and (pe_cmpR (oaNe hu) (pv 1) (pv 2) (nomark _)) (pe_one (pe_cmpR oaIn (pv 1) (pv 2) rfl))))) pa_nil)) (by intro _; rfl))))) (fun _ _ _ _ _ => (pv 1))))),
    fn_body (w_law_outer K) h⟩
theorem ok_is_between (T : Txt K mg) : FnG P w K mg base CX0 2 T.f_is_between T.fd_is_between ["value", "low", "high"] (spD K sp_is_between) := by
  have G_is_integer := ok_is_integer (P := P) (w := w) (base := base) T
  refine FunG (k := 1) T.F_is_between sc_is_between (fun vs H Q E h => spD_len h (l_is_between)) (fun cdv A outer s H vs Q E hr hgd h => ?_)
  have hu := hr.units
  have hu1 := hu_of hr
  have nd := sc_is_between.nd
  have hr_is_integer : Room 1 _ := hr.mono (by decide)
  exact ⟨t_is_between K,
    (pss_one (ps_ret (pe_and (pe_callG G_is_integer hr_is_integer hgd (by rfl) T.m_is_integer T.k_is_integer T.b_is_integer pass0 (pa_cons (pv 0) pa_nil)) (pe_one (pe_chain oaLe oaLe (pv 1) (pv 0) (pv 2)))))),
    fn_body (w_is_between K) h⟩
theorem ok_check_row (T : Txt K mg) : FnG P w K mg base CX0 2 T.f_check_row T.fd_check_row ["value"] (spD K sp_check_row) := by
  have G_is_row_of := ok_is_row_of (P := P) (w := w) (base := base) T
  refine FunG (k := 1) T.F_check_row sc_check_row (fun vs H Q E h => spD_len h (l_check_row)) (fun cdv A outer s H vs Q E hr hgd h => ?_)
  have hu := hr.units
  have hu1 := hu_of hr
  have nd := sc_check_row.nd
  have hr_is_row_of : Room 1 _ := hr.mono (by decide)
  exact ⟨t_check_row K,
    (pss_one (ps_if (pt_not (pt_truthX (pe_callG G_is_row_of hr_is_row_of hgd (by rfl) T.m_is_row_of T.k_is_row_of T.b_is_row_of pass0 (pa_cons (pv 0) pa_nil)) (by intro _; rfl)))
      (pss_one ps_never)
      pss_nil)),
    fn_body (w_check_row K) h⟩
theorem ok_is_heap_of (T : Txt K mg) : FnG P w K mg base CX0 2 T.f_is_heap_of T.fd_is_heap_of ["value"] (spD K sp_is_heap_of) := by
  have G_is_ascending := ok_is_ascending (P := P) (w := w) (base := base) T
  have G_is_row_of := ok_is_row_of (P := P) (w := w) (base := base) T
  refine FunG (k := 1) T.F_is_heap_of sc_is_heap_of (fun vs H Q E h => spD_len h (l_is_heap_of)) (fun cdv A outer s H vs Q E hr hgd h => ?_)
  have hu := hr.units
  have hu1 := hu_of hr
  have nd := sc_is_heap_of.nd
  have hr_is_ascending : Room 1 _ := hr.mono (by decide)
  have hr_is_row_of : Room 1 _ := hr.mono (by decide)
  exact ⟨t_is_heap_of K,
    (pss_cons (ps_if (PW.pt (pw_or (pt_not (pt_truthX (pe_callB (ca_isinstance rfl) (by rfl) T.m_isinstance bt_isinstance (pa_cons (pv 0) (pa_cons (pe_bltn (v := .ty "tuple") (by rfl) T.m_tuple (by decide +kernel) rfl) pa_nil))) (by intro _; rfl))) (pw_or (pt_not (pt_chain oaLe oaLe pe_int (pe_callB (ca_len rfl) (by rfl) T.m_len bt_len (pa_cons (pv 0) pa_nil)) (pe_globI rfl T.c_MOST_HEAP))) (pw_or1 (pt_not (pt_truthX (pe_callB (ca_all rfl) (by rfl) T.m_all bt_all (pa_cons (pe_lc (own := [("row", 1)]) (g := (gName 1)) rfl nd (pi_seq (pv 0)) (blkOk_by (own := [("row", 1)]) (N := ["value", "row"]) (sc := defScope s_is_heap_of) (by decide +kernel)) (fun _ _ _ _ _ => (pg_name (i := 1) nd rfl (Or.inl rfl))) (fun _ _ _ _ _ => pts_nil) (fun _ _ _ _ _ => (pe_callG G_is_row_of hr_is_row_of hgd (by rfl) T.m_is_row_of T.k_is_row_of T.b_is_row_of pass0 (pa_cons (pv 1) pa_nil)))) pa_nil)) (by intro _; rfl)))))))
      (pss_one (ps_ret pe_bl))
      pss_nil)
      (pss_one (ps_ret (pe_and (pe_callB (ca_all rfl) (by rfl) T.m_all bt_all (pa_cons (pe_lc (own := [("row", 1)]) (g := (gName 1)) rfl nd (pi_seq (pv 0)) (blkOk_by (own := [("row", 1)]) (N := ["value", "row"]) (sc := defScope s_is_heap_of) (by decide +kernel)) (fun _ _ _ _ _ => (pg_name (i := 1) nd rfl (Or.inl rfl))) (fun _ _ _ _ _ => pts_nil) (fun _ _ _ _ _ => (pe_chain oaLe oaLe pe_int (pe_callB (ca_len rfl) (by rfl) T.m_len bt_len (pa_cons (pv 1) pa_nil)) (pe_globI rfl T.c_MOST_EACH)))) pa_nil)) (pe_one (pe_callG G_is_ascending hr_is_ascending hgd (by rfl) T.m_is_ascending T.k_is_ascending T.b_is_ascending pass0 (pa_cons (pv 0) pa_nil))))))),
    fn_body (w_is_heap_of K) h⟩
theorem ok_overlap_of (T : Txt K mg) : FnG P w K mg base CX0 2 T.f_overlap_of T.fd_overlap_of ["one", "other"] (spD K sp_overlap_of) := by
  have G_overlaps_of := ok_overlaps_of (P := P) (w := w) (base := base) T
  refine FunG (k := 1) T.F_overlap_of sc_overlap_of (fun vs H Q E h => spD_len h (l_overlap_of)) (fun cdv A outer s H vs Q E hr hgd h => ?_)
  have hu := hr.units
  have hu1 := hu_of hr
  have nd := sc_overlap_of.nd
  have hr_overlaps_of : Room 1 _ := hr.mono (by decide)
  exact ⟨t_overlap_of K,
    (pss_one (ps_ret (pe_callB (ca_max1 rfl) (by rfl) T.m_max bt_max (pa_cons (pe_lst (pa_cons pe_int (StX.pa_star (pe_callG G_overlaps_of hr_overlaps_of hgd (by rfl) T.m_overlaps_of T.k_overlaps_of T.b_overlaps_of pass0 (pa_cons (pv 0) (pa_cons (pv 1) pa_nil))) pa_nil))) pa_nil)))),
    fn_body (w_overlap_of K) h⟩
theorem ok_outer_of (T : Txt K mg) : FnG P w K mg base CX0 2 T.f_outer_of T.fd_outer_of ["heap"] (spD K sp_outer_of) := by
  have G_inside_of := ok_inside_of (P := P) (w := w) (base := base) T
  refine FunG (k := 1) T.F_outer_of sc_outer_of (fun vs H Q E h => spD_len h (l_outer_of)) (fun cdv A outer s H vs Q E hr hgd h => ?_)
  have hu := hr.units
  have hu1 := hu_of hr
  have nd := sc_outer_of.nd
  have hr_inside_of : Room 1 _ := hr.mono (by decide)
  exact ⟨t_outer_of K,
    (pss_cons (ps_set (i := 1) nd rfl (Or.inr rfl) (pe_callG G_inside_of hr_inside_of hgd (by rfl) T.m_inside_of T.k_inside_of T.b_inside_of pass0 (pa_cons (pv 0) pa_nil)))
      (pss_one (ps_ret (pe_lc (own := [("row", 2)]) (g := (gName 2)) rfl nd (pi_seq (pv 0)) (blkOk_by (own := [("row", 2)]) (N := ["heap", "gone", "row"]) (sc := defScope s_outer_of) (by decide +kernel)) (fun _ _ _ _ _ => (pg_name (i := 2) nd rfl (Or.inl rfl))) (fun _ _ _ _ _ => (pts_one (pt_cmpR oaNotIn (pv 2) (pv 1) rfl))) (fun _ _ _ _ _ => (pv 2)))))),
    fn_body (w_outer_of K) h⟩
theorem ok__law_of (T : Txt K mg) : FnG P w K mg base CX0 2 T.f__law_of T.fd__law_of ["pot", "some"] (spD K sp__law_of) := by
  have G__law_take := ok__law_take (P := P) (w := w) (base := base) T
  refine FunG (k := 1) T.F__law_of sc__law_of (fun vs H Q E h => spD_len h (l__law_of)) (fun cdv A outer s H vs Q E hr hgd h => ?_)
  have hu := hr.units
  have hu1 := hu_of hr
  have nd := sc__law_of.nd
  have hr__law_take : Room 1 _ := hr.mono (by decide)
  exact ⟨t__law_of K,
    (pss_one (ps_ret (pe_ix ix_seq (pv 1) (pe_callG G__law_take hr__law_take hgd (by rfl) T.m__law_take T.k__law_take T.b__law_take pass0 (pa_cons (pv 0) (pa_cons (pe_callB (ca_len rfl) (by rfl) T.m_len bt_len (pa_cons (pv 1) pa_nil)) pa_nil))) (fun _ _ => rfl)))),
    fn_body (w_law_of K) h⟩
theorem ok__law_some (T : Txt K mg) : FnG P w K mg base CX0 2 T.f__law_some T.fd__law_some ["pot", "some", "many"] (spD K sp__law_some) := by
  have G__law_take := ok__law_take (P := P) (w := w) (base := base) T
  refine FunG (k := 1) T.F__law_some sc__law_some (fun vs H Q E h => spD_len h (l__law_some)) (fun cdv A outer s H vs Q E hr hgd h => ?_)
  have hu := hr.units
  have hu1 := hu_of hr
  have nd := sc__law_some.nd
  have hr__law_take : Room 1 _ := hr.mono (by decide)
  exact ⟨t__law_some K,
    (pss_cons (ps_par (i := 3) (j := 4) rfl nd rfl rfl (by decide) rfl rfl (pa_cons (pe_callTy (ca_list rfl) (by rfl) T.m_list bt_list (pa_cons (pv 1) pa_nil)) (pa_cons (pe_lst pa_nil) pa_nil)) (by rfl))
      (pss_cons (ps_for PassesOwn.never rfl (pi_range1 (by rfl) T.m_range (pa_cons (pv 2) pa_nil)) (pg_name (i := 5) nd rfl (Or.inl rfl))
      (pss_one (ps_expr (pe_bm PySem.F.plainAttrs_list PySem.F.slot_list_append PySem.F.type_list_append ma_list_append (pv 4) (pa_cons (pe_bm PySem.F.plainAttrs_list PySem.F.slot_list_pop PySem.F.type_list_pop ma_list_pop1 (pv 3) (pa_cons (pe_callG G__law_take hr__law_take hgd (by rfl) T.m__law_take T.k__law_take T.b__law_take pass0 (pa_cons (pv 0) (pa_cons (pe_callB (ca_len rfl) (by rfl) T.m_len bt_len (pa_cons (pv 3) pa_nil)) pa_nil))) pa_nil)) pa_nil)))))
      (pss_one (ps_ret (pv 4))))),
    fn_body (w_law_some K) h⟩
theorem ok__law_laid (T : Txt K mg) : FnG P w K mg base CX0 2 T.f__law_laid T.fd__law_laid ["rows"] (spD K sp__law_laid) := by
  have G__law_overlap := ok__law_overlap (P := P) (w := w) (base := base) T
  refine FunG (k := 1) T.F__law_laid sc__law_laid (fun vs H Q E h => spD_len h (l__law_laid)) (fun cdv A outer s H vs Q E hr hgd h => ?_)
  have hu := hr.units
  have hu1 := hu_of hr
  have nd := sc__law_laid.nd
  have hr__law_overlap : Room 1 _ := hr.mono (by decide)
  exact ⟨t__law_laid K,
    (pss_cons (ps_set (i := 1) nd rfl (Or.inl rfl) (pe_ix ix_seq (pv 0) pe_int (fun _ _ => rfl)))
      (pss_cons (ps_for PassesOwn.never rfl (pi_zipX (by rfl) T.m_zip (pa_cons (pv 0) (pa_cons (pe_slice oaSl (pv 0) (po_some pe_int) po_none) pa_nil))) (pg_tup rfl (pgs_cons (pg_name (i := 2) nd rfl (Or.inl rfl)) (pgs_cons (pg_name (i := 3) nd rfl (Or.inl rfl)) pgs_nil)))
      (pss_one (ps_set (i := 1) nd rfl (Or.inl rfl) (pe_op oaAdd (pv 1) (pe_slice oaSl (pv 3) (po_some (pe_callG G__law_overlap hr__law_overlap hgd (by rfl) T.m__law_overlap T.k__law_overlap T.b__law_overlap pass0 (pa_cons (pv 2) (pa_cons (pv 3) pa_nil)))) po_none)))))
      (pss_one (ps_ret (pv 1))))),
    fn_body (w_law_laid K) h⟩
theorem ok__law_is_heap (T : Txt K mg) : FnG P w K mg base CX0 2 T.f__law_is_heap T.fd__law_is_heap ["value"] (spD K sp__law_is_heap) := by
  have G__law_is_row := ok__law_is_row (P := P) (w := w) (base := base) T
  refine FunG (k := 1) T.F__law_is_heap sc__law_is_heap (fun vs H Q E h => spD_len h (l__law_is_heap)) (fun cdv A outer s H vs Q E hr hgd h => ?_)
  have hu := hr.units
  have hu1 := hu_of hr
  have nd := sc__law_is_heap.nd
  have hr__law_is_row : Room 1 _ := hr.mono (by decide)
  exact ⟨t__law_is_heap K,
    (pss_cons (ps_if (PW.pt (pw_or (pt_not (pt_truthX (pe_callB (ca_isinstance rfl) (by rfl) T.m_isinstance bt_isinstance (pa_cons (pv 0) (pa_cons (pe_bltn (v := .ty "tuple") (by rfl) T.m_tuple (by decide +kernel) rfl) pa_nil))) (by intro _; rfl))) (pw_or (pt_not (pt_chain oaLe oaLe pe_int (pe_callB (ca_len rfl) (by rfl) T.m_len bt_len (pa_cons (pv 0) pa_nil)) pe_int)) (pw_or1 (pt_not (pt_truthX (pe_callB (ca_all rfl) (by rfl) T.m_all bt_all (pa_cons (pe_lc (own := [("row", 1)]) (g := (gName 1)) rfl nd (pi_seq (pv 0)) (blkOk_by (own := [("row", 1)]) (N := ["value", "row"]) (sc := defScope s__law_is_heap) (by decide +kernel)) (fun _ _ _ _ _ => (pg_name (i := 1) nd rfl (Or.inl rfl))) (fun _ _ _ _ _ => pts_nil) (fun _ _ _ _ _ => (pe_and (pe_callG G__law_is_row hr__law_is_row hgd (by rfl) T.m__law_is_row T.k__law_is_row T.b__law_is_row pass0 (pa_cons (pv 1) (pa_cons pe_int pa_nil))) (pe_one (pe_cmpR (oaNe hu) (pv 1) pe_str (nomark _)))))) pa_nil)) (by intro _; rfl)))))))
      (pss_one (ps_ret pe_bl))
      pss_nil)
      (pss_one (ps_ret (pe_cmpR (oaEq hu) (pe_callTy (ca_list rfl) (by rfl) T.m_list bt_list (pa_cons (pv 0) pa_nil)) (pe_sortedSet rfl (by rfl) T.m_sorted (by rfl) T.m_set (pv 0)) (nomark _))))),
    fn_body (w_law_is_heap K) h⟩
theorem ok_are_between (T : Txt K mg) : FnG P w K mg base CX0 3 T.f_are_between T.fd_are_between ["value", "low", "high"] (spD K sp_are_between) := by
  have G_is_between := ok_is_between (P := P) (w := w) (base := base) T
  refine FunG (k := 2) T.F_are_between sc_are_between (fun vs H Q E h => spD_len h (l_are_between)) (fun cdv A outer s H vs Q E hr hgd h => ?_)
  have hu := hr.units
  have hu1 := hu_of hr
  have nd := sc_are_between.nd
  have hr_is_between : Room 2 _ := hr.mono (by decide)
  exact ⟨t_are_between K,
    (pss_one (ps_ret (pe_and (pe_callB (ca_isinstance rfl) (by rfl) T.m_isinstance bt_isinstance (pa_cons (pv 0) (pa_cons (pe_bltn (v := .ty "tuple") (by rfl) T.m_tuple (by decide +kernel) rfl) pa_nil))) (pe_one (pe_callB (ca_all rfl) (by rfl) T.m_all bt_all (pa_cons (pe_lc (own := [("one", 3)]) (g := (gName 3)) rfl nd (pi_seq (pv 0)) (blkOk_by (own := [("one", 3)]) (N := ["value", "low", "high", "one"]) (sc := defScope s_are_between) (by decide +kernel)) (fun _ _ _ _ _ => (pg_name (i := 3) nd rfl (Or.inl rfl))) (fun _ _ _ _ _ => pts_nil) (fun _ _ _ _ _ => (pe_callG G_is_between hr_is_between hgd (by rfl) T.m_is_between T.k_is_between T.b_is_between pass0 (pa_cons (pv 3) (pa_cons (pv 1) (pa_cons (pv 2) pa_nil)))))) pa_nil)))))),
    fn_body (w_are_between K) h⟩
theorem ok_is_heap (T : Txt K mg) : FnG P w K mg base CX0 3 T.f_is_heap T.fd_is_heap ["value"] (spD K sp_is_heap) := by
  have G_is_heap_of := ok_is_heap_of (P := P) (w := w) (base := base) T
  refine FunG (k := 2) T.F_is_heap sc_is_heap (fun vs H Q E h => spD_len h (l_is_heap)) (fun cdv A outer s H vs Q E hr hgd h => ?_)
  have hu := hr.units
  have hu1 := hu_of hr
  have nd := sc_is_heap.nd
  have hr_is_heap_of : Room 2 _ := hr.mono (by decide)
  exact ⟨t_is_heap K,
    (pss_one (ps_ret (pe_callG G_is_heap_of hr_is_heap_of hgd (by rfl) T.m_is_heap_of T.k_is_heap_of T.b_is_heap_of pass0 (pa_cons (pv 0) pa_nil)))),
    fn_body (w_is_heap K) h⟩
theorem ok_check_heap (T : Txt K mg) : FnG P w K mg base CX0 3 T.f_check_heap T.fd_check_heap ["heap"] (spD K sp_check_heap) := by
  have G_is_heap_of := ok_is_heap_of (P := P) (w := w) (base := base) T
  refine FunG (k := 2) T.F_check_heap sc_check_heap (fun vs H Q E h => spD_len h (l_check_heap)) (fun cdv A outer s H vs Q E hr hgd h => ?_)
  have hu := hr.units
  have hu1 := hu_of hr
  have nd := sc_check_heap.nd
  have hr_is_heap_of : Room 2 _ := hr.mono (by decide)
  exact ⟨t_check_heap K,
    (pss_one (ps_if (pt_not (pt_truthX (pe_callG G_is_heap_of hr_is_heap_of hgd (by rfl) T.m_is_heap_of T.k_is_heap_of T.b_is_heap_of pass0 (pa_cons (pv 0) pa_nil)) (by intro _; rfl)))
      (pss_one ps_never)
      pss_nil)),
    fn_body (w_check_heap K) h⟩
theorem ok_check_both (T : Txt K mg) : FnG P w K mg base CX0 3 T.f_check_both T.fd_check_both ["one", "other"] (spD K sp_check_both) := by
  have G_check_row := ok_check_row (P := P) (w := w) (base := base) T
  refine FunG (k := 2) T.F_check_both sc_check_both (fun vs H Q E h => spD_len h (l_check_both)) (fun cdv A outer s H vs Q E hr hgd h => ?_)
  have hu := hr.units
  have hu1 := hu_of hr
  have nd := sc_check_both.nd
  have hr_check_row : Room 2 _ := hr.mono (by decide)
  exact ⟨t_check_both K,
    (pss_cons (ps_expr (pe_callG G_check_row hr_check_row hgd (by rfl) T.m_check_row T.k_check_row T.b_check_row pass0 (pa_cons (pv 0) pa_nil)))
      (pss_cons (ps_expr (pe_callG G_check_row hr_check_row hgd (by rfl) T.m_check_row T.k_check_row T.b_check_row pass0 (pa_cons (pv 1) pa_nil)))
      (pss_one (ps_for PassesOwn.never rfl (pi_seq (pe_tup (pa_cons (pv 0) (pa_cons (pv 1) pa_nil)))) (pg_name (i := 2) nd rfl (Or.inl rfl))
      (pss_one (ps_if (pt_cmpR (oaEq hu) (pv 2) pe_str (nomark _))
      (pss_one ps_never)
      pss_nil)))))),
    fn_body (w_check_both K) h⟩
theorem ok_web_of (T : Txt K mg) : FnG P w K mg base CX0 3 T.f_web_of T.fd_web_of ["rows"] (spD K sp_web_of) := by
  have G_overlap_of := ok_overlap_of (P := P) (w := w) (base := base) T
  refine FunG (k := 2) T.F_web_of sc_web_of (fun vs H Q E h => spD_len h (l_web_of)) (fun cdv A outer s H vs Q E hr hgd h => ?_)
  have hu := hr.units
  have hu1 := hu_of hr
  have nd := sc_web_of.nd
  have hr_overlap_of : Room 2 _ := hr.mono (by decide)
  exact ⟨t_web_of K,
    (pss_cons (ps_set (i := 1) nd rfl (Or.inl rfl) (pe_lst pa_nil))
      (pss_cons (ps_for PassesOwn.never rfl (pi_enumerateX (by rfl) T.m_enumerate (pa_cons (pv 0) pa_nil)) (pg_tup rfl (pgs_cons (pg_name (i := 2) nd rfl (Or.inl rfl)) (pgs_cons (pg_name (i := 3) nd rfl (Or.inl rfl)) pgs_nil)))
      (pss_one (ps_for PassesOwn.never rfl (pi_enumerateX (by rfl) T.m_enumerate (pa_cons (pv 0) pa_nil)) (pg_tup rfl (pgs_cons (pg_name (i := 4) nd rfl (Or.inl rfl)) (pgs_cons (pg_name (i := 5) nd rfl (Or.inl rfl)) pgs_nil)))
      (pss_cons (ps_set (i := 6) nd rfl (Or.inl rfl) (pe_ifExp (pt_cmpR (oaNe hu) (pv 2) (pv 4) (nomark _)) (pe_callG G_overlap_of hr_overlap_of hgd (by rfl) T.m_overlap_of T.k_overlap_of T.b_overlap_of pass0 (pa_cons (pv 3) (pa_cons (pv 5) pa_nil))) pe_int))
      (pss_one (ps_expr (pe_bm PySem.F.plainAttrs_list PySem.F.slot_list_extend PySem.F.type_list_extend ma_list_extend (pv 1) (pa_cons (pe_ifExp (pt_cmpR oaGt (pv 6) pe_int (nomark _)) (pe_lst (pa_cons (pe_tup (pa_cons (pv 2) (pa_cons (pv 4) (pa_cons (pv 6) pa_nil)))) pa_nil)) (pe_lst pa_nil)) pa_nil))))))))
      (pss_one (ps_ret (pv 1))))),
    fn_body (w_web_of K) h⟩
theorem ok_laid_of (T : Txt K mg) : FnG P w K mg base CX0 3 T.f_laid_of T.fd_laid_of ["rows"] (spD K sp_laid_of) := by
  have G_overlap_of := ok_overlap_of (P := P) (w := w) (base := base) T
  refine FunG (k := 2) T.F_laid_of sc_laid_of (fun vs H Q E h => spD_len h (l_laid_of)) (fun cdv A outer s H vs Q E hr hgd h => ?_)
  have hu := hr.units
  have hu1 := hu_of hr
  have nd := sc_laid_of.nd
  have hr_overlap_of : Room 2 _ := hr.mono (by decide)
  exact ⟨t_laid_of K,
    (pss_cons (ps_set (i := 1) nd rfl (Or.inl rfl) (pe_ix ix_seq (pv 0) pe_int (fun _ _ => rfl)))
      (pss_cons (ps_for PassesOwn.never rfl (pi_zipX (by rfl) T.m_zip (pa_cons (pv 0) (pa_cons (pe_slice oaSl (pv 0) (po_some pe_int) po_none) pa_nil))) (pg_tup rfl (pgs_cons (pg_name (i := 2) nd rfl (Or.inl rfl)) (pgs_cons (pg_name (i := 3) nd rfl (Or.inl rfl)) pgs_nil)))
      (pss_one (ps_set (i := 1) nd rfl (Or.inl rfl) (pe_op oaAdd (pv 1) (pe_slice oaSl (pv 3) (po_some (pe_callG G_overlap_of hr_overlap_of hgd (by rfl) T.m_overlap_of T.k_overlap_of T.b_overlap_of pass0 (pa_cons (pv 2) (pa_cons (pv 3) pa_nil)))) po_none)))))
      (pss_one (ps_ret (pv 1))))),
    fn_body (w_laid_of K) h⟩
theorem ok__law_odd (T : Txt K mg) : FnG P w K mg base CX0 3 T.f__law_odd T.fd__law_odd ["pot"] (spD K sp__law_odd) := by
  have G__law_of := ok__law_of (P := P) (w := w) (base := base) T
  have G__law_take := ok__law_take (P := P) (w := w) (base := base) T
  refine FunG (k := 2) T.F__law_odd sc__law_odd (fun vs H Q E h => spD_len h (l__law_odd)) (fun cdv A outer s H vs Q E hr hgd h => ?_)
  have hu := hr.units
  have hu1 := hu_of hr
  have nd := sc__law_odd.nd
  have hr__law_of : Room 2 _ := hr.mono (by decide)
  have hr__law_take : Room 1 _ := hr.mono (by decide)
  exact ⟨t__law_odd K,
    (pss_cons (ps_set (i := 1) nd rfl (Or.inl rfl) (pe_lst (pa_cons pe_non (pa_cons pe_bl (pa_cons pe_bl (pa_cons pe_int (pa_cons pe_int (pa_cons (pe_un un_neg pe_int) (pa_cons pe_int (pa_cons (pe_op oaPow pe_int pe_int) (pa_cons pe_str (pa_cons pe_str (pa_cons pe_str (pa_cons (pe_tup pa_nil) (pa_cons (pe_tup (pa_cons pe_int pa_nil)) (pa_cons (pe_tup (pa_cons pe_non pa_nil)) (pa_cons (pe_lst pa_nil) (pa_cons (pe_lst (pa_cons pe_int pa_nil)) (pa_cons pe_dnewK (pa_cons (pe_disp (pps_cons pe_str pe_int pps_nil) (by rfl) (by rfl) (fun z => by cases z) (by decide)) (pa_cons (pe_tup (pa_cons (pe_tup (pa_cons pe_str (pa_cons pe_int pa_nil))) pa_nil)) pa_nil)))))))))))))))))))))
      (pss_cons (ps_set (i := 2) nd rfl (Or.inl rfl) (pe_callG G__law_of hr__law_of hgd (by rfl) T.m__law_of T.k__law_of T.b__law_of pass0 (pa_cons (pv 0) (pa_cons (pv 1) pa_nil))))
      (pss_cons (ps_for PassesOwn.never rfl (pi_range1 (by rfl) T.m_range (pa_cons (pe_callG G__law_take hr__law_take hgd (by rfl) T.m__law_take T.k__law_take T.b__law_take pass0 (pa_cons (pv 0) (pa_cons pe_int pa_nil))) pa_nil)) (pg_name (i := 3) nd rfl (Or.inl rfl))
      (pss_one (ps_set (i := 2) nd rfl (Or.inl rfl) (pe_callG G__law_of hr__law_of hgd (by rfl) T.m__law_of T.k__law_of T.b__law_of pass0 (pa_cons (pv 0) (pa_cons (pe_lst (pa_cons (pe_tup (pa_cons (pv 2) pa_nil)) (pa_cons (pe_lst (pa_cons (pv 2) pa_nil)) (pa_cons (pe_disp (pps_cons pe_str (pv 2) pps_nil) (by rfl) (by rfl) (fun z => by cases z) (by decide)) (pa_cons (pe_tup (pa_cons (pv 2) (pa_cons pe_int pa_nil))) (pa_cons (pe_tup (pa_cons pe_int (pa_cons (pv 2) pa_nil))) pa_nil)))))) pa_nil))))))
      (pss_one (ps_ret (pv 2)))))),
    fn_body (w_law_odd K) h⟩
theorem ok__law_heap (T : Txt K mg) : FnG P w K mg base CX0 3 T.f__law_heap T.fd__law_heap ["pot", "most"] (spD K sp__law_heap) := by
  have G__law_of := ok__law_of (P := P) (w := w) (base := base) T
  have G__law_take := ok__law_take (P := P) (w := w) (base := base) T
  refine FunG (k := 2) T.F__law_heap sc__law_heap (fun vs H Q E h => spD_len h (l__law_heap)) (fun cdv A outer s H vs Q E hr hgd h => ?_)
  have hu := hr.units
  have hu1 := hu_of hr
  have nd := sc__law_heap.nd
  have hr__law_of : Room 2 _ := hr.mono (by decide)
  have hr__law_take : Room 1 _ := hr.mono (by decide)
  exact ⟨t__law_heap K,
    (pss_cons (ps_asg (pe_tup (pa_cons (pe_callG G__law_of hr__law_of hgd (by rfl) T.m__law_of T.k__law_of T.b__law_of pass0 (pa_cons (pv 0) (pa_cons (pe_lst (pa_cons pe_str (pa_cons pe_str (pa_cons pe_str (pa_cons pe_str pa_nil))))) pa_nil))) (pa_cons pe_dnewK pa_nil))) (pg_tup rfl (pgs_cons (pg_name (i := 2) nd rfl (Or.inr rfl)) (pgs_cons (pg_name (i := 3) nd rfl (Or.inl rfl)) pgs_nil))))
      (pss_cons (ps_set (i := 4) nd rfl (Or.inl rfl) (pe_m1 PySem.F.slot_str_join PySem.F.type_str_join ma_str_join pe_str (pe_lc (own := [("lap", 5)]) (g := (gName 5)) rfl nd (pi_range1 (by rfl) T.m_range (pa_cons (pe_op oaAdd pe_int (pe_callG G__law_take hr__law_take hgd (by rfl) T.m__law_take T.k__law_take T.b__law_take pass0 (pa_cons (pv 0) (pa_cons pe_int pa_nil)))) pa_nil)) (blkOk_by (own := [("lap", 5)]) (N := ["pot", "most", "letters", "found", "source", "lap", "at", "size", "row", "letter"]) (sc := defScope s__law_heap) (by decide +kernel)) (fun _ _ _ _ _ => (pg_name (i := 5) nd rfl (Or.inl rfl))) (fun _ _ _ _ _ => pts_nil) (fun _ _ _ _ _ => (pe_callG G__law_of hr__law_of hgd (by rfl) T.m__law_of T.k__law_of T.b__law_of pass0 (pa_cons (pv 0) (pa_cons (pe_callTy (ca_list rfl) (by rfl) T.m_list bt_list (pa_cons (pv 2) pa_nil)) pa_nil)))))))
      (pss_cons (ps_for PassesOwn.never rfl (pi_range1 (by rfl) T.m_range (pa_cons (pe_op oaAdd pe_int (pe_callG G__law_take hr__law_take hgd (by rfl) T.m__law_take T.k__law_take T.b__law_take pass0 (pa_cons (pv 0) (pa_cons (pv 1) pa_nil)))) pa_nil)) (pg_name (i := 5) nd rfl (Or.inl rfl))
      (pss_cons (ps_par (i := 6) (j := 7) rfl nd rfl rfl (by decide) rfl rfl (pa_cons (pe_callG G__law_take hr__law_take hgd (by rfl) T.m__law_take T.k__law_take T.b__law_take pass0 (pa_cons (pv 0) (pa_cons (pe_callB (ca_len rfl) (by rfl) T.m_len bt_len (pa_cons (pv 4) pa_nil)) pa_nil))) (pa_cons (pe_op oaAdd pe_int (pe_callG G__law_take hr__law_take hgd (by rfl) T.m__law_take T.k__law_take T.b__law_take pass0 (pa_cons (pv 0) (pa_cons pe_int pa_nil)))) pa_nil)) (by rfl))
      (pss_cons (ps_set (i := 8) nd rfl (Or.inl rfl) (pe_callG G__law_of hr__law_of hgd (by rfl) T.m__law_of T.k__law_of T.b__law_of pass0 (pa_cons (pv 0) (pa_cons (pe_lst (pa_cons (pe_slice oaSl (pv 4) (po_some (pv 6)) (po_some (pe_op oaAdd (pv 6) (pv 7)))) (pa_cons (pe_slice oaSl (pv 4) (po_some (pv 6)) (po_some (pe_op oaAdd (pv 6) (pv 7)))) (pa_cons (pe_m1 PySem.F.slot_str_join PySem.F.type_str_join ma_str_join pe_str (pe_lc (own := [("letter", 9)]) (g := (gName 9)) rfl nd (pi_range1 (by rfl) T.m_range (pa_cons (pv 7) pa_nil)) (blkOk_by (own := [("letter", 9)]) (N := ["pot", "most", "letters", "found", "source", "lap", "at", "size", "row", "letter"]) (sc := defScope s__law_heap) (by decide +kernel)) (fun _ _ _ _ _ => (pg_name (i := 9) nd rfl (Or.inl rfl))) (fun _ _ _ _ _ => pts_nil) (fun _ _ _ _ _ => (pe_callG G__law_of hr__law_of hgd (by rfl) T.m__law_of T.k__law_of T.b__law_of pass0 (pa_cons (pv 0) (pa_cons (pe_callTy (ca_list rfl) (by rfl) T.m_list bt_list (pa_cons (pv 2) pa_nil)) pa_nil)))))) pa_nil)))) pa_nil))))
      (pss_one (ps_dput hu1 (pv 3) (pv 8) pe_bl rfl)))))
      (pss_one (ps_ret (pe_callTy (ca_tuple rfl) (by rfl) T.m_tuple bt_tuple (pa_cons (pe_callB (ca_sortedDict rfl) (by rfl) T.m_sorted bt_sorted (pa_cons (pv 3) pa_nil)) pa_nil))))))),
    fn_body (w_law_heap K) h⟩
theorem ok_overlaps (T : Txt K mg) : FnG P w K mg base CX0 4 T.f_overlaps T.fd_overlaps ["one", "other"] (spD K sp_overlaps) := by
  have G_check_both := ok_check_both (P := P) (w := w) (base := base) T
  have G_overlaps_of := ok_overlaps_of (P := P) (w := w) (base := base) T
  refine FunG (k := 3) T.F_overlaps sc_overlaps (fun vs H Q E h => spD_len h (l_overlaps)) (fun cdv A outer s H vs Q E hr hgd h => ?_)
  have hu := hr.units
  have hu1 := hu_of hr
  have nd := sc_overlaps.nd
  have hr_check_both : Room 3 _ := hr.mono (by decide)
  have hr_overlaps_of : Room 1 _ := hr.mono (by decide)
  exact ⟨t_overlaps K,
    (pss_cons (ps_expr (pe_callG G_check_both hr_check_both hgd (by rfl) T.m_check_both T.k_check_both T.b_check_both pass0 (pa_cons (pv 0) (pa_cons (pv 1) pa_nil))))
      (pss_one (ps_ret (pe_callTy (ca_tuple rfl) (by rfl) T.m_tuple bt_tuple (pa_cons (pe_callG G_overlaps_of hr_overlaps_of hgd (by rfl) T.m_overlaps_of T.k_overlaps_of T.b_overlaps_of pass0 (pa_cons (pv 0) (pa_cons (pv 1) pa_nil))) pa_nil))))),
    fn_body (w_overlaps K) h⟩
theorem ok_overlap (T : Txt K mg) : FnG P w K mg base CX0 4 T.f_overlap T.fd_overlap ["one", "other"] (spD K sp_overlap) := by
  have G_check_both := ok_check_both (P := P) (w := w) (base := base) T
  have G_overlap_of := ok_overlap_of (P := P) (w := w) (base := base) T
  refine FunG (k := 3) T.F_overlap sc_overlap (fun vs H Q E h => spD_len h (l_overlap)) (fun cdv A outer s H vs Q E hr hgd h => ?_)
  have hu := hr.units
  have hu1 := hu_of hr
  have nd := sc_overlap.nd
  have hr_check_both : Room 3 _ := hr.mono (by decide)
  have hr_overlap_of : Room 2 _ := hr.mono (by decide)
  exact ⟨t_overlap K,
    (pss_cons (ps_expr (pe_callG G_check_both hr_check_both hgd (by rfl) T.m_check_both T.k_check_both T.b_check_both pass0 (pa_cons (pv 0) (pa_cons (pv 1) pa_nil))))
      (pss_one (ps_ret (pe_callG G_overlap_of hr_overlap_of hgd (by rfl) T.m_overlap_of T.k_overlap_of T.b_overlap_of pass0 (pa_cons (pv 0) (pa_cons (pv 1) pa_nil)))))),
    fn_body (w_overlap K) h⟩
theorem ok_inside (T : Txt K mg) : FnG P w K mg base CX0 4 T.f_inside T.fd_inside ["heap"] (spD K sp_inside) := by
  have G_check_heap := ok_check_heap (P := P) (w := w) (base := base) T
  have G_inside_of := ok_inside_of (P := P) (w := w) (base := base) T
  refine FunG (k := 3) T.F_inside sc_inside (fun vs H Q E h => spD_len h (l_inside)) (fun cdv A outer s H vs Q E hr hgd h => ?_)
  have hu := hr.units
  have hu1 := hu_of hr
  have nd := sc_inside.nd
  have hr_check_heap : Room 3 _ := hr.mono (by decide)
  have hr_inside_of : Room 1 _ := hr.mono (by decide)
  exact ⟨t_inside K,
    (pss_cons (ps_expr (pe_callG G_check_heap hr_check_heap hgd (by rfl) T.m_check_heap T.k_check_heap T.b_check_heap pass0 (pa_cons (pv 0) pa_nil)))
      (pss_one (ps_ret (pe_callTy (ca_tuple rfl) (by rfl) T.m_tuple bt_tuple (pa_cons (pe_callG G_inside_of hr_inside_of hgd (by rfl) T.m_inside_of T.k_inside_of T.b_inside_of pass0 (pa_cons (pv 0) pa_nil)) pa_nil))))),
    fn_body (w_inside K) h⟩
theorem ok_outer (T : Txt K mg) : FnG P w K mg base CX0 4 T.f_outer T.fd_outer ["heap"] (spD K sp_outer) := by
  have G_check_heap := ok_check_heap (P := P) (w := w) (base := base) T
  have G_outer_of := ok_outer_of (P := P) (w := w) (base := base) T
  refine FunG (k := 3) T.F_outer sc_outer (fun vs H Q E h => spD_len h (l_outer)) (fun cdv A outer s H vs Q E hr hgd h => ?_)
  have hu := hr.units
  have hu1 := hu_of hr
  have nd := sc_outer.nd
  have hr_check_heap : Room 3 _ := hr.mono (by decide)
  have hr_outer_of : Room 2 _ := hr.mono (by decide)
  exact ⟨t_outer K,
    (pss_cons (ps_expr (pe_callG G_check_heap hr_check_heap hgd (by rfl) T.m_check_heap T.k_check_heap T.b_check_heap pass0 (pa_cons (pv 0) pa_nil)))
      (pss_one (ps_ret (pe_callTy (ca_tuple rfl) (by rfl) T.m_tuple bt_tuple (pa_cons (pe_callG G_outer_of hr_outer_of hgd (by rfl) T.m_outer_of T.k_outer_of T.b_outer_of pass0 (pa_cons (pv 0) pa_nil)) pa_nil))))),
    fn_body (w_outer K) h⟩
theorem ok_overlap_web (T : Txt K mg) : FnG P w K mg base CX0 4 T.f_overlap_web T.fd_overlap_web ["heap"] (spD K sp_overlap_web) := by
  have G_check_heap := ok_check_heap (P := P) (w := w) (base := base) T
  have G_web_of := ok_web_of (P := P) (w := w) (base := base) T
  refine FunG (k := 3) T.F_overlap_web sc_overlap_web (fun vs H Q E h => spD_len h (l_overlap_web)) (fun cdv A outer s H vs Q E hr hgd h => ?_)
  have hu := hr.units
  have hu1 := hu_of hr
  have nd := sc_overlap_web.nd
  have hr_check_heap : Room 3 _ := hr.mono (by decide)
  have hr_web_of : Room 3 _ := hr.mono (by decide)
  exact ⟨t_overlap_web K,
    (pss_cons (ps_expr (pe_callG G_check_heap hr_check_heap hgd (by rfl) T.m_check_heap T.k_check_heap T.b_check_heap pass0 (pa_cons (pv 0) pa_nil)))
      (pss_one (ps_ret (pe_callTy (ca_tuple rfl) (by rfl) T.m_tuple bt_tuple (pa_cons (pe_callG G_web_of hr_web_of hgd (by rfl) T.m_web_of T.k_web_of T.b_web_of pass0 (pa_cons (pv 0) pa_nil)) pa_nil))))),
    fn_body (w_overlap_web K) h⟩
theorem ok_needless_overlaps (T : Txt K mg) : FnG P w K mg base CX0 4 T.f_needless_overlaps T.fd_needless_overlaps ["heap"] (spD K sp_needless_overlaps) := by
  have G_check_heap := ok_check_heap (P := P) (w := w) (base := base) T
  have G_is_needless := ok_is_needless (P := P) (w := w) (base := base) T
  have G_web_of := ok_web_of (P := P) (w := w) (base := base) T
  refine FunG (k := 3) T.F_needless_overlaps sc_needless_overlaps (fun vs H Q E h => spD_len h (l_needless_overlaps)) (fun cdv A outer s H vs Q E hr hgd h => ?_)
  have hu := hr.units
  have hu1 := hu_of hr
  have nd := sc_needless_overlaps.nd
  have hr_check_heap : Room 3 _ := hr.mono (by decide)
  have hr_is_needless : Room 1 _ := hr.mono (by decide)
  have hr_web_of : Room 3 _ := hr.mono (by decide)
  exact ⟨t_needless_overlaps K,
    (pss_cons (ps_expr (pe_callG G_check_heap hr_check_heap hgd (by rfl) T.m_check_heap T.k_check_heap T.b_check_heap pass0 (pa_cons (pv 0) pa_nil)))
      (pss_cons (ps_set (i := 1) nd rfl (Or.inl rfl) (pe_callG G_web_of hr_web_of hgd (by rfl) T.m_web_of T.k_web_of T.b_web_of pass0 (pa_cons (pv 0) pa_nil)))
      (pss_cons (ps_set (i := 2) nd rfl (Or.inr rfl) (pe_callTy (ca_dictT rfl hu) (by rfl) T.m_dict bt_dict (pa_cons (pe_lc (own := [("at", 3), ("to", 4), ("size", 5)]) (g := (gTup K 3 (gCons (gName 3) (gCons (gName 4) (gCons (gName 5) gNil))))) rfl nd (pi_seq (pv 1)) (blkOk_by (own := [("at", 3), ("to", 4), ("size", 5)]) (N := ["heap", "arcs", "known", "at", "to", "size", "arc"]) (sc := defScope s_needless_overlaps) (by decide +kernel)) (fun _ _ _ _ _ => (pg_tup rfl (pgs_cons (pg_name (i := 3) nd rfl (Or.inl rfl)) (pgs_cons (pg_name (i := 4) nd rfl (Or.inl rfl)) (pgs_cons (pg_name (i := 5) nd rfl (Or.inl rfl)) pgs_nil))))) (fun _ _ _ _ _ => pts_nil) (fun _ _ _ _ _ => (pe_tup (pa_cons (pe_tup (pa_cons (pv 3) (pa_cons (pv 4) pa_nil))) (pa_cons (pv 5) pa_nil))))) pa_nil)))
      (pss_one (ps_ret (pe_callTy (ca_tuple rfl) (by rfl) T.m_tuple bt_tuple (pa_cons (pe_lc (own := [("arc", 6)]) (g := (gName 6)) rfl nd (pi_seq (pv 1)) (blkOk_by (own := [("arc", 6)]) (N := ["heap", "arcs", "known", "at", "to", "size", "arc"]) (sc := defScope s_needless_overlaps) (by decide +kernel)) (fun _ _ _ _ _ => (pg_name (i := 6) nd rfl (Or.inl rfl))) (fun _ _ _ _ _ => (pts_one (pt_truthX (pe_callG G_is_needless hr_is_needless hgd (by rfl) T.m_is_needless T.k_is_needless T.b_is_needless pass0 (pa_cons (pv 0) (pa_cons (pv 2) (pa_cons (pv 6) pa_nil)))) (by intro _; rfl)))) (fun _ _ _ _ _ => (pv 6))) pa_nil))))))),
    fn_body (w_needless_overlaps K) h⟩
theorem ok_is_order_of (T : Txt K mg) : FnG P w K mg base CX0 4 T.f_is_order_of T.fd_is_order_of ["heap", "value"] (spD K sp_is_order_of) := by
  have G_are_between := ok_are_between (P := P) (w := w) (base := base) T
  refine FunG (k := 3) T.F_is_order_of sc_is_order_of (fun vs H Q E h => spD_len h (l_is_order_of)) (fun cdv A outer s H vs Q E hr hgd h => ?_)
  have hu := hr.units
  have hu1 := hu_of hr
  have nd := sc_is_order_of.nd
  have hr_are_between : Room 3 _ := hr.mono (by decide)
  exact ⟨t_is_order_of K,
    (pss_cons (ps_if (PW.pt (pw_or (pt_not (pt_truthX (pe_callB (ca_isinstance rfl) (by rfl) T.m_isinstance bt_isinstance (pa_cons (pv 1) (pa_cons (pe_bltn (v := .ty "tuple") (by rfl) T.m_tuple (by decide +kernel) rfl) pa_nil))) (by intro _; rfl))) (pw_or (pt_cmpR (oaEq hu) (pv 1) (pe_tup pa_nil) (nomark _)) (pw_or1 (pt_not (pt_truthX (pe_callG G_are_between hr_are_between hgd (by rfl) T.m_are_between T.k_are_between T.b_are_between pass0 (pa_cons (pv 1) (pa_cons pe_int (pa_cons (pe_op oaSub (pe_callB (ca_len rfl) (by rfl) T.m_len bt_len (pa_cons (pv 0) pa_nil)) pe_int) pa_nil)))) (by intro _; rfl)))))))
      (pss_one (ps_ret pe_bl))
      pss_nil)
      (pss_one (ps_ret (pe_cmpR (oaEq hu) (pe_lenSetX rfl (by rfl) T.m_len (by rfl) T.m_set (pv 1)) (pe_callB (ca_len rfl) (by rfl) T.m_len bt_len (pa_cons (pv 1) pa_nil)) (nomark _))))),
    fn_body (w_is_order_of K) h⟩
theorem okN__law_bent (T : Txt K mg) : FnG P w K mg base CX0 3 T.f__law_bent T.fd__law_bent ["pot", "value"] (spD K fun _ _ _ => False) :=
  ⟨fun _ _ _ _ h => by obtain ⟨_, _, _, _, _, _, _, q, _⟩ := h; exact q.elim, fun _ _ _ _ _ _ _ _ _ _ _ _ _ _ h => by obtain ⟨_, _, _, _, _, _, _, q, _⟩ := h; exact q.elim⟩
theorem okT__law_bent (T : Txt K mg) : FnG P w K mg base CX0 4 T.f__law_bent T.fd__law_bent ["pot", "value"] (spD K spT__law_bent) := by
  have G__law_odd := ok__law_odd (P := P) (w := w) (base := base) T
  have G__law_of := ok__law_of (P := P) (w := w) (base := base) T
  have G__law_take := ok__law_take (P := P) (w := w) (base := base) T
  have G__law_bent := okN__law_bent (P := P) (w := w) (base := base) T
  refine FunG (k := 3) T.F__law_bent sc__law_bent (fun vs H Q E h => spD_len h (lT__law_bent)) (fun cdv A outer s H vs Q E hr hgd h => ?_)
  have hu := hr.units
  have hu1 := hu_of hr
  have nd := sc__law_bent.nd
  have hr__law_bent : Room 3 _ := hr.mono (by decide)
  have hr__law_odd : Room 3 _ := hr.mono (by decide)
  have hr__law_of : Room 2 _ := hr.mono (by decide)
  have hr__law_take : Room 1 _ := hr.mono (by decide)
  exact ⟨t__law_bent (fun _ _ _ => False) K,
    (pss_cons (ps_if (PW.pt (pw_and (pt_truthX (pe_callB (ca_isinstance rfl) (by rfl) T.m_isinstance bt_isinstance (pa_cons (pv 1) (pa_cons (pe_bltn (v := .ty "tuple") (by rfl) T.m_tuple (by decide +kernel) rfl) pa_nil))) (by intro _; rfl)) (pw_and (pt_cmpR (oaNe hu) (pv 1) (pe_tup pa_nil) (nomark _)) (pw_and1 (pt_cmpR oaGt (pe_callG G__law_take hr__law_take hgd (by rfl) T.m__law_take T.k__law_take T.b__law_take pass0 (pa_cons (pv 0) (pa_cons pe_int pa_nil))) pe_int (nomark _))))))
      (pss_cons (ps_set (i := 2) nd rfl (Or.inl rfl) (pe_callG G__law_take hr__law_take hgd (by rfl) T.m__law_take T.k__law_take T.b__law_take pass0 (pa_cons (pv 0) (pa_cons (pe_callB (ca_len rfl) (by rfl) T.m_len bt_len (pa_cons (pv 1) pa_nil)) pa_nil))))
      (pss_one (ps_ret (pe_op oaAdd (pe_op oaAdd (pe_slice oaSl (pv 1) po_none (po_some (pv 2))) (pe_tup (pa_cons (pe_callG G__law_bent hr__law_bent hgd (by rfl) T.m__law_bent T.k__law_bent T.b__law_bent pass0 (pa_cons (pv 0) (pa_cons (pe_ix ix_seq (pv 1) (pv 2) (fun _ _ => rfl)) pa_nil))) pa_nil))) (pe_slice oaSl (pv 1) (po_some (pe_op oaAdd (pv 2) pe_int)) po_none)))))
      pss_nil)
      (pss_cons (ps_if (pt_truthX (pe_callB (ca_isinstance rfl) (by rfl) T.m_isinstance bt_isinstance (pa_cons (pv 1) (pa_cons (pe_bltn (v := .ty "tuple") (by rfl) T.m_tuple (by decide +kernel) rfl) pa_nil))) (by intro _; rfl))
      (pss_cons (ps_set (i := 2) nd rfl (Or.inl rfl) (pe_callG G__law_take hr__law_take hgd (by rfl) T.m__law_take T.k__law_take T.b__law_take pass0 (pa_cons (pv 0) (pa_cons (pe_op oaAdd (pe_callB (ca_len rfl) (by rfl) T.m_len bt_len (pa_cons (pv 1) pa_nil)) pe_int) pa_nil))))
      (pss_cons (ps_set (i := 3) nd rfl (Or.inl rfl) (pe_lst (pa_cons (pe_callTy (ca_list rfl) (by rfl) T.m_list bt_list (pa_cons (pv 1) pa_nil)) (pa_cons (pe_op oaAdd (pe_slice oaSl (pv 1) po_none (po_some (pv 2))) (pe_slice oaSl (pv 1) (po_some (pe_op oaAdd (pv 2) pe_int)) po_none)) (pa_cons (pe_op oaAdd (pv 1) (pe_slice oaSl (pv 1) (po_some (pv 2)) (po_some (pe_op oaAdd (pv 2) pe_int)))) (pa_cons (pe_revX (pv 1)) (pa_cons (pe_op oaAdd (pe_op oaAdd (pe_slice oaSl (pv 1) po_none (po_some (pv 2))) (pe_tup (pa_cons (pe_callG G__law_odd hr__law_odd hgd (by rfl) T.m__law_odd T.k__law_odd T.b__law_odd pass0 (pa_cons (pv 0) pa_nil)) pa_nil))) (pe_slice oaSl (pv 1) (po_some (pv 2)) po_none)) pa_nil)))))))
      (pss_one (ps_ret (pe_callG G__law_of hr__law_of hgd (by rfl) T.m__law_of T.k__law_of T.b__law_of pass0 (pa_cons (pv 0) (pa_cons (pv 3) pa_nil)))))))
      pss_nil)
      (pss_cons (ps_if (PW.pt (pw_and (pt_truthX (pe_callB (ca_isinstance rfl) (by rfl) T.m_isinstance bt_isinstance (pa_cons (pv 1) (pa_cons (pe_bltn (v := .ty "str") (by rfl) T.m_str (by decide +kernel) rfl) pa_nil))) (by intro _; rfl)) (pw_and (pt_cmpR (oaNe hu) (pv 1) pe_str (nomark _)) (pw_and1 (pt_cmpR oaGt (pe_callG G__law_take hr__law_take hgd (by rfl) T.m__law_take T.k__law_take T.b__law_take pass0 (pa_cons (pv 0) (pa_cons pe_int pa_nil))) pe_int (nomark _))))))
      (pss_cons (ps_set (i := 2) nd rfl (Or.inl rfl) (pe_callG G__law_take hr__law_take hgd (by rfl) T.m__law_take T.k__law_take T.b__law_take pass0 (pa_cons (pv 0) (pa_cons (pe_callB (ca_len rfl) (by rfl) T.m_len bt_len (pa_cons (pv 1) pa_nil)) pa_nil))))
      (pss_one (ps_ret (pe_callG G__law_of hr__law_of hgd (by rfl) T.m__law_of T.k__law_of T.b__law_of pass0 (pa_cons (pv 0) (pa_cons (pe_lst (pa_cons (pe_op oaAdd (pe_slice oaSl (pv 1) po_none (po_some (pv 2))) (pe_slice oaSl (pv 1) (po_some (pe_op oaAdd (pv 2) pe_int)) po_none)) (pa_cons (pe_op oaAdd (pe_op oaAdd (pe_slice oaSl (pv 1) po_none (po_some (pv 2))) (pe_callG G__law_of hr__law_of hgd (by rfl) T.m__law_of T.k__law_of T.b__law_of pass0 (pa_cons (pv 0) (pa_cons (pe_callTy (ca_list rfl) (by rfl) T.m_list bt_list (pa_cons pe_str pa_nil)) pa_nil)))) (pe_slice oaSl (pv 1) (po_some (pe_op oaAdd (pv 2) pe_int)) po_none)) (pa_cons (pe_op oaAdd (pv 1) (pe_ix ix_seq (pv 1) (pv 2) (fun _ _ => rfl))) (pa_cons (pe_revX (pv 1)) pa_nil))))) pa_nil))))))
      pss_nil)
      (pss_cons (ps_if (PW.pt (pw_or (pt_truthX (pe_callB (ca_isinstance rfl) (by rfl) T.m_isinstance bt_isinstance (pa_cons (pv 1) (pa_cons (pe_bltn (v := .ty "bool") (by rfl) T.m_bool (by decide +kernel) rfl) pa_nil))) (by intro _; rfl)) (pw_or1 (pt_not (pt_truthX (pe_callB (ca_isinstance rfl) (by rfl) T.m_isinstance bt_isinstance (pa_cons (pv 1) (pa_cons (pe_bltn (v := .ty "int") (by rfl) T.m_int (by decide +kernel) rfl) pa_nil))) (by intro _; rfl))))))
      (pss_one (ps_ret (pe_callG G__law_odd hr__law_odd hgd (by rfl) T.m__law_odd T.k__law_odd T.b__law_odd pass0 (pa_cons (pv 0) pa_nil))))
      pss_nil)
      (pss_one (ps_ret (pe_callG G__law_of hr__law_of hgd (by rfl) T.m__law_of T.k__law_of T.b__law_of pass0 (pa_cons (pv 0) (pa_cons (pe_lst (pa_cons (pe_op oaAdd (pv 1) pe_int) (pa_cons (pe_op oaSub (pv 1) pe_int) (pa_cons (pe_op oaAdd (pv 1) pe_int) (pa_cons (pe_un un_neg (pv 1)) (pa_cons (pe_callTy (ca_str rfl) (by rfl) T.m_str bt_str (pa_cons (pv 1) pa_nil)) (pa_cons (pe_tup (pa_cons (pv 1) pa_nil)) (pa_cons (pe_cmpR (oaEq hu) (pv 1) pe_int (nomark _)) (pa_cons pe_non (pa_cons pe_int pa_nil)))))))))) pa_nil))))))))),
    fn_body (w_bentT K) h⟩
theorem ok__law_bent (T : Txt K mg) : FnG P w K mg base CX0 5 T.f__law_bent T.fd__law_bent ["pot", "value"] (spD K sp__law_bent) := by
  have G__law_odd := ok__law_odd (P := P) (w := w) (base := base) T
  have G__law_of := ok__law_of (P := P) (w := w) (base := base) T
  have G__law_take := ok__law_take (P := P) (w := w) (base := base) T
  have G__law_bent := okT__law_bent (P := P) (w := w) (base := base) T
  refine FunG (k := 4) T.F__law_bent sc__law_bent (fun vs H Q E h => spD_len h (l__law_bent)) (fun cdv A outer s H vs Q E hr hgd h => ?_)
  have hu := hr.units
  have hu1 := hu_of hr
  have nd := sc__law_bent.nd
  have hr__law_bent : Room 4 _ := hr.mono (by decide)
  have hr__law_odd : Room 3 _ := hr.mono (by decide)
  have hr__law_of : Room 2 _ := hr.mono (by decide)
  have hr__law_take : Room 1 _ := hr.mono (by decide)
  exact ⟨t__law_bent spT__law_bent K,
    (pss_cons (ps_if (PW.pt (pw_and (pt_truthX (pe_callB (ca_isinstance rfl) (by rfl) T.m_isinstance bt_isinstance (pa_cons (pv 1) (pa_cons (pe_bltn (v := .ty "tuple") (by rfl) T.m_tuple (by decide +kernel) rfl) pa_nil))) (by intro _; rfl)) (pw_and (pt_cmpR (oaNe hu) (pv 1) (pe_tup pa_nil) (nomark _)) (pw_and1 (pt_cmpR oaGt (pe_callG G__law_take hr__law_take hgd (by rfl) T.m__law_take T.k__law_take T.b__law_take pass0 (pa_cons (pv 0) (pa_cons pe_int pa_nil))) pe_int (nomark _))))))
      (pss_cons (ps_set (i := 2) nd rfl (Or.inl rfl) (pe_callG G__law_take hr__law_take hgd (by rfl) T.m__law_take T.k__law_take T.b__law_take pass0 (pa_cons (pv 0) (pa_cons (pe_callB (ca_len rfl) (by rfl) T.m_len bt_len (pa_cons (pv 1) pa_nil)) pa_nil))))
      (pss_one (ps_ret (pe_op oaAdd (pe_op oaAdd (pe_slice oaSl (pv 1) po_none (po_some (pv 2))) (pe_tup (pa_cons (pe_callG G__law_bent hr__law_bent hgd (by rfl) T.m__law_bent T.k__law_bent T.b__law_bent pass0 (pa_cons (pv 0) (pa_cons (pe_ix ix_seq (pv 1) (pv 2) (fun _ _ => rfl)) pa_nil))) pa_nil))) (pe_slice oaSl (pv 1) (po_some (pe_op oaAdd (pv 2) pe_int)) po_none)))))
      pss_nil)
      (pss_cons (ps_if (pt_truthX (pe_callB (ca_isinstance rfl) (by rfl) T.m_isinstance bt_isinstance (pa_cons (pv 1) (pa_cons (pe_bltn (v := .ty "tuple") (by rfl) T.m_tuple (by decide +kernel) rfl) pa_nil))) (by intro _; rfl))
      (pss_cons (ps_set (i := 2) nd rfl (Or.inl rfl) (pe_callG G__law_take hr__law_take hgd (by rfl) T.m__law_take T.k__law_take T.b__law_take pass0 (pa_cons (pv 0) (pa_cons (pe_op oaAdd (pe_callB (ca_len rfl) (by rfl) T.m_len bt_len (pa_cons (pv 1) pa_nil)) pe_int) pa_nil))))
      (pss_cons (ps_set (i := 3) nd rfl (Or.inl rfl) (pe_lst (pa_cons (pe_callTy (ca_list rfl) (by rfl) T.m_list bt_list (pa_cons (pv 1) pa_nil)) (pa_cons (pe_op oaAdd (pe_slice oaSl (pv 1) po_none (po_some (pv 2))) (pe_slice oaSl (pv 1) (po_some (pe_op oaAdd (pv 2) pe_int)) po_none)) (pa_cons (pe_op oaAdd (pv 1) (pe_slice oaSl (pv 1) (po_some (pv 2)) (po_some (pe_op oaAdd (pv 2) pe_int)))) (pa_cons (pe_revX (pv 1)) (pa_cons (pe_op oaAdd (pe_op oaAdd (pe_slice oaSl (pv 1) po_none (po_some (pv 2))) (pe_tup (pa_cons (pe_callG G__law_odd hr__law_odd hgd (by rfl) T.m__law_odd T.k__law_odd T.b__law_odd pass0 (pa_cons (pv 0) pa_nil)) pa_nil))) (pe_slice oaSl (pv 1) (po_some (pv 2)) po_none)) pa_nil)))))))
      (pss_one (ps_ret (pe_callG G__law_of hr__law_of hgd (by rfl) T.m__law_of T.k__law_of T.b__law_of pass0 (pa_cons (pv 0) (pa_cons (pv 3) pa_nil)))))))
      pss_nil)
      (pss_cons (ps_if (PW.pt (pw_and (pt_truthX (pe_callB (ca_isinstance rfl) (by rfl) T.m_isinstance bt_isinstance (pa_cons (pv 1) (pa_cons (pe_bltn (v := .ty "str") (by rfl) T.m_str (by decide +kernel) rfl) pa_nil))) (by intro _; rfl)) (pw_and (pt_cmpR (oaNe hu) (pv 1) pe_str (nomark _)) (pw_and1 (pt_cmpR oaGt (pe_callG G__law_take hr__law_take hgd (by rfl) T.m__law_take T.k__law_take T.b__law_take pass0 (pa_cons (pv 0) (pa_cons pe_int pa_nil))) pe_int (nomark _))))))
      (pss_cons (ps_set (i := 2) nd rfl (Or.inl rfl) (pe_callG G__law_take hr__law_take hgd (by rfl) T.m__law_take T.k__law_take T.b__law_take pass0 (pa_cons (pv 0) (pa_cons (pe_callB (ca_len rfl) (by rfl) T.m_len bt_len (pa_cons (pv 1) pa_nil)) pa_nil))))
      (pss_one (ps_ret (pe_callG G__law_of hr__law_of hgd (by rfl) T.m__law_of T.k__law_of T.b__law_of pass0 (pa_cons (pv 0) (pa_cons (pe_lst (pa_cons (pe_op oaAdd (pe_slice oaSl (pv 1) po_none (po_some (pv 2))) (pe_slice oaSl (pv 1) (po_some (pe_op oaAdd (pv 2) pe_int)) po_none)) (pa_cons (pe_op oaAdd (pe_op oaAdd (pe_slice oaSl (pv 1) po_none (po_some (pv 2))) (pe_callG G__law_of hr__law_of hgd (by rfl) T.m__law_of T.k__law_of T.b__law_of pass0 (pa_cons (pv 0) (pa_cons (pe_callTy (ca_list rfl) (by rfl) T.m_list bt_list (pa_cons pe_str pa_nil)) pa_nil)))) (pe_slice oaSl (pv 1) (po_some (pe_op oaAdd (pv 2) pe_int)) po_none)) (pa_cons (pe_op oaAdd (pv 1) (pe_ix ix_seq (pv 1) (pv 2) (fun _ _ => rfl))) (pa_cons (pe_revX (pv 1)) pa_nil))))) pa_nil))))))
      pss_nil)
      (pss_cons (ps_if (PW.pt (pw_or (pt_truthX (pe_callB (ca_isinstance rfl) (by rfl) T.m_isinstance bt_isinstance (pa_cons (pv 1) (pa_cons (pe_bltn (v := .ty "bool") (by rfl) T.m_bool (by decide +kernel) rfl) pa_nil))) (by intro _; rfl)) (pw_or1 (pt_not (pt_truthX (pe_callB (ca_isinstance rfl) (by rfl) T.m_isinstance bt_isinstance (pa_cons (pv 1) (pa_cons (pe_bltn (v := .ty "int") (by rfl) T.m_int (by decide +kernel) rfl) pa_nil))) (by intro _; rfl))))))
      (pss_one (ps_ret (pe_callG G__law_odd hr__law_odd hgd (by rfl) T.m__law_odd T.k__law_odd T.b__law_odd pass0 (pa_cons (pv 0) pa_nil))))
      pss_nil)
      (pss_one (ps_ret (pe_callG G__law_of hr__law_of hgd (by rfl) T.m__law_of T.k__law_of T.b__law_of pass0 (pa_cons (pv 0) (pa_cons (pe_lst (pa_cons (pe_op oaAdd (pv 1) pe_int) (pa_cons (pe_op oaSub (pv 1) pe_int) (pa_cons (pe_op oaAdd (pv 1) pe_int) (pa_cons (pe_un un_neg (pv 1)) (pa_cons (pe_callTy (ca_str rfl) (by rfl) T.m_str bt_str (pa_cons (pv 1) pa_nil)) (pa_cons (pe_tup (pa_cons (pv 1) pa_nil)) (pa_cons (pe_cmpR (oaEq hu) (pv 1) pe_int (nomark _)) (pa_cons pe_non (pa_cons pe_int pa_nil)))))))))) pa_nil))))))))),
    fn_body (w_bentH K) h⟩
theorem ok_check_order (T : Txt K mg) : FnG P w K mg base CX0 5 T.f_check_order T.fd_check_order ["heap", "order"] (spD K sp_check_order) := by
  have G_check_heap := ok_check_heap (P := P) (w := w) (base := base) T
  have G_is_order_of := ok_is_order_of (P := P) (w := w) (base := base) T
  refine FunG (k := 4) T.F_check_order sc_check_order (fun vs H Q E h => spD_len h (l_check_order)) (fun cdv A outer s H vs Q E hr hgd h => ?_)
  have hu := hr.units
  have hu1 := hu_of hr
  have nd := sc_check_order.nd
  have hr_check_heap : Room 3 _ := hr.mono (by decide)
  have hr_is_order_of : Room 4 _ := hr.mono (by decide)
  exact ⟨t_check_order K,
    (pss_cons (ps_expr (pe_callG G_check_heap hr_check_heap hgd (by rfl) T.m_check_heap T.k_check_heap T.b_check_heap pass0 (pa_cons (pv 0) pa_nil)))
      (pss_one (ps_if (pt_not (pt_truthX (pe_callG G_is_order_of hr_is_order_of hgd (by rfl) T.m_is_order_of T.k_is_order_of T.b_is_order_of pass0 (pa_cons (pv 0) (pa_cons (pv 1) pa_nil))) (by intro _; rfl)))
      (pss_one ps_never)
      pss_nil))),
    fn_body (w_check_order K) h⟩
theorem ok_laid (T : Txt K mg) : FnG P w K mg base CX0 6 T.f_laid T.fd_laid ["heap", "order"] (spD K sp_laid) := by
  have G_check_order := ok_check_order (P := P) (w := w) (base := base) T
  have G_laid_of := ok_laid_of (P := P) (w := w) (base := base) T
  refine FunG (k := 5) T.F_laid sc_laid (fun vs H Q E h => spD_len h (l_laid)) (fun cdv A outer s H vs Q E hr hgd h => ?_)
  have hu := hr.units
  have hu1 := hu_of hr
  have nd := sc_laid.nd
  have hr_check_order : Room 5 _ := hr.mono (by decide)
  have hr_laid_of : Room 3 _ := hr.mono (by decide)
  exact ⟨t_laid K,
    (pss_cons (ps_expr (pe_callG G_check_order hr_check_order hgd (by rfl) T.m_check_order T.k_check_order T.b_check_order pass0 (pa_cons (pv 0) (pa_cons (pv 1) pa_nil))))
      (pss_one (ps_ret (pe_callG G_laid_of hr_laid_of hgd (by rfl) T.m_laid_of T.k_laid_of T.b_laid_of pass0 (pa_cons (pe_lc (own := [("place", 2)]) (g := (gName 2)) rfl nd (pi_seq (pv 1)) (blkOk_by (own := [("place", 2)]) (N := ["heap", "order", "place"]) (sc := defScope s_laid) (by decide +kernel)) (fun _ _ _ _ _ => (pg_name (i := 2) nd rfl (Or.inl rfl))) (fun _ _ _ _ _ => pts_nil) (fun _ _ _ _ _ => (pe_ix ix_seq (pv 0) (pv 2) (fun _ _ => rfl)))) pa_nil))))),
    fn_body (w_laid K) h⟩
theorem ok_saved (T : Txt K mg) : FnG P w K mg base CX0 6 T.f_saved T.fd_saved ["heap", "order"] (spD K sp_saved) := by
  have G_check_order := ok_check_order (P := P) (w := w) (base := base) T
  have G_overlap_of := ok_overlap_of (P := P) (w := w) (base := base) T
  refine FunG (k := 5) T.F_saved sc_saved (fun vs H Q E h => spD_len h (l_saved)) (fun cdv A outer s H vs Q E hr hgd h => ?_)
  have hu := hr.units
  have hu1 := hu_of hr
  have nd := sc_saved.nd
  have hr_check_order : Room 5 _ := hr.mono (by decide)
  have hr_overlap_of : Room 2 _ := hr.mono (by decide)
  exact ⟨t_saved K,
    (pss_cons (ps_expr (pe_callG G_check_order hr_check_order hgd (by rfl) T.m_check_order T.k_check_order T.b_check_order pass0 (pa_cons (pv 0) (pa_cons (pv 1) pa_nil))))
      (pss_cons (ps_setLc (i := 2) (own := [("place", 3)]) (g := (gName 3)) rfl nd rfl rfl (sw_true rfl rfl rfl (by decide +kernel)) (pi_seq (pv 1)) (blkOk_by (own := [("place", 3)]) (N := ["heap", "order", "rows", "place", "one", "other"]) (sc := defScope s_saved) (by decide +kernel)) (fun _ _ _ _ _ => (pg_name (i := 3) nd rfl (Or.inl rfl))) (fun _ _ _ _ _ => pts_nil) (fun _ _ _ _ _ => (pe_ix ix_seq (pv 0) (pv 3) (fun _ _ => rfl))))
      (pss_one (ps_ret (pe_callB (ca_sum rfl) (by rfl) T.m_sum bt_sum (pa_cons (pe_lc (own := [("one", 4), ("other", 5)]) (g := (gTup K 2 (gCons (gName 4) (gCons (gName 5) gNil)))) rfl nd (pi_zipX (by rfl) T.m_zip (pa_cons (pv 2) (pa_cons (pe_slice oaSl (pv 2) (po_some pe_int) po_none) pa_nil))) (blkOk_by (own := [("one", 4), ("other", 5)]) (N := ["heap", "order", "rows", "place", "one", "other"]) (sc := defScope s_saved) (by decide +kernel)) (fun _ _ _ _ _ => (pg_tup rfl (pgs_cons (pg_name (i := 4) nd rfl (Or.inl rfl)) (pgs_cons (pg_name (i := 5) nd rfl (Or.inl rfl)) pgs_nil)))) (fun _ _ _ _ _ => pts_nil) (fun _ _ _ _ _ => (pe_callG G_overlap_of hr_overlap_of hgd (by rfl) T.m_overlap_of T.k_overlap_of T.b_overlap_of pass0 (pa_cons (pv 4) (pa_cons (pv 5) pa_nil))))) pa_nil)))))),
    fn_body (w_saved K) h⟩
theorem ok__law_right (T : Txt K mg) : FnG P w K mg base CX0 7 T.f__law_right T.fd__law_right ["pot"] (spD K sp__law_right) := by
  have G__law_bent := ok__law_bent (P := P) (w := w) (base := base) T
  have G__law_heap := ok__law_heap (P := P) (w := w) (base := base) T
  have G__law_is_heap := ok__law_is_heap (P := P) (w := w) (base := base) T
  have G__law_laid := ok__law_laid (P := P) (w := w) (base := base) T
  have G__law_odd := ok__law_odd (P := P) (w := w) (base := base) T
  have G__law_of := ok__law_of (P := P) (w := w) (base := base) T
  have G__law_outer := ok__law_outer (P := P) (w := w) (base := base) T
  have G__law_overlap := ok__law_overlap (P := P) (w := w) (base := base) T
  have G__law_some := ok__law_some (P := P) (w := w) (base := base) T
  have G__law_take := ok__law_take (P := P) (w := w) (base := base) T
  have G_inside := ok_inside (P := P) (w := w) (base := base) T
  have G_is_heap := ok_is_heap (P := P) (w := w) (base := base) T
  have G_laid := ok_laid (P := P) (w := w) (base := base) T
  have G_needless_overlaps := ok_needless_overlaps (P := P) (w := w) (base := base) T
  have G_outer := ok_outer (P := P) (w := w) (base := base) T
  have G_overlap := ok_overlap (P := P) (w := w) (base := base) T
  have G_overlap_web := ok_overlap_web (P := P) (w := w) (base := base) T
  have G_overlaps := ok_overlaps (P := P) (w := w) (base := base) T
  have G_saved := ok_saved (P := P) (w := w) (base := base) T
  refine FunG (k := 6) T.F__law_right sc__law_right (fun vs H Q E h => spD_len h (l__law_right)) (fun cdv A outer s H vs Q E hr hgd h => ?_)
  have hu := hr.units
  have hu1 := hu_of hr
  have nd := sc__law_right.nd
  have hr__law_bent : Room 5 _ := hr.mono (by decide)
  have hr__law_heap : Room 3 _ := hr.mono (by decide)
  have hr__law_is_heap : Room 2 _ := hr.mono (by decide)
  have hr__law_laid : Room 2 _ := hr.mono (by decide)
  have hr__law_odd : Room 3 _ := hr.mono (by decide)
  have hr__law_of : Room 2 _ := hr.mono (by decide)
  have hr__law_outer : Room 1 _ := hr.mono (by decide)
  have hr__law_overlap : Room 1 _ := hr.mono (by decide)
  have hr__law_some : Room 2 _ := hr.mono (by decide)
  have hr__law_take : Room 1 _ := hr.mono (by decide)
  have hr_inside : Room 4 _ := hr.mono (by decide)
  have hr_is_heap : Room 3 _ := hr.mono (by decide)
  have hr_laid : Room 6 _ := hr.mono (by decide)
  have hr_needless_overlaps : Room 4 _ := hr.mono (by decide)
  have hr_outer : Room 4 _ := hr.mono (by decide)
  have hr_overlap : Room 4 _ := hr.mono (by decide)
  have hr_overlap_web : Room 4 _ := hr.mono (by decide)
  have hr_overlaps : Room 4 _ := hr.mono (by decide)
  have hr_saved : Room 6 _ := hr.mono (by decide)
  exact ⟨t__law_right K,
    (pss_cons (ps_set (i := 1) nd rfl (Or.inr rfl) (pe_callG G__law_heap hr__law_heap hgd (by rfl) T.m__law_heap T.k__law_heap T.b__law_heap pass0 (pa_cons (pv 0) (pa_cons pe_int pa_nil))))
      (pss_cons (ps_if (PW.pt (pw_or (pt_cmpR (oaNe hu) (pe_callG G_outer hr_outer hgd (by rfl) T.m_outer T.k_outer T.b_outer pass0 (pa_cons (pv 1) pa_nil)) (pe_callTy (ca_tuple rfl) (by rfl) T.m_tuple bt_tuple (pa_cons (pe_callG G__law_outer hr__law_outer hgd (by rfl) T.m__law_outer T.k__law_outer T.b__law_outer pass0 (pa_cons (pv 1) pa_nil)) pa_nil)) (nomark _)) (pw_or1 (pt_cmpR (oaNe hu) (pe_callG G_inside hr_inside hgd (by rfl) T.m_inside T.k_inside T.b_inside pass0 (pa_cons (pv 1) pa_nil)) (pe_callTy (ca_tuple rfl) (by rfl) T.m_tuple bt_tuple (pa_cons (pe_lc (own := [("row", 13)]) (g := (gName 13)) rfl nd (pi_seq (pv 1)) (blkOk_by (own := [("row", 13)]) (N := ["pot", "heap", "web", "at", "one", "to", "other", "due", "known", "needless", "size", "rows", "order", "row", "less", "a", "b", "c", "d", "values", "value", "by", "place", "lap"]) (sc := defScope s__law_right) (by decide +kernel)) (fun _ _ _ _ _ => (pg_name (i := 13) nd rfl (Or.inl rfl))) (fun _ _ _ _ _ => (pts_one (pt_cmpR oaNotIn (pv 13) (pe_callG G__law_outer hr__law_outer hgd (by rfl) T.m__law_outer T.k__law_outer T.b__law_outer pass0 (pa_cons (pv 1) pa_nil)) rfl))) (fun _ _ _ _ _ => (pv 13))) pa_nil)) (nomark _)))))
      (pss_one (ps_ret pe_bl))
      pss_nil)
      (pss_cons (ps_set (i := 2) nd rfl (Or.inl rfl) (pe_lst pa_nil))
      (pss_cons (ps_for PassesOwn.never rfl (pi_enumerateX (by rfl) T.m_enumerate (pa_cons (pv 1) pa_nil)) (pg_tup rfl (pgs_cons (pg_name (i := 3) nd rfl (Or.inr rfl)) (pgs_cons (pg_name (i := 4) nd rfl (Or.inr rfl)) pgs_nil)))
      (pss_one (ps_for PassesOwn.never rfl (pi_enumerateX (by rfl) T.m_enumerate (pa_cons (pv 1) pa_nil)) (pg_tup rfl (pgs_cons (pg_name (i := 5) nd rfl (Or.inr rfl)) (pgs_cons (pg_name (i := 6) nd rfl (Or.inr rfl)) pgs_nil)))
      (pss_cons (ps_set (i := 7) nd rfl (Or.inl rfl) (pe_callTy (ca_tuple rfl) (by rfl) T.m_tuple bt_tuple (pa_cons (pe_lc (own := [("size", 10)]) (g := (gName 10)) rfl nd (pi_range2 (by rfl) T.m_range (pa_cons pe_int (pa_cons (pe_callB (ca_min2 rfl) (by rfl) T.m_min bt_min (pa_cons (pe_callB (ca_len rfl) (by rfl) T.m_len bt_len (pa_cons (pv 4) pa_nil)) (pa_cons (pe_callB (ca_len rfl) (by rfl) T.m_len bt_len (pa_cons (pv 6) pa_nil)) pa_nil))) pa_nil))) (blkOk_by (own := [("size", 10)]) (N := ["pot", "heap", "web", "at", "one", "to", "other", "due", "known", "needless", "size", "rows", "order", "row", "less", "a", "b", "c", "d", "values", "value", "by", "place", "lap"]) (sc := defScope s__law_right) (by decide +kernel)) (fun _ _ _ _ _ => (pg_name (i := 10) nd rfl (Or.inl rfl))) (fun _ _ _ _ _ => (pts_one (pt_cmpR (oaEq hu) (pe_slice oaSl (pv 4) (po_some (pe_op oaSub (pe_callB (ca_len rfl) (by rfl) T.m_len bt_len (pa_cons (pv 4) pa_nil)) (pv 10))) po_none) (pe_slice oaSl (pv 6) po_none (po_some (pv 10))) (nomark _)))) (fun _ _ _ _ _ => (pv 10))) pa_nil)))
      (pss_cons (ps_if (pt_cmpR (oaNe hu) (pe_callB (ca_repr hu hgd) (by rfl) T.m_repr bt_repr (pa_cons (pe_tup (pa_cons (pe_callG G_overlaps hr_overlaps hgd (by rfl) T.m_overlaps T.k_overlaps T.b_overlaps pass0 (pa_cons (pv 4) (pa_cons (pv 6) pa_nil))) (pa_cons (pe_callG G_overlap hr_overlap hgd (by rfl) T.m_overlap T.k_overlap T.b_overlap pass0 (pa_cons (pv 4) (pa_cons (pv 6) pa_nil))) pa_nil))) pa_nil)) (pe_callB (ca_repr hu hgd) (by rfl) T.m_repr bt_repr (pa_cons (pe_tup (pa_cons (pv 7) (pa_cons (pe_callB (ca_max1 rfl) (by rfl) T.m_max bt_max (pa_cons (pe_op oaAdd (pe_tup (pa_cons pe_int pa_nil)) (pv 7)) pa_nil)) pa_nil))) pa_nil)) (nomark _))
      (pss_one (ps_ret pe_bl))
      pss_nil)
      (pss_one (ps_expr (pe_bm PySem.F.plainAttrs_list PySem.F.slot_list_extend PySem.F.type_list_extend ma_list_extend (pv 2) (pa_cons (pe_ifExp (PW.pt (pw_and (pt_cmpR (oaNe hu) (pv 3) (pv 5) (nomark _)) (pw_and1 (pt_cmpR (oaNe hu) (pv 7) (pe_tup pa_nil) (nomark _))))) (pe_lst (pa_cons (pe_tup (pa_cons (pv 3) (pa_cons (pv 5) (pa_cons (pe_ix ix_seq (pv 7) (pe_un un_neg pe_int) (fun _ _ => rfl)) pa_nil)))) pa_nil)) (pe_lst pa_nil)) pa_nil)))))))))
      (pss_cons (ps_if (pt_cmpR (oaNe hu) (pe_callB (ca_repr hu hgd) (by rfl) T.m_repr bt_repr (pa_cons (pe_callG G_overlap_web hr_overlap_web hgd (by rfl) T.m_overlap_web T.k_overlap_web T.b_overlap_web pass0 (pa_cons (pv 1) pa_nil)) pa_nil)) (pe_callB (ca_repr hu hgd) (by rfl) T.m_repr bt_repr (pa_cons (pe_callTy (ca_tuple rfl) (by rfl) T.m_tuple bt_tuple (pa_cons (pv 2) pa_nil)) pa_nil)) (nomark _))
      (pss_one (ps_ret pe_bl))
      pss_nil)
      (pss_cons (ps_asg (pe_tup (pa_cons (pe_callTy (ca_dictT rfl hu) (by rfl) T.m_dict bt_dict (pa_cons (pe_lc (own := [("at", 3), ("to", 5), ("size", 10)]) (g := (gTup K 3 (gCons (gName 3) (gCons (gName 5) (gCons (gName 10) gNil))))) rfl nd (pi_seq (pv 2)) (blkOk_by (own := [("at", 3), ("to", 5), ("size", 10)]) (N := ["pot", "heap", "web", "at", "one", "to", "other", "due", "known", "needless", "size", "rows", "order", "row", "less", "a", "b", "c", "d", "values", "value", "by", "place", "lap"]) (sc := defScope s__law_right) (by decide +kernel)) (fun _ _ _ _ _ => (pg_tup rfl (pgs_cons (pg_name (i := 3) nd rfl (Or.inl rfl)) (pgs_cons (pg_name (i := 5) nd rfl (Or.inl rfl)) (pgs_cons (pg_name (i := 10) nd rfl (Or.inl rfl)) pgs_nil))))) (fun _ _ _ _ _ => pts_nil) (fun _ _ _ _ _ => (pe_tup (pa_cons (pe_tup (pa_cons (pv 3) (pa_cons (pv 5) pa_nil))) (pa_cons (pv 10) pa_nil))))) pa_nil)) (pa_cons (pe_lst pa_nil) pa_nil))) (pg_tup rfl (pgs_cons (pg_name (i := 8) nd rfl (Or.inr rfl)) (pgs_cons (pg_name (i := 9) nd rfl (Or.inl rfl)) pgs_nil))))
      (pss_cons (ps_for PassesOwn.never rfl (pi_seq (pv 2)) (pg_tup rfl (pgs_cons (pg_name (i := 3) nd rfl (Or.inr rfl)) (pgs_cons (pg_name (i := 5) nd rfl (Or.inr rfl)) (pgs_cons (pg_name (i := 10) nd rfl (Or.inr rfl)) pgs_nil))))
      (pss_cons (ps_setLc (i := 11) (own := [("by", 21)]) (g := (gName 21)) rfl nd rfl rfl (sw_true rfl rfl rfl (by decide +kernel)) (pi_range1 (by rfl) T.m_range (pa_cons (pe_callB (ca_len rfl) (by rfl) T.m_len bt_len (pa_cons (pv 1) pa_nil)) pa_nil)) (blkOk_by (own := [("by", 21)]) (N := ["pot", "heap", "web", "at", "one", "to", "other", "due", "known", "needless", "size", "rows", "order", "row", "less", "a", "b", "c", "d", "values", "value", "by", "place", "lap"]) (sc := defScope s__law_right) (by decide +kernel)) (fun _ _ _ _ _ => (pg_name (i := 21) nd rfl (Or.inl rfl))) (fun _ _ _ _ _ => (pts_one (PW.pt (pw_and (pt_cmp (pc_din hu1 (pe_tup (pa_cons (pv 3) (pa_cons (pv 21) pa_nil))) (pv 8))) (pw_and1 (pt_cmp (pc_din hu1 (pe_tup (pa_cons (pv 21) (pa_cons (pv 5) pa_nil))) (pv 8)))))))) (fun _ _ _ _ _ => (pv 21)))
      (pss_one (ps_expr (pe_bm PySem.F.plainAttrs_list PySem.F.slot_list_extend PySem.F.type_list_extend ma_list_extend (pv 9) (pa_cons (pe_ifExp (pt_truthX (pe_callB (ca_any rfl) (by rfl) T.m_any bt_any (pa_cons (pe_lc (own := [("by", 21)]) (g := (gName 21)) rfl nd (pi_seq (pv 11)) (blkOk_by (own := [("by", 21)]) (N := ["pot", "heap", "web", "at", "one", "to", "other", "due", "known", "needless", "size", "rows", "order", "row", "less", "a", "b", "c", "d", "values", "value", "by", "place", "lap"]) (sc := defScope s__law_right) (by decide +kernel)) (fun _ _ _ _ _ => (pg_name (i := 21) nd rfl (Or.inl rfl))) (fun _ _ _ _ _ => pts_nil) (fun _ _ _ _ _ => (pe_cmpR (oaEq hu) (pe_op oaAdd (pe_dget hu1 (pv 8) (pe_tup (pa_cons (pv 3) (pa_cons (pv 21) pa_nil))) (fun _ _ => rfl)) (pe_dget hu1 (pv 8) (pe_tup (pa_cons (pv 21) (pa_cons (pv 5) pa_nil))) (fun _ _ => rfl))) (pe_op oaAdd (pv 10) (pe_callB (ca_len rfl) (by rfl) T.m_len bt_len (pa_cons (pe_ix ix_seq (pv 1) (pv 21) (fun _ _ => rfl)) pa_nil))) (nomark _)))) pa_nil)) (by intro _; rfl)) (pe_lst (pa_cons (pe_tup (pa_cons (pv 3) (pa_cons (pv 5) (pa_cons (pv 10) pa_nil)))) pa_nil)) (pe_lst pa_nil)) pa_nil))))))
      (pss_cons (ps_if (pt_cmpR (oaNe hu) (pe_callB (ca_repr hu hgd) (by rfl) T.m_repr bt_repr (pa_cons (pe_callG G_needless_overlaps hr_needless_overlaps hgd (by rfl) T.m_needless_overlaps T.k_needless_overlaps T.b_needless_overlaps pass0 (pa_cons (pv 1) pa_nil)) pa_nil)) (pe_callB (ca_repr hu hgd) (by rfl) T.m_repr bt_repr (pa_cons (pe_callTy (ca_tuple rfl) (by rfl) T.m_tuple bt_tuple (pa_cons (pv 9) pa_nil)) pa_nil)) (nomark _))
      (pss_one (ps_ret pe_bl))
      pss_nil)
      (pss_cons (ps_set (i := 12) nd rfl (Or.inl rfl) (pe_callTy (ca_tuple rfl) (by rfl) T.m_tuple bt_tuple (pa_cons (pe_callG G__law_some hr__law_some hgd (by rfl) T.m__law_some T.k__law_some T.b__law_some pass0 (pa_cons (pv 0) (pa_cons (pe_listRg rfl (by rfl) T.m_list (prg_1 (by rfl) T.m_range (pe_callB (ca_len rfl) (by rfl) T.m_len bt_len (pa_cons (pv 1) pa_nil)))) (pa_cons (pe_op oaAdd pe_int (pe_callG G__law_take hr__law_take hgd (by rfl) T.m__law_take T.k__law_take T.b__law_take pass0 (pa_cons (pv 0) (pa_cons (pe_callB (ca_len rfl) (by rfl) T.m_len bt_len (pa_cons (pv 1) pa_nil)) pa_nil)))) pa_nil)))) pa_nil)))
      (pss_cons (ps_setLc (i := 11) (own := [("place", 22)]) (g := (gName 22)) rfl nd rfl rfl (sw_true rfl rfl rfl (by decide +kernel)) (pi_seq (pv 12)) (blkOk_by (own := [("place", 22)]) (N := ["pot", "heap", "web", "at", "one", "to", "other", "due", "known", "needless", "size", "rows", "order", "row", "less", "a", "b", "c", "d", "values", "value", "by", "place", "lap"]) (sc := defScope s__law_right) (by decide +kernel)) (fun _ _ _ _ _ => (pg_name (i := 22) nd rfl (Or.inl rfl))) (fun _ _ _ _ _ => pts_nil) (fun _ _ _ _ _ => (pe_ix ix_seq (pv 1) (pv 22) (fun _ _ => rfl))))
      (pss_cons (ps_asg (pe_tup (pa_cons (pe_callG G_laid hr_laid hgd (by rfl) T.m_laid T.k_laid T.b_laid pass0 (pa_cons (pv 1) (pa_cons (pv 12) pa_nil))) (pa_cons (pe_callB (ca_sum rfl) (by rfl) T.m_sum bt_sum (pa_cons (pe_lc (own := [("one", 4), ("other", 6)]) (g := (gTup K 2 (gCons (gName 4) (gCons (gName 6) gNil)))) rfl nd (pi_zipX (by rfl) T.m_zip (pa_cons (pv 11) (pa_cons (pe_slice oaSl (pv 11) (po_some pe_int) po_none) pa_nil))) (blkOk_by (own := [("one", 4), ("other", 6)]) (N := ["pot", "heap", "web", "at", "one", "to", "other", "due", "known", "needless", "size", "rows", "order", "row", "less", "a", "b", "c", "d", "values", "value", "by", "place", "lap"]) (sc := defScope s__law_right) (by decide +kernel)) (fun _ _ _ _ _ => (pg_tup rfl (pgs_cons (pg_name (i := 4) nd rfl (Or.inl rfl)) (pgs_cons (pg_name (i := 6) nd rfl (Or.inl rfl)) pgs_nil)))) (fun _ _ _ _ _ => pts_nil) (fun _ _ _ _ _ => (pe_callG G__law_overlap hr__law_overlap hgd (by rfl) T.m__law_overlap T.k__law_overlap T.b__law_overlap pass0 (pa_cons (pv 4) (pa_cons (pv 6) pa_nil))))) pa_nil)) pa_nil))) (pg_tup rfl (pgs_cons (pg_name (i := 13) nd rfl (Or.inr rfl)) (pgs_cons (pg_name (i := 14) nd rfl (Or.inl rfl)) pgs_nil))))
      (pss_cons (ps_if (PW.pt (pw_or (pt_cmpR (oaNe hu) (pv 13) (pe_callG G__law_laid hr__law_laid hgd (by rfl) T.m__law_laid T.k__law_laid T.b__law_laid pass0 (pa_cons (pv 11) pa_nil)) (nomark _)) (pw_or (pt_cmpR (oaNe hu) (pe_callB (ca_repr hu hgd) (by rfl) T.m_repr bt_repr (pa_cons (pe_callG G_saved hr_saved hgd (by rfl) T.m_saved T.k_saved T.b_saved pass0 (pa_cons (pv 1) (pa_cons (pv 12) pa_nil))) pa_nil)) (pe_callB (ca_repr hu hgd) (by rfl) T.m_repr bt_repr (pa_cons (pv 14) pa_nil)) (nomark _)) (pw_or (pt_cmpR (oaNe hu) (pe_callB (ca_len rfl) (by rfl) T.m_len bt_len (pa_cons (pv 13) pa_nil)) (pe_op oaSub (pe_callB (ca_sum rfl) (by rfl) T.m_sum bt_sum (pa_cons (pe_lc (own := [("one", 4)]) (g := (gName 4)) rfl nd (pi_seq (pv 11)) (blkOk_by (own := [("one", 4)]) (N := ["pot", "heap", "web", "at", "one", "to", "other", "due", "known", "needless", "size", "rows", "order", "row", "less", "a", "b", "c", "d", "values", "value", "by", "place", "lap"]) (sc := defScope s__law_right) (by decide +kernel)) (fun _ _ _ _ _ => (pg_name (i := 4) nd rfl (Or.inl rfl))) (fun _ _ _ _ _ => pts_nil) (fun _ _ _ _ _ => (pe_callB (ca_len rfl) (by rfl) T.m_len bt_len (pa_cons (pv 4) pa_nil)))) pa_nil)) (pv 14)) (nomark _)) (pw_or1 (pt_not (pt_truthX (pe_callB (ca_all rfl) (by rfl) T.m_all bt_all (pa_cons (pe_lc (own := [("one", 4)]) (g := (gName 4)) rfl nd (pi_seq (pv 11)) (blkOk_by (own := [("one", 4)]) (N := ["pot", "heap", "web", "at", "one", "to", "other", "due", "known", "needless", "size", "rows", "order", "row", "less", "a", "b", "c", "d", "values", "value", "by", "place", "lap"]) (sc := defScope s__law_right) (by decide +kernel)) (fun _ _ _ _ _ => (pg_name (i := 4) nd rfl (Or.inl rfl))) (fun _ _ _ _ _ => pts_nil) (fun _ _ _ _ _ => (pe_cmpR oaIn (pv 4) (pv 13) rfl))) pa_nil)) (by intro _; rfl))))))))
      (pss_one (ps_ret pe_bl))
      pss_nil)
      (pss_cons (ps_asg (pe_lc (own := [("lap", 23)]) (g := (gName 23)) rfl nd (pi_range1 (by rfl) T.m_range (pa_cons pe_int pa_nil)) (blkOk_by (own := [("lap", 23)]) (N := ["pot", "heap", "web", "at", "one", "to", "other", "due", "known", "needless", "size", "rows", "order", "row", "less", "a", "b", "c", "d", "values", "value", "by", "place", "lap"]) (sc := defScope s__law_right) (by decide +kernel)) (fun _ _ _ _ _ => (pg_name (i := 23) nd rfl (Or.inl rfl))) (fun _ _ _ _ _ => pts_nil) (fun _ _ _ _ _ => (pe_callG G__law_of hr__law_of hgd (by rfl) T.m__law_of T.k__law_of T.b__law_of pass0 (pa_cons (pv 0) (pa_cons (pe_callTy (ca_list rfl) (by rfl) T.m_list bt_list (pa_cons (pv 1) pa_nil)) pa_nil))))) (pg_unl rfl (pgs_cons (pg_name (i := 15) nd rfl (Or.inl rfl)) (pgs_cons (pg_name (i := 16) nd rfl (Or.inl rfl)) (pgs_cons (pg_name (i := 17) nd rfl (Or.inl rfl)) (pgs_cons (pg_name (i := 18) nd rfl (Or.inl rfl)) pgs_nil))))))
      (pss_cons (ps_if (PW.pt (pw_and (pt_cmpR oaGe (pe_callG G_overlap hr_overlap hgd (by rfl) T.m_overlap T.k_overlap T.b_overlap pass0 (pa_cons (pv 15) (pa_cons (pv 16) pa_nil))) (pe_callB (ca_max2 rfl) (by rfl) T.m_max bt_max (pa_cons (pe_callG G_overlap hr_overlap hgd (by rfl) T.m_overlap T.k_overlap T.b_overlap pass0 (pa_cons (pv 15) (pa_cons (pv 18) pa_nil))) (pa_cons (pe_callG G_overlap hr_overlap hgd (by rfl) T.m_overlap T.k_overlap T.b_overlap pass0 (pa_cons (pv 17) (pa_cons (pv 16) pa_nil))) pa_nil))) (nomark _)) (pw_and1 (pt_cmpR oaLt (pe_op oaAdd (pe_callG G_overlap hr_overlap hgd (by rfl) T.m_overlap T.k_overlap T.b_overlap pass0 (pa_cons (pv 15) (pa_cons (pv 16) pa_nil))) (pe_callG G_overlap hr_overlap hgd (by rfl) T.m_overlap T.k_overlap T.b_overlap pass0 (pa_cons (pv 17) (pa_cons (pv 18) pa_nil)))) (pe_op oaAdd (pe_callG G_overlap hr_overlap hgd (by rfl) T.m_overlap T.k_overlap T.b_overlap pass0 (pa_cons (pv 15) (pa_cons (pv 18) pa_nil))) (pe_callG G_overlap hr_overlap hgd (by rfl) T.m_overlap T.k_overlap T.b_overlap pass0 (pa_cons (pv 17) (pa_cons (pv 16) pa_nil)))) (nomark _)))))
      (pss_one (ps_ret pe_bl))
      pss_nil)
      (pss_cons (ps_set (i := 19) nd rfl (Or.inl rfl) (pe_lst (pa_cons (pv 1) (pa_cons (pe_callTy (ca_list rfl) (by rfl) T.m_list bt_list (pa_cons (pv 1) pa_nil)) (pa_cons (pe_revX (pv 1)) (pa_cons (pe_op oaAdd (pv 1) (pe_tup (pa_cons (pe_op oaMul pe_str pe_int) pa_nil))) (pa_cons (pe_op oaAdd (pv 1) (pe_tup (pa_cons (pe_op oaMul pe_str pe_int) pa_nil))) (pa_cons (pe_op oaAdd (pe_tup (pa_cons pe_str pa_nil)) (pv 1)) (pa_cons (pe_tup (pa_cons (pe_op oaMul pe_str pe_int) pa_nil)) (pa_cons (pe_tup (pa_cons pe_str pa_nil)) (pa_cons (pe_callG G__law_odd hr__law_odd hgd (by rfl) T.m__law_odd T.k__law_odd T.b__law_odd pass0 (pa_cons (pv 0) pa_nil)) pa_nil)))))))))))
      (pss_cons (ps_for PassesOwn.never rfl (pi_seq (pe_op oaAdd (pv 19) (pe_lc (own := [("lap", 23)]) (g := (gName 23)) rfl nd (pi_range1 (by rfl) T.m_range (pa_cons pe_int pa_nil)) (blkOk_by (own := [("lap", 23)]) (N := ["pot", "heap", "web", "at", "one", "to", "other", "due", "known", "needless", "size", "rows", "order", "row", "less", "a", "b", "c", "d", "values", "value", "by", "place", "lap"]) (sc := defScope s__law_right) (by decide +kernel)) (fun _ _ _ _ _ => (pg_name (i := 23) nd rfl (Or.inl rfl))) (fun _ _ _ _ _ => pts_nil) (fun _ _ _ _ _ => (pe_callG G__law_bent hr__law_bent hgd (by rfl) T.m__law_bent T.k__law_bent T.b__law_bent pass0 (pa_cons (pv 0) (pa_cons (pv 1) pa_nil))))))) (pg_name (i := 20) nd rfl (Or.inl rfl))
      (pss_one (ps_if (pt_cmpR (oaNe hu) (pe_callB (ca_repr hu hgd) (by rfl) T.m_repr bt_repr (pa_cons (pe_callG G_is_heap hr_is_heap hgd (by rfl) T.m_is_heap T.k_is_heap T.b_is_heap pass0 (pa_cons (pv 20) pa_nil)) pa_nil)) (pe_callB (ca_repr hu hgd) (by rfl) T.m_repr bt_repr (pa_cons (pe_callG G__law_is_heap hr__law_is_heap hgd (by rfl) T.m__law_is_heap T.k__law_is_heap T.b__law_is_heap pass0 (pa_cons (pv 20) pa_nil)) pa_nil)) (nomark _))
      (pss_one (ps_ret pe_bl))
      pss_nil)))
      (pss_one (ps_ret pe_bl)))))))))))))))))),
    fn_body (w_law_right K) h⟩
theorem ok_law (T : Txt K mg) : FnG P w K mg base CX0 8 T.f_law T.fd_law ["script"] (spD K sp_law) := by
  have G__law_cells := ok__law_cells (P := P) (w := w) (base := base) T
  have G__law_pot := ok__law_pot (P := P) (w := w) (base := base) T
  have G__law_right := ok__law_right (P := P) (w := w) (base := base) T
  refine FunG (k := 7) T.F_law sc_law (fun vs H Q E h => spD_len h (l_law)) (fun cdv A outer s H vs Q E hr hgd h => ?_)
  have hu := hr.units
  have hu1 := hu_of hr
  have nd := sc_law.nd
  have hr__law_cells : Room 1 _ := hr.mono (by decide)
  have hr__law_pot : Room 1 _ := hr.mono (by decide)
  have hr__law_right : Room 7 _ := hr.mono (by decide)
  exact ⟨t_law K,
    (pss_cons (ps_for PassesOwn.never rfl (pi_seq (pe_callG G__law_cells hr__law_cells hgd (by rfl) T.m__law_cells T.k__law_cells T.b__law_cells pass0 (pa_cons (pv 0) (pa_cons pe_int pa_nil)))) (pg_name (i := 1) nd rfl (Or.inl rfl))
      (pss_cons (ps_set (i := 2) nd rfl (Or.inr rfl) (pe_callG G__law_pot hr__law_pot hgd (by rfl) T.m__law_pot T.k__law_pot T.b__law_pot pass0 (pa_cons (pv 0) (pa_cons (pv 1) pa_nil))))
      (pss_one (ps_if (pt_not (pt_truthX (pe_callB (ca_all rfl) (by rfl) T.m_all bt_all (pa_cons (pe_lc (own := [("lap", 3)]) (g := (gName 3)) rfl nd (pi_range1 (by rfl) T.m_range (pa_cons pe_int pa_nil)) (blkOk_by (own := [("lap", 3)]) (N := ["script", "place", "pot", "lap"]) (sc := defScope s_law) (by decide +kernel)) (fun _ _ _ _ _ => (pg_name (i := 3) nd rfl (Or.inl rfl))) (fun _ _ _ _ _ => pts_nil) (fun _ _ _ _ _ => (pe_callG G__law_right hr__law_right hgd (by rfl) T.m__law_right T.k__law_right T.b__law_right pass0 (pa_cons (pv 2) pa_nil)))) pa_nil)) (by intro _; rfl)))
      (pss_one (ps_ret pe_bl))
      pss_nil))))
      (pss_one (ps_ret pe_bl))),
    fn_body (w_law K) h⟩
end
end K60
namespace K60
open PySem L2 DL
theorem all_mk {l : PySem.W.OpenLaw} {w : World} {K : PySem.W.Frag} {mg : Str → Option Value} {fa : Addr} {h : Heap} (X : K.In h) (G : h.Ns mainGlobals mg) (hfa : mg "law" = some (.ref fa))
    {f_is_integer : Addr} {oc_is_integer kV_is_integer dc_is_integer pm_is_integer cd_is_integer ct_is_integer : Value} {od_is_integer an_is_integer : Option Addr} {sl_is_integer : Array (Option Value)}
    {f_is_between : Addr} {oc_is_between kV_is_between dc_is_between pm_is_between cd_is_between ct_is_between : Value} {od_is_between an_is_between : Option Addr} {sl_is_between : Array (Option Value)}
    {f_are_between : Addr} {oc_are_between kV_are_between dc_are_between pm_are_between cd_are_between ct_are_between : Value} {od_are_between an_are_between : Option Addr} {sl_are_between : Array (Option Value)}
    {f_is_ascending : Addr} {oc_is_ascending kV_is_ascending dc_is_ascending pm_is_ascending cd_is_ascending ct_is_ascending : Value} {od_is_ascending an_is_ascending : Option Addr} {sl_is_ascending : Array (Option Value)}
    {f_is_row_of : Addr} {oc_is_row_of kV_is_row_of dc_is_row_of pm_is_row_of cd_is_row_of ct_is_row_of : Value} {od_is_row_of an_is_row_of : Option Addr} {sl_is_row_of : Array (Option Value)}
    {f_check_row : Addr} {oc_check_row kV_check_row dc_check_row pm_check_row cd_check_row ct_check_row : Value} {od_check_row an_check_row : Option Addr} {sl_check_row : Array (Option Value)}
    {f_is_heap_of : Addr} {oc_is_heap_of kV_is_heap_of dc_is_heap_of pm_is_heap_of cd_is_heap_of ct_is_heap_of : Value} {od_is_heap_of an_is_heap_of : Option Addr} {sl_is_heap_of : Array (Option Value)}
    {f_is_heap : Addr} {oc_is_heap kV_is_heap dc_is_heap pm_is_heap cd_is_heap ct_is_heap : Value} {od_is_heap an_is_heap : Option Addr} {sl_is_heap : Array (Option Value)}
    {f_check_heap : Addr} {oc_check_heap kV_check_heap dc_check_heap pm_check_heap cd_check_heap ct_check_heap : Value} {od_check_heap an_check_heap : Option Addr} {sl_check_heap : Array (Option Value)}
    {f_check_both : Addr} {oc_check_both kV_check_both dc_check_both pm_check_both cd_check_both ct_check_both : Value} {od_check_both an_check_both : Option Addr} {sl_check_both : Array (Option Value)}
    {f_overlaps_of : Addr} {oc_overlaps_of kV_overlaps_of dc_overlaps_of pm_overlaps_of cd_overlaps_of ct_overlaps_of : Value} {od_overlaps_of an_overlaps_of : Option Addr} {sl_overlaps_of : Array (Option Value)}
    {f_overlap_of : Addr} {oc_overlap_of kV_overlap_of dc_overlap_of pm_overlap_of cd_overlap_of ct_overlap_of : Value} {od_overlap_of an_overlap_of : Option Addr} {sl_overlap_of : Array (Option Value)}
    {f_overlaps : Addr} {oc_overlaps kV_overlaps dc_overlaps pm_overlaps cd_overlaps ct_overlaps : Value} {od_overlaps an_overlaps : Option Addr} {sl_overlaps : Array (Option Value)}
    {f_overlap : Addr} {oc_overlap kV_overlap dc_overlap pm_overlap cd_overlap ct_overlap : Value} {od_overlap an_overlap : Option Addr} {sl_overlap : Array (Option Value)}
    {f_inside_of : Addr} {oc_inside_of kV_inside_of dc_inside_of pm_inside_of cd_inside_of ct_inside_of : Value} {od_inside_of an_inside_of : Option Addr} {sl_inside_of : Array (Option Value)}
    {f_outer_of : Addr} {oc_outer_of kV_outer_of dc_outer_of pm_outer_of cd_outer_of ct_outer_of : Value} {od_outer_of an_outer_of : Option Addr} {sl_outer_of : Array (Option Value)}
    {f_inside : Addr} {oc_inside kV_inside dc_inside pm_inside cd_inside ct_inside : Value} {od_inside an_inside : Option Addr} {sl_inside : Array (Option Value)}
    {f_outer : Addr} {oc_outer kV_outer dc_outer pm_outer cd_outer ct_outer : Value} {od_outer an_outer : Option Addr} {sl_outer : Array (Option Value)}
    {f_web_of : Addr} {oc_web_of kV_web_of dc_web_of pm_web_of cd_web_of ct_web_of : Value} {od_web_of an_web_of : Option Addr} {sl_web_of : Array (Option Value)}
    {f_overlap_web : Addr} {oc_overlap_web kV_overlap_web dc_overlap_web pm_overlap_web cd_overlap_web ct_overlap_web : Value} {od_overlap_web an_overlap_web : Option Addr} {sl_overlap_web : Array (Option Value)}
    {f_is_needless : Addr} {oc_is_needless kV_is_needless dc_is_needless pm_is_needless cd_is_needless ct_is_needless : Value} {od_is_needless an_is_needless : Option Addr} {sl_is_needless : Array (Option Value)}
    {f_needless_overlaps : Addr} {oc_needless_overlaps kV_needless_overlaps dc_needless_overlaps pm_needless_overlaps cd_needless_overlaps ct_needless_overlaps : Value} {od_needless_overlaps an_needless_overlaps : Option Addr} {sl_needless_overlaps : Array (Option Value)}
    {f_is_order_of : Addr} {oc_is_order_of kV_is_order_of dc_is_order_of pm_is_order_of cd_is_order_of ct_is_order_of : Value} {od_is_order_of an_is_order_of : Option Addr} {sl_is_order_of : Array (Option Value)}
    {f_check_order : Addr} {oc_check_order kV_check_order dc_check_order pm_check_order cd_check_order ct_check_order : Value} {od_check_order an_check_order : Option Addr} {sl_check_order : Array (Option Value)}
    {f_laid_of : Addr} {oc_laid_of kV_laid_of dc_laid_of pm_laid_of cd_laid_of ct_laid_of : Value} {od_laid_of an_laid_of : Option Addr} {sl_laid_of : Array (Option Value)}
    {f_laid : Addr} {oc_laid kV_laid dc_laid pm_laid cd_laid ct_laid : Value} {od_laid an_laid : Option Addr} {sl_laid : Array (Option Value)}
    {f_saved : Addr} {oc_saved kV_saved dc_saved pm_saved cd_saved ct_saved : Value} {od_saved an_saved : Option Addr} {sl_saved : Array (Option Value)}
    {f__law_pot : Addr} {oc__law_pot kV__law_pot dc__law_pot pm__law_pot cd__law_pot ct__law_pot : Value} {od__law_pot an__law_pot : Option Addr} {sl__law_pot : Array (Option Value)}
    {f__law_take : Addr} {oc__law_take kV__law_take dc__law_take pm__law_take cd__law_take ct__law_take : Value} {od__law_take an__law_take : Option Addr} {sl__law_take : Array (Option Value)}
    {f__law_of : Addr} {oc__law_of kV__law_of dc__law_of pm__law_of cd__law_of ct__law_of : Value} {od__law_of an__law_of : Option Addr} {sl__law_of : Array (Option Value)}
    {f__law_some : Addr} {oc__law_some kV__law_some dc__law_some pm__law_some cd__law_some ct__law_some : Value} {od__law_some an__law_some : Option Addr} {sl__law_some : Array (Option Value)}
    {f__law_cells : Addr} {oc__law_cells kV__law_cells dc__law_cells pm__law_cells cd__law_cells ct__law_cells : Value} {od__law_cells an__law_cells : Option Addr} {sl__law_cells : Array (Option Value)}
    {f__law_is_row : Addr} {oc__law_is_row kV__law_is_row dc__law_is_row pm__law_is_row cd__law_is_row ct__law_is_row : Value} {od__law_is_row an__law_is_row : Option Addr} {sl__law_is_row : Array (Option Value)}
    {f__law_odd : Addr} {oc__law_odd kV__law_odd dc__law_odd pm__law_odd cd__law_odd ct__law_odd : Value} {od__law_odd an__law_odd : Option Addr} {sl__law_odd : Array (Option Value)}
    {f__law_bent : Addr} {oc__law_bent kV__law_bent dc__law_bent pm__law_bent cd__law_bent ct__law_bent : Value} {od__law_bent an__law_bent : Option Addr} {sl__law_bent : Array (Option Value)}
    {f__law_heap : Addr} {oc__law_heap kV__law_heap dc__law_heap pm__law_heap cd__law_heap ct__law_heap : Value} {od__law_heap an__law_heap : Option Addr} {sl__law_heap : Array (Option Value)}
    {f__law_overlap : Addr} {oc__law_overlap kV__law_overlap dc__law_overlap pm__law_overlap cd__law_overlap ct__law_overlap : Value} {od__law_overlap an__law_overlap : Option Addr} {sl__law_overlap : Array (Option Value)}
    {f__law_outer : Addr} {oc__law_outer kV__law_outer dc__law_outer pm__law_outer cd__law_outer ct__law_outer : Value} {od__law_outer an__law_outer : Option Addr} {sl__law_outer : Array (Option Value)}
    {f__law_laid : Addr} {oc__law_laid kV__law_laid dc__law_laid pm__law_laid cd__law_laid ct__law_laid : Value} {od__law_laid an__law_laid : Option Addr} {sl__law_laid : Array (Option Value)}
    {f__law_is_heap : Addr} {oc__law_is_heap kV__law_is_heap dc__law_is_heap pm__law_is_heap cd__law_is_heap ct__law_is_heap : Value} {od__law_is_heap an__law_is_heap : Option Addr} {sl__law_is_heap : Array (Option Value)}
    {f__law_right : Addr} {oc__law_right kV__law_right dc__law_right pm__law_right cd__law_right ct__law_right : Value} {od__law_right an__law_right : Option Addr} {sl__law_right : Array (Option Value)}
    {f_law : Addr} {oc_law kV_law dc_law pm_law cd_law ct_law : Value} {od_law an_law : Option Addr} {sl_law : Array (Option Value)}
    {t_LETTERS : Tok}
    {t_MOST_ROW : Tok}
    {t_MOST_HEAP : Tok}
    {t_MOST_EACH : Tok}
    (a_is_integer : PySem.W.nsIn K mainGlobals "is_integer" = some (some (.ref f_is_integer)))
    (l_is_integer : K.lookup f_is_integer = some ⟨oc_is_integer, od_is_integer, .func (PySem.W.fnOf "is_integer" "is_integer" (defArgs s_is_integer) (defBody s_is_integer) (defScope s_is_integer) .none kV_is_integer dc_is_integer pm_is_integer an_is_integer cd_is_integer ct_is_integer), sl_is_integer⟩)
    (c_is_integer : PySem.W.codeIn K cd_is_integer "is_integer" = true)
    (k_is_integer : PySem.W.keepIn K (.ref f_is_integer) = true)
    (a_is_between : PySem.W.nsIn K mainGlobals "is_between" = some (some (.ref f_is_between)))
    (l_is_between : K.lookup f_is_between = some ⟨oc_is_between, od_is_between, .func (PySem.W.fnOf "is_between" "is_between" (defArgs s_is_between) (defBody s_is_between) (defScope s_is_between) .none kV_is_between dc_is_between pm_is_between an_is_between cd_is_between ct_is_between), sl_is_between⟩)
    (c_is_between : PySem.W.codeIn K cd_is_between "is_between" = true)
    (k_is_between : PySem.W.keepIn K (.ref f_is_between) = true)
    (a_are_between : PySem.W.nsIn K mainGlobals "are_between" = some (some (.ref f_are_between)))
    (l_are_between : K.lookup f_are_between = some ⟨oc_are_between, od_are_between, .func (PySem.W.fnOf "are_between" "are_between" (defArgs s_are_between) (defBody s_are_between) (defScope s_are_between) .none kV_are_between dc_are_between pm_are_between an_are_between cd_are_between ct_are_between), sl_are_between⟩)
    (c_are_between : PySem.W.codeIn K cd_are_between "are_between" = true)
    (k_are_between : PySem.W.keepIn K (.ref f_are_between) = true)
    (a_is_ascending : PySem.W.nsIn K mainGlobals "is_ascending" = some (some (.ref f_is_ascending)))
    (l_is_ascending : K.lookup f_is_ascending = some ⟨oc_is_ascending, od_is_ascending, .func (PySem.W.fnOf "is_ascending" "is_ascending" (defArgs s_is_ascending) (defBody s_is_ascending) (defScope s_is_ascending) .none kV_is_ascending dc_is_ascending pm_is_ascending an_is_ascending cd_is_ascending ct_is_ascending), sl_is_ascending⟩)
    (c_is_ascending : PySem.W.codeIn K cd_is_ascending "is_ascending" = true)
    (k_is_ascending : PySem.W.keepIn K (.ref f_is_ascending) = true)
    (a_is_row_of : PySem.W.nsIn K mainGlobals "is_row_of" = some (some (.ref f_is_row_of)))
    (l_is_row_of : K.lookup f_is_row_of = some ⟨oc_is_row_of, od_is_row_of, .func (PySem.W.fnOf "is_row_of" "is_row_of" (defArgs s_is_row_of) (defBody s_is_row_of) (defScope s_is_row_of) .none kV_is_row_of dc_is_row_of pm_is_row_of an_is_row_of cd_is_row_of ct_is_row_of), sl_is_row_of⟩)
    (c_is_row_of : PySem.W.codeIn K cd_is_row_of "is_row_of" = true)
    (k_is_row_of : PySem.W.keepIn K (.ref f_is_row_of) = true)
    (a_check_row : PySem.W.nsIn K mainGlobals "check_row" = some (some (.ref f_check_row)))
    (l_check_row : K.lookup f_check_row = some ⟨oc_check_row, od_check_row, .func (PySem.W.fnOf "check_row" "check_row" (defArgs s_check_row) (defBody s_check_row) (defScope s_check_row) .none kV_check_row dc_check_row pm_check_row an_check_row cd_check_row ct_check_row), sl_check_row⟩)
    (c_check_row : PySem.W.codeIn K cd_check_row "check_row" = true)
    (k_check_row : PySem.W.keepIn K (.ref f_check_row) = true)
    (a_is_heap_of : PySem.W.nsIn K mainGlobals "is_heap_of" = some (some (.ref f_is_heap_of)))
    (l_is_heap_of : K.lookup f_is_heap_of = some ⟨oc_is_heap_of, od_is_heap_of, .func (PySem.W.fnOf "is_heap_of" "is_heap_of" (defArgs s_is_heap_of) (defBody s_is_heap_of) (defScope s_is_heap_of) .none kV_is_heap_of dc_is_heap_of pm_is_heap_of an_is_heap_of cd_is_heap_of ct_is_heap_of), sl_is_heap_of⟩)
    (c_is_heap_of : PySem.W.codeIn K cd_is_heap_of "is_heap_of" = true)
    (k_is_heap_of : PySem.W.keepIn K (.ref f_is_heap_of) = true)
    (a_is_heap : PySem.W.nsIn K mainGlobals "is_heap" = some (some (.ref f_is_heap)))
    (l_is_heap : K.lookup f_is_heap = some ⟨oc_is_heap, od_is_heap, .func (PySem.W.fnOf "is_heap" "is_heap" (defArgs s_is_heap) (defBody s_is_heap) (defScope s_is_heap) .none kV_is_heap dc_is_heap pm_is_heap an_is_heap cd_is_heap ct_is_heap), sl_is_heap⟩)
    (c_is_heap : PySem.W.codeIn K cd_is_heap "is_heap" = true)
    (k_is_heap : PySem.W.keepIn K (.ref f_is_heap) = true)
    (a_check_heap : PySem.W.nsIn K mainGlobals "check_heap" = some (some (.ref f_check_heap)))
    (l_check_heap : K.lookup f_check_heap = some ⟨oc_check_heap, od_check_heap, .func (PySem.W.fnOf "check_heap" "check_heap" (defArgs s_check_heap) (defBody s_check_heap) (defScope s_check_heap) .none kV_check_heap dc_check_heap pm_check_heap an_check_heap cd_check_heap ct_check_heap), sl_check_heap⟩)
    (c_check_heap : PySem.W.codeIn K cd_check_heap "check_heap" = true)
    (k_check_heap : PySem.W.keepIn K (.ref f_check_heap) = true)
    (a_check_both : PySem.W.nsIn K mainGlobals "check_both" = some (some (.ref f_check_both)))
    (l_check_both : K.lookup f_check_both = some ⟨oc_check_both, od_check_both, .func (PySem.W.fnOf "check_both" "check_both" (defArgs s_check_both) (defBody s_check_both) (defScope s_check_both) .none kV_check_both dc_check_both pm_check_both an_check_both cd_check_both ct_check_both), sl_check_both⟩)
    (c_check_both : PySem.W.codeIn K cd_check_both "check_both" = true)
    (k_check_both : PySem.W.keepIn K (.ref f_check_both) = true)
    (a_overlaps_of : PySem.W.nsIn K mainGlobals "overlaps_of" = some (some (.ref f_overlaps_of)))
    (l_overlaps_of : K.lookup f_overlaps_of = some ⟨oc_overlaps_of, od_overlaps_of, .func (PySem.W.fnOf "overlaps_of" "overlaps_of" (defArgs s_overlaps_of) (defBody s_overlaps_of) (defScope s_overlaps_of) .none kV_overlaps_of dc_overlaps_of pm_overlaps_of an_overlaps_of cd_overlaps_of ct_overlaps_of), sl_overlaps_of⟩)
    (c_overlaps_of : PySem.W.codeIn K cd_overlaps_of "overlaps_of" = true)
    (k_overlaps_of : PySem.W.keepIn K (.ref f_overlaps_of) = true)
    (a_overlap_of : PySem.W.nsIn K mainGlobals "overlap_of" = some (some (.ref f_overlap_of)))
    (l_overlap_of : K.lookup f_overlap_of = some ⟨oc_overlap_of, od_overlap_of, .func (PySem.W.fnOf "overlap_of" "overlap_of" (defArgs s_overlap_of) (defBody s_overlap_of) (defScope s_overlap_of) .none kV_overlap_of dc_overlap_of pm_overlap_of an_overlap_of cd_overlap_of ct_overlap_of), sl_overlap_of⟩)
    (c_overlap_of : PySem.W.codeIn K cd_overlap_of "overlap_of" = true)
    (k_overlap_of : PySem.W.keepIn K (.ref f_overlap_of) = true)
    (a_overlaps : PySem.W.nsIn K mainGlobals "overlaps" = some (some (.ref f_overlaps)))
    (l_overlaps : K.lookup f_overlaps = some ⟨oc_overlaps, od_overlaps, .func (PySem.W.fnOf "overlaps" "overlaps" (defArgs s_overlaps) (defBody s_overlaps) (defScope s_overlaps) .none kV_overlaps dc_overlaps pm_overlaps an_overlaps cd_overlaps ct_overlaps), sl_overlaps⟩)
    (c_overlaps : PySem.W.codeIn K cd_overlaps "overlaps" = true)
    (k_overlaps : PySem.W.keepIn K (.ref f_overlaps) = true)
    (a_overlap : PySem.W.nsIn K mainGlobals "overlap" = some (some (.ref f_overlap)))
    (l_overlap : K.lookup f_overlap = some ⟨oc_overlap, od_overlap, .func (PySem.W.fnOf "overlap" "overlap" (defArgs s_overlap) (defBody s_overlap) (defScope s_overlap) .none kV_overlap dc_overlap pm_overlap an_overlap cd_overlap ct_overlap), sl_overlap⟩)
    (c_overlap : PySem.W.codeIn K cd_overlap "overlap" = true)
    (k_overlap : PySem.W.keepIn K (.ref f_overlap) = true)
    (a_inside_of : PySem.W.nsIn K mainGlobals "inside_of" = some (some (.ref f_inside_of)))
    (l_inside_of : K.lookup f_inside_of = some ⟨oc_inside_of, od_inside_of, .func (PySem.W.fnOf "inside_of" "inside_of" (defArgs s_inside_of) (defBody s_inside_of) (defScope s_inside_of) .none kV_inside_of dc_inside_of pm_inside_of an_inside_of cd_inside_of ct_inside_of), sl_inside_of⟩)
    (c_inside_of : PySem.W.codeIn K cd_inside_of "inside_of" = true)
    (k_inside_of : PySem.W.keepIn K (.ref f_inside_of) = true)
    (a_outer_of : PySem.W.nsIn K mainGlobals "outer_of" = some (some (.ref f_outer_of)))
    (l_outer_of : K.lookup f_outer_of = some ⟨oc_outer_of, od_outer_of, .func (PySem.W.fnOf "outer_of" "outer_of" (defArgs s_outer_of) (defBody s_outer_of) (defScope s_outer_of) .none kV_outer_of dc_outer_of pm_outer_of an_outer_of cd_outer_of ct_outer_of), sl_outer_of⟩)
    (c_outer_of : PySem.W.codeIn K cd_outer_of "outer_of" = true)
    (k_outer_of : PySem.W.keepIn K (.ref f_outer_of) = true)
    (a_inside : PySem.W.nsIn K mainGlobals "inside" = some (some (.ref f_inside)))
    (l_inside : K.lookup f_inside = some ⟨oc_inside, od_inside, .func (PySem.W.fnOf "inside" "inside" (defArgs s_inside) (defBody s_inside) (defScope s_inside) .none kV_inside dc_inside pm_inside an_inside cd_inside ct_inside), sl_inside⟩)
    (c_inside : PySem.W.codeIn K cd_inside "inside" = true)
    (k_inside : PySem.W.keepIn K (.ref f_inside) = true)
    (a_outer : PySem.W.nsIn K mainGlobals "outer" = some (some (.ref f_outer)))
    (l_outer : K.lookup f_outer = some ⟨oc_outer, od_outer, .func (PySem.W.fnOf "outer" "outer" (defArgs s_outer) (defBody s_outer) (defScope s_outer) .none kV_outer dc_outer pm_outer an_outer cd_outer ct_outer), sl_outer⟩)
    (c_outer : PySem.W.codeIn K cd_outer "outer" = true)
    (k_outer : PySem.W.keepIn K (.ref f_outer) = true)
    (a_web_of : PySem.W.nsIn K mainGlobals "web_of" = some (some (.ref f_web_of)))
    (l_web_of : K.lookup f_web_of = some ⟨oc_web_of, od_web_of, .func (PySem.W.fnOf "web_of" "web_of" (defArgs s_web_of) (defBody s_web_of) (defScope s_web_of) .none kV_web_of dc_web_of pm_web_of an_web_of cd_web_of ct_web_of), sl_web_of⟩)
    (c_web_of : PySem.W.codeIn K cd_web_of "web_of" = true)
    (k_web_of : PySem.W.keepIn K (.ref f_web_of) = true)
    (a_overlap_web : PySem.W.nsIn K mainGlobals "overlap_web" = some (some (.ref f_overlap_web)))
    (l_overlap_web : K.lookup f_overlap_web = some ⟨oc_overlap_web, od_overlap_web, .func (PySem.W.fnOf "overlap_web" "overlap_web" (defArgs s_overlap_web) (defBody s_overlap_web) (defScope s_overlap_web) .none kV_overlap_web dc_overlap_web pm_overlap_web an_overlap_web cd_overlap_web ct_overlap_web), sl_overlap_web⟩)
    (c_overlap_web : PySem.W.codeIn K cd_overlap_web "overlap_web" = true)
    (k_overlap_web : PySem.W.keepIn K (.ref f_overlap_web) = true)
    (a_is_needless : PySem.W.nsIn K mainGlobals "is_needless" = some (some (.ref f_is_needless)))
    (l_is_needless : K.lookup f_is_needless = some ⟨oc_is_needless, od_is_needless, .func (PySem.W.fnOf "is_needless" "is_needless" (defArgs s_is_needless) (defBody s_is_needless) (defScope s_is_needless) .none kV_is_needless dc_is_needless pm_is_needless an_is_needless cd_is_needless ct_is_needless), sl_is_needless⟩)
    (c_is_needless : PySem.W.codeIn K cd_is_needless "is_needless" = true)
    (k_is_needless : PySem.W.keepIn K (.ref f_is_needless) = true)
    (a_needless_overlaps : PySem.W.nsIn K mainGlobals "needless_overlaps" = some (some (.ref f_needless_overlaps)))
    (l_needless_overlaps : K.lookup f_needless_overlaps = some ⟨oc_needless_overlaps, od_needless_overlaps, .func (PySem.W.fnOf "needless_overlaps" "needless_overlaps" (defArgs s_needless_overlaps) (defBody s_needless_overlaps) (defScope s_needless_overlaps) .none kV_needless_overlaps dc_needless_overlaps pm_needless_overlaps an_needless_overlaps cd_needless_overlaps ct_needless_overlaps), sl_needless_overlaps⟩)
    (c_needless_overlaps : PySem.W.codeIn K cd_needless_overlaps "needless_overlaps" = true)
    (k_needless_overlaps : PySem.W.keepIn K (.ref f_needless_overlaps) = true)
    (a_is_order_of : PySem.W.nsIn K mainGlobals "is_order_of" = some (some (.ref f_is_order_of)))
    (l_is_order_of : K.lookup f_is_order_of = some ⟨oc_is_order_of, od_is_order_of, .func (PySem.W.fnOf "is_order_of" "is_order_of" (defArgs s_is_order_of) (defBody s_is_order_of) (defScope s_is_order_of) .none kV_is_order_of dc_is_order_of pm_is_order_of an_is_order_of cd_is_order_of ct_is_order_of), sl_is_order_of⟩)
    (c_is_order_of : PySem.W.codeIn K cd_is_order_of "is_order_of" = true)
    (k_is_order_of : PySem.W.keepIn K (.ref f_is_order_of) = true)
    (a_check_order : PySem.W.nsIn K mainGlobals "check_order" = some (some (.ref f_check_order)))
    (l_check_order : K.lookup f_check_order = some ⟨oc_check_order, od_check_order, .func (PySem.W.fnOf "check_order" "check_order" (defArgs s_check_order) (defBody s_check_order) (defScope s_check_order) .none kV_check_order dc_check_order pm_check_order an_check_order cd_check_order ct_check_order), sl_check_order⟩)
    (c_check_order : PySem.W.codeIn K cd_check_order "check_order" = true)
    (k_check_order : PySem.W.keepIn K (.ref f_check_order) = true)
    (a_laid_of : PySem.W.nsIn K mainGlobals "laid_of" = some (some (.ref f_laid_of)))
    (l_laid_of : K.lookup f_laid_of = some ⟨oc_laid_of, od_laid_of, .func (PySem.W.fnOf "laid_of" "laid_of" (defArgs s_laid_of) (defBody s_laid_of) (defScope s_laid_of) .none kV_laid_of dc_laid_of pm_laid_of an_laid_of cd_laid_of ct_laid_of), sl_laid_of⟩)
    (c_laid_of : PySem.W.codeIn K cd_laid_of "laid_of" = true)
    (k_laid_of : PySem.W.keepIn K (.ref f_laid_of) = true)
    (a_laid : PySem.W.nsIn K mainGlobals "laid" = some (some (.ref f_laid)))
    (l_laid : K.lookup f_laid = some ⟨oc_laid, od_laid, .func (PySem.W.fnOf "laid" "laid" (defArgs s_laid) (defBody s_laid) (defScope s_laid) .none kV_laid dc_laid pm_laid an_laid cd_laid ct_laid), sl_laid⟩)
    (c_laid : PySem.W.codeIn K cd_laid "laid" = true)
    (k_laid : PySem.W.keepIn K (.ref f_laid) = true)
    (a_saved : PySem.W.nsIn K mainGlobals "saved" = some (some (.ref f_saved)))
    (l_saved : K.lookup f_saved = some ⟨oc_saved, od_saved, .func (PySem.W.fnOf "saved" "saved" (defArgs s_saved) (defBody s_saved) (defScope s_saved) .none kV_saved dc_saved pm_saved an_saved cd_saved ct_saved), sl_saved⟩)
    (c_saved : PySem.W.codeIn K cd_saved "saved" = true)
    (k_saved : PySem.W.keepIn K (.ref f_saved) = true)
    (a__law_pot : PySem.W.nsIn K mainGlobals "_law_pot" = some (some (.ref f__law_pot)))
    (l__law_pot : K.lookup f__law_pot = some ⟨oc__law_pot, od__law_pot, .func (PySem.W.fnOf "_law_pot" "_law_pot" (defArgs s__law_pot) (defBody s__law_pot) (defScope s__law_pot) .none kV__law_pot dc__law_pot pm__law_pot an__law_pot cd__law_pot ct__law_pot), sl__law_pot⟩)
    (c__law_pot : PySem.W.codeIn K cd__law_pot "_law_pot" = true)
    (k__law_pot : PySem.W.keepIn K (.ref f__law_pot) = true)
    (a__law_take : PySem.W.nsIn K mainGlobals "_law_take" = some (some (.ref f__law_take)))
    (l__law_take : K.lookup f__law_take = some ⟨oc__law_take, od__law_take, .func (PySem.W.fnOf "_law_take" "_law_take" (defArgs s__law_take) (defBody s__law_take) (defScope s__law_take) .none kV__law_take dc__law_take pm__law_take an__law_take cd__law_take ct__law_take), sl__law_take⟩)
    (c__law_take : PySem.W.codeIn K cd__law_take "_law_take" = true)
    (k__law_take : PySem.W.keepIn K (.ref f__law_take) = true)
    (a__law_of : PySem.W.nsIn K mainGlobals "_law_of" = some (some (.ref f__law_of)))
    (l__law_of : K.lookup f__law_of = some ⟨oc__law_of, od__law_of, .func (PySem.W.fnOf "_law_of" "_law_of" (defArgs s__law_of) (defBody s__law_of) (defScope s__law_of) .none kV__law_of dc__law_of pm__law_of an__law_of cd__law_of ct__law_of), sl__law_of⟩)
    (c__law_of : PySem.W.codeIn K cd__law_of "_law_of" = true)
    (k__law_of : PySem.W.keepIn K (.ref f__law_of) = true)
    (a__law_some : PySem.W.nsIn K mainGlobals "_law_some" = some (some (.ref f__law_some)))
    (l__law_some : K.lookup f__law_some = some ⟨oc__law_some, od__law_some, .func (PySem.W.fnOf "_law_some" "_law_some" (defArgs s__law_some) (defBody s__law_some) (defScope s__law_some) .none kV__law_some dc__law_some pm__law_some an__law_some cd__law_some ct__law_some), sl__law_some⟩)
    (c__law_some : PySem.W.codeIn K cd__law_some "_law_some" = true)
    (k__law_some : PySem.W.keepIn K (.ref f__law_some) = true)
    (a__law_cells : PySem.W.nsIn K mainGlobals "_law_cells" = some (some (.ref f__law_cells)))
    (l__law_cells : K.lookup f__law_cells = some ⟨oc__law_cells, od__law_cells, .func (PySem.W.fnOf "_law_cells" "_law_cells" (defArgs s__law_cells) (defBody s__law_cells) (defScope s__law_cells) .none kV__law_cells dc__law_cells pm__law_cells an__law_cells cd__law_cells ct__law_cells), sl__law_cells⟩)
    (c__law_cells : PySem.W.codeIn K cd__law_cells "_law_cells" = true)
    (k__law_cells : PySem.W.keepIn K (.ref f__law_cells) = true)
    (a__law_is_row : PySem.W.nsIn K mainGlobals "_law_is_row" = some (some (.ref f__law_is_row)))
    (l__law_is_row : K.lookup f__law_is_row = some ⟨oc__law_is_row, od__law_is_row, .func (PySem.W.fnOf "_law_is_row" "_law_is_row" (defArgs s__law_is_row) (defBody s__law_is_row) (defScope s__law_is_row) .none kV__law_is_row dc__law_is_row pm__law_is_row an__law_is_row cd__law_is_row ct__law_is_row), sl__law_is_row⟩)
    (c__law_is_row : PySem.W.codeIn K cd__law_is_row "_law_is_row" = true)
    (k__law_is_row : PySem.W.keepIn K (.ref f__law_is_row) = true)
    (a__law_odd : PySem.W.nsIn K mainGlobals "_law_odd" = some (some (.ref f__law_odd)))
    (l__law_odd : K.lookup f__law_odd = some ⟨oc__law_odd, od__law_odd, .func (PySem.W.fnOf "_law_odd" "_law_odd" (defArgs s__law_odd) (defBody s__law_odd) (defScope s__law_odd) .none kV__law_odd dc__law_odd pm__law_odd an__law_odd cd__law_odd ct__law_odd), sl__law_odd⟩)
    (c__law_odd : PySem.W.codeIn K cd__law_odd "_law_odd" = true)
    (k__law_odd : PySem.W.keepIn K (.ref f__law_odd) = true)
    (a__law_bent : PySem.W.nsIn K mainGlobals "_law_bent" = some (some (.ref f__law_bent)))
    (l__law_bent : K.lookup f__law_bent = some ⟨oc__law_bent, od__law_bent, .func (PySem.W.fnOf "_law_bent" "_law_bent" (defArgs s__law_bent) (defBody s__law_bent) (defScope s__law_bent) .none kV__law_bent dc__law_bent pm__law_bent an__law_bent cd__law_bent ct__law_bent), sl__law_bent⟩)
    (c__law_bent : PySem.W.codeIn K cd__law_bent "_law_bent" = true)
    (k__law_bent : PySem.W.keepIn K (.ref f__law_bent) = true)
    (a__law_heap : PySem.W.nsIn K mainGlobals "_law_heap" = some (some (.ref f__law_heap)))
    (l__law_heap : K.lookup f__law_heap = some ⟨oc__law_heap, od__law_heap, .func (PySem.W.fnOf "_law_heap" "_law_heap" (defArgs s__law_heap) (defBody s__law_heap) (defScope s__law_heap) .none kV__law_heap dc__law_heap pm__law_heap an__law_heap cd__law_heap ct__law_heap), sl__law_heap⟩)
    (c__law_heap : PySem.W.codeIn K cd__law_heap "_law_heap" = true)
    (k__law_heap : PySem.W.keepIn K (.ref f__law_heap) = true)
    (a__law_overlap : PySem.W.nsIn K mainGlobals "_law_overlap" = some (some (.ref f__law_overlap)))
    (l__law_overlap : K.lookup f__law_overlap = some ⟨oc__law_overlap, od__law_overlap, .func (PySem.W.fnOf "_law_overlap" "_law_overlap" (defArgs s__law_overlap) (defBody s__law_overlap) (defScope s__law_overlap) .none kV__law_overlap dc__law_overlap pm__law_overlap an__law_overlap cd__law_overlap ct__law_overlap), sl__law_overlap⟩)
    (c__law_overlap : PySem.W.codeIn K cd__law_overlap "_law_overlap" = true)
    (k__law_overlap : PySem.W.keepIn K (.ref f__law_overlap) = true)
    (a__law_outer : PySem.W.nsIn K mainGlobals "_law_outer" = some (some (.ref f__law_outer)))
    (l__law_outer : K.lookup f__law_outer = some ⟨oc__law_outer, od__law_outer, .func (PySem.W.fnOf "_law_outer" "_law_outer" (defArgs s__law_outer) (defBody s__law_outer) (defScope s__law_outer) .none kV__law_outer dc__law_outer pm__law_outer an__law_outer cd__law_outer ct__law_outer), sl__law_outer⟩)
    (c__law_outer : PySem.W.codeIn K cd__law_outer "_law_outer" = true)
    (k__law_outer : PySem.W.keepIn K (.ref f__law_outer) = true)
    (a__law_laid : PySem.W.nsIn K mainGlobals "_law_laid" = some (some (.ref f__law_laid)))
    (l__law_laid : K.lookup f__law_laid = some ⟨oc__law_laid, od__law_laid, .func (PySem.W.fnOf "_law_laid" "_law_laid" (defArgs s__law_laid) (defBody s__law_laid) (defScope s__law_laid) .none kV__law_laid dc__law_laid pm__law_laid an__law_laid cd__law_laid ct__law_laid), sl__law_laid⟩)
    (c__law_laid : PySem.W.codeIn K cd__law_laid "_law_laid" = true)
    (k__law_laid : PySem.W.keepIn K (.ref f__law_laid) = true)
    (a__law_is_heap : PySem.W.nsIn K mainGlobals "_law_is_heap" = some (some (.ref f__law_is_heap)))
    (l__law_is_heap : K.lookup f__law_is_heap = some ⟨oc__law_is_heap, od__law_is_heap, .func (PySem.W.fnOf "_law_is_heap" "_law_is_heap" (defArgs s__law_is_heap) (defBody s__law_is_heap) (defScope s__law_is_heap) .none kV__law_is_heap dc__law_is_heap pm__law_is_heap an__law_is_heap cd__law_is_heap ct__law_is_heap), sl__law_is_heap⟩)
    (c__law_is_heap : PySem.W.codeIn K cd__law_is_heap "_law_is_heap" = true)
    (k__law_is_heap : PySem.W.keepIn K (.ref f__law_is_heap) = true)
    (a__law_right : PySem.W.nsIn K mainGlobals "_law_right" = some (some (.ref f__law_right)))
    (l__law_right : K.lookup f__law_right = some ⟨oc__law_right, od__law_right, .func (PySem.W.fnOf "_law_right" "_law_right" (defArgs s__law_right) (defBody s__law_right) (defScope s__law_right) .none kV__law_right dc__law_right pm__law_right an__law_right cd__law_right ct__law_right), sl__law_right⟩)
    (c__law_right : PySem.W.codeIn K cd__law_right "_law_right" = true)
    (k__law_right : PySem.W.keepIn K (.ref f__law_right) = true)
    (a_law : PySem.W.nsIn K mainGlobals "law" = some (some (.ref f_law)))
    (l_law : K.lookup f_law = some ⟨oc_law, od_law, .func (PySem.W.fnOf "law" "law" (defArgs s_law) (defBody s_law) (defScope s_law) .none kV_law dc_law pm_law an_law cd_law ct_law), sl_law⟩)
    (c_law : PySem.W.codeIn K cd_law "law" = true)
    (k_law : PySem.W.keepIn K (.ref f_law) = true)
    (v_LETTERS : PySem.W.nsIn K mainGlobals "LETTERS" = some (some (.str (Str.ofString "abcdefghijklmnopqrstuvwxyz") t_LETTERS)))
    (v_MOST_ROW : PySem.W.nsIn K mainGlobals "MOST_ROW" = some (some (.int 400 t_MOST_ROW)))
    (v_MOST_HEAP : PySem.W.nsIn K mainGlobals "MOST_HEAP" = some (some (.int 12 t_MOST_HEAP)))
    (v_MOST_EACH : PySem.W.nsIn K mainGlobals "MOST_EACH" = some (some (.int 30 t_MOST_EACH)))
    (z_abs : PySem.W.nsIn K mainGlobals "abs" = some none)
    (z_all : PySem.W.nsIn K mainGlobals "all" = some none)
    (z_any : PySem.W.nsIn K mainGlobals "any" = some none)
    (z_bool : PySem.W.nsIn K mainGlobals "bool" = some none)
    (z_dict : PySem.W.nsIn K mainGlobals "dict" = some none)
    (z_enumerate : PySem.W.nsIn K mainGlobals "enumerate" = some none)
    (z_int : PySem.W.nsIn K mainGlobals "int" = some none)
    (z_isinstance : PySem.W.nsIn K mainGlobals "isinstance" = some none)
    (z_len : PySem.W.nsIn K mainGlobals "len" = some none)
    (z_list : PySem.W.nsIn K mainGlobals "list" = some none)
    (z_max : PySem.W.nsIn K mainGlobals "max" = some none)
    (z_min : PySem.W.nsIn K mainGlobals "min" = some none)
    (z_range : PySem.W.nsIn K mainGlobals "range" = some none)
    (z_repr : PySem.W.nsIn K mainGlobals "repr" = some none)
    (z_set : PySem.W.nsIn K mainGlobals "set" = some none)
    (z_sorted : PySem.W.nsIn K mainGlobals "sorted" = some none)
    (z_str : PySem.W.nsIn K mainGlobals "str" = some none)
    (z_sum : PySem.W.nsIn K mainGlobals "sum" = some none)
    (z_tuple : PySem.W.nsIn K mainGlobals "tuple" = some none)
    (z_zip : PySem.W.nsIn K mainGlobals "zip" = some none) :
    ∃ fd : FuncData, (∀ (s : Shared) (v : Value), BindsTo s fd ⟨[v], []⟩ [("script", v)]) ∧ ∀ base : Heap, K.In base → base.Ns mainGlobals mg → FnG l.prog w K mg base CX0 8 fa fd ["script"] (spD K sp_law) := by
  have e := hfa.symm.trans (PySem.W.mg_of X G a_law)
  cases e
  have T : Σ' T : Txt K mg, T.f_law = fa ∧ T.fd_law = PySem.W.fnOf "law" "law" (defArgs s_law) (defBody s_law) (defScope s_law) .none kV_law dc_law pm_law an_law cd_law ct_law := ⟨{
    m_abs := PySem.W.mg_none_of X G z_abs
    m_all := PySem.W.mg_none_of X G z_all
    m_any := PySem.W.mg_none_of X G z_any
    m_bool := PySem.W.mg_none_of X G z_bool
    m_dict := PySem.W.mg_none_of X G z_dict
    m_enumerate := PySem.W.mg_none_of X G z_enumerate
    m_int := PySem.W.mg_none_of X G z_int
    m_isinstance := PySem.W.mg_none_of X G z_isinstance
    m_len := PySem.W.mg_none_of X G z_len
    m_list := PySem.W.mg_none_of X G z_list
    m_max := PySem.W.mg_none_of X G z_max
    m_min := PySem.W.mg_none_of X G z_min
    m_range := PySem.W.mg_none_of X G z_range
    m_repr := PySem.W.mg_none_of X G z_repr
    m_set := PySem.W.mg_none_of X G z_set
    m_sorted := PySem.W.mg_none_of X G z_sorted
    m_str := PySem.W.mg_none_of X G z_str
    m_sum := PySem.W.mg_none_of X G z_sum
    m_tuple := PySem.W.mg_none_of X G z_tuple
    m_zip := PySem.W.mg_none_of X G z_zip
    c_LETTERS := ⟨_, PySem.W.mg_of X G v_LETTERS⟩
    c_MOST_ROW := ⟨_, PySem.W.mg_of X G v_MOST_ROW⟩
    c_MOST_HEAP := ⟨_, PySem.W.mg_of X G v_MOST_HEAP⟩
    c_MOST_EACH := ⟨_, PySem.W.mg_of X G v_MOST_EACH⟩
    f_is_integer := _
    fd_is_integer := _
    F_is_integer := fun_mk (st := s_is_integer) l_is_integer c_is_integer k_is_integer
    m_is_integer := PySem.W.mg_of X G a_is_integer
    b_is_integer := (fun_mk (st := s_is_integer) l_is_integer c_is_integer k_is_integer).binds (ps := ["value"]) fun _ _ _ _ _ _ us hl => match us, hl with | [_], _ => rfl
    f_is_between := _
    fd_is_between := _
    F_is_between := fun_mk (st := s_is_between) l_is_between c_is_between k_is_between
    m_is_between := PySem.W.mg_of X G a_is_between
    b_is_between := (fun_mk (st := s_is_between) l_is_between c_is_between k_is_between).binds (ps := ["value", "low", "high"]) fun _ _ _ _ _ _ us hl => match us, hl with | [_, _, _], _ => rfl
    f_are_between := _
    fd_are_between := _
    F_are_between := fun_mk (st := s_are_between) l_are_between c_are_between k_are_between
    m_are_between := PySem.W.mg_of X G a_are_between
    b_are_between := (fun_mk (st := s_are_between) l_are_between c_are_between k_are_between).binds (ps := ["value", "low", "high"]) fun _ _ _ _ _ _ us hl => match us, hl with | [_, _, _], _ => rfl
    f_is_ascending := _
    fd_is_ascending := _
    F_is_ascending := fun_mk (st := s_is_ascending) l_is_ascending c_is_ascending k_is_ascending
    m_is_ascending := PySem.W.mg_of X G a_is_ascending
    b_is_ascending := (fun_mk (st := s_is_ascending) l_is_ascending c_is_ascending k_is_ascending).binds (ps := ["value"]) fun _ _ _ _ _ _ us hl => match us, hl with | [_], _ => rfl
    f_is_row_of := _
    fd_is_row_of := _
    F_is_row_of := fun_mk (st := s_is_row_of) l_is_row_of c_is_row_of k_is_row_of
    m_is_row_of := PySem.W.mg_of X G a_is_row_of
    b_is_row_of := (fun_mk (st := s_is_row_of) l_is_row_of c_is_row_of k_is_row_of).binds (ps := ["value"]) fun _ _ _ _ _ _ us hl => match us, hl with | [_], _ => rfl
    f_check_row := _
    fd_check_row := _
    F_check_row := fun_mk (st := s_check_row) l_check_row c_check_row k_check_row
    m_check_row := PySem.W.mg_of X G a_check_row
    b_check_row := (fun_mk (st := s_check_row) l_check_row c_check_row k_check_row).binds (ps := ["value"]) fun _ _ _ _ _ _ us hl => match us, hl with | [_], _ => rfl
    f_is_heap_of := _
    fd_is_heap_of := _
    F_is_heap_of := fun_mk (st := s_is_heap_of) l_is_heap_of c_is_heap_of k_is_heap_of
    m_is_heap_of := PySem.W.mg_of X G a_is_heap_of
    b_is_heap_of := (fun_mk (st := s_is_heap_of) l_is_heap_of c_is_heap_of k_is_heap_of).binds (ps := ["value"]) fun _ _ _ _ _ _ us hl => match us, hl with | [_], _ => rfl
    f_is_heap := _
    fd_is_heap := _
    F_is_heap := fun_mk (st := s_is_heap) l_is_heap c_is_heap k_is_heap
    m_is_heap := PySem.W.mg_of X G a_is_heap
    b_is_heap := (fun_mk (st := s_is_heap) l_is_heap c_is_heap k_is_heap).binds (ps := ["value"]) fun _ _ _ _ _ _ us hl => match us, hl with | [_], _ => rfl
    f_check_heap := _
    fd_check_heap := _
    F_check_heap := fun_mk (st := s_check_heap) l_check_heap c_check_heap k_check_heap
    m_check_heap := PySem.W.mg_of X G a_check_heap
    b_check_heap := (fun_mk (st := s_check_heap) l_check_heap c_check_heap k_check_heap).binds (ps := ["heap"]) fun _ _ _ _ _ _ us hl => match us, hl with | [_], _ => rfl
    f_check_both := _
    fd_check_both := _
    F_check_both := fun_mk (st := s_check_both) l_check_both c_check_both k_check_both
    m_check_both := PySem.W.mg_of X G a_check_both
    b_check_both := (fun_mk (st := s_check_both) l_check_both c_check_both k_check_both).binds (ps := ["one", "other"]) fun _ _ _ _ _ _ us hl => match us, hl with | [_, _], _ => rfl
    f_overlaps_of := _
    fd_overlaps_of := _
    F_overlaps_of := fun_mk (st := s_overlaps_of) l_overlaps_of c_overlaps_of k_overlaps_of
    m_overlaps_of := PySem.W.mg_of X G a_overlaps_of
    b_overlaps_of := (fun_mk (st := s_overlaps_of) l_overlaps_of c_overlaps_of k_overlaps_of).binds (ps := ["one", "other"]) fun _ _ _ _ _ _ us hl => match us, hl with | [_, _], _ => rfl
    f_overlap_of := _
    fd_overlap_of := _
    F_overlap_of := fun_mk (st := s_overlap_of) l_overlap_of c_overlap_of k_overlap_of
    m_overlap_of := PySem.W.mg_of X G a_overlap_of
    b_overlap_of := (fun_mk (st := s_overlap_of) l_overlap_of c_overlap_of k_overlap_of).binds (ps := ["one", "other"]) fun _ _ _ _ _ _ us hl => match us, hl with | [_, _], _ => rfl
    f_overlaps := _
    fd_overlaps := _
    F_overlaps := fun_mk (st := s_overlaps) l_overlaps c_overlaps k_overlaps
    m_overlaps := PySem.W.mg_of X G a_overlaps
    b_overlaps := (fun_mk (st := s_overlaps) l_overlaps c_overlaps k_overlaps).binds (ps := ["one", "other"]) fun _ _ _ _ _ _ us hl => match us, hl with | [_, _], _ => rfl
    f_overlap := _
    fd_overlap := _
    F_overlap := fun_mk (st := s_overlap) l_overlap c_overlap k_overlap
    m_overlap := PySem.W.mg_of X G a_overlap
    b_overlap := (fun_mk (st := s_overlap) l_overlap c_overlap k_overlap).binds (ps := ["one", "other"]) fun _ _ _ _ _ _ us hl => match us, hl with | [_, _], _ => rfl
    f_inside_of := _
    fd_inside_of := _
    F_inside_of := fun_mk (st := s_inside_of) l_inside_of c_inside_of k_inside_of
    m_inside_of := PySem.W.mg_of X G a_inside_of
    b_inside_of := (fun_mk (st := s_inside_of) l_inside_of c_inside_of k_inside_of).binds (ps := ["heap"]) fun _ _ _ _ _ _ us hl => match us, hl with | [_], _ => rfl
    f_outer_of := _
    fd_outer_of := _
    F_outer_of := fun_mk (st := s_outer_of) l_outer_of c_outer_of k_outer_of
    m_outer_of := PySem.W.mg_of X G a_outer_of
    b_outer_of := (fun_mk (st := s_outer_of) l_outer_of c_outer_of k_outer_of).binds (ps := ["heap"]) fun _ _ _ _ _ _ us hl => match us, hl with | [_], _ => rfl
    f_inside := _
    fd_inside := _
    F_inside := fun_mk (st := s_inside) l_inside c_inside k_inside
    m_inside := PySem.W.mg_of X G a_inside
    b_inside := (fun_mk (st := s_inside) l_inside c_inside k_inside).binds (ps := ["heap"]) fun _ _ _ _ _ _ us hl => match us, hl with | [_], _ => rfl
    f_outer := _
    fd_outer := _
    F_outer := fun_mk (st := s_outer) l_outer c_outer k_outer
    m_outer := PySem.W.mg_of X G a_outer
    b_outer := (fun_mk (st := s_outer) l_outer c_outer k_outer).binds (ps := ["heap"]) fun _ _ _ _ _ _ us hl => match us, hl with | [_], _ => rfl
    f_web_of := _
    fd_web_of := _
    F_web_of := fun_mk (st := s_web_of) l_web_of c_web_of k_web_of
    m_web_of := PySem.W.mg_of X G a_web_of
    b_web_of := (fun_mk (st := s_web_of) l_web_of c_web_of k_web_of).binds (ps := ["rows"]) fun _ _ _ _ _ _ us hl => match us, hl with | [_], _ => rfl
    f_overlap_web := _
    fd_overlap_web := _
    F_overlap_web := fun_mk (st := s_overlap_web) l_overlap_web c_overlap_web k_overlap_web
    m_overlap_web := PySem.W.mg_of X G a_overlap_web
    b_overlap_web := (fun_mk (st := s_overlap_web) l_overlap_web c_overlap_web k_overlap_web).binds (ps := ["heap"]) fun _ _ _ _ _ _ us hl => match us, hl with | [_], _ => rfl
    f_is_needless := _
    fd_is_needless := _
    F_is_needless := fun_mk (st := s_is_needless) l_is_needless c_is_needless k_is_needless
    m_is_needless := PySem.W.mg_of X G a_is_needless
    b_is_needless := (fun_mk (st := s_is_needless) l_is_needless c_is_needless k_is_needless).binds (ps := ["heap", "known", "arc"]) fun _ _ _ _ _ _ us hl => match us, hl with | [_, _, _], _ => rfl
    f_needless_overlaps := _
    fd_needless_overlaps := _
    F_needless_overlaps := fun_mk (st := s_needless_overlaps) l_needless_overlaps c_needless_overlaps k_needless_overlaps
    m_needless_overlaps := PySem.W.mg_of X G a_needless_overlaps
    b_needless_overlaps := (fun_mk (st := s_needless_overlaps) l_needless_overlaps c_needless_overlaps k_needless_overlaps).binds (ps := ["heap"]) fun _ _ _ _ _ _ us hl => match us, hl with | [_], _ => rfl
    f_is_order_of := _
    fd_is_order_of := _
    F_is_order_of := fun_mk (st := s_is_order_of) l_is_order_of c_is_order_of k_is_order_of
    m_is_order_of := PySem.W.mg_of X G a_is_order_of
    b_is_order_of := (fun_mk (st := s_is_order_of) l_is_order_of c_is_order_of k_is_order_of).binds (ps := ["heap", "value"]) fun _ _ _ _ _ _ us hl => match us, hl with | [_, _], _ => rfl
    f_check_order := _
    fd_check_order := _
    F_check_order := fun_mk (st := s_check_order) l_check_order c_check_order k_check_order
    m_check_order := PySem.W.mg_of X G a_check_order
    b_check_order := (fun_mk (st := s_check_order) l_check_order c_check_order k_check_order).binds (ps := ["heap", "order"]) fun _ _ _ _ _ _ us hl => match us, hl with | [_, _], _ => rfl
    f_laid_of := _
    fd_laid_of := _
    F_laid_of := fun_mk (st := s_laid_of) l_laid_of c_laid_of k_laid_of
    m_laid_of := PySem.W.mg_of X G a_laid_of
    b_laid_of := (fun_mk (st := s_laid_of) l_laid_of c_laid_of k_laid_of).binds (ps := ["rows"]) fun _ _ _ _ _ _ us hl => match us, hl with | [_], _ => rfl
    f_laid := _
    fd_laid := _
    F_laid := fun_mk (st := s_laid) l_laid c_laid k_laid
    m_laid := PySem.W.mg_of X G a_laid
    b_laid := (fun_mk (st := s_laid) l_laid c_laid k_laid).binds (ps := ["heap", "order"]) fun _ _ _ _ _ _ us hl => match us, hl with | [_, _], _ => rfl
    f_saved := _
    fd_saved := _
    F_saved := fun_mk (st := s_saved) l_saved c_saved k_saved
    m_saved := PySem.W.mg_of X G a_saved
    b_saved := (fun_mk (st := s_saved) l_saved c_saved k_saved).binds (ps := ["heap", "order"]) fun _ _ _ _ _ _ us hl => match us, hl with | [_, _], _ => rfl
    f__law_pot := _
    fd__law_pot := _
    F__law_pot := fun_mk (st := s__law_pot) l__law_pot c__law_pot k__law_pot
    m__law_pot := PySem.W.mg_of X G a__law_pot
    b__law_pot := (fun_mk (st := s__law_pot) l__law_pot c__law_pot k__law_pot).binds (ps := ["script", "place"]) fun _ _ _ _ _ _ us hl => match us, hl with | [_, _], _ => rfl
    f__law_take := _
    fd__law_take := _
    F__law_take := fun_mk (st := s__law_take) l__law_take c__law_take k__law_take
    m__law_take := PySem.W.mg_of X G a__law_take
    b__law_take := (fun_mk (st := s__law_take) l__law_take c__law_take k__law_take).binds (ps := ["pot", "upto"]) fun _ _ _ _ _ _ us hl => match us, hl with | [_, _], _ => rfl
    f__law_of := _
    fd__law_of := _
    F__law_of := fun_mk (st := s__law_of) l__law_of c__law_of k__law_of
    m__law_of := PySem.W.mg_of X G a__law_of
    b__law_of := (fun_mk (st := s__law_of) l__law_of c__law_of k__law_of).binds (ps := ["pot", "some"]) fun _ _ _ _ _ _ us hl => match us, hl with | [_, _], _ => rfl
    f__law_some := _
    fd__law_some := _
    F__law_some := fun_mk (st := s__law_some) l__law_some c__law_some k__law_some
    m__law_some := PySem.W.mg_of X G a__law_some
    b__law_some := (fun_mk (st := s__law_some) l__law_some c__law_some k__law_some).binds (ps := ["pot", "some", "many"]) fun _ _ _ _ _ _ us hl => match us, hl with | [_, _, _], _ => rfl
    f__law_cells := _
    fd__law_cells := _
    F__law_cells := fun_mk (st := s__law_cells) l__law_cells c__law_cells k__law_cells
    m__law_cells := PySem.W.mg_of X G a__law_cells
    b__law_cells := (fun_mk (st := s__law_cells) l__law_cells c__law_cells k__law_cells).binds (ps := ["script", "most"]) fun _ _ _ _ _ _ us hl => match us, hl with | [_, _], _ => rfl
    f__law_is_row := _
    fd__law_is_row := _
    F__law_is_row := fun_mk (st := s__law_is_row) l__law_is_row c__law_is_row k__law_is_row
    m__law_is_row := PySem.W.mg_of X G a__law_is_row
    b__law_is_row := (fun_mk (st := s__law_is_row) l__law_is_row c__law_is_row k__law_is_row).binds (ps := ["value", "most"]) fun _ _ _ _ _ _ us hl => match us, hl with | [_, _], _ => rfl
    f__law_odd := _
    fd__law_odd := _
    F__law_odd := fun_mk (st := s__law_odd) l__law_odd c__law_odd k__law_odd
    m__law_odd := PySem.W.mg_of X G a__law_odd
    b__law_odd := (fun_mk (st := s__law_odd) l__law_odd c__law_odd k__law_odd).binds (ps := ["pot"]) fun _ _ _ _ _ _ us hl => match us, hl with | [_], _ => rfl
    f__law_bent := _
    fd__law_bent := _
    F__law_bent := fun_mk (st := s__law_bent) l__law_bent c__law_bent k__law_bent
    m__law_bent := PySem.W.mg_of X G a__law_bent
    b__law_bent := (fun_mk (st := s__law_bent) l__law_bent c__law_bent k__law_bent).binds (ps := ["pot", "value"]) fun _ _ _ _ _ _ us hl => match us, hl with | [_, _], _ => rfl
    f__law_heap := _
    fd__law_heap := _
    F__law_heap := fun_mk (st := s__law_heap) l__law_heap c__law_heap k__law_heap
    m__law_heap := PySem.W.mg_of X G a__law_heap
    b__law_heap := (fun_mk (st := s__law_heap) l__law_heap c__law_heap k__law_heap).binds (ps := ["pot", "most"]) fun _ _ _ _ _ _ us hl => match us, hl with | [_, _], _ => rfl
    f__law_overlap := _
    fd__law_overlap := _
    F__law_overlap := fun_mk (st := s__law_overlap) l__law_overlap c__law_overlap k__law_overlap
    m__law_overlap := PySem.W.mg_of X G a__law_overlap
    b__law_overlap := (fun_mk (st := s__law_overlap) l__law_overlap c__law_overlap k__law_overlap).binds (ps := ["one", "other"]) fun _ _ _ _ _ _ us hl => match us, hl with | [_, _], _ => rfl
    f__law_outer := _
    fd__law_outer := _
    F__law_outer := fun_mk (st := s__law_outer) l__law_outer c__law_outer k__law_outer
    m__law_outer := PySem.W.mg_of X G a__law_outer
    b__law_outer := (fun_mk (st := s__law_outer) l__law_outer c__law_outer k__law_outer).binds (ps := ["heap"]) fun _ _ _ _ _ _ us hl => match us, hl with | [_], _ => rfl
    f__law_laid := _
    fd__law_laid := _
    F__law_laid := fun_mk (st := s__law_laid) l__law_laid c__law_laid k__law_laid
    m__law_laid := PySem.W.mg_of X G a__law_laid
    b__law_laid := (fun_mk (st := s__law_laid) l__law_laid c__law_laid k__law_laid).binds (ps := ["rows"]) fun _ _ _ _ _ _ us hl => match us, hl with | [_], _ => rfl
    f__law_is_heap := _
    fd__law_is_heap := _
    F__law_is_heap := fun_mk (st := s__law_is_heap) l__law_is_heap c__law_is_heap k__law_is_heap
    m__law_is_heap := PySem.W.mg_of X G a__law_is_heap
    b__law_is_heap := (fun_mk (st := s__law_is_heap) l__law_is_heap c__law_is_heap k__law_is_heap).binds (ps := ["value"]) fun _ _ _ _ _ _ us hl => match us, hl with | [_], _ => rfl
    f__law_right := _
    fd__law_right := _
    F__law_right := fun_mk (st := s__law_right) l__law_right c__law_right k__law_right
    m__law_right := PySem.W.mg_of X G a__law_right
    b__law_right := (fun_mk (st := s__law_right) l__law_right c__law_right k__law_right).binds (ps := ["pot"]) fun _ _ _ _ _ _ us hl => match us, hl with | [_], _ => rfl
    f_law := _
    fd_law := _
    F_law := fun_mk (st := s_law) l_law c_law k_law
    m_law := PySem.W.mg_of X G a_law
    b_law := (fun_mk (st := s_law) l_law c_law k_law).binds (ps := ["script"]) fun _ _ _ _ _ _ us hl => match us, hl with | [_], _ => rfl
    }, rfl, rfl⟩
  obtain ⟨T, rfl, e⟩ := T
  refine ⟨T.fd_law, fun s v => ?_, fun base _ _ => ok_law T⟩
  rw [e]
  exact .of_eq rfl
end K60
open PySem PySem.W PyProof.Rows
set_option maxRecDepth 100000 in
set_option maxHeartbeats 0 in
theorem PySem.Challenge.cw_everyrowhasit_k60_whole_overlaps_of_heap_holds : PySem.Challenge.rw_everyrowhasit_k60_whole_overlaps_of_heap.Holds := by
  w_on; o_law; k_head; (case hw => w_witness2)
  k_fill
  refine DL.walkG (l := PySem.Challenge.rw_everyrowhasit_k60_whole_overlaps_of_heap) (n := 63) (k := 8) (x := "script") (sp := fun _ => K60.sp_law) rfl (by decide) rfl ⟨rfl, by decide, by decide⟩ (fun w h Y => PySem.W.kIn_of Y) ?F (fun w ns hl => ⟨ns, rfl, hl, rfl⟩)
  case F =>
    intro w mg fa h KX G hmg
    refine' K60.all_mk KX G hmg ?a_is_integer ?l_is_integer ?c_is_integer ?k_is_integer ?a_is_between ?l_is_between ?c_is_between ?k_is_between ?a_are_between ?l_are_between ?c_are_between ?k_are_between ?a_is_ascending ?l_is_ascending ?c_is_ascending ?k_is_ascending ?a_is_row_of ?l_is_row_of ?c_is_row_of ?k_is_row_of ?a_check_row ?l_check_row ?c_check_row ?k_check_row ?a_is_heap_of ?l_is_heap_of ?c_is_heap_of ?k_is_heap_of ?a_is_heap ?l_is_heap ?c_is_heap ?k_is_heap ?a_check_heap ?l_check_heap ?c_check_heap ?k_check_heap ?a_check_both ?l_check_both ?c_check_both ?k_check_both ?a_overlaps_of ?l_overlaps_of ?c_overlaps_of ?k_overlaps_of ?a_overlap_of ?l_overlap_of ?c_overlap_of ?k_overlap_of ?a_overlaps ?l_overlaps ?c_overlaps ?k_overlaps ?a_overlap ?l_overlap ?c_overlap ?k_overlap ?a_inside_of ?l_inside_of ?c_inside_of ?k_inside_of ?a_outer_of ?l_outer_of ?c_outer_of ?k_outer_of ?a_inside ?l_inside ?c_inside ?k_inside ?a_outer ?l_outer ?c_outer ?k_outer ?a_web_of ?l_web_of ?c_web_of ?k_web_of ?a_overlap_web ?l_overlap_web ?c_overlap_web ?k_overlap_web ?a_is_needless ?l_is_needless ?c_is_needless ?k_is_needless ?a_needless_overlaps ?l_needless_overlaps ?c_needless_overlaps ?k_needless_overlaps ?a_is_order_of ?l_is_order_of ?c_is_order_of ?k_is_order_of ?a_check_order ?l_check_order ?c_check_order ?k_check_order ?a_laid_of ?l_laid_of ?c_laid_of ?k_laid_of ?a_laid ?l_laid ?c_laid ?k_laid ?a_saved ?l_saved ?c_saved ?k_saved ?a__law_pot ?l__law_pot ?c__law_pot ?k__law_pot ?a__law_take ?l__law_take ?c__law_take ?k__law_take ?a__law_of ?l__law_of ?c__law_of ?k__law_of ?a__law_some ?l__law_some ?c__law_some ?k__law_some ?a__law_cells ?l__law_cells ?c__law_cells ?k__law_cells ?a__law_is_row ?l__law_is_row ?c__law_is_row ?k__law_is_row ?a__law_odd ?l__law_odd ?c__law_odd ?k__law_odd ?a__law_bent ?l__law_bent ?c__law_bent ?k__law_bent ?a__law_heap ?l__law_heap ?c__law_heap ?k__law_heap ?a__law_overlap ?l__law_overlap ?c__law_overlap ?k__law_overlap ?a__law_outer ?l__law_outer ?c__law_outer ?k__law_outer ?a__law_laid ?l__law_laid ?c__law_laid ?k__law_laid ?a__law_is_heap ?l__law_is_heap ?c__law_is_heap ?k__law_is_heap ?a__law_right ?l__law_right ?c__law_right ?k__law_right ?a_law ?l_law ?c_law ?k_law ?v_LETTERS ?v_MOST_ROW ?v_MOST_HEAP ?v_MOST_EACH ?z_abs ?z_all ?z_any ?z_bool ?z_dict ?z_enumerate ?z_int ?z_isinstance ?z_len ?z_list ?z_max ?z_min ?z_range ?z_repr ?z_set ?z_sorted ?z_str ?z_sum ?z_tuple ?z_zip
    (case a_is_integer => k_is)
    (case l_is_integer => k_is)
    (case c_is_integer => k_is)
    (case k_is_integer => k_is)
    (case a_is_between => k_is)
    (case l_is_between => k_is)
    (case c_is_between => k_is)
    (case k_is_between => k_is)
    (case a_are_between => k_is)
    (case l_are_between => k_is)
    (case c_are_between => k_is)
    (case k_are_between => k_is)
    (case a_is_ascending => k_is)
    (case l_is_ascending => k_is)
    (case c_is_ascending => k_is)
    (case k_is_ascending => k_is)
    (case a_is_row_of => k_is)
    (case l_is_row_of => k_is)
    (case c_is_row_of => k_is)
    (case k_is_row_of => k_is)
    (case a_check_row => k_is)
    (case l_check_row => k_is)
    (case c_check_row => k_is)
    (case k_check_row => k_is)
    (case a_is_heap_of => k_is)
    (case l_is_heap_of => k_is)
    (case c_is_heap_of => k_is)
    (case k_is_heap_of => k_is)
    (case a_is_heap => k_is)
    (case l_is_heap => k_is)
    (case c_is_heap => k_is)
    (case k_is_heap => k_is)
    (case a_check_heap => k_is)
    (case l_check_heap => k_is)
    (case c_check_heap => k_is)
    (case k_check_heap => k_is)
    (case a_check_both => k_is)
    (case l_check_both => k_is)
    (case c_check_both => k_is)
    (case k_check_both => k_is)
    (case a_overlaps_of => k_is)
    (case l_overlaps_of => k_is)
    (case c_overlaps_of => k_is)
    (case k_overlaps_of => k_is)
    (case a_overlap_of => k_is)
    (case l_overlap_of => k_is)
    (case c_overlap_of => k_is)
    (case k_overlap_of => k_is)
    (case a_overlaps => k_is)
    (case l_overlaps => k_is)
    (case c_overlaps => k_is)
    (case k_overlaps => k_is)
    (case a_overlap => k_is)
    (case l_overlap => k_is)
    (case c_overlap => k_is)
    (case k_overlap => k_is)
    (case a_inside_of => k_is)
    (case l_inside_of => k_is)
    (case c_inside_of => k_is)
    (case k_inside_of => k_is)
    (case a_outer_of => k_is)
    (case l_outer_of => k_is)
    (case c_outer_of => k_is)
    (case k_outer_of => k_is)
    (case a_inside => k_is)
    (case l_inside => k_is)
    (case c_inside => k_is)
    (case k_inside => k_is)
    (case a_outer => k_is)
    (case l_outer => k_is)
    (case c_outer => k_is)
    (case k_outer => k_is)
    (case a_web_of => k_is)
    (case l_web_of => k_is)
    (case c_web_of => k_is)
    (case k_web_of => k_is)
    (case a_overlap_web => k_is)
    (case l_overlap_web => k_is)
    (case c_overlap_web => k_is)
    (case k_overlap_web => k_is)
    (case a_is_needless => k_is)
    (case l_is_needless => k_is)
    (case c_is_needless => k_is)
    (case k_is_needless => k_is)
    (case a_needless_overlaps => k_is)
    (case l_needless_overlaps => k_is)
    (case c_needless_overlaps => k_is)
    (case k_needless_overlaps => k_is)
    (case a_is_order_of => k_is)
    (case l_is_order_of => k_is)
    (case c_is_order_of => k_is)
    (case k_is_order_of => k_is)
    (case a_check_order => k_is)
    (case l_check_order => k_is)
    (case c_check_order => k_is)
    (case k_check_order => k_is)
    (case a_laid_of => k_is)
    (case l_laid_of => k_is)
    (case c_laid_of => k_is)
    (case k_laid_of => k_is)
    (case a_laid => k_is)
    (case l_laid => k_is)
    (case c_laid => k_is)
    (case k_laid => k_is)
    (case a_saved => k_is)
    (case l_saved => k_is)
    (case c_saved => k_is)
    (case k_saved => k_is)
    (case a__law_pot => k_is)
    (case l__law_pot => k_is)
    (case c__law_pot => k_is)
    (case k__law_pot => k_is)
    (case a__law_take => k_is)
    (case l__law_take => k_is)
    (case c__law_take => k_is)
    (case k__law_take => k_is)
    (case a__law_of => k_is)
    (case l__law_of => k_is)
    (case c__law_of => k_is)
    (case k__law_of => k_is)
    (case a__law_some => k_is)
    (case l__law_some => k_is)
    (case c__law_some => k_is)
    (case k__law_some => k_is)
    (case a__law_cells => k_is)
    (case l__law_cells => k_is)
    (case c__law_cells => k_is)
    (case k__law_cells => k_is)
    (case a__law_is_row => k_is)
    (case l__law_is_row => k_is)
    (case c__law_is_row => k_is)
    (case k__law_is_row => k_is)
    (case a__law_odd => k_is)
    (case l__law_odd => k_is)
    (case c__law_odd => k_is)
    (case k__law_odd => k_is)
    (case a__law_bent => k_is)
    (case l__law_bent => k_is)
    (case c__law_bent => k_is)
    (case k__law_bent => k_is)
    (case a__law_heap => k_is)
    (case l__law_heap => k_is)
    (case c__law_heap => k_is)
    (case k__law_heap => k_is)
    (case a__law_overlap => k_is)
    (case l__law_overlap => k_is)
    (case c__law_overlap => k_is)
    (case k__law_overlap => k_is)
    (case a__law_outer => k_is)
    (case l__law_outer => k_is)
    (case c__law_outer => k_is)
    (case k__law_outer => k_is)
    (case a__law_laid => k_is)
    (case l__law_laid => k_is)
    (case c__law_laid => k_is)
    (case k__law_laid => k_is)
    (case a__law_is_heap => k_is)
    (case l__law_is_heap => k_is)
    (case c__law_is_heap => k_is)
    (case k__law_is_heap => k_is)
    (case a__law_right => k_is)
    (case l__law_right => k_is)
    (case c__law_right => k_is)
    (case k__law_right => k_is)
    (case a_law => k_is)
    (case l_law => k_is)
    (case c_law => k_is)
    (case k_law => k_is)
    (case v_LETTERS => k_is)
    (case v_MOST_ROW => k_is)
    (case v_MOST_HEAP => k_is)
    (case v_MOST_EACH => k_is)
    (case z_abs => k_is)
    (case z_all => k_is)
    (case z_any => k_is)
    (case z_bool => k_is)
    (case z_dict => k_is)
    (case z_enumerate => k_is)
    (case z_int => k_is)
    (case z_isinstance => k_is)
    (case z_len => k_is)
    (case z_list => k_is)
    (case z_max => k_is)
    (case z_min => k_is)
    (case z_range => k_is)
    (case z_repr => k_is)
    (case z_set => k_is)
    (case z_sorted => k_is)
    (case z_str => k_is)
    (case z_sum => k_is)
    (case z_tuple => k_is)
    (case z_zip => k_is)
#print axioms PySem.Challenge.cw_everyrowhasit_k60_whole_overlaps_of_heap_holds
