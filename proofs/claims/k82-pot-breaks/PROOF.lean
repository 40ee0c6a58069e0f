import PyProof.Rows.All
import Wide.All
import OpenK.AllK
import Wide.FinOn
import PySem.Challenge.RW_potround_k82_whole_a_pot_breaks_in_a_rou
import HandS.ForMost
import HandS.Codes
import HandS.Style
import HandS.Defaults
import HandS.SortKw
import HandS.Zip
import HandS.MakeKw
import PyProof.Claim2Refuses
import KE.GoesEnum
import KE.GoesEnumKw
import KE.KItemsList
import KE.SortData
import KE.DataMinMax
import HandS.TupAny
import HandS.IsInst
import HandS.SetTxt0
import HandS.Strs
import HandS.SetFor
import HandS.FStr
import HandS.Ends
set_option Elab.async false
set_option linter.all false
set_option maxRecDepth 100000
set_option maxHeartbeats 4000000
set_option autoImplicit false

section Text_HD
open PySem PySem.W PyProof.Rows
set_option maxHeartbeats 0
open_top hd for PySem.Challenge.rw_potround_k82_whole_a_pot_breaks_in_a_rou
end Text_HD
section Text_P1
set_option maxHeartbeats 4000000
namespace Pr
open PySem PySem.Spec PyProof.Rows L2

/-! ## data, and what stands for it -/
inductive Dt where
  | non | bl (b : Bool) | int (i : Int) | str (x : Str) | ty (n : String) | lst (xs : List Dt) | tup (xs : List Dt) | ins (C : Addr) (ns : List Str) (xs : List Dt)

mutual
def Rep (S : Addr → Prop) (H : Hp) : Dt → V → Prop
  | .non, v => v = .non
  | .bl b, v => v = .bl b
  | .int i, v => v = .int i
  | .str x, v => v = .str x
  | .ty n, v => v = .ty n
  | .lst ds, v => ∃ a vs, v = .ref a ∧ ¬ S a ∧ H a = some (.lst vs) ∧ Reps S H ds vs
  | .tup ds, v => ∃ a vs, v = .ref a ∧ ¬ S a ∧ H a = some (.tup vs) ∧ Reps S H ds vs
  | .ins C ns ds, v => ∃ a dx vs, v = .ref a ∧ ¬ S a ∧ H a = some (.ins C dx (ns.zip vs)) ∧ ns.length = vs.length ∧ Reps S H ds vs
def Reps (S : Addr → Prop) (H : Hp) : List Dt → List V → Prop
  | [], vs => vs = []
  | d :: ds, vs => ∃ v r, vs = v :: r ∧ Rep S H d v ∧ Reps S H ds r
end

/-- what stood away from S still stands, away from S' -/
def Mv (S : Addr → Prop) (H : Hp) (S' : Addr → Prop) (H' : Hp) : Prop := ∀ a o, ¬ S a → H a = some o → ¬ S' a ∧ H' a = some o
theorem Mv.refl (S : Addr → Prop) (H : Hp) : Mv S H S H := fun _ _ h1 h2 => ⟨h1, h2⟩
theorem Mv.trans {S S1 S2 : Addr → Prop} {H H1 H2 : Hp} (a : Mv S H S1 H1) (b : Mv S1 H1 S2 H2) : Mv S H S2 H2 := fun x o h1 h2 =>
  let ⟨g1, g2⟩ := a x o h1 h2
  b x o g1 g2
/-- all that stood still stands -/
def Ex (H H' : Hp) : Prop := ∀ a o, H a = some o → H' a = some o
theorem Ex.refl (H : Hp) : Ex H H := fun _ _ h => h
theorem Ex.trans {H H1 H2 : Hp} (a : Ex H H1) (b : Ex H1 H2) : Ex H H2 := fun x o h => b x o (a x o h)
theorem Ex.new {H : Hp} {p : Addr} {o : HO} (h : H p = none) : Ex H (upd H p o) := fun a u e => by
  rw [upd_ne (ne_of_none e h)]
  exact e
theorem Ex.mv {S : Addr → Prop} {H H' : Hp} (e : Ex H H') : Mv S H S H' := fun a o h1 h2 => ⟨h1, e a o h2⟩
theorem Ex.free {H H' : Hp} {p : Addr} (e : Ex H H') (h : H' p = none) : H p = none := by
  cases h1 : H p with
  | none => rfl
  | some o =>
    rw [e p o h1] at h
    cases h

mutual
theorem Rep.mv {S S' : Addr → Prop} {H H' : Hp} (m : Mv S H S' H') : ∀ {d : Dt} {v : V}, Rep S H d v → Rep S' H' d v
  | .non, _, h => by simpa only [Rep] using h
  | .bl _, _, h => by simpa only [Rep] using h
  | .int _, _, h => by simpa only [Rep] using h
  | .str _, _, h => by simpa only [Rep] using h
  | .ty _, _, h => by simpa only [Rep] using h
  | .lst ds, v, h => by
    simp only [Rep] at h ⊢
    obtain ⟨a, vs, e, hs, ha, hr⟩ := h
    exact ⟨a, vs, e, (m a _ hs ha).1, (m a _ hs ha).2, Reps.mv m hr⟩
  | .tup ds, v, h => by
    simp only [Rep] at h ⊢
    obtain ⟨a, vs, e, hs, ha, hr⟩ := h
    exact ⟨a, vs, e, (m a _ hs ha).1, (m a _ hs ha).2, Reps.mv m hr⟩
  | .ins C ns ds, v, h => by
    simp only [Rep] at h ⊢
    obtain ⟨a, dx, vs, e, hs, ha, hl, hr⟩ := h
    exact ⟨a, dx, vs, e, (m a _ hs ha).1, (m a _ hs ha).2, hl, Reps.mv m hr⟩
theorem Reps.mv {S S' : Addr → Prop} {H H' : Hp} (m : Mv S H S' H') : ∀ {ds : List Dt} {vs : List V}, Reps S H ds vs → Reps S' H' ds vs
  | [], _, h => by simpa only [Reps] using h
  | d :: ds, vs, h => by
    simp only [Reps] at h ⊢
    obtain ⟨v, r, e, h1, h2⟩ := h
    exact ⟨v, r, e, Rep.mv m h1, Reps.mv m h2⟩
end

section
variable {S S' : Addr → Prop} {H H' : Hp} {d : Dt} {ds : List Dt} {v : V} {vs : List V}
theorem rep_int {i : Int} : Rep S H (.int i) v ↔ v = .int i := by simp only [Rep]
theorem rep_str {i : Str} : Rep S H (.str i) v ↔ v = .str i := by simp only [Rep]
theorem rep_ty {i : String} : Rep S H (.ty i) v ↔ v = .ty i := by simp only [Rep]
theorem rep_bl {i : Bool} : Rep S H (.bl i) v ↔ v = .bl i := by simp only [Rep]
theorem rep_non : Rep S H .non v ↔ v = .non := by simp only [Rep]
theorem rep_lst : Rep S H (.lst ds) v ↔ ∃ a vs, v = .ref a ∧ ¬ S a ∧ H a = some (.lst vs) ∧ Reps S H ds vs := by simp only [Rep]
theorem rep_tup : Rep S H (.tup ds) v ↔ ∃ a vs, v = .ref a ∧ ¬ S a ∧ H a = some (.tup vs) ∧ Reps S H ds vs := by simp only [Rep]
theorem rep_ins {C : Addr} {ns : List Str} : Rep S H (.ins C ns ds) v ↔ ∃ a dx vs, v = .ref a ∧ ¬ S a ∧ H a = some (.ins C dx (ns.zip vs)) ∧ ns.length = vs.length ∧ Reps S H ds vs := by simp only [Rep]
theorem reps_nil : Reps S H [] vs ↔ vs = [] := by simp only [Reps]
theorem reps_cons : Reps S H (d :: ds) vs ↔ ∃ v r, vs = v :: r ∧ Rep S H d v ∧ Reps S H ds r := by simp only [Reps]
theorem Reps.nil : Reps S H [] [] := reps_nil.mpr rfl
theorem Reps.cons (h : Rep S H d v) (r : Reps S H ds vs) : Reps S H (d :: ds) (v :: vs) := reps_cons.mpr ⟨v, vs, rfl, h, r⟩
theorem Reps.length : ∀ {ds : List Dt} {vs : List V}, Reps S H ds vs → vs.length = ds.length
  | [], vs, h => by rw [reps_nil.mp h]; rfl
  | d :: ds, vs, h => by
    obtain ⟨v, r, rfl, _, h2⟩ := reps_cons.mp h
    rw [List.length_cons, List.length_cons, Reps.length h2]
theorem Reps.append : ∀ {ds es : List Dt} {vs us : List V}, Reps S H ds vs → Reps S H es us → Reps S H (ds ++ es) (vs ++ us)
  | [], es, vs, us, h, k => by rw [reps_nil.mp h]; exact k
  | d :: ds, es, vs, us, h, k => by
    obtain ⟨v, r, rfl, h1, h2⟩ := reps_cons.mp h
    exact Reps.cons h1 (Reps.append h2 k)
theorem Reps.get : ∀ {ds : List Dt} {vs : List V} {i : Nat} {d : Dt}, Reps S H ds vs → ds[i]? = some d → ∃ v, vs[i]? = some v ∧ Rep S H d v
  | [], _, _, _, _, e => by simp at e
  | d :: ds, vs, 0, d', h, e => by
    obtain ⟨v, r, rfl, h1, h2⟩ := reps_cons.mp h
    have e' : d = d' := by simpa using e
    subst e'
    exact ⟨v, rfl, h1⟩
  | d :: ds, vs, i + 1, d', h, e => by
    obtain ⟨v, r, rfl, h1, h2⟩ := reps_cons.mp h
    obtain ⟨u, k1, k2⟩ := Reps.get (i := i) (d := d') h2 (by simpa using e)
    exact ⟨u, by simpa using k1, k2⟩
theorem Reps.get' : ∀ {ds : List Dt} {vs : List V} {i : Nat} {v : V}, Reps S H ds vs → vs[i]? = some v → ∃ d, ds[i]? = some d ∧ Rep S H d v := fun {ds vs i v} h e => by
  have hl := h.length
  have hi : i < vs.length := (List.getElem?_eq_some_iff.mp e).1
  have hd : ds[i]? = some (ds[i]'(by omega)) := List.getElem?_eq_getElem (by omega)
  obtain ⟨u, e1, r⟩ := h.get hd
  rw [e] at e1
  cases e1
  exact ⟨_, hd, r⟩
theorem Reps.set : ∀ {ds : List Dt} {vs : List V} {i : Nat} {d : Dt} {v : V}, Reps S H ds vs → Rep S H d v → Reps S H (ds.set i d) (vs.set i v)
  | [], vs, i, _, _, h, _ => by rw [reps_nil.mp h]; exact Reps.nil
  | d :: ds, vs, 0, _, _, h, k => by
    obtain ⟨v, r, rfl, h1, h2⟩ := reps_cons.mp h
    exact Reps.cons k h2
  | d :: ds, vs, i + 1, _, _, h, k => by
    obtain ⟨v, r, rfl, h1, h2⟩ := reps_cons.mp h
    exact Reps.cons h1 (Reps.set h2 k)
theorem Reps.take : ∀ {ds : List Dt} {vs : List V} (n : Nat), Reps S H ds vs → Reps S H (ds.take n) (vs.take n)
  | _, _, 0, _ => by rw [List.take_zero, List.take_zero]; exact Reps.nil
  | [], vs, n + 1, h => by rw [reps_nil.mp h]; exact Reps.nil
  | d :: ds, vs, n + 1, h => by
    obtain ⟨v, r, rfl, h1, h2⟩ := reps_cons.mp h
    exact Reps.cons h1 (Reps.take n h2)
theorem Reps.drop : ∀ {ds : List Dt} {vs : List V} (n : Nat), Reps S H ds vs → Reps S H (ds.drop n) (vs.drop n)
  | _, _, 0, h => by simpa using h
  | [], vs, n + 1, h => by rw [reps_nil.mp h]; exact Reps.nil
  | d :: ds, vs, n + 1, h => by
    obtain ⟨v, r, rfl, h1, h2⟩ := reps_cons.mp h
    exact Reps.drop n h2
theorem Reps.reverse : ∀ {ds : List Dt} {vs : List V}, Reps S H ds vs → Reps S H ds.reverse vs.reverse
  | [], vs, h => by rw [reps_nil.mp h]; exact Reps.nil
  | d :: ds, vs, h => by
    obtain ⟨v, r, rfl, h1, h2⟩ := reps_cons.mp h
    rw [List.reverse_cons, List.reverse_cons]
    exact Reps.append (Reps.reverse h2) (Reps.cons h1 Reps.nil)
theorem Reps.ints : ∀ {ns : List Int} {vs : List V}, Reps S H (ns.map Dt.int) vs ↔ vs = ns.map V.int
  | [], vs => by rw [List.map_nil, List.map_nil]; exact reps_nil
  | n :: ns, vs => by
    rw [List.map_cons, List.map_cons, reps_cons]
    constructor
    · rintro ⟨v, r, rfl, h1, h2⟩
      rw [rep_int.mp h1, Reps.ints.mp h2]
    · rintro rfl
      exact ⟨_, _, rfl, rep_int.mpr rfl, Reps.ints.mpr rfl⟩
theorem Reps.strs : ∀ {ns : List Str} {vs : List V}, Reps S H (ns.map Dt.str) vs ↔ vs = ns.map V.str
  | [], vs => by rw [List.map_nil, List.map_nil]; exact reps_nil
  | n :: ns, vs => by
    rw [List.map_cons, List.map_cons, reps_cons]
    constructor
    · rintro ⟨v, r, rfl, h1, h2⟩
      rw [rep_str.mp h1, Reps.strs.mp h2]
    · rintro rfl
      exact ⟨_, _, rfl, rep_str.mpr rfl, Reps.strs.mpr rfl⟩
theorem Reps.bls : ∀ {ns : List Bool} {vs : List V}, Reps S H (ns.map Dt.bl) vs ↔ vs = ns.map V.bl
  | [], vs => by rw [List.map_nil, List.map_nil]; exact reps_nil
  | n :: ns, vs => by
    rw [List.map_cons, List.map_cons, reps_cons]
    constructor
    · rintro ⟨v, r, rfl, h1, h2⟩
      rw [rep_bl.mp h1, Reps.bls.mp h2]
    · rintro rfl
      exact ⟨_, _, rfl, rep_bl.mpr rfl, Reps.bls.mpr rfl⟩
theorem Reps.app_inv : ∀ {ds es : List Dt} {vs : List V}, Reps S H (ds ++ es) vs → ∃ us ws, vs = us ++ ws ∧ Reps S H ds us ∧ Reps S H es ws
  | [], es, vs, h => ⟨[], vs, rfl, Reps.nil, h⟩
  | d :: ds, es, vs, h => by
    obtain ⟨v, r, rfl, h1, h2⟩ := reps_cons.mp h
    obtain ⟨us, ws, rfl, k1, k2⟩ := Reps.app_inv h2
    exact ⟨v :: us, ws, rfl, Reps.cons h1 k1, k2⟩
end

/-! ## slots -/
inductive Fl where
  | v (d : Dt) | own (p : Addr) (ds : List Dt)
inductive Sl where
  | any | v (d : Dt) | own (p : Addr) (ds : List Dt) | box (p : Addr) (n : Nat) | obj (p C : Addr) (fs : List (Str × Fl))
abbrev Sls := List Sl
def Fl.adr : Fl → List Addr
  | .v _ => []
  | .own p _ => [p]
def adrF : List (Str × Fl) → List Addr
  | [] => []
  | f :: fs => f.2.adr ++ adrF fs
def Sl.adr : Sl → List Addr
  | .any => []
  | .v _ => []
  | .own p _ => [p]
  | .box p _ => [p]
  | .obj p _ fs => p :: adrF fs
def adrs : Sls → List Addr
  | [] => []
  | s :: r => s.adr ++ adrs r
/-- a list that is ours alone -/
def OwnL (S : Addr → Prop) (H : Hp) (p : Addr) (ds : List Dt) : Prop := S p ∧ ∃ vs, H p = some (.lst vs) ∧ Reps S H ds vs
/-- the law's box: three ints, the third at most n -/
def BoxAt (H : Hp) (p : Addr) (n : Nat) : Prop := ∃ a b c : Int, H p = some (.lst [.int a, .int b, .int c]) ∧ 0 ≤ a ∧ 0 ≤ b ∧ b < 4611686018427387904 ∧ 0 ≤ c ∧ c ≤ n
def FlOk (S : Addr → Prop) (H : Hp) : Fl → V → Prop
  | .v d, v => Rep S H d v
  | .own q ds, v => v = .ref q ∧ OwnL S H q ds
def FlsOk (S : Addr → Prop) (H : Hp) : List (Str × Fl) → List (Str × V) → Prop
  | [], vs => vs = []
  | f :: fs, vs => ∃ v r, vs = (f.1, v) :: r ∧ FlOk S H f.2 v ∧ FlsOk S H fs r
def SlOk (S : Addr → Prop) (H : Hp) : Sl → Option V → Prop
  | .any, _ => True
  | .v d, o => ∃ v, o = some v ∧ Rep S H d v
  | .own p ds, o => o = some (.ref p) ∧ OwnL S H p ds
  | .box p n, o => o = some (.ref p) ∧ S p ∧ BoxAt H p n
  | .obj p C fs, o => o = some (.ref p) ∧ S p ∧ ∃ dx vs, H p = some (.ins C dx vs) ∧ FlsOk S H fs vs
structure Gd (S : Addr → Prop) (H : Hp) (σ : L2.St) (δ : Sls) : Prop where
  len : σ.length = δ.length
  ok : ∀ (i : Nat) (e : Sl), δ[i]? = some e → ∃ o, σ[i]? = some o ∧ SlOk S H e o
  live : ∀ a, S a → H a ≠ none
  nd : (adrs δ).Nodup
/-- what evaluating may do: the objects named in the slots alone change -/
structure Stp (H : Hp) (δ : Sls) (H' : Hp) (δ' : Sls) : Prop where
  keep : ∀ a o, a ∉ adrs δ → H a = some o → H' a = some o
  adm : δ'.map Sl.adr = δ.map Sl.adr
theorem adrs_flat : ∀ δ : Sls, adrs δ = (δ.map Sl.adr).flatten
  | [] => rfl
  | s :: r => by
    show s.adr ++ adrs r = s.adr ++ (r.map Sl.adr).flatten
    rw [adrs_flat r]
theorem adrs_of {δ δ' : Sls} (h : δ'.map Sl.adr = δ.map Sl.adr) : adrs δ' = adrs δ := by rw [adrs_flat, adrs_flat, h]
theorem Stp.adr {H H' : Hp} {δ δ' : Sls} (t : Stp H δ H' δ') : adrs δ' = adrs δ := adrs_of t.adm

theorem mem_adrs_of {e : Sl} {p : Addr} : ∀ {δ : Sls} {i : Nat}, δ[i]? = some e → p ∈ e.adr → p ∈ adrs δ
  | [], _, h, _ => by simp at h
  | s :: r, 0, h, hp => by
    have e' : s = e := by simpa using h
    subst e'
    exact List.mem_append_left _ hp
  | s :: r, i + 1, h, hp => List.mem_append_right _ (mem_adrs_of (i := i) (by simpa using h) hp)
theorem of_mem_adrs {p : Addr} : ∀ {δ : Sls}, p ∈ adrs δ → ∃ (i : Nat) (e : Sl), δ[i]? = some e ∧ p ∈ e.adr
  | [], h => by cases h
  | s :: r, h => by
    rcases List.mem_append.mp h with h | h
    · exact ⟨0, s, rfl, h⟩
    · obtain ⟨i, e, h1, h2⟩ := of_mem_adrs h
      exact ⟨i + 1, e, by simpa using h1, h2⟩
theorem adrF_in {S : Addr → Prop} {H : Hp} {p : Addr} : ∀ {fs : List (Str × Fl)} {vs : List (Str × V)}, FlsOk S H fs vs → p ∈ adrF fs → S p
  | [], _, _, h => by cases h
  | (n, f) :: fs, vs, hf, h => by
    obtain ⟨v, r, rfl, h1, h2⟩ := hf
    rcases List.mem_append.mp h with h | h
    · cases f with
      | v d => cases h
      | own q ds =>
        have e : p = q := by simpa [Fl.adr] using h
        rw [e]
        exact h1.2.1
    · exact adrF_in h2 h
theorem SlOk.inS {S : Addr → Prop} {H : Hp} {e : Sl} {o : Option V} {p : Addr} (h : SlOk S H e o) (hp : p ∈ e.adr) : S p := by
  cases e with
  | any => cases hp
  | v d => cases hp
  | own q ds =>
    have e : p = q := by simpa [Sl.adr] using hp
    rw [e]
    exact h.2.1
  | box q n =>
    have e : p = q := by simpa [Sl.adr] using hp
    rw [e]
    exact h.2.1
  | obj q C fs =>
    obtain ⟨h1, h2, dx, vs, h3, h4⟩ := h
    rcases List.mem_cons.mp hp with e | hp
    · rw [e]
      exact h2
    · exact adrF_in h4 hp
theorem Gd.inS {S : Addr → Prop} {H : Hp} {σ : L2.St} {δ : Sls} (g : Gd S H σ δ) {p : Addr} (hp : p ∈ adrs δ) : S p := by
  obtain ⟨i, e, h1, h2⟩ := of_mem_adrs hp
  obtain ⟨o, _, h3⟩ := g.ok i e h1
  exact h3.inS h2
theorem Gd.there {S : Addr → Prop} {H : Hp} {σ : L2.St} {δ : Sls} (g : Gd S H σ δ) {p : Addr} (hp : p ∈ adrs δ) : H p ≠ none := g.live p (g.inS hp)
theorem Stp.mv {S : Addr → Prop} {H H' : Hp} {σ : L2.St} {δ δ' : Sls} (t : Stp H δ H' δ') (g : Gd S H σ δ) : Mv S H S H' := fun a o h1 h2 => ⟨h1, t.keep a o (fun h => h1 (g.inS h)) h2⟩
theorem Stp.refl (H : Hp) (δ : Sls) : Stp H δ H δ := ⟨fun _ _ _ h => h, rfl⟩
theorem Stp.trans {H H1 H2 : Hp} {δ δ1 δ2 : Sls} (a : Stp H δ H1 δ1) (b : Stp H1 δ1 H2 δ2) : Stp H δ H2 δ2 := ⟨fun x o h1 h2 => b.keep x o (by rw [a.adr]; exact h1) (a.keep x o h1 h2), b.adm.trans a.adm⟩
theorem Ex.stp {H H' : Hp} {δ : Sls} (e : Ex H H') : Stp H δ H' δ := ⟨fun a o _ h => e a o h, rfl⟩

/-- all of the slots' objects as they were: the slots stay -/
theorem OwnL.ex {S : Addr → Prop} {H H' : Hp} {p : Addr} {ds : List Dt} (h : OwnL S H p ds) (e : Ex H H') : OwnL S H' p ds := by
  obtain ⟨h1, vs, h2, h3⟩ := h
  exact ⟨h1, vs, e _ _ h2, h3.mv e.mv⟩
theorem BoxAt.ex {H H' : Hp} {p : Addr} {n : Nat} (h : BoxAt H p n) (e : Ex H H') : BoxAt H' p n := by
  obtain ⟨a, b, c, h, r⟩ := h
  exact ⟨a, b, c, e _ _ h, r⟩
theorem FlOk.ex {S : Addr → Prop} {H H' : Hp} {f : Fl} {v : V} (h : FlOk S H f v) (e : Ex H H') : FlOk S H' f v := by
  cases f with
  | v d => exact Rep.mv e.mv h
  | own q ds => exact ⟨h.1, h.2.ex e⟩
theorem FlsOk.ex {S : Addr → Prop} {H H' : Hp} (e : Ex H H') : ∀ {fs : List (Str × Fl)} {vs : List (Str × V)}, FlsOk S H fs vs → FlsOk S H' fs vs
  | [], _, h => h
  | f :: fs, vs, h => by
    obtain ⟨v, r, h0, h1, h2⟩ := h
    exact ⟨v, r, h0, h1.ex e, h2.ex e⟩
theorem SlOk.ex {S : Addr → Prop} {H H' : Hp} {x : Sl} {o : Option V} (h : SlOk S H x o) (e : Ex H H') : SlOk S H' x o := by
  cases x with
  | any => trivial
  | v d =>
    obtain ⟨v, h1, h2⟩ := h
    exact ⟨v, h1, h2.mv e.mv⟩
  | own p ds => exact ⟨h.1, h.2.ex e⟩
  | box p n => exact ⟨h.1, h.2.1, h.2.2.ex e⟩
  | obj p C fs =>
    obtain ⟨h1, h2, dx, vs, h3, h4⟩ := h
    exact ⟨h1, h2, dx, vs, e _ _ h3, h4.ex e⟩
theorem Gd.ex {S : Addr → Prop} {H H' : Hp} {σ : L2.St} {δ : Sls} (g : Gd S H σ δ) (e : Ex H H') : Gd S H' σ δ :=
  ⟨g.len, fun i x hx => by
    obtain ⟨o, h1, h2⟩ := g.ok i x hx
    exact ⟨o, h1, h2.ex e⟩, fun a ha => by
    cases h : H a with
    | none => exact absurd h (g.live a ha)
    | some o =>
      rw [e a o h]
      exact (by intro z; cases z), g.nd⟩

/-! ## expressions -/
/-- from slots δ: a value that stands for some d, slots δ', of which K holds -/
def tEK (δ : Sls) (K : Sls → Dt → Prop) : TE := fun σ H Q => ∃ S, Gd S H σ δ ∧ ∀ v H' d δ', Stp H δ H' δ' → Gd S H' σ δ' → Rep S H' d v → K δ' d → Q v H'
def EK (X : Cx) (e : Expr) (δ : Sls) (K : Sls → Dt → Prop) : Prop := PE X e (tEK δ K)
def tEA (X : Cx) (e : Expr) : TE := fun σ H Q => ∃ δ K, EK X e δ K ∧ tEK δ K σ H Q
/-- tests -/
def tTK (δ : Sls) (K : Sls → Bool → Prop) : TT := fun σ H Q => ∃ S, Gd S H σ δ ∧ ∀ b H' δ', Stp H δ H' δ' → Gd S H' σ δ' → K δ' b → Q b H'
def TK (X : Cx) (e : Expr) (δ : Sls) (K : Sls → Bool → Prop) : Prop := PT X e (tTK δ K)
def tTA (X : Cx) (e : Expr) : TT := fun σ H Q => ∃ δ K, TK X e δ K ∧ tTK δ K σ H Q
/-- parts of and, or -/
def WK (X : Cx) (e : Expr) (δ : Sls) (K : Sls → Bool → Prop) : Prop := PW X e (tTK δ K)
def tWA (X : Cx) (e : Expr) : TT := fun σ H Q => ∃ δ K, WK X e δ K ∧ tTK δ K σ H Q
/-- arguments -/
def tAK (δ : Sls) (K : Sls → List Dt → Prop) : TA := fun σ H Q => ∃ S, Gd S H σ δ ∧ ∀ vs H' ds δ', Stp H δ H' δ' → Gd S H' σ δ' → Reps S H' ds vs → K δ' ds → Q vs H'
def AK (X : Cx) (es : List Expr) (δ : Sls) (K : Sls → List Dt → Prop) : Prop := PA X es (tAK δ K)
def tAA (X : Cx) (es : List Expr) : TA := fun σ H Q => ∃ δ K, AK X es δ K ∧ tAK δ K σ H Q

section
variable {X : Cx} {e a b c : Expr} {es : List Expr} {δ : Sls} {K : Sls → Dt → Prop} {KB : Sls → Bool → Prop} {KA : Sls → List Dt → Prop} {pos : Pos}
theorem ek_any : PE X e (tEA X e) := ⟨fun pins s σ H Q I h => by
  obtain ⟨δ, K, h1, h2⟩ := h
  exact h1.run pins s σ H Q I h2⟩
theorem tk_any : PT X e (tTA X e) := ⟨fun pins s σ H Q I h => by
  obtain ⟨δ, K, h1, h2⟩ := h
  exact h1.run pins s σ H Q I h2⟩
theorem wk_any : PW X e (tWA X e) := ⟨fun whole pins s σ H Q I h => by
  obtain ⟨δ, K, h1, h2⟩ := h
  exact h1.run whole pins s σ H Q I h2⟩
theorem ak_any : PA X es (tAA X es) := ⟨fun pos pins s σ H Q I h => by
  obtain ⟨δ, K, h1, h2⟩ := h
  exact h1.run pos pins s σ H Q I h2⟩
theorem ek_of {t : TE} (h : PE X e t) (k : ∀ σ H Q, tEK δ K σ H Q → t σ H Q) : EK X e δ K := ⟨fun pins s σ H Q I hq => h.run pins s σ H Q I (k σ H Q hq)⟩
theorem tk_of {t : TT} (h : PT X e t) (k : ∀ σ H Q, tTK δ KB σ H Q → t σ H Q) : TK X e δ KB := ⟨fun pins s σ H Q I hq => h.run pins s σ H Q I (k σ H Q hq)⟩
theorem wk_of {t : TT} (h : PW X e t) (k : ∀ σ H Q, tTK δ KB σ H Q → t σ H Q) : WK X e δ KB := ⟨fun whole pins s σ H Q I hq => h.run whole pins s σ H Q I (k σ H Q hq)⟩
theorem ak_of {t : TA} (h : PA X es t) (k : ∀ σ H Q, tAK δ KA σ H Q → t σ H Q) : AK X es δ KA := ⟨fun pos pins s σ H Q I hq => h.run pos pins s σ H Q I (k σ H Q hq)⟩
theorem EK.imp {K' : Sls → Dt → Prop} (h : EK X e δ K') (k : ∀ δ' d, K' δ' d → K δ' d) : EK X e δ K := ek_of h fun σ H Q hq => by
  obtain ⟨S, g, q⟩ := hq
  exact ⟨S, g, fun v H' d δ' t g' r hk => q v H' d δ' t g' r (k δ' d hk)⟩
/-- one after another: the second from the slots that the first leaves -/
theorem te_seq {S : Addr → Prop} {σ : L2.St} {H : Hp} (hg : Gd S H σ δ) (he : EK X e δ K) {Q : VK} (q : ∀ v H' d δ', Stp H δ H' δ' → Gd S H' σ δ' → Rep S H' d v → K δ' d → Q v H') : tEA X e σ H Q := ⟨δ, K, he, S, hg, q⟩
theorem tt_seq {S : Addr → Prop} {σ : L2.St} {H : Hp} (hg : Gd S H σ δ) (he : TK X e δ KB) {Q : Bool → Hp → Prop} (q : ∀ v H' δ', Stp H δ H' δ' → Gd S H' σ δ' → KB δ' v → Q v H') : tTA X e σ H Q := ⟨δ, KB, he, S, hg, q⟩
theorem tw_seq {S : Addr → Prop} {σ : L2.St} {H : Hp} (hg : Gd S H σ δ) (he : WK X e δ KB) {Q : Bool → Hp → Prop} (q : ∀ v H' δ', Stp H δ H' δ' → Gd S H' σ δ' → KB δ' v → Q v H') : tWA X e σ H Q := ⟨δ, KB, he, S, hg, q⟩
theorem ta_seq {S : Addr → Prop} {σ : L2.St} {H : Hp} (hg : Gd S H σ δ) (he : AK X es δ KA) {Q : List V → Hp → Prop} (q : ∀ v H' d δ', Stp H δ H' δ' → Gd S H' σ δ' → Reps S H' d v → KA δ' d → Q v H') : tAA X es σ H Q := ⟨δ, KA, he, S, hg, q⟩
/-- a value that needs no object -/
def Flat : Dt → V → Prop
  | .non, v => v = .non
  | .bl b, v => v = .bl b
  | .int i, v => v = .int i
  | .str x, v => v = .str x
  | .ty x, v => v = .ty x
  | _, _ => False
theorem Flat.rep {d : Dt} {v : V} (h : Flat d v) {S : Addr → Prop} {H : Hp} : Rep S H d v := by
  cases d <;> first | exact rep_non.mpr h | exact rep_bl.mpr h | exact rep_int.mpr h | exact rep_str.mpr h | exact rep_ty.mpr h | exact h.elim
theorem w_c {v : V} {d : Dt} (h : PE X e (tC v)) (hf : Flat d v) (k : K δ d) : EK X e δ K := ek_of h fun σ H Q hq => by
  obtain ⟨S, g, q⟩ := hq
  exact q v H d δ (Stp.refl H δ) g hf.rep k
theorem w_int {i : Int} {j} (k : K δ (.int i)) : EK X (.Constant (.int i) j pos) δ K := w_c (d := .int i) pe_int rfl k
theorem w_str {i : Str} {j} (k : K δ (.str i)) : EK X (.Constant (.str i) j pos) δ K := w_c (d := .str i) pe_str rfl k
theorem w_bl {i : Bool} {j} (k : K δ (.bl i)) : EK X (.Constant (.bool i) j pos) δ K := w_c (d := .bl i) pe_bl rfl k
theorem w_non {j} (k : K δ .non) : EK X (.Constant .none j pos) δ K := w_c (d := .non) pe_non rfl k
theorem w_var (i : Nat) {x : Str} {d : Dt} (hδ : δ[i]? = some (.v d)) (k : K δ d) (hN : X.N[i]? = some x := by rfl) (hv : Vis X.env.scope x := by first | exact Or.inl rfl | exact Or.inr (Or.inl rfl) | exact Or.inr (Or.inr rfl))
    (hd : (x == ("__debug__" : Str)) = false := by decide) (hcd : (x == ("__classdict__" : Str)) = false := by decide) : EK X (.Name x pos) δ K := ek_of (pe_var (i := i) hN hv hd hcd) fun σ H Q hq => by
  obtain ⟨S, g, q⟩ := hq
  obtain ⟨o, ho, v, rfl, hr⟩ := g.ok i _ hδ
  exact ⟨v, ho, q v H d δ (Stp.refl H δ) g hr k⟩
/-- a module's constant -/
theorem w_glob {x : Str} {v : V} {u : Value} {d : Dt} (hm : X.mg x = some u) (r : RelV v u) (hf : Flat d v) (k : K δ d) (hg : Gl X x := by rfl) (hd : (x == ("__debug__" : Str)) = false := by decide) : EK X (.Name x pos) δ K :=
  w_c (pe_glob hg hm r hd) hf k
/-- operators -/
theorem w_op {r : R2} (hp : PE X e (tOp r (tEA X a) (tEA X b))) (h : EK X a δ fun δ1 d1 => EK X b δ1 fun δ2 d2 =>
      ∀ S σ H v1 v2 (Q : VK), Gd S H σ δ2 → Rep S H d1 v1 → Rep S H d2 v2 → (∀ v H' d, Ex H H' → Rep S H' d v → K δ2 d → Q v H') → r v1 v2 H Q) : EK X e δ K := ek_of hp fun σ H Q hq => by
  obtain ⟨S, g, q⟩ := hq
  refine te_seq g h fun v1 H1 d1 δ1 t1 g1 r1 h1 => te_seq g1 h1 fun v2 H2 d2 δ2 t2 g2 r2 h2 => ?_
  exact h2 S σ H2 v1 v2 Q g2 (r1.mv (t2.mv g1)) r2 fun v H' d ex r k => q v H' d δ2 ((t1.trans t2).trans ex.stp) (g2.ex ex) r k
/-- an operator by data: o tells the answer, and why the rule's reading holds -/
theorem w_op1 {r : R2} (hp : PE X e (tOp r (tEA X a) (tEA X b))) (h : EK X a δ fun δ1 d1 => EK X b δ1 fun δ2 d2 => ∃ x y z d, Flat d1 x ∧ Flat d2 y ∧ (∀ H (Q : VK), Q z H → r x y H Q) ∧ Flat d z ∧ K δ2 d) : EK X e δ K :=
  w_op hp (h.imp fun δ1 d1 h1 => h1.imp fun δ2 d2 h2 => by
    obtain ⟨x, y, z, d, f1, f2, hr, f3, k⟩ := h2
    intro S σ H v1 v2 Q g r1 r2 q
    have e1 : v1 = x := by
      cases d1 <;> first | exact (rep_non.mp r1).trans f1.symm | exact (rep_bl.mp r1).trans f1.symm | exact (rep_int.mp r1).trans f1.symm | exact (rep_str.mp r1).trans f1.symm | exact (rep_ty.mp r1).trans f1.symm | exact f1.elim
    have e2 : v2 = y := by
      cases d2 <;> first | exact (rep_non.mp r2).trans f2.symm | exact (rep_bl.mp r2).trans f2.symm | exact (rep_int.mp r2).trans f2.symm | exact (rep_str.mp r2).trans f2.symm | exact (rep_ty.mp r2).trans f2.symm | exact f2.elim
    subst e1 e2
    exact hr H Q (q z H d (Ex.refl H) f3.rep k))
end
end Pr

end Text_P1
section Text_P2
set_option maxHeartbeats 4000000
namespace Pr
open PySem PySem.Spec PyProof.Rows L2
/-! ## rules for expressions -/
/-- what follows an operation on values: nothing that stood has changed -/
def Fw (S : Addr → Prop) (H : Hp) (δ : Sls) (K : Sls → Dt → Prop) (Q : VK) : Prop := ∀ v H' d, Ex H H' → Rep S H' d v → K δ d → Q v H'
theorem Fw.val {S : Addr → Prop} {H : Hp} {δ : Sls} {K : Sls → Dt → Prop} {Q : VK} (q : Fw S H δ K Q) {v : V} {d : Dt} (r : Rep S H d v) (k : K δ d) : Q v H := q v H d (Ex.refl H) r k
theorem not_S {S : Addr → Prop} {H : Hp} {σ : L2.St} {δ : Sls} (g : Gd S H σ δ) {p : Addr} (h : H p = none) : ¬ S p := fun hs => g.live p hs h
theorem Fw.lst {S : Addr → Prop} {H : Hp} {σ : L2.St} {δ : Sls} {K : Sls → Dt → Prop} {Q : VK} (q : Fw S H δ K Q) (g : Gd S H σ δ) {p : Addr} {vs : List V} {ds : List Dt} (hp : H p = none) (r : Reps S H ds vs) (k : K δ (.lst ds)) : Q (.ref p) (upd H p (.lst vs)) :=
  q _ _ _ (Ex.new hp) (rep_lst.mpr ⟨p, vs, rfl, not_S g hp, upd_same, r.mv (Ex.new hp).mv⟩) k
theorem Fw.tup {S : Addr → Prop} {H : Hp} {σ : L2.St} {δ : Sls} {K : Sls → Dt → Prop} {Q : VK} (q : Fw S H δ K Q) (g : Gd S H σ δ) {p : Addr} {vs : List V} {ds : List Dt} (hp : H p = none) (r : Reps S H ds vs) (k : K δ (.tup ds)) : Q (.ref p) (upd H p (.tup vs)) :=
  q _ _ _ (Ex.new hp) (rep_tup.mpr ⟨p, vs, rfl, not_S g hp, upd_same, r.mv (Ex.new hp).mv⟩) k

/-- a two-place operation on data -/
def OC (X : Cx) (f : Value → Value → Sem Value) (δ : Sls) (d1 d2 : Dt) (K : Sls → Dt → Prop) : Prop :=
  ∃ r : R2, OpR X f r ∧ ∀ S σ H v1 v2 (Q : VK), Gd S H σ δ → Rep S H d1 v1 → Rep S H d2 v2 → Fw S H δ K Q → r v1 v2 H Q
def rAnyO (X : Cx) (f : Value → Value → Sem Value) : R2 := fun x y H Q => ∃ r : R2, OpR X f r ∧ r x y H Q
theorem op_any {X : Cx} {f : Value → Value → Sem Value} : OpR X f (rAnyO X f) := fun pins s σ H x y v u Q I r1 r2 h => by
  obtain ⟨r, h1, h2⟩ := h
  exact h1 pins s σ H x y v u Q I r1 r2 h2
/-- a subscript on data -/
def XC (X : Cx) (δ : Sls) (d1 d2 : Dt) (K : Sls → Dt → Prop) : Prop :=
  ∃ r : R2, IxR X r ∧ ∀ S σ H v1 v2 (Q : VK), Gd S H σ δ → Rep S H d1 v1 → Rep S H d2 v2 → Fw S H δ K Q → r v1 v2 H Q
def rAnyX (X : Cx) : R2 := fun x y H Q => ∃ r : R2, IxR X r ∧ r x y H Q
theorem ix_any {X : Cx} : IxR X (rAnyX X) := fun e1 e2 pins s σ H x y v u Q I r1 r2 h => by
  obtain ⟨r, h1, h2⟩ := h
  exact h1 e1 e2 pins s σ H x y v u Q I r1 r2 h2
/-- a slice of data -/
def SC (X : Cx) (δ : Sls) (d : Dt) (lo hi : Option Int) (K : Sls → Dt → Prop) : Prop :=
  ∃ r : V → Option Int → Option Int → Hp → VK → Prop, SlR X r ∧ ∀ S σ H v (Q : VK), Gd S H σ δ → Rep S H d v → Fw S H δ K Q → r v lo hi H Q
def rAnyS (X : Cx) : V → Option Int → Option Int → Hp → VK → Prop := fun x lo hi H Q => ∃ r : V → Option Int → Option Int → Hp → VK → Prop, SlR X r ∧ r x lo hi H Q
theorem sl_any {X : Cx} : SlR X (rAnyS X) := fun pins s σ H x v vl vu lo hi sl Q I r1 h1 p1 p2 h => by
  obtain ⟨r, k1, k2⟩ := h
  exact k1 pins s σ H x v vl vu lo hi sl Q I r1 h1 p1 p2 k2
/-- a one-place operation -/
def UC (X : Cx) (f : Value → Sem Value) (δ : Sls) (d : Dt) (K : Sls → Dt → Prop) : Prop :=
  ∃ r : V → Hp → VK → Prop, UnR X f r ∧ ∀ S σ H v (Q : VK), Gd S H σ δ → Rep S H d v → Fw S H δ K Q → r v H Q
def rAnyU (X : Cx) (f : Value → Sem Value) : V → Hp → VK → Prop := fun x H Q => ∃ r : V → Hp → VK → Prop, UnR X f r ∧ r x H Q
theorem un_any {X : Cx} {f : Value → Sem Value} : UnR X f (rAnyU X f) := fun pins s σ H x v Q I r1 h => by
  obtain ⟨r, h1, h2⟩ := h
  exact h1 pins s σ H x v Q I r1 h2
/-- a call of a known value -/
def CC (X : Cx) (f : Value) (δ : Sls) (ds : List Dt) (K : Sls → Dt → Prop) : Prop :=
  ∃ r : List V → Hp → VK → Prop, CallR X f r ∧ ∀ S σ H vs (Q : VK), Gd S H σ δ → Reps S H ds vs → Fw S H δ K Q → r vs H Q
def rAnyC (X : Cx) (f : Value) : List V → Hp → VK → Prop := fun xs H Q => ∃ r : List V → Hp → VK → Prop, CallR X f r ∧ r xs H Q
theorem call_any {X : Cx} {f : Value} : CallR X f (rAnyC X f) := fun pins s σ H xs us Q I r1 h => by
  obtain ⟨r, h1, h2⟩ := h
  exact h1 pins s σ H xs us Q I r1 h2
/-- a built-in type's method -/
def MC (X : Cx) (id : String) (δ : Sls) (d : Dt) (ds : List Dt) (K : Sls → Dt → Prop) : Prop :=
  ∃ r : V → List V → Hp → VK → Prop, MtR X id r ∧ ∀ S σ H v vs (Q : VK), Gd S H σ δ → Rep S H d v → Reps S H ds vs → Fw S H δ K Q → r v vs H Q
def rAnyM (X : Cx) (id : String) : V → List V → Hp → VK → Prop := fun x xs H Q => ∃ r : V → List V → Hp → VK → Prop, MtR X id r ∧ r x xs H Q

section
variable {X : Cx} {e a b c : Expr} {es : List Expr} {δ : Sls} {K : Sls → Dt → Prop} {KB : Sls → Bool → Prop} {KA : Sls → List Dt → Prop} {pos p p2 : Pos} {d d1 d2 : Dt} {ds : List Dt}
theorem w_bin {op : Operator} (h : EK X a δ fun δ1 d1 => EK X b δ1 fun δ2 d2 => OC X (binaryOp op) δ2 d1 d2 K) : EK X (.BinOp a op b pos) δ K :=
  w_op (r := rAnyO X (binaryOp op)) (pe_op op_any ek_any ek_any) (h.imp fun δ1 d1 h1 => h1.imp fun δ2 d2 h2 => by
    obtain ⟨r, hr, h2⟩ := h2
    exact fun S σ H v1 v2 Q g r1 r2 q => ⟨r, hr, h2 S σ H v1 v2 Q g r1 r2 q⟩)
theorem w_cmp {op : CmpOp} (h : EK X a δ fun δ1 d1 => EK X b δ1 fun δ2 d2 => OC X (compareOp op) δ2 d1 d2 K) (hm : behindInMarks op b = false := by first | exact nomark _ | with_unfolding_all rfl) : EK X (.Compare a [op] [b] pos) δ K :=
  w_op (r := rAnyO X (compareOp op)) (pe_cmpR op_any ek_any ek_any hm) (h.imp fun δ1 d1 h1 => h1.imp fun δ2 d2 h2 => by
    obtain ⟨r, hr, h2⟩ := h2
    exact fun S σ H v1 v2 Q g r1 r2 q => ⟨r, hr, h2 S σ H v1 v2 Q g r1 r2 q⟩)
/-- .. as a test -/
def KT (KB : Sls → Bool → Prop) : Sls → Dt → Prop := fun δ d => ∃ b, d = .bl b ∧ KB δ b
theorem KT.mk {b : Bool} (h : KB δ b) : KT KB δ (.bl b) := ⟨b, rfl, h⟩
theorem t_cmp {op : CmpOp} (h : EK X a δ fun δ1 d1 => EK X b δ1 fun δ2 d2 => OC X (compareOp op) δ2 d1 d2 (KT KB)) (hm : behindInMarks op b = false := by first | exact nomark _ | with_unfolding_all rfl) : TK X (.Compare a [op] [b] pos) δ KB :=
  tk_of (pt_cmpR (r := rAnyO X (compareOp op)) op_any ek_any ek_any hm) fun σ H Q hq => by
    obtain ⟨S, g, q⟩ := hq
    refine te_seq g h fun v1 H1 d1 δ1 t1 g1 r1 h1 => te_seq g1 h1 fun v2 H2 d2 δ2 t2 g2 r2 h2 => ?_
    obtain ⟨r, hr, h2⟩ := h2
    refine ⟨r, hr, h2 S σ H2 v1 v2 _ g2 (r1.mv (t2.mv g1)) r2 fun v H' d ex r k => ?_⟩
    obtain ⟨b, rfl, k⟩ := k
    exact ⟨b, rep_bl.mp r, q b H' δ2 ((t1.trans t2).trans ex.stp) (g2.ex ex) k⟩
theorem w_chain {op op' : CmpOp} (h : EK X a δ fun δ1 d1 => EK X b δ1 fun δ2 d2 => OC X (compareOp op) δ2 d1 d2 fun δ3 d3 => ∃ k, d3 = .bl k ∧ if k = true then EK X c δ3 fun δ4 d4 => OC X (compareOp op') δ4 d2 d4 K else K δ3 (.bl false))
    (hm : lastMarks [op, op'] [b, c] = false := by with_unfolding_all rfl) : EK X (.Compare a [op, op'] [b, c] pos) δ K :=
  ek_of (pe_chain (r := rAnyO X (compareOp op)) (r' := rAnyO X (compareOp op')) op_any op_any ek_any ek_any ek_any hm) fun σ H Q hq => by
    obtain ⟨S, g, q⟩ := hq
    refine te_seq g h fun v1 H1 d1 δ1 t1 g1 r1 h1 => te_seq g1 h1 fun v2 H2 d2 δ2 t2 g2 r2 h2 => ?_
    obtain ⟨r, hr, h2⟩ := h2
    refine ⟨r, hr, h2 S σ H2 v1 v2 _ g2 (r1.mv (t2.mv g1)) r2 fun v H3 d ex r k => ?_⟩
    obtain ⟨b, rfl, k⟩ := k
    refine ⟨b, rep_bl.mp r, ?_⟩
    have t3 := (t1.trans t2).trans (ex.stp (δ := δ2))
    cases b with
    | false => exact q _ H3 _ δ2 t3 (g2.ex ex) (rep_bl.mpr rfl) k
    | true =>
      refine te_seq (g2.ex ex) (show EK X c δ2 _ from k) fun v4 H4 d4 δ4 t4 g4 r4 h4 => ?_
      obtain ⟨r', hr', h4⟩ := h4
      exact ⟨r', hr', h4 S σ H4 v2 v4 _ g4 (r2.mv ((ex.mv).trans (t4.mv (g2.ex ex)))) r4 fun v H5 d ex5 r k => q v H5 d δ4 ((t3.trans t4).trans ex5.stp) (g4.ex ex5) r k⟩
theorem t_chain {op op' : CmpOp} (h : EK X a δ fun δ1 d1 => EK X b δ1 fun δ2 d2 => OC X (compareOp op) δ2 d1 d2 fun δ3 d3 => ∃ k, d3 = .bl k ∧ if k = true then EK X c δ3 fun δ4 d4 => OC X (compareOp op') δ4 d2 d4 (KT KB) else KB δ3 false)
    (hm : lastMarks [op, op'] [b, c] = false := by with_unfolding_all rfl) : TK X (.Compare a [op, op'] [b, c] pos) δ KB :=
  tk_of (pt_chain (r := rAnyO X (compareOp op)) (r' := rAnyO X (compareOp op')) op_any op_any ek_any ek_any ek_any hm) fun σ H Q hq => by
    obtain ⟨S, g, q⟩ := hq
    refine te_seq g h fun v1 H1 d1 δ1 t1 g1 r1 h1 => te_seq g1 h1 fun v2 H2 d2 δ2 t2 g2 r2 h2 => ?_
    obtain ⟨r, hr, h2⟩ := h2
    refine ⟨r, hr, h2 S σ H2 v1 v2 _ g2 (r1.mv (t2.mv g1)) r2 fun v H3 d ex r k => ?_⟩
    obtain ⟨b, rfl, k⟩ := k
    refine ⟨b, rep_bl.mp r, ?_⟩
    have t3 := (t1.trans t2).trans (ex.stp (δ := δ2))
    cases b with
    | false => exact ⟨false, rfl, q _ H3 δ2 t3 (g2.ex ex) k⟩
    | true =>
      refine te_seq (g2.ex ex) (show EK X c δ2 _ from k) fun v4 H4 d4 δ4 t4 g4 r4 h4 => ?_
      obtain ⟨r', hr', h4⟩ := h4
      refine ⟨r', hr', h4 S σ H4 v2 v4 _ g4 (r2.mv ((ex.mv).trans (t4.mv (g2.ex ex)))) r4 fun v H5 d ex5 r k => ?_⟩
      obtain ⟨b, rfl, k⟩ := k
      exact ⟨b, rep_bl.mp r, q b H5 δ4 ((t3.trans t4).trans ex5.stp) (g4.ex ex5) k⟩
theorem w_un {op : UnaryOp} (h : EK X a δ fun δ1 d1 => UC X (unaryOp op) δ1 d1 K) : EK X (.UnaryOp op a pos) δ K :=
  ek_of (pe_un (r := rAnyU X (unaryOp op)) un_any ek_any) fun σ H Q hq => by
    obtain ⟨S, g, q⟩ := hq
    refine te_seq g h fun v1 H1 d1 δ1 t1 g1 r1 h1 => ?_
    obtain ⟨r, hr, h1⟩ := h1
    exact ⟨r, hr, h1 S σ H1 v1 Q g1 r1 fun v H' d ex r k => q v H' d δ1 (t1.trans ex.stp) (g1.ex ex) r k⟩
/-- a bool as a test -/
theorem t_val (h : EK X e δ (KT KB)) (he : ∀ whole, isTrue e X.env whole = (do let v ← whole; standAt e.pos; holding [v] (truthy v)) := by intro _; rfl) : TK X e δ KB :=
  tk_of (pt_val ek_any he) fun σ H Q hq => by
    obtain ⟨S, g, q⟩ := hq
    refine te_seq g h fun v1 H1 d1 δ1 t1 g1 r1 h1 => ?_
    obtain ⟨b, rfl, k⟩ := h1
    exact ⟨b, rep_bl.mp r1, q b H1 δ1 t1 g1 k⟩
theorem t_w (h : WK X e δ KB) : TK X e δ KB := tk_of (PW.pt wk_any) fun σ H Q hq => ⟨δ, KB, h, hq⟩
theorem p_and1 (h : TK X a δ KB) : WK X (.BoolOp .And [a] pos) δ KB := wk_of (pw_and1 tk_any) fun σ H Q hq => ⟨δ, KB, h, hq⟩
theorem p_or1 (h : TK X a δ KB) : WK X (.BoolOp .Or [a] pos) δ KB := wk_of (pw_or1 tk_any) fun σ H Q hq => ⟨δ, KB, h, hq⟩
theorem p_and {rest : List Expr} (h : TK X a δ fun δ1 k => if k = true then WK X (.BoolOp .And (b :: rest) pos) δ1 KB else KB δ1 false) : WK X (.BoolOp .And (a :: b :: rest) pos) δ KB :=
  wk_of (pw_and tk_any wk_any) fun σ H Q hq => by
    obtain ⟨S, g, q⟩ := hq
    refine tt_seq g h fun k H1 δ1 t1 g1 h1 => ?_
    cases k with
    | true => exact tw_seq g1 (show WK X _ δ1 _ from h1) fun k' H2 δ2 t2 g2 h2 => q k' H2 δ2 (t1.trans t2) g2 h2
    | false => exact q false H1 δ1 t1 g1 h1
theorem p_or {rest : List Expr} (h : TK X a δ fun δ1 k => if k = true then KB δ1 true else WK X (.BoolOp .Or (b :: rest) pos) δ1 KB) : WK X (.BoolOp .Or (a :: b :: rest) pos) δ KB :=
  wk_of (pw_or tk_any wk_any) fun σ H Q hq => by
    obtain ⟨S, g, q⟩ := hq
    refine tt_seq g h fun k H1 δ1 t1 g1 h1 => ?_
    cases k with
    | false => exact tw_seq g1 (show WK X _ δ1 _ from h1) fun k' H2 δ2 t2 g2 h2 => q k' H2 δ2 (t1.trans t2) g2 h2
    | true => exact q true H1 δ1 t1 g1 h1
theorem t_not (h : TK X a δ fun δ1 k => KB δ1 (!k)) : TK X (.UnaryOp .Not a pos) δ KB := tk_of (pt_not tk_any) fun σ H Q hq => by
  obtain ⟨S, g, q⟩ := hq
  exact tt_seq g h fun k H1 δ1 t1 g1 h1 => q _ H1 δ1 t1 g1 h1
/-- and, or, not of bools as values -/
theorem w_and1 {op} (h : EK X a δ K) : EK X (.BoolOp op [a] pos) δ K := ek_of (pe_one ek_any) fun σ H Q hq => ⟨δ, K, h, hq⟩
theorem w_and {rest : List Expr} (h : EK X a δ fun δ1 d => ∃ k, d = .bl k ∧ if k = true then EK X (.BoolOp .And (b :: rest) pos) δ1 K else K δ1 (.bl false)) : EK X (.BoolOp .And (a :: b :: rest) pos) δ K :=
  ek_of (pe_and ek_any ek_any) fun σ H Q hq => by
    obtain ⟨S, g, q⟩ := hq
    refine te_seq g h fun v H1 d1 δ1 t1 g1 r1 h1 => ?_
    obtain ⟨k, rfl, h1⟩ := h1
    refine ⟨k, rep_bl.mp r1, ?_⟩
    cases k with
    | true => exact te_seq g1 (show EK X _ δ1 _ from h1) fun v' H2 d2 δ2 t2 g2 r2 h2 => q v' H2 d2 δ2 (t1.trans t2) g2 r2 h2
    | false => exact q _ H1 _ δ1 t1 g1 (rep_bl.mpr rfl) h1
theorem w_not (h : EK X a δ fun δ1 d => ∃ k, d = .bl k ∧ K δ1 (.bl (!k))) : EK X (.UnaryOp .Not a pos) δ K := ek_of (pe_not ek_any) fun σ H Q hq => by
  obtain ⟨S, g, q⟩ := hq
  refine te_seq g h fun v H1 d1 δ1 t1 g1 r1 h1 => ?_
  obtain ⟨k, rfl, h1⟩ := h1
  exact ⟨k, rep_bl.mp r1, q _ H1 _ δ1 t1 g1 (rep_bl.mpr rfl) h1⟩
theorem w_if (h : TK X c δ fun δ1 k => if k = true then EK X a δ1 K else EK X b δ1 K) : EK X (.IfExp c a b pos) δ K := ek_of (pe_ifExp tk_any ek_any ek_any) fun σ H Q hq => by
  obtain ⟨S, g, q⟩ := hq
  refine tt_seq g h fun k H1 δ1 t1 g1 h1 => ?_
  cases k with
  | true => exact te_seq g1 (show EK X _ δ1 _ from h1) fun v' H2 d2 δ2 t2 g2 r2 h2 => q v' H2 d2 δ2 (t1.trans t2) g2 r2 h2
  | false => exact te_seq g1 (show EK X b δ1 _ from h1) fun v' H2 d2 δ2 t2 g2 r2 h2 => q v' H2 d2 δ2 (t1.trans t2) g2 r2 h2
/-- arguments -/
theorem a_nil (k : KA δ []) : AK X [] δ KA := ak_of pa_nil fun σ H Q hq => by
  obtain ⟨S, g, q⟩ := hq
  exact q [] H [] δ (Stp.refl H δ) g Reps.nil k
theorem a_cons (h : EK X e δ fun δ1 d => AK X es δ1 fun δ2 ds => KA δ2 (d :: ds)) (hs : starEach (e :: es) X.env = (false, eval e X.env) :: starEach es X.env := by rfl) : AK X (e :: es) δ KA :=
  ak_of (pa_cons ek_any ak_any hs) fun σ H Q hq => by
    obtain ⟨S, g, q⟩ := hq
    refine te_seq g h fun v H1 d1 δ1 t1 g1 r1 h1 => ta_seq g1 h1 fun vs H2 ds δ2 t2 g2 r2 h2 => ?_
    exact q _ H2 _ δ2 (t1.trans t2) g2 (Reps.cons (r1.mv (t2.mv g1)) r2) h2
theorem w_tup {x1} (h : AK X es δ fun δ1 ds => ds.length ≤ 1000 ∧ K δ1 (.tup ds)) : EK X (.Tuple es x1 pos) δ K := ek_of (pe_tup ak_any) fun σ H Q hq => by
  obtain ⟨S, g, q⟩ := hq
  refine ta_seq g h fun vs H1 ds δ1 t1 g1 r1 h1 => ⟨?_, fun p hp => ?_⟩
  · rw [r1.length]
    exact Nat.le_of_lt (small1000 h1.1)
  · exact Fw.tup (K := K) (δ := δ1) (fun v H' d ex r k => q v H' d δ1 (t1.trans ex.stp) (g1.ex ex) r k) g1 hp r1 h1.2
theorem w_lst (h : AK X es δ fun δ1 ds => ds.length ≤ 1000 ∧ K δ1 (.lst ds)) : EK X (.List es pos) δ K := ek_of (pe_lst ak_any) fun σ H Q hq => by
  obtain ⟨S, g, q⟩ := hq
  refine ta_seq g h fun vs H1 ds δ1 t1 g1 r1 h1 => ⟨?_, fun p hp => ?_⟩
  · rw [r1.length]
    exact Nat.le_of_lt (small1000 h1.1)
  · exact Fw.lst (K := K) (δ := δ1) (fun v H' d ex r k => q v H' d δ1 (t1.trans ex.stp) (g1.ex ex) r k) g1 hp r1 h1.2
theorem w_ix (h : EK X a δ fun δ1 d1 => EK X b δ1 fun δ2 d2 => XC X δ2 d1 d2 K) (hs : PlainIx b := by exact fun _ _ => rfl) : EK X (.Subscript a b pos) δ K :=
  w_op (r := rAnyX X) (pe_ix ix_any ek_any ek_any hs) (h.imp fun δ1 d1 h1 => h1.imp fun δ2 d2 h2 => by
    obtain ⟨r, hr, h2⟩ := h2
    exact fun S σ H v1 v2 Q g r1 r2 q => ⟨r, hr, h2 S σ H v1 v2 Q g r1 r2 q⟩)
/-- parts of slices -/
def tOK (δ : Sls) (K : Sls → Option Int → Prop) : TO := fun σ H Q => ∃ S, Gd S H σ δ ∧ ∀ o H' δ', Stp H δ H' δ' → Gd S H' σ δ' → K δ' o → Q o H'
def OK (X : Cx) (e : Option Expr) (δ : Sls) (K : Sls → Option Int → Prop) : Prop := PO X e (tOK δ K)
def tOA (X : Cx) (e : Option Expr) : TO := fun σ H Q => ∃ δ K, OK X e δ K ∧ tOK δ K σ H Q
theorem ok_any {o : Option Expr} : PO X o (tOA X o) := ⟨fun pins s σ H Q I h => by
  obtain ⟨δ, K, h1, h2⟩ := h
  exact h1.run pins s σ H Q I h2⟩
theorem o_none {KO : Sls → Option Int → Prop} (k : KO δ none) : OK X none δ KO := ⟨fun pins s σ H Q I hq => by
  obtain ⟨S, g, q⟩ := hq
  exact po_none.run pins s σ H Q I (q none H δ (Stp.refl H δ) g k)⟩
theorem o_some {KO : Sls → Option Int → Prop} (h : EK X e δ fun δ1 d => ∃ i, d = .int i ∧ KO δ1 (some i)) : OK X (some e) δ KO := ⟨fun pins s σ H Q I hq => by
  obtain ⟨S, g, q⟩ := hq
  refine (po_some ek_any).run pins s σ H Q I (te_seq g h fun v H1 d δ1 t1 g1 r1 h1 => ?_)
  obtain ⟨i, rfl, h1⟩ := h1
  exact ⟨i, rep_int.mp r1, q _ H1 δ1 t1 g1 h1⟩⟩
theorem w_slice {lo hi : Option Expr} (h : EK X e δ fun δ1 d => OK X lo δ1 fun δ2 l => OK X hi δ2 fun δ3 u => SC X δ3 d l u K) : EK X (.Subscript e (.Slice lo hi none p2) pos) δ K :=
  ek_of (pe_slice sl_any ek_any ok_any ok_any) fun σ H Q hq => by
    obtain ⟨S, g, q⟩ := hq
    refine te_seq g h fun v H1 d δ1 t1 g1 r1 h1 => ⟨δ1, _, h1, S, g1, fun l H2 δ2 t2 g2 h2 => ⟨δ2, _, h2, S, g2, fun u H3 δ3 t3 g3 h3 => ?_⟩⟩
    obtain ⟨r, hr, h3⟩ := h3
    exact ⟨r, hr, h3 S σ H3 v Q g3 (r1.mv ((t2.mv g1).trans (t3.mv g2))) fun v' H' d' ex r k => q v' H' d' δ3 (((t1.trans t2).trans t3).trans ex.stp) (g3.ex ex) r k⟩
/-- built-in calls -/
theorem w_callB {x : Str} {id : String} (hm : X.mg x = none) (hv : bootBuiltins x = some (.builtin id)) (h : AK X (e :: es) δ fun δ1 ds => CC X (.builtin id) δ1 ds K) (hg : Gl X x := by rfl) (hn : x ≠ "__name__" := by decide) (hdb : (x == ("__debug__" : Str)) = false := by decide)
    (he : starEach (e :: es) X.env = (false, eval e X.env) :: starEach es X.env := by rfl) (hpl : (backTo pos (starEach es X.env)).any (·.1) = false := by rfl) : EK X (.Call (.Name x p) (e :: es) [] pos) δ K :=
  ek_of (pe_callB (r := rAnyC X (.builtin id)) call_any hg hm hv ak_any hn hdb he hpl) fun σ H Q hq => by
    obtain ⟨S, g, q⟩ := hq
    refine ta_seq g h fun vs H1 ds δ1 t1 g1 r1 h1 => ?_
    obtain ⟨r, hr, h1⟩ := h1
    exact ⟨r, hr, h1 S σ H1 vs Q g1 r1 fun v H' d ex r k => q v H' d δ1 (t1.trans ex.stp) (g1.ex ex) r k⟩
theorem w_callTy {x : Str} {T : String} (hm : X.mg x = none) (hv : bootBuiltins x = some (.type T)) (h : AK X (e :: es) δ fun δ1 ds => CC X (.type T) δ1 ds K) (hg : Gl X x := by rfl) (hn : x ≠ "__name__" := by decide) (hdb : (x == ("__debug__" : Str)) = false := by decide)
    (he : starEach (e :: es) X.env = (false, eval e X.env) :: starEach es X.env := by rfl) (hpl : (backTo pos (starEach es X.env)).any (·.1) = false := by rfl) : EK X (.Call (.Name x p) (e :: es) [] pos) δ K :=
  ek_of (pe_callTy (r := rAnyC X (.type T)) call_any hg hm hv ak_any hn hdb he hpl) fun σ H Q hq => by
    obtain ⟨S, g, q⟩ := hq
    refine ta_seq g h fun vs H1 ds δ1 t1 g1 r1 h1 => ?_
    obtain ⟨r, hr, h1⟩ := h1
    exact ⟨r, hr, h1 S σ H1 vs Q g1 r1 fun v H' d ex r k => q v H' d δ1 (t1.trans ex.stp) (g1.ex ex) r k⟩
end

/-! ## operations on data -/
section
variable {X : Cx} {δ : Sls} {K : Sls → Dt → Prop} {i j : Int} {x y : Str} {b b' : Bool}
theorem oc_I0 {f : Value → Value → Sem Value} {g : Int → Int → V} {d : Dt} (ho : OpR X f (rI0 g)) (hf : Flat d (g i j)) (k : K δ d) : OC X f δ (.int i) (.int j) K :=
  ⟨_, ho, fun S σ H v1 v2 Q _ r1 r2 q => ⟨i, j, rep_int.mp r1, rep_int.mp r2, q.val hf.rep k⟩⟩
theorem oc_I {f : Value → Value → Sem Value} {C : Int → Int → Prop} {g : Int → Int → V} {d : Dt} (ho : OpR X f (rI C g)) (hc : C i j) (hf : Flat d (g i j)) (k : K δ d) : OC X f δ (.int i) (.int j) K :=
  ⟨_, ho, fun S σ H v1 v2 Q _ r1 r2 q => ⟨i, j, rep_int.mp r1, rep_int.mp r2, hc, q.val hf.rep k⟩⟩
theorem oc_add (k : K δ (.int (i + j))) : OC X (binaryOp .Add) δ (.int i) (.int j) K := oc_I0 (d := .int (i + j)) op_add rfl k
theorem oc_sub (k : K δ (.int (i - j))) : OC X (binaryOp .Sub) δ (.int i) (.int j) K := oc_I0 (d := .int (i - j)) op_sub rfl k
theorem oc_mul (h : (-(2 ^ 64) < i ∧ i < 2 ^ 64) ∨ (-(2 ^ 64) < j ∧ j < 2 ^ 64)) (k : K δ (.int (i * j))) : OC X (binaryOp .Mult) δ (.int i) (.int j) K := oc_I (d := .int (i * j)) op_mul h rfl k
theorem oc_mod (h : 0 < j) (k : K δ (.int (i % j))) : OC X (binaryOp .Mod) δ (.int i) (.int j) K := oc_I (d := .int (i % j)) op_mod h rfl k
theorem oc_fdiv (h : CDivN i j) (k : K δ (.int (i.fdiv j))) : OC X (binaryOp .FloorDiv) δ (.int i) (.int j) K := oc_I (d := .int (i.fdiv j)) op_fdivN h rfl k
theorem oc_pow (h : CPow i j) (k : K δ (.int (i ^ j.toNat))) : OC X (binaryOp .Pow) δ (.int i) (.int j) K := oc_I (d := .int (i ^ j.toNat)) op_pow h rfl k
theorem oc_lt (k : K δ (.bl (decide (i < j)))) : OC X (compareOp .Lt) δ (.int i) (.int j) K := oc_I0 (d := .bl (decide (i < j))) op_lt rfl k
theorem oc_le (k : K δ (.bl (decide (i ≤ j)))) : OC X (compareOp .LtE) δ (.int i) (.int j) K := oc_I0 (d := .bl (decide (i ≤ j))) op_le rfl k
theorem oc_gt (k : K δ (.bl (decide (j < i)))) : OC X (compareOp .Gt) δ (.int i) (.int j) K := oc_I0 (d := .bl (decide (j < i))) op_gt rfl k
theorem oc_ge (k : K δ (.bl (decide (j ≤ i)))) : OC X (compareOp .GtE) δ (.int i) (.int j) K := oc_I0 (d := .bl (decide (j ≤ i))) op_ge rfl k
theorem oc_adds (h : x.length + y.length ≤ 1000) (k : K δ (.str (x ++ y))) : OC X (binaryOp .Add) δ (.str x) (.str y) K :=
  ⟨_, op_add_str, fun S σ H v1 v2 Q _ r1 r2 q => ⟨x, y, rep_str.mp r1, rep_str.mp r2, Nat.le_of_lt (small1000 h), q.val (rep_str.mpr rfl) k⟩⟩
/-- == of scalars -/
theorem oc_eq {d1 d2 : Dt} {v1 v2 : V} (h1 : Flat d1 v1) (h2 : Flat d2 v2) (hs : scal v1 v2 = true) (k : K δ (.bl (decide (v1 = v2)))) : OC X (compareOp .Eq) δ d1 d2 K :=
  ⟨_, op_eq, fun S σ H u1 u2 Q _ r1 r2 q => by
    have e1 : u1 = v1 := by
      cases d1 <;> first | exact (rep_non.mp r1).trans h1.symm | exact (rep_bl.mp r1).trans h1.symm | exact (rep_int.mp r1).trans h1.symm | exact (rep_str.mp r1).trans h1.symm | exact (rep_ty.mp r1).trans h1.symm | exact h1.elim
    have e2 : u2 = v2 := by
      cases d2 <;> first | exact (rep_non.mp r2).trans h2.symm | exact (rep_bl.mp r2).trans h2.symm | exact (rep_int.mp r2).trans h2.symm | exact (rep_str.mp r2).trans h2.symm | exact (rep_ty.mp r2).trans h2.symm | exact h2.elim
    subst e1 e2
    exact ⟨hs, q.val (rep_bl.mpr rfl) k⟩⟩
theorem oc_ne {d1 d2 : Dt} {v1 v2 : V} (h1 : Flat d1 v1) (h2 : Flat d2 v2) (hs : scal v1 v2 = true) (k : K δ (.bl (!decide (v1 = v2)))) : OC X (compareOp .NotEq) δ d1 d2 K :=
  ⟨_, op_ne, fun S σ H u1 u2 Q _ r1 r2 q => by
    have e1 : u1 = v1 := by
      cases d1 <;> first | exact (rep_non.mp r1).trans h1.symm | exact (rep_bl.mp r1).trans h1.symm | exact (rep_int.mp r1).trans h1.symm | exact (rep_str.mp r1).trans h1.symm | exact (rep_ty.mp r1).trans h1.symm | exact h1.elim
    have e2 : u2 = v2 := by
      cases d2 <;> first | exact (rep_non.mp r2).trans h2.symm | exact (rep_bl.mp r2).trans h2.symm | exact (rep_int.mp r2).trans h2.symm | exact (rep_str.mp r2).trans h2.symm | exact (rep_ty.mp r2).trans h2.symm | exact h2.elim
    subst e1 e2
    exact ⟨hs, q.val (rep_bl.mpr rfl) k⟩⟩
theorem dI : decide (V.int i = V.int j) = decide (i = j) := by rw [Bool.eq_iff_iff]; simp
theorem dS : decide (V.str x = V.str y) = decide (x = y) := by rw [Bool.eq_iff_iff]; simp
theorem dB : decide (V.bl b = V.bl b') = decide (b = b') := by rw [Bool.eq_iff_iff]; simp
theorem oc_eqI (k : K δ (.bl (decide (i = j)))) : OC X (compareOp .Eq) δ (.int i) (.int j) K := oc_eq (v1 := .int i) (v2 := .int j) rfl rfl rfl (by rw [dI]; exact k)
theorem oc_neI (k : K δ (.bl (!decide (i = j)))) : OC X (compareOp .NotEq) δ (.int i) (.int j) K := oc_ne (v1 := .int i) (v2 := .int j) rfl rfl rfl (by rw [dI]; exact k)
theorem oc_eqS (k : K δ (.bl (decide (x = y)))) : OC X (compareOp .Eq) δ (.str x) (.str y) K := oc_eq (v1 := .str x) (v2 := .str y) rfl rfl rfl (by rw [dS]; exact k)
theorem oc_neS (k : K δ (.bl (!decide (x = y)))) : OC X (compareOp .NotEq) δ (.str x) (.str y) K := oc_ne (v1 := .str x) (v2 := .str y) rfl rfl rfl (by rw [dS]; exact k)
theorem oc_eqB (k : K δ (.bl (decide (b = b')))) : OC X (compareOp .Eq) δ (.bl b) (.bl b') K := oc_eq (v1 := .bl b) (v2 := .bl b') rfl rfl rfl (by rw [dB]; exact k)
theorem oc_neB (k : K δ (.bl (!decide (b = b')))) : OC X (compareOp .NotEq) δ (.bl b) (.bl b') K := oc_ne (v1 := .bl b) (v2 := .bl b') rfl rfl rfl (by rw [dB]; exact k)
/-- is None -/
def Dt.isNon : Dt → Bool
  | .non => true
  | _ => false
theorem isNon_rep {S : Addr → Prop} {H : Hp} {d : Dt} {v : V} (r : Rep S H d v) : decide (v = .non) = d.isNon := by
  cases d with
  | non => rw [rep_non.mp r]; rfl
  | bl b => rw [rep_bl.mp r]; rfl
  | int i => rw [rep_int.mp r]; rfl
  | str i => rw [rep_str.mp r]; rfl
  | ty i => rw [rep_ty.mp r]; rfl
  | lst ds => obtain ⟨a, vs, e, _⟩ := rep_lst.mp r; rw [e]; rfl
  | tup ds => obtain ⟨a, vs, e, _⟩ := rep_tup.mp r; rw [e]; rfl
  | ins C ns ds => obtain ⟨a, dx, vs, e, _⟩ := rep_ins.mp r; rw [e]; rfl
theorem oc_isN {d : Dt} (k : K δ (.bl d.isNon)) : OC X (compareOp .Is) δ d .non K := ⟨_, op_isN, fun S σ H v1 v2 Q _ r1 r2 q => ⟨rep_non.mp r2, by rw [isNon_rep r1]; exact q.val (rep_bl.mpr rfl) k⟩⟩
theorem oc_notN {d : Dt} (k : K δ (.bl (!d.isNon))) : OC X (compareOp .IsNot) δ d .non K := ⟨_, op_notN, fun S σ H v1 v2 Q _ r1 r2 q => ⟨rep_non.mp r2, by rw [isNon_rep r1]; exact q.val (rep_bl.mpr rfl) k⟩⟩
theorem oc_notB (k : K δ (.bl (!decide (b = b')))) : OC X (compareOp .IsNot) δ (.bl b) (.bl b') K := ⟨_, op_notBl, fun S σ H v1 v2 Q _ r1 r2 q => ⟨b, b', rep_bl.mp r1, rep_bl.mp r2, q.val (rep_bl.mpr rfl) k⟩⟩
/-- lists and tuples joined -/
theorem oc_cat {ds es : List Dt} (hl : ds.length + es.length ≤ 1000) (k : K δ (.lst (ds ++ es))) : OC X (binaryOp .Add) δ (.lst ds) (.lst es) K := ⟨_, op_cat, fun S σ H v1 v2 Q g r1 r2 q => by
  obtain ⟨a, vs, rfl, _, ha, h1⟩ := rep_lst.mp r1
  obtain ⟨b, us, rfl, _, hb, h2⟩ := rep_lst.mp r2
  exact ⟨a, b, vs, us, rfl, rfl, ha, hb, by rw [h1.length, h2.length]; exact Nat.le_of_lt (small1000 hl), fun p hp => q.lst g hp (h1.append h2) k⟩⟩
theorem oc_catT {ds es : List Dt} (hl : ds.length + es.length ≤ 1000) (h0 : ds ≠ []) (h1 : es ≠ []) (k : K δ (.tup (ds ++ es))) : OC X (binaryOp .Add) δ (.tup ds) (.tup es) K := ⟨_, op_catA, fun S σ H v1 v2 Q g r1 r2 q => by
  obtain ⟨a, vs, rfl, _, ha, k1⟩ := rep_tup.mp r1
  obtain ⟨b, us, rfl, _, hb, k2⟩ := rep_tup.mp r2
  have e1 : vs ≠ [] := fun z => h0 (List.eq_nil_of_length_eq_zero (by rw [← k1.length, z]; rfl))
  have e2 : us ≠ [] := fun z => h1 (List.eq_nil_of_length_eq_zero (by rw [← k2.length, z]; rfl))
  exact ⟨a, b, vs, us, rfl, rfl, .inl (.inl ha), .inl (.inl hb), by rw [k1.length, k2.length]; exact Nat.le_of_lt (small1000 hl), fun z => absurd z e1, fun _ z => absurd z e2, fun _ _ p hp => q.tup g hp (k1.append k2) k⟩⟩
/-- subscripts -/
theorem atI_rep {S : Addr → Prop} {H : Hp} {ds : List Dt} {vs : List V} {d : Dt} (r : Reps S H ds vs) (h : atI ds i = some d) : ∃ v, atI vs i = some v ∧ Rep S H d v := by
  unfold atI at h ⊢
  rw [r.length]
  cases e : ixN ds.length i with
  | none => rw [e] at h; cases h
  | some j =>
    rw [e] at h
    exact r.get h
theorem xc_lst {ds : List Dt} {d : Dt} (h : atI ds i = some d) (k : K δ d) : XC X δ (.lst ds) (.int i) K := ⟨_, ix_list, fun S σ H v1 v2 Q g r1 r2 q => by
  obtain ⟨a, vs, rfl, _, ha, h1⟩ := rep_lst.mp r1
  obtain ⟨v, hv, r⟩ := atI_rep h1 h
  exact ⟨a, vs, i, v, rfl, rep_int.mp r2, .inl (.inl ha), hv, q.val r k⟩⟩
theorem xc_tup {ds : List Dt} {d : Dt} (h : atI ds i = some d) (k : K δ d) : XC X δ (.tup ds) (.int i) K := ⟨_, ix_tup, fun S σ H v1 v2 Q g r1 r2 q => by
  obtain ⟨a, vs, rfl, _, ha, h1⟩ := rep_tup.mp r1
  obtain ⟨v, hv, r⟩ := atI_rep h1 h
  exact ⟨a, vs, i, v, rfl, rep_int.mp r2, .inl (.inl ha), hv, q.val r k⟩⟩
theorem xc_str {c : Nat} (hl : x.length ≤ 1000) (h : atI x.cps.toList i = some c) (k : K δ (.str ⟨#[c]⟩)) : XC X δ (.str x) (.int i) K := ⟨_, ix_str, fun S σ H v1 v2 Q g r1 r2 q =>
  ⟨x, i, c, rep_str.mp r1, rep_int.mp r2, Nat.le_of_lt (small1000 hl), h, q.val (rep_str.mpr rfl) k⟩⟩
/-- slices -/
def cutD (xs : List Dt) (lo hi : Option Int) : List Dt := (xs.drop (HT.sIx xs.length 0 lo)).take (HT.sIx xs.length xs.length hi - HT.sIx xs.length 0 lo)
theorem cut_rep {S : Addr → Prop} {H : Hp} {ds : List Dt} {vs : List V} {lo hi : Option Int} (r : Reps S H ds vs) : Reps S H (cutD ds lo hi) (cutV vs lo hi) := by
  unfold cutD cutV
  rw [r.length]
  exact (r.drop _).take _
theorem sc_lst {ds : List Dt} {lo hi : Option Int} (k : K δ (.lst (cutD ds lo hi))) : SC X δ (.lst ds) lo hi K := ⟨_, sl_list, fun S σ H v Q g r q => by
  obtain ⟨a, vs, rfl, _, ha, h1⟩ := rep_lst.mp r
  exact ⟨a, vs, rfl, .inl (.inl ha), fun p hp => q.lst g hp (cut_rep h1) k⟩⟩
theorem cutV_whole {vs : List V} {lo hi : Option Int} (h : HT.sIx vs.length 0 lo = 0 ∧ HT.sIx vs.length vs.length hi = vs.length) : cutV vs lo hi = vs := by
  unfold cutV
  rw [h.1, h.2]
  simp
theorem sc_tup {ds : List Dt} {lo hi : Option Int} (k : K δ (.tup (cutD ds lo hi))) : SC X δ (.tup ds) lo hi K := ⟨_, sl_tupA, fun S σ H v Q g r q => by
  obtain ⟨a, vs, rfl, hs, ha, h1⟩ := rep_tup.mp r
  refine ⟨a, vs, rfl, .inl (.inl ha), fun hw => ?_, fun _ p hp => q.tup g hp (cut_rep h1) k⟩
  refine q.val (rep_tup.mpr ⟨a, vs, rfl, hs, ha, ?_⟩) k
  have := cut_rep (lo := lo) (hi := hi) h1
  rw [cutV_whole hw] at this
  exact this⟩
theorem uc_neg (k : K δ (.int (-i))) : UC X (unaryOp .USub) δ (.int i) K := ⟨_, un_neg, fun S σ H v Q g r q => ⟨i, rep_int.mp r, q.val (rep_int.mpr rfl) k⟩⟩
/-- built-in calls -/
theorem reps1 {S : Addr → Prop} {H : Hp} {d : Dt} {vs : List V} (r : Reps S H [d] vs) : ∃ v, vs = [v] ∧ Rep S H d v := by
  obtain ⟨v, r', rfl, h1, h2⟩ := reps_cons.mp r
  rw [reps_nil.mp h2]
  exact ⟨v, rfl, h1⟩
theorem reps2 {S : Addr → Prop} {H : Hp} {d d' : Dt} {vs : List V} (r : Reps S H [d, d'] vs) : ∃ v v', vs = [v, v'] ∧ Rep S H d v ∧ Rep S H d' v' := by
  obtain ⟨v, r', rfl, h1, h2⟩ := reps_cons.mp r
  obtain ⟨v', rfl, h3⟩ := reps1 h2
  exact ⟨v, v', rfl, h1, h3⟩
theorem cc_lenL {ds : List Dt} (k : K δ (.int ds.length)) : CC X (.builtin "len") δ [.lst ds] K := ⟨_, call_len_seq, fun S σ H vs Q g r q => by
  obtain ⟨v, rfl, r1⟩ := reps1 r
  obtain ⟨a, us, rfl, hs, ha, h1⟩ := rep_lst.mp r1
  exact ⟨a, us, rfl, .inl (.inl (.inl ha)), by rw [h1.length]; exact q.val (rep_int.mpr rfl) k⟩⟩
theorem cc_lenT {ds : List Dt} (k : K δ (.int ds.length)) : CC X (.builtin "len") δ [.tup ds] K := ⟨_, call_len_seq, fun S σ H vs Q g r q => by
  obtain ⟨v, rfl, r1⟩ := reps1 r
  obtain ⟨a, us, rfl, hs, ha, h1⟩ := rep_tup.mp r1
  exact ⟨a, us, rfl, .inr (.inl (.inl ha)), by rw [h1.length]; exact q.val (rep_int.mpr rfl) k⟩⟩
theorem cc_abs (k : K δ (.int (if i < 0 then -i else i))) : CC X (.builtin "abs") δ [.int i] K := ⟨_, call_abs, fun S σ H vs Q g r q => by
  obtain ⟨v, rfl, r1⟩ := reps1 r
  exact ⟨i, by rw [rep_int.mp r1], q.val (rep_int.mpr rfl) k⟩⟩
theorem cc_max2 (k : K δ (.int (if j > i then j else i))) (hc : X.calm = true := by rfl) : CC X (.builtin "max") δ [.int i, .int j] K := ⟨_, call_max2 hc, fun S σ H vs Q g r q => by
  obtain ⟨v, v', rfl, r1, r2⟩ := reps2 r
  exact ⟨i, j, by rw [rep_int.mp r1, rep_int.mp r2], q.val (rep_int.mpr rfl) k⟩⟩
theorem cc_min2 (k : K δ (.int (if j < i then j else i))) (hc : X.calm = true := by rfl) : CC X (.builtin "min") δ [.int i, .int j] K := ⟨_, call_min2 hc, fun S σ H vs Q g r q => by
  obtain ⟨v, v', rfl, r1, r2⟩ := reps2 r
  exact ⟨i, j, by rw [rep_int.mp r1, rep_int.mp r2], q.val (rep_int.mpr rfl) k⟩⟩
theorem cc_intB (k : K δ (.int (if b then 1 else 0))) : CC X (.type "int") δ [.bl b] K := ⟨_, call_int1, fun S σ H vs Q g r q => by
  obtain ⟨v, rfl, r1⟩ := reps1 r
  exact .inr ⟨b, by rw [rep_bl.mp r1], q.val (rep_int.mpr rfl) k⟩⟩
theorem cc_sum {ns : List Int} (k : K δ (.int ns.sum)) (hc : X.calm = true := by rfl) : CC X (.builtin "sum") δ [.lst (ns.map Dt.int)] K := ⟨_, cr_sum hc, fun S σ H vs Q g r q => by
  obtain ⟨v, rfl, r1⟩ := reps1 r
  obtain ⟨a, us, rfl, hs, ha, h1⟩ := rep_lst.mp r1
  rw [Reps.ints.mp h1] at ha
  exact ⟨a, ns, rfl, .inl (.inl ha), q.val (rep_int.mpr rfl) k⟩⟩
theorem cc_all {bs : List Bool} (k : K δ (.bl (bs.all id))) (hc : X.calm = true := by rfl) : CC X (.builtin "all") δ [.lst (bs.map Dt.bl)] K := ⟨_, cr_all hc, fun S σ H vs Q g r q => by
  obtain ⟨v, rfl, r1⟩ := reps1 r
  obtain ⟨a, us, rfl, hs, ha, h1⟩ := rep_lst.mp r1
  rw [Reps.bls.mp h1] at ha
  exact ⟨a, bs, rfl, .inl (.inl ha), q.val (rep_bl.mpr rfl) k⟩⟩
theorem cc_tupL {ds : List Dt} (k : K δ (.tup ds)) : CC X (.type "tuple") δ [.lst ds] K := ⟨_, call_tuple_of, fun S σ H vs Q g r q => by
  obtain ⟨v, rfl, r1⟩ := reps1 r
  obtain ⟨a, us, rfl, hs, ha, h1⟩ := rep_lst.mp r1
  exact ⟨a, us, rfl, .inl ⟨.inl (.inl ha), fun l hl => q.tup g hl h1 k⟩⟩⟩
/-- a built-in class as a value -/
theorem w_ty {x' : Str} {T : String} {pos : Pos} (hm : X.mg x' = none) (hv : bootBuiltins x' = some (.type T)) (k : K δ (.ty T)) (hg : Gl X x' := by rfl) (hn : x' ≠ "__name__" := by decide) (hd : (x' == ("__debug__" : Str)) = false := by decide) : EK X (.Name x' pos) δ K :=
  w_c (d := .ty T) (pe_bltn (v := .ty T) hg hm hv rfl hn hd) rfl k
def Dt.kind : Dt → Option String
  | .non => some "NoneType"
  | .bl _ => some "bool"
  | .int _ => some "int"
  | .str _ => some "str"
  | .lst _ => some "list"
  | .tup _ => some "tuple"
  | _ => none
theorem kind_tyx {S : Addr → Prop} {H : Hp} {d : Dt} {v : V} {T : String} (hd : d.kind = some T) (r : Rep S H d v) : TyX X.K H v (.type T) := by
  cases d with
  | non => cases hd; rw [rep_non.mp r]; exact .base .non
  | bl b => cases hd; rw [rep_bl.mp r]; exact .base (.bl b)
  | int i => cases hd; rw [rep_int.mp r]; exact .base (.int i)
  | str i => cases hd; rw [rep_str.mp r]; exact .base (.str i)
  | ty i => cases hd
  | lst ds => cases hd; obtain ⟨a, vs, e, _, ha, _⟩ := rep_lst.mp r; rw [e]; exact .base (.lst ha)
  | tup ds => cases hd; obtain ⟨a, vs, e, _, ha, _⟩ := rep_tup.mp r; rw [e]; exact .base (.tup ha)
  | ins C ns ds => cases hd
theorem cc_isi {d : Dt} {T U : String} {b : Bool} (hd : d.kind = some T) (hb : PySem.W.kitOne X.K (.type T) (.type U) = some b) (k : K δ (.bl b)) : CC X (.builtin "isinstance") δ [d, .ty U] K := ⟨_, call_isi, fun S σ H vs Q g r q => by
  obtain ⟨v, v', rfl, r1, r2⟩ := reps2 r
  exact ⟨v, v', _, _, b, rfl, by rw [rep_ty.mp r2]; exact .ty U, kind_tyx hd r1, hb, q.val (rep_bl.mpr rfl) k⟩⟩
theorem cc_isi2 {d : Dt} {T U W : String} {b : Bool} (hd : d.kind = some T) (hb : PySem.W.kitAny X.K (.type T) [.type U, .type W] = some b) (k : K δ (.bl b)) : CC X (.builtin "isinstance") δ [d, .tup [.ty U, .ty W]] K := ⟨_, call_isiT, fun S σ H vs Q g r q => by
  obtain ⟨v, v', rfl, r1, r2⟩ := reps2 r
  obtain ⟨a, us, rfl, _, ha, h1⟩ := rep_tup.mp r2
  obtain ⟨u1, u2, rfl, k1, k2⟩ := reps2 h1
  rw [rep_ty.mp k1, rep_ty.mp k2] at ha
  exact ⟨v, a, _, _, [.type U, .type W], b, rfl, ha, .cons (.ty U) (.cons (.ty W) .nil), kind_tyx hd r1, hb, q.val (rep_bl.mpr rfl) k⟩⟩
end
end Pr

end Text_P2
section Text_P3
set_option maxHeartbeats 4000000
namespace Pr
open PySem PySem.Spec PyProof.Rows L2
/-! ## slots stored -/
theorem adrs_set {e e' : Sl} : ∀ {δ : Sls} {i : Nat}, δ[i]? = some e → e.adr = [] → e'.adr = [] → adrs (δ.set i e') = adrs δ
  | [], _, h, _, _ => by simp at h
  | s :: r, 0, h, h1, h2 => by
    have q : s = e := by simpa using h
    subst q
    show e'.adr ++ adrs r = s.adr ++ adrs r
    rw [h1, h2]
  | s :: r, i + 1, h, h1, h2 => by
    show s.adr ++ adrs (r.set i e') = s.adr ++ adrs r
    rw [adrs_set (i := i) (by simpa using h) h1 h2]
theorem adm_put {e e' : Sl} : ∀ {δ : Sls} {i : Nat}, δ[i]? = some e → e'.adr = e.adr → (δ.set i e').map Sl.adr = δ.map Sl.adr
  | [], _, h, _ => by simp at h
  | s :: r, 0, h, h1 => by
    have q : s = e := by simpa using h
    subst q
    show e'.adr :: r.map Sl.adr = s.adr :: r.map Sl.adr
    rw [h1]
  | s :: r, i + 1, h, h1 => by
    show s.adr :: (r.set i e').map Sl.adr = s.adr :: r.map Sl.adr
    rw [adm_put (i := i) (by simpa using h) h1]
theorem adm_set {e e' : Sl} {δ : Sls} {i : Nat} (h : δ[i]? = some e) (h1 : e.adr = []) (h2 : e'.adr = []) : (δ.set i e').map Sl.adr = δ.map Sl.adr := adm_put h (h2.trans h1.symm)
theorem adrs_put {e e' : Sl} : ∀ {δ : Sls} {i : Nat}, δ[i]? = some e → e'.adr = e.adr → adrs (δ.set i e') = adrs δ
  | [], _, h, _ => by simp at h
  | s :: r, 0, h, h1 => by
    have q : s = e := by simpa using h
    subst q
    show e'.adr ++ adrs r = s.adr ++ adrs r
    rw [h1]
  | s :: r, i + 1, h, h1 => by
    show s.adr ++ adrs (r.set i e') = s.adr ++ adrs r
    rw [adrs_put (i := i) (by simpa using h) h1]
theorem adrs_new {e e' : Sl} : ∀ {δ : Sls} {i : Nat}, δ[i]? = some e → e.adr = [] → (adrs (δ.set i e')).Perm (e'.adr ++ adrs δ)
  | [], _, h, _ => by simp at h
  | s :: r, 0, h, h1 => by
    have q : s = e := by simpa using h
    subst q
    show (e'.adr ++ adrs r).Perm (e'.adr ++ (s.adr ++ adrs r))
    rw [h1, List.nil_append]
  | s :: r, i + 1, h, h1 => by
    show (s.adr ++ adrs (r.set i e')).Perm (e'.adr ++ (s.adr ++ adrs r))
    refine ((adrs_new (i := i) (by simpa using h) h1).append_left s.adr).trans ?_
    rw [← List.append_assoc, ← List.append_assoc]
    exact (List.perm_append_comm).append_right _
theorem adrs_drop {e e' : Sl} : ∀ {δ : Sls} {i : Nat}, δ[i]? = some e → e'.adr = [] → (adrs δ).Perm (e.adr ++ adrs (δ.set i e'))
  | [], _, h, _ => by simp at h
  | s :: r, 0, h, h1 => by
    have q : s = e := by simpa using h
    subst q
    show (s.adr ++ adrs r).Perm (s.adr ++ (e'.adr ++ adrs r))
    rw [h1, List.nil_append]
  | s :: r, i + 1, h, h1 => by
    show (s.adr ++ adrs r).Perm (e.adr ++ (s.adr ++ adrs (r.set i e')))
    refine ((adrs_drop (i := i) (by simpa using h) h1).append_left s.adr).trans ?_
    rw [← List.append_assoc, ← List.append_assoc]
    exact (List.perm_append_comm).append_right _
section
variable {S S' : Addr → Prop} {H H' : Hp} {σ : L2.St} {δ δ' : Sls} {i : Nat} {e : Sl} {d : Dt} {ds : List Dt} {v : V} {p : Addr}
theorem Gd.put (g : Gd S H σ δ) (h : δ[i]? = some e) {e' : Sl} (ho : SlOk S H e' (some v)) (hn : (adrs (δ.set i e')).Nodup) : Gd S H (σ.set i (some v)) (δ.set i e') := by
  refine ⟨by rw [List.length_set, List.length_set, g.len], fun j x hx => ?_, g.live, hn⟩
  have hi : i < δ.length := (List.getElem?_eq_some_iff.mp h).1
  by_cases hj : i = j
  · subst hj
    rw [List.getElem?_set_self hi] at hx
    cases hx
    exact ⟨some v, List.getElem?_set_self (by rw [g.len]; exact hi), ho⟩
  · rw [List.getElem?_set_ne hj] at hx
    obtain ⟨o, h1, h2⟩ := g.ok j x hx
    exact ⟨o, by rw [List.getElem?_set_ne hj]; exact h1, h2⟩
theorem Gd.set (g : Gd S H σ δ) (h : δ[i]? = some e) (he : e.adr = []) (r : Rep S H d v) : Gd S H (σ.set i (some v)) (δ.set i (.v d)) :=
  g.put h ⟨v, rfl, r⟩ (by rw [adrs_set h he rfl]; exact g.nd)
/-- S grows by addresses that nothing stood at -/
theorem SlOk.mv {x : Sl} {o : Option V} (h : SlOk S H x o) (m : Mv S H S' H') (hs : ∀ a, S a → S' a) (hk : ∀ a ∈ x.adr, ∀ u, H a = some u → H' a = some u) : SlOk S' H' x o := by
  have own : ∀ {q : Addr} {ds : List Dt}, OwnL S H q ds → (∀ u, H q = some u → H' q = some u) → OwnL S' H' q ds := fun {q ds} h k => by
    obtain ⟨h1, vs, h2, h3⟩ := h
    exact ⟨hs _ h1, vs, k _ h2, h3.mv m⟩
  cases x with
  | any => trivial
  | v d =>
    obtain ⟨v, h1, h2⟩ := h
    exact ⟨v, h1, h2.mv m⟩
  | own q ds => exact ⟨h.1, own h.2 (hk q (by simp [Sl.adr]))⟩
  | box q n =>
    obtain ⟨h1, h2, a, b, c, h3, r⟩ := h
    exact ⟨h1, hs _ h2, a, b, c, hk q (by simp [Sl.adr]) _ h3, r⟩
  | obj q C fs =>
    obtain ⟨h1, h2, dx, vs, h3, h4⟩ := h
    refine ⟨h1, hs _ h2, dx, vs, hk q (by simp [Sl.adr]) _ h3, ?_⟩
    have go : ∀ {fs : List (Str × Fl)} {vs : List (Str × V)}, FlsOk S H fs vs → (∀ a ∈ adrF fs, ∀ u, H a = some u → H' a = some u) → FlsOk S' H' fs vs := by
      intro fs
      induction fs with
      | nil => intro vs h _; exact h
      | cons f fs ih =>
        intro vs h hk
        obtain ⟨w, r, h0, k1, k2⟩ := h
        refine ⟨w, r, h0, ?_, ih k2 fun a ha => hk a (List.mem_append_right _ ha)⟩
        obtain ⟨n, f⟩ := f
        cases f with
        | v d => exact Rep.mv m k1
        | own q ds => exact ⟨k1.1, own k1.2 (hk q (List.mem_append_left _ (by simp [Fl.adr])))⟩
    exact go h4 fun a ha => hk a (by simp [Sl.adr, ha])
theorem Gd.mv (g : Gd S H σ δ) (m : Mv S H S' H') (hs : ∀ a, S a → S' a) (hk : ∀ a ∈ adrs δ, ∀ u, H a = some u → H' a = some u) (hl : ∀ a, S' a → H' a ≠ none) : Gd S' H' σ δ :=
  ⟨g.len, fun j x hx => by
    obtain ⟨o, h1, h2⟩ := g.ok j x hx
    exact ⟨o, h1, h2.mv m hs fun a ha => hk a (mem_adrs_of hx ha)⟩, hl, g.nd⟩
/-- a new object that shall change -/
def plus (S : Addr → Prop) (p : Addr) : Addr → Prop := fun a => S a ∨ a = p
theorem mv_plus (h : H p = none) {o : HO} : Mv S H (plus S p) (upd H p o) := fun a u h1 h2 => by
  have ne : a ≠ p := ne_of_none h2 h
  exact ⟨fun z => z.elim h1 ne, by rw [upd_ne ne]; exact h2⟩
theorem Gd.grow (g : Gd S H σ δ) (h : H p = none) {o : HO} : Gd (plus S p) (upd H p o) σ δ :=
  g.mv (mv_plus h) (fun a z => .inl z) (fun a ha u hu => Ex.new h _ _ hu) fun a z => by
    rcases z with z | z
    · intro e
      exact g.live a z ((Ex.new (o := o) h).free e)
    · rw [z, upd_same]
      exact fun e => by cases e
theorem SlOk.shrink {x : Sl} {o : Option V} (h : SlOk S H x o) (hs : ∀ a, S' a → S a) (hk : ∀ a ∈ x.adr, S' a) : SlOk S' H x o := by
  have m : Mv S H S' H := fun a u n z => ⟨fun q => n (hs a q), z⟩
  have own : ∀ {q : Addr} {ds : List Dt}, S' q → OwnL S H q ds → OwnL S' H q ds := fun {q ds} k h => ⟨k, h.2.elim fun vs h => ⟨vs, h.1, h.2.mv m⟩⟩
  cases x with
  | any => trivial
  | v d =>
    obtain ⟨v, h1, h2⟩ := h
    exact ⟨v, h1, h2.mv m⟩
  | own q ds => exact ⟨h.1, own (hk q (by simp [Sl.adr])) h.2⟩
  | box q n => exact ⟨h.1, hk q (by simp [Sl.adr]), h.2.2⟩
  | obj q C fs =>
    obtain ⟨h1, h2, dx, vs, h3, h4⟩ := h
    refine ⟨h1, hk q (by simp [Sl.adr]), dx, vs, h3, ?_⟩
    have go : ∀ {fs : List (Str × Fl)} {vs : List (Str × V)}, FlsOk S H fs vs → (∀ a ∈ adrF fs, S' a) → FlsOk S' H fs vs := by
      intro fs
      induction fs with
      | nil => intro vs h _; exact h
      | cons f fs ih =>
        intro vs h hk
        obtain ⟨w, r, h0, k1, k2⟩ := h
        refine ⟨w, r, h0, ?_, ih k2 fun a ha => hk a (List.mem_append_right _ ha)⟩
        obtain ⟨n, f⟩ := f
        cases f with
        | v d => exact Rep.mv m k1
        | own q ds => exact ⟨k1.1, own (hk q (List.mem_append_left _ (by simp [Fl.adr]))) k1.2⟩
    exact go h4 fun a ha => hk a (by simp [Sl.adr, ha])
theorem Gd.shrink (g : Gd S H σ δ) (hs : ∀ a, S' a → S a) (hk : ∀ a ∈ adrs δ, S' a) : Gd S' H σ δ :=
  ⟨g.len, fun j x hx => by
    obtain ⟨o, h1, h2⟩ := g.ok j x hx
    exact ⟨o, h1, h2.shrink hs fun a ha => hk a (mem_adrs_of hx ha)⟩, fun a z => g.live a (hs a z), g.nd⟩
theorem Gd.fresh (g : Gd S H σ δ) (h : H p = none) : p ∉ adrs δ := fun z => g.there z h
end

/-! ## targets -/
def tGK (J : Nat → Prop) (d : Dt) (δ : Sls) (K : Sls → Prop) : TG := fun v σ H Q => ∃ S, Gd S H σ δ ∧ Rep S H d v ∧ ∀ σ' δ', Gd S H σ' δ' → δ'.map Sl.adr = δ.map Sl.adr → (∀ j : Nat, ¬ J j → σ'[j]? = σ[j]?) → K δ' → Q σ' H
/-- the target's slots are within J -/
def GK (X : Cx) (J : Nat → Prop) (tg : Expr) (d : Dt) (δ : Sls) (K : Sls → Prop) : Prop := PG X tg (tGK J d δ K)
def tGA (X : Cx) (tg : Expr) : TG := fun v σ H Q => ∃ J d δ K, GK X J tg d δ K ∧ tGK J d δ K v σ H Q
def tGKs (J : Nat → Prop) (ds : List Dt) (δ : Sls) (K : Sls → Prop) : TGs := fun vs σ H Q => ∃ S, Gd S H σ δ ∧ Reps S H ds vs ∧ ∀ σ' δ', Gd S H σ' δ' → δ'.map Sl.adr = δ.map Sl.adr → (∀ j : Nat, ¬ J j → σ'[j]? = σ[j]?) → K δ' → Q σ' H
def GKs (X : Cx) (J : Nat → Prop) (ts : List Expr) (ds : List Dt) (δ : Sls) (K : Sls → Prop) : Prop := PGs X ts (tGKs J ds δ K)
def tGAs (X : Cx) (ts : List Expr) : TGs := fun vs σ H Q => ∃ J ds δ K, GKs X J ts ds δ K ∧ tGKs J ds δ K vs σ H Q
section
variable {X : Cx} {tg : Expr} {ts : List Expr} {d : Dt} {ds : List Dt} {δ : Sls} {K : Sls → Prop} {pos : Pos}
theorem gk_any : PG X tg (tGA X tg) := ⟨fun pins s σ H v u Q I r h => by
  obtain ⟨J, d, δ, K, h1, h2⟩ := h
  exact h1.run pins s σ H v u Q I r h2⟩
theorem gks_any : PGs X ts (tGAs X ts) := ⟨fun pins s σ H v u Q I r h => by
  obtain ⟨J, d, δ, K, h1, h2⟩ := h
  exact h1.run pins s σ H v u Q I r h2⟩
theorem gk_of {J : Nat → Prop} {t : TG} (h : PG X tg t) (k : ∀ v σ H Q, tGK J d δ K v σ H Q → t v σ H Q) : GK X J tg d δ K := ⟨fun pins s σ H v u Q I r hq => h.run pins s σ H v u Q I r (k v σ H Q hq)⟩
theorem gks_of {J : Nat → Prop} {t : TGs} (h : PGs X ts t) (k : ∀ v σ H Q, tGKs J ds δ K v σ H Q → t v σ H Q) : GKs X J ts ds δ K := ⟨fun pins s σ H v u Q I r hq => h.run pins s σ H v u Q I r (k v σ H Q hq)⟩
theorem g_name (i : Nat) {J : Nat → Prop} {x : Str} {e : Sl} (k : K (δ.set i (.v d))) (hJ : J i := by first | trivial | decide) (hδ : δ[i]? = some e := by rfl) (he : e.adr = [] := by rfl) (hN : X.N.Nodup := by assumption) (hi : X.N[i]? = some x := by rfl)
    (hx : Loc X.env.scope x := by first | exact Or.inl rfl | exact Or.inr rfl) (hf : X.fn x = true ∨ X.env.scope.names.lookup x = some .local := by first | exact .inl rfl | exact .inr rfl) : GK X J (.Name x pos) d δ K :=
  gk_of (pg_name hN hi hx hf) fun v σ H Q hq => by
    obtain ⟨S, g, r, q⟩ := hq
    exact q _ _ (g.set hδ he r) (adm_set hδ he rfl) (fun j hj => List.getElem?_set_ne (show i ≠ j from fun e => hj (by rw [← e]; exact hJ))) k
theorem g_tup {J : Nat → Prop} {kk : Nat} {n : Nat} (h : GKs X J ts ds δ K) (hl : ds.length = n := by rfl) (hc : X.calm = true := by rfl) (hn : (assignEach ts X.env).length = n := by rfl) (hst : (assignEach ts X.env).findIdx? (·.1) = none := by rfl) : GK X J (.Tuple ts kk pos) (.tup ds) δ K :=
  gk_of (pg_tup (n := n) hc gks_any hn hst) fun v σ H Q hq => by
    obtain ⟨S, g, r, q⟩ := hq
    obtain ⟨a, vs, rfl, hs, ha, h1⟩ := rep_tup.mp r
    exact ⟨a, vs, rfl, .inl (.inl ha), h1.length.trans hl, J, ds, δ, K, h, S, g, h1, q⟩
theorem gs_nil {J : Nat → Prop} (k : K δ) : GKs X J [] [] δ K := gks_of pgs_nil fun v σ H Q hq => by
  obtain ⟨S, g, r, q⟩ := hq
  exact ⟨reps_nil.mp r, q σ δ g rfl (fun _ _ => rfl) k⟩
theorem gs_cons {J : Nat → Prop} (h : GK X J tg d δ fun δ1 => GKs X J ts ds δ1 K) (hs : (assignEach (tg :: ts) X.env).map (·.2) = assign tg X.env :: (assignEach ts X.env).map (·.2) := by rfl) : GKs X J (tg :: ts) (d :: ds) δ K :=
  gks_of (pgs_cons gk_any gks_any hs) fun vs σ H Q hq => by
    obtain ⟨S, g, r, q⟩ := hq
    obtain ⟨v, r', rfl, h1, h2⟩ := reps_cons.mp r
    exact ⟨v, r', rfl, J, d, δ, _, h, S, g, h1, fun σ1 δ1 g1 e1 j1 k1 => ⟨J, ds, δ1, K, k1, S, g1, h2, fun σ2 δ2 g2 e2 j2 k2 => q σ2 δ2 g2 (e2.trans e1) (fun j hj => (j2 j hj).trans (j1 j hj)) k2⟩⟩
end

/-! ## statements -/
/-- a def's run: what stood at its entry, and which outer objects it may change -/
structure Gm where
  S0 : Addr → Prop
  H0 : Hp
  B : List Addr
structure StA (Γ : Gm) (S : Addr → Prop) (H : Hp) (δ : Sls) : Prop where
  live : ∀ a, Γ.S0 a → Γ.H0 a ≠ none
  bS : ∀ b ∈ Γ.B, Γ.S0 b
  loc : ∀ a, S a → Γ.S0 a ∨ Γ.H0 a = none
  sub : ∀ a, Γ.S0 a → S a
  keep : ∀ a o, Γ.H0 a = some o → a ∉ Γ.B → H a = some o
  new : ∀ p ∈ adrs δ, p ∈ Γ.B ∨ Γ.H0 p = none
structure Pst where
  nx : Sls → Prop
  rt : Sls → Dt → Prop
  bk : Sls → Prop := fun _ => False
  ct : Sls → Prop := fun _ => False
def Goes (Γ : Gm) (P : Sls → Prop) (Q : L2.St → Hp → Prop) : Prop := ∀ S σ H δ, Gd S H σ δ → StA Γ S H δ → P δ → Q σ H
def GoesR (Γ : Gm) (P : Sls → Dt → Prop) (Q : VK) : Prop := ∀ S σ v H δ d, Gd S H σ δ → StA Γ S H δ → Rep Γ.S0 H d v → P δ d → Q v H
def tSK (Γ : Gm) (δ : Sls) (P : Pst) : TS := fun D σ H => ∃ S, Gd S H σ δ ∧ StA Γ S H δ ∧ Goes Γ P.nx D.nx ∧ GoesR Γ P.rt D.rt ∧ Goes Γ P.bk D.bk ∧ Goes Γ P.ct D.ct
def SK (X : Cx) (Γ : Gm) (ss : List Stmt) (δ : Sls) (P : Pst) : Prop := PSs X ss (tSK Γ δ P)
def SK1 (X : Cx) (Γ : Gm) (s : Stmt) (δ : Sls) (P : Pst) : Prop := PS X s (tSK Γ δ P)
def tSA (X : Cx) (ss : List Stmt) : TS := fun D σ H => ∃ Γ δ P, SK X Γ ss δ P ∧ tSK Γ δ P D σ H
def tSA1 (X : Cx) (s : Stmt) : TS := fun D σ H => ∃ Γ δ P, SK1 X Γ s δ P ∧ tSK Γ δ P D σ H
section
variable {Γ : Gm} {S S' : Addr → Prop} {H H' : Hp} {σ : L2.St} {δ δ' : Sls} {v : V} {d : Dt}
theorem StA.stp (a : StA Γ S H δ) (t : Stp H δ H' δ') : StA Γ S H' δ' := ⟨a.live, a.bS, a.loc, a.sub, fun x o h1 h2 => t.keep x o (fun z => (a.new x z).elim h2 fun e => by rw [e] at h1; cases h1) (a.keep x o h1 h2), fun p hp => a.new p (by rw [← t.adr]; exact hp)⟩
theorem StA.adr (a : StA Γ S H δ) (e : adrs δ' = adrs δ) : StA Γ S H δ' := ⟨a.live, a.bS, a.loc, a.sub, a.keep, fun p hp => a.new p (by rw [← e]; exact hp)⟩
theorem StA.ex (a : StA Γ S H δ) (e : Ex H H') : StA Γ S H' δ := a.stp e.stp
theorem StA.mv0 (a : StA Γ S H δ) : Mv Γ.S0 Γ.H0 S H := fun x o h1 h2 => ⟨fun z => (a.loc x z).elim h1 (fun e => by rw [e] at h2; cases h2), a.keep x o h2 (fun z => h1 (a.bS x z))⟩
theorem StA.back (a : StA Γ S H δ) (r : Rep S H d v) : Rep Γ.S0 H d v := r.mv fun x o h1 h2 => ⟨fun z => h1 (a.sub x z), h2⟩
variable {X : Cx} {s : Stmt} {ss : List Stmt} {e c tg iter : Expr} {P : Pst} {pos p' : Pos} {a b body : List Stmt}
theorem sk_any : PSs X ss (tSA X ss) := ⟨fun pins s σ H D I h => by
  obtain ⟨Γ, δ, P, h1, h2⟩ := h
  exact h1.run pins s σ H D I h2⟩
theorem sk1_any : PS X s (tSA1 X s) := ⟨fun pins s σ H D I h => by
  obtain ⟨Γ, δ, P, h1, h2⟩ := h
  exact h1.run pins s σ H D I h2⟩
theorem sk_of {t : TS} (h : PSs X ss t) (k : ∀ D σ H, tSK Γ δ P D σ H → t D σ H) : SK X Γ ss δ P := ⟨fun pins s σ H D I hq => h.run pins s σ H D I (k D σ H hq)⟩
theorem sk1_of {t : TS} (h : PS X s t) (k : ∀ D σ H, tSK Γ δ P D σ H → t D σ H) : SK1 X Γ s δ P := ⟨fun pins s σ H D I hq => h.run pins s σ H D I (k D σ H hq)⟩
theorem SK.imp {P' : Pst} (h : SK X Γ ss δ P') (h1 : ∀ δ, P'.nx δ → P.nx δ) (h2 : ∀ δ d, P'.rt δ d → P.rt δ d) (h3 : ∀ δ, P'.bk δ → P.bk δ) (h4 : ∀ δ, P'.ct δ → P.ct δ) : SK X Γ ss δ P := sk_of h fun D σ H hq => by
  obtain ⟨S, g, st, k1, k2, k3, k4⟩ := hq
  exact ⟨S, g, st, fun S σ H δ g st z => k1 S σ H δ g st (h1 δ z), fun S σ v H δ d g st r z => k2 S σ v H δ d g st r (h2 δ d z), fun S σ H δ g st z => k3 S σ H δ g st (h3 δ z), fun S σ H δ g st z => k4 S σ H δ g st (h4 δ z)⟩
theorem s_nil (k : P.nx δ) : SK X Γ [] δ P := sk_of pss_nil fun D σ H hq => by
  obtain ⟨S, g, st, k1, _⟩ := hq
  exact k1 S σ H δ g st k
theorem s_cons (h : SK1 X Γ s δ { nx := fun δ1 => SK X Γ ss δ1 P, rt := P.rt, bk := P.bk, ct := P.ct }) : SK X Γ (s :: ss) δ P := sk_of (pss_cons sk1_any sk_any) fun D σ H hq => by
  obtain ⟨S, g, st, k1, k2, k3, k4⟩ := hq
  exact ⟨Γ, δ, _, h, S, g, st, fun S1 σ1 H1 δ1 g1 st1 z => ⟨Γ, δ1, P, z, S1, g1, st1, k1, k2, k3, k4⟩, k2, k3, k4⟩
theorem s_one (h : SK1 X Γ s δ P) : SK X Γ [s] δ P := sk_of (pss_one sk1_any) fun D σ H hq => ⟨Γ, δ, P, h, hq⟩
theorem s_ret (h : EK X e δ fun δ1 d => P.rt δ1 d) : SK1 X Γ (.Return (some e) pos) δ P := sk1_of (ps_ret ek_any) fun D σ H hq => by
  obtain ⟨S, g, st, k1, k2, k3, k4⟩ := hq
  exact te_seq g h fun v H1 d δ1 t1 g1 r1 h1 => k2 S σ v H1 δ1 d g1 (st.stp t1) ((st.stp t1).back r1) h1
theorem s_if (h : TK X c δ fun δ1 k => if k = true then SK X Γ a δ1 P else SK X Γ b δ1 P) : SK1 X Γ (.If c a b pos) δ P := sk1_of (ps_if tk_any sk_any sk_any) fun D σ H hq => by
  obtain ⟨S, g, st, k1, k2, k3, k4⟩ := hq
  refine tt_seq g h fun k H1 δ1 t1 g1 h1 => ?_
  cases k with
  | true => exact ⟨Γ, δ1, P, h1, S, g1, st.stp t1, k1, k2, k3, k4⟩
  | false => exact ⟨Γ, δ1, P, h1, S, g1, st.stp t1, k1, k2, k3, k4⟩
/-- x = e -/
theorem s_set (i : Nat) {x : Str} (h : EK X e δ fun δ1 d => (∃ z, δ1[i]? = some z ∧ z.adr = []) ∧ P.nx (δ1.set i (.v d))) (hN : X.N.Nodup := by assumption) (hi : X.N[i]? = some x := by rfl) (hx : Loc X.env.scope x := by first | exact Or.inl rfl | exact Or.inr rfl)
    (hs : swapsWith e (some (.Name x p')) pos.line X.env = pure false := by rfl) (hf : X.fn x = true ∨ X.env.scope.names.lookup x = some .local := by first | exact .inl rfl | exact .inr rfl) : SK1 X Γ (.Assign [.Name x p'] e pos) δ P :=
  sk1_of (ps_set hN hi hx ek_any hs hf) fun D σ H hq => by
    obtain ⟨S, g, st, k1, k2, k3, k4⟩ := hq
    refine te_seq g h fun v H1 d δ1 t1 g1 r1 h1 => ?_
    obtain ⟨⟨z, hz, hz2⟩, h1⟩ := h1
    exact k1 S _ H1 _ (g1.set hz hz2 r1) ((st.stp t1).adr (adrs_set hz hz2 rfl)) h1
/-- target = e -/
theorem s_asg (h : EK X e δ fun δ1 d => GK X (fun _ => True) tg d δ1 P.nx) (hs : swapsWithSole [tg] e pos.line X.env = pure false := by rfl) (hw : swappedStores [tg] e X.env = pure none := by rfl)
    (h1 : (assignEach [tg] X.env).map (·.2) = [assign tg X.env] := by rfl) : SK1 X Γ (.Assign [tg] e pos) δ P := sk1_of (ps_asg ek_any gk_any hs hw h1) fun D σ H hq => by
  obtain ⟨S, g, st, k1, k2, k3, k4⟩ := hq
  exact te_seq g h fun v H1 d δ1 t1 g1 r1 h1 => ⟨_, d, δ1, _, h1, S, g1, r1, fun σ2 δ2 g2 e2 _ z => k1 S σ2 H1 δ2 g2 ((st.stp t1).adr (adrs_of e2)) z⟩
/-- x = [] : a list of our own -/
theorem s_new (i : Nat) {x : Str} {lp : Pos} {z : Sl} (h : ∀ p, P.nx (δ.set i (.own p []))) (hδ : δ[i]? = some z := by rfl) (hz : z.adr = [] := by rfl) (hN : X.N.Nodup := by assumption) (hi : X.N[i]? = some x := by rfl) (hx : Loc X.env.scope x := by first | exact Or.inl rfl | exact Or.inr rfl)
    (hs : swapsWith (.List [] lp) (some (.Name x p')) pos.line X.env = pure false := by rfl) (hf : X.fn x = true ∨ X.env.scope.names.lookup x = some .local := by first | exact .inl rfl | exact .inr rfl) : SK1 X Γ (.Assign [.Name x p'] (.List [] lp) pos) δ P :=
  sk1_of (ps_set hN hi hx (pe_lst pa_nil) hs hf) fun D σ H hq => by
    obtain ⟨S, g, st, k1, k2, k3, k4⟩ := hq
    refine ⟨Nat.zero_le _, fun p hp => ?_⟩
    have hn : (adrs (δ.set i (.own p []))).Nodup := (adrs_new hδ hz).nodup_iff.mpr (List.nodup_cons.mpr ⟨g.fresh hp, g.nd⟩)
    have hp0 : Γ.H0 p = none := by
      cases e0 : Γ.H0 p with
      | none => rfl
      | some o =>
        by_cases hb : p ∈ Γ.B
        · exact absurd hp (g.live p (st.sub p (st.bS p hb)))
        · rw [st.keep p o e0 hb] at hp
          cases hp
    refine k1 (plus S p) _ _ _ ((g.grow hp).put hδ (e' := .own p []) ⟨rfl, .inr rfl, [], upd_same, Reps.nil⟩ hn) ⟨st.live, st.bS, fun a z => z.elim (st.loc a) (fun e => .inr (by rw [e]; exact hp0)), fun a z => .inl (st.sub a z), fun a o h1 h2 => Ex.new hp _ _ (st.keep a o h1 h2), fun q hq => ?_⟩ (h p)
    rcases List.mem_cons.mp ((adrs_new hδ hz).mem_iff.mp hq) with e | hq
    · rw [e]
      exact .inr hp0
    · exact st.new q hq
/-- a list of our own is changed no more -/
theorem s_freeze (i : Nat) {p : Addr} {ds : List Dt} (hδ : δ[i]? = some (.own p ds)) (hB : ∀ q ∈ Γ.B, ∃ (j : Nat) (e : Sl), j ≠ i ∧ δ[j]? = some e ∧ q ∈ e.adr) (hb : SK X Γ ss (δ.set i (.v (.lst ds))) P) : SK X Γ ss δ P := by
  refine ⟨fun pins s σ H D I hq => ?_⟩
  obtain ⟨S, g, st, k1, k2, k3, k4⟩ := hq
  obtain ⟨o, ho, h1, hS, vs, hv, hr⟩ := g.ok i _ hδ
  subst h1
  have hp0 := adrs_drop (e' := .v (.lst ds)) hδ rfl
  have nd0 : (p :: adrs (δ.set i (.v (.lst ds)))).Nodup := hp0.nodup_iff.mp g.nd
  have h0 : ¬ Γ.S0 p := fun z => by
    rcases st.new p (mem_adrs_of hδ (by simp [Sl.adr])) with hb | hn
    · obtain ⟨j, e, hj, he, hq⟩ := hB p hb
      exact (List.nodup_cons.mp nd0).1 (mem_adrs_of (i := j) (by rw [List.getElem?_set_ne (Ne.symm hj)]; exact he) hq)
    · exact st.live p z hn
  refine hb.run pins s σ H D I ⟨fun a => S a ∧ a ≠ p, ?_, ?_, k1, k2, k3, k4⟩
  · have m : Mv S H (fun a => S a ∧ a ≠ p) H := fun a u h1 h2 => ⟨fun z => h1 z.1, h2⟩
    have hp := adrs_drop (e' := .v (.lst ds)) hδ rfl
    have nd2 : (p :: adrs (δ.set i (.v (.lst ds)))).Nodup := hp.nodup_iff.mp g.nd
    have hi : i < δ.length := (List.getElem?_eq_some_iff.mp hδ).1
    refine ⟨by rw [List.length_set, g.len], fun j x hx => ?_, fun a z => g.live a z.1, (List.nodup_cons.mp nd2).2⟩
    by_cases hj : i = j
    · subst hj
      rw [List.getElem?_set_self hi] at hx
      cases hx
      exact ⟨_, ho, .ref p, rfl, rep_lst.mpr ⟨p, vs, rfl, fun z => z.2 rfl, hv, hr.mv m⟩⟩
    · have hx' := hx
      rw [List.getElem?_set_ne hj] at hx
      obtain ⟨o, h1, h2⟩ := g.ok j x hx
      refine ⟨o, h1, ?_⟩
      have np : p ∉ x.adr := fun z => (List.nodup_cons.mp nd2).1 (mem_adrs_of hx' z)
      have own : ∀ {q : Addr} {ds : List Dt}, q ≠ p → OwnL S H q ds → OwnL (fun a => S a ∧ a ≠ p) H q ds := fun {q ds} n h => ⟨⟨h.1, n⟩, h.2.elim fun vs h => ⟨vs, h.1, h.2.mv m⟩⟩
      cases x with
      | any => trivial
      | v d =>
        obtain ⟨w, w1, w2⟩ := h2
        exact ⟨w, w1, w2.mv m⟩
      | own q es => exact ⟨h2.1, own (fun z => np (by simp [Sl.adr, z])) h2.2⟩
      | box q n => exact ⟨h2.1, ⟨h2.2.1, fun z => np (by simp [Sl.adr, z])⟩, h2.2.2⟩
      | obj q C fs =>
        obtain ⟨w1, w2, dx, ws, w3, w4⟩ := h2
        refine ⟨w1, ⟨w2, fun z => np (by simp [Sl.adr, z])⟩, dx, ws, w3, ?_⟩
        have np2 : p ∉ adrF fs := fun z => np (by simp [Sl.adr, z])
        clear np hx hx' w3
        have go : ∀ {fs : List (Str × Fl)} {vs : List (Str × V)}, p ∉ adrF fs → FlsOk S H fs vs → FlsOk (fun a => S a ∧ a ≠ p) H fs vs := by
          intro fs
          induction fs with
          | nil => intro vs _ h; exact h
          | cons f fs ih =>
            intro vs hk h
            obtain ⟨w, r, h0, k1, k2⟩ := h
            refine ⟨w, r, h0, ?_, ih (fun a => hk (List.mem_append_right _ a)) k2⟩
            obtain ⟨n, f⟩ := f
            cases f with
            | v d => exact Rep.mv m k1
            | own q ds => exact ⟨k1.1, own (fun z => hk (List.mem_append_left _ (by simp [Fl.adr, z]))) k1.2⟩
        exact go np2 w4
  · refine ⟨st.live, st.bS, fun a z => st.loc a z.1, fun a z => ⟨st.sub a z, fun e => h0 (e ▸ z)⟩, st.keep, fun q hq => st.new q ?_⟩
    exact (adrs_drop (e' := .v (.lst ds)) hδ rfl).mem_iff.mpr (List.mem_append_right _ hq)
end
end Pr

end Text_P3
section Text_P4
set_option maxHeartbeats 4000000
namespace Pr
open PySem PySem.Spec PyProof.Rows L2
/-! ## arguments some of which are new empty lists -/
def SlsOk (S : Addr → Prop) (H : Hp) : List Sl → List V → Prop
  | [], vs => vs = []
  | e :: rs, vs => ∃ v r, vs = v :: r ∧ SlOk S H e (some v) ∧ SlsOk S H rs r
def tAO (δ : Sls) (K : Sls → List Sl → Prop) : TA := fun σ H Q => ∃ S, Gd S H σ δ ∧ ∀ vs H' S' rs δ', (∀ a o, a ∉ adrs δ → H a = some o → H' a = some o) → δ'.map Sl.adr = δ.map Sl.adr → (∀ a, S a → S' a) → Mv S H S' H' → Gd S' H' σ δ' → SlsOk S' H' rs vs →
  (adrs rs ++ adrs δ').Nodup → (∀ p ∈ adrs rs, H p = none) → K δ' rs → Q vs H'
def AO (X : Cx) (es : List Expr) (δ : Sls) (K : Sls → List Sl → Prop) : Prop := PA X es (tAO δ K)
def tAOA (X : Cx) (es : List Expr) : TA := fun σ H Q => ∃ δ K, AO X es δ K ∧ tAO δ K σ H Q
section
variable {X : Cx} {e : Expr} {es : List Expr} {δ : Sls} {K : Sls → List Sl → Prop} {pos lp : Pos}
theorem ao_any : PA X es (tAOA X es) := ⟨fun pos pins s σ H Q I h => by
  obtain ⟨δ, K, h1, h2⟩ := h
  exact h1.run pos pins s σ H Q I h2⟩
theorem ao_of {t : TA} (h : PA X es t) (k : ∀ σ H Q, tAO δ K σ H Q → t σ H Q) : AO X es δ K := ⟨fun pos pins s σ H Q I hq => h.run pos pins s σ H Q I (k σ H Q hq)⟩
theorem ao_nil (k : K δ []) : AO X [] δ K := ao_of pa_nil fun σ H Q hq => by
  obtain ⟨S, g, q⟩ := hq
  exact q [] H S [] δ (fun _ _ _ h => h) rfl (fun _ h => h) (Mv.refl S H) g rfl g.nd (fun _ h => by cases h) k
theorem ao_v (h : EK X e δ fun δ1 d => AO X es δ1 fun δ2 rs => K δ2 (.v d :: rs)) (hs : starEach (e :: es) X.env = (false, eval e X.env) :: starEach es X.env := by rfl) : AO X (e :: es) δ K :=
  ao_of (pa_cons ek_any ao_any hs) fun σ H Q hq => by
    obtain ⟨S, g, q⟩ := hq
    refine te_seq g h fun v H1 d1 δ1 t1 g1 r1 h1 => ⟨δ1, _, h1, S, g1, fun vs H2 S2 rs δ2 k2 a2 s2 m2 g2 r2 n2 f2 h2 => ?_⟩
    refine q _ H2 S2 (.v d1 :: rs) δ2 (fun a o n z => k2 a o (by rw [t1.adr]; exact n) (t1.keep a o n z)) (a2.trans t1.adm) s2 ((t1.mv g).trans m2) g2 ⟨v, vs, rfl, ⟨v, rfl, r1.mv m2⟩, r2⟩ n2 (fun p hp => ?_) h2
    have f3 := f2 p hp
    cases hn : H p with
    | none => rfl
    | some o =>
      by_cases ha : p ∈ adrs δ
      · exact absurd f3 (g1.there (by rw [t1.adr]; exact ha))
      · rw [t1.keep p o ha hn] at f3
        cases f3
theorem ao_new (h : ∀ p, AO X es δ fun δ2 rs => K δ2 (.own p [] :: rs)) (hs : starEach (.List [] lp :: es) X.env = (false, eval (.List [] lp) X.env) :: starEach es X.env := by rfl) : AO X (.List [] lp :: es) δ K :=
  ao_of (pa_cons (pe_lst pa_nil) ao_any hs) fun σ H Q hq => by
    obtain ⟨S, g, q⟩ := hq
    refine ⟨Nat.zero_le _, fun p hp => ⟨δ, _, h p, plus S p, g.grow hp, fun vs H2 S2 rs δ2 k2 a2 s2 m2 g2 r2 n2 f2 h2 => ?_⟩⟩
    have hp2 : H2 p = some (.lst []) := k2 p _ (g.fresh hp) upd_same
    refine q _ H2 S2 (.own p [] :: rs) δ2 (fun a o n z => k2 a o n (Ex.new hp _ _ z)) a2 (fun a z => s2 a (.inl z)) ((mv_plus hp).trans m2) g2 ⟨.ref p, vs, rfl, ⟨rfl, s2 p (.inr rfl), [], hp2, Reps.nil⟩, r2⟩ ?_ (fun a ha => ?_) h2
    · refine List.nodup_cons.mpr ⟨fun z => ?_, n2⟩
      rcases List.mem_append.mp z with z | z
      · have := f2 p z
        rw [upd_same] at this
        cases this
      · rw [adrs_of a2] at z
        exact g.fresh hp z
    · rcases List.mem_cons.mp ha with e | ha
      · rw [e]
        exact hp
      · exact (Ex.new hp).free (f2 a ha)
end
/-- slots set one after another -/
def setAll : Sls → List Nat → List Sl → Sls
  | δ, i :: is, r :: rs => setAll (δ.set i r) is rs
  | δ, _, _ => δ
def OkSet : Sls → List Nat → List Sl → Prop
  | _, [], [] => True
  | δ, i :: is, r :: rs => (∃ z, δ[i]? = some z ∧ z.adr = []) ∧ OkSet (δ.set i r) is rs
  | _, _, _ => False
def stAll : L2.St → List Nat → List V → L2.St
  | σ, i :: is, v :: vs => stAll (σ.set i (some v)) is vs
  | σ, _, _ => σ
theorem gd_all {S : Addr → Prop} {H : Hp} : ∀ {is : List Nat} {rs : List Sl} {vs : List V} {σ : L2.St} {δ : Sls}, Gd S H σ δ → SlsOk S H rs vs → (adrs rs ++ adrs δ).Nodup → OkSet δ is rs →
    Gd S H (stAll σ is vs) (setAll δ is rs) ∧ (adrs (setAll δ is rs)).Perm (adrs rs ++ adrs δ)
  | [], [], vs, σ, δ, g, h, n, o => by
    rw [show vs = [] from h]
    exact ⟨g, .refl _⟩
  | i :: is, r :: rs, vs, σ, δ, g, h, n, o => by
    obtain ⟨v, vr, rfl, h1, h2⟩ := h
    obtain ⟨⟨z, hz, hz2⟩, o2⟩ := o
    have n' : (r.adr ++ (adrs rs ++ adrs δ)).Nodup := by
      have : (r.adr ++ adrs rs ++ adrs δ).Nodup := n
      rw [List.append_assoc] at this
      exact this
    have pm := adrs_new (e' := r) hz hz2
    have n1 : (adrs (δ.set i r)).Nodup := pm.nodup_iff.mpr (n'.sublist (List.Sublist.append_left (List.sublist_append_right _ _) _))
    have g1 := g.put hz (e' := r) h1 n1
    have pm2 : (adrs rs ++ adrs (δ.set i r)).Perm (r.adr ++ adrs rs ++ adrs δ) := by
      refine (pm.append_left (adrs rs)).trans ?_
      rw [← List.append_assoc]
      exact List.perm_append_comm.append_right _
    obtain ⟨k1, k2⟩ := gd_all g1 h2 (pm2.nodup_iff.mpr n) o2
    exact ⟨k1, k2.trans pm2⟩
  | [], _ :: _, _, _, _, _, _, _, o => o.elim
  | _ :: _, [], _, _, _, _, _, _, o => o.elim
section
variable {Γ : Gm} {X : Cx} {δ : Sls} {P : Pst} {pos : Pos} {es : List Expr}
theorem par_end {S : Addr → Prop} {σ : L2.St} {H H' : Hp} {S' : Addr → Prop} {δ' : Sls} {is : List Nat} {rs : List Sl} {vs : List V} (st : StA Γ S H δ) (g : Gd S H σ δ) (m : Mv S H S' H') (k : ∀ a o, a ∉ adrs δ → H a = some o → H' a = some o) (ad : δ'.map Sl.adr = δ.map Sl.adr) (hs : ∀ a, S a → S' a)
    (g' : Gd S' H' σ δ') (r : SlsOk S' H' rs vs) (n : (adrs rs ++ adrs δ').Nodup) (f : ∀ p ∈ adrs rs, H p = none) (o : OkSet δ' is rs) : Gd S' H' (stAll σ is vs) (setAll δ' is rs) ∧ StA Γ S' H' (setAll δ' is rs) := by
  obtain ⟨k1, k2⟩ := gd_all g' r n o
  have st1 := st.stp (H' := H') (δ' := δ') ⟨k, ad⟩
  have old : ∀ p, H p = none → Γ.H0 p = none := fun p hp0 => by
    cases e0 : Γ.H0 p with
    | none => rfl
    | some u =>
      by_cases hb : p ∈ Γ.B
      · exact absurd hp0 (g.live p (st.sub p (st.bS p hb)))
      · rw [st.keep p u e0 hb] at hp0
        cases hp0
  refine ⟨k1, st.live, st.bS, fun a z => ?_, fun a z => hs a (st.sub a z), st1.keep, fun p hp => ?_⟩
  · by_cases hz : S a
    · exact st.loc a hz
    · refine .inr (old a ?_)
      cases e0 : H a with
      | none => rfl
      | some u => exact absurd z (m a u hz e0).1
  rcases List.mem_append.mp (k2.mem_iff.mp hp) with z | z
  · exact .inr (old p (f p z))
  · exact st1.new p z
theorem SlsOk.len {S : Addr → Prop} {H : Hp} : ∀ {rs : List Sl} {vs : List V}, SlsOk S H rs vs → vs.length = rs.length
  | [], vs, h => by rw [show vs = [] from h]; rfl
  | r :: rs, vs, h => by
    obtain ⟨v, vr, rfl, _, h2⟩ := h
    rw [List.length_cons, List.length_cons, SlsOk.len h2]
theorem OkSet.len : ∀ {δ : Sls} {is : List Nat} {rs : List Sl}, OkSet δ is rs → is.length = rs.length
  | _, [], [], _ => rfl
  | _, i :: is, r :: rs, o => by rw [List.length_cons, List.length_cons, OkSet.len o.2]
  | _, [], _ :: _, o => o.elim
  | _, _ :: _, [], o => o.elim
/-- a, b = e, f of plain local names -/
theorem s_par2 (i j : Nat) {x y : Str} {a b : Expr} {px py pt : Pos} {kt k2 pt2} (h : AO X [a, b] δ fun δ1 rs => OkSet δ1 [i, j] rs ∧ P.nx (setAll δ1 [i, j] rs)) (hN : X.N.Nodup := by assumption) (hi : X.N[i]? = some x := by rfl) (hj : X.N[j]? = some y := by rfl) (hij : i ≠ j := by decide)
    (hx : X.env.scope.names.lookup x = some .local := by rfl) (hy : X.env.scope.names.lookup y = some .local := by rfl) (hc : X.calm = true := by rfl)
    (hw : swappedStores [.Tuple [.Name x px, .Name y py] kt pt] (.Tuple [a, b] k2 pt2) X.env = pure (some [x, y]) := by rfl)
    (hs : swapsWithSole [.Tuple [.Name x px, .Name y py] kt pt] (.Tuple [a, b] k2 pt2) pos.line X.env = pure false := by rfl) :
    SK1 X Γ (.Assign [.Tuple [.Name x px, .Name y py] kt pt] (.Tuple [a, b] k2 pt2) pos) δ P := sk1_of (ps_par (i := i) (j := j) hc hN hi hj hij hx hy ao_any hw hs) fun D σ H hq => by
  obtain ⟨S, g, st, k1, _⟩ := hq
  refine ⟨δ, _, h, S, g, fun vs H' S' rs δ' kp ad hs m g' r n f hk => ?_⟩
  obtain ⟨o, hk⟩ := hk
  have hl : vs.length = 2 := r.len.trans o.len.symm
  obtain ⟨v, w, rfl⟩ : ∃ v w, vs = [v, w] := match vs, hl with | [v, w], _ => ⟨v, w, rfl⟩
  obtain ⟨e1, e2⟩ := par_end st g m kp ad hs g' r n f o
  exact ⟨v, w, rfl, k1 S' _ H' _ e1 e2 hk⟩
theorem s_par3 (i j l : Nat) {x y z : Str} {a b c : Expr} {px py pz pt : Pos} {kt k2 pt2} (h : AO X [a, b, c] δ fun δ1 rs => OkSet δ1 [i, j, l] rs ∧ P.nx (setAll δ1 [i, j, l] rs)) (hN : X.N.Nodup := by assumption) (hi : X.N[i]? = some x := by rfl) (hj : X.N[j]? = some y := by rfl) (hl : X.N[l]? = some z := by rfl)
    (hij : i ≠ j := by decide) (hil : i ≠ l := by decide) (hjl : j ≠ l := by decide) (hx : X.env.scope.names.lookup x = some .local := by rfl) (hy : X.env.scope.names.lookup y = some .local := by rfl) (hz : X.env.scope.names.lookup z = some .local := by rfl) (hc : X.calm = true := by rfl)
    (hw : swappedStores [.Tuple [.Name x px, .Name y py, .Name z pz] kt pt] (.Tuple [a, b, c] k2 pt2) X.env = pure (some [x, y, z]) := by rfl)
    (hs : swapsWithSole [.Tuple [.Name x px, .Name y py, .Name z pz] kt pt] (.Tuple [a, b, c] k2 pt2) pos.line X.env = pure false := by rfl) :
    SK1 X Γ (.Assign [.Tuple [.Name x px, .Name y py, .Name z pz] kt pt] (.Tuple [a, b, c] k2 pt2) pos) δ P := sk1_of (ps_par3 (i := i) (j := j) (l := l) hc hN hi hj hl hij hil hjl hx hy hz ao_any hw hs) fun D σ H hq => by
  obtain ⟨S, g, st, k1, _⟩ := hq
  refine ⟨δ, _, h, S, g, fun vs H' S' rs δ' kp ad hs m g' r n f hk => ?_⟩
  obtain ⟨o, hk⟩ := hk
  have hl : vs.length = 3 := r.len.trans o.len.symm
  obtain ⟨u, v, w, rfl⟩ : ∃ u v w, vs = [u, v, w] := match vs, hl with | [u, v, w], _ => ⟨u, v, w, rfl⟩
  obtain ⟨e1, e2⟩ := par_end st g m kp ad hs g' r n f o
  exact ⟨u, v, w, rfl, k1 S' _ H' _ e1 e2 hk⟩
/-- the same by way of a tuple -/
def gNames : List Nat → TGs
  | [] => gNil
  | i :: is => gCons (gName i) (gNames is)
theorem gNames_all {S : Addr → Prop} {H : Hp} {Q : L2.St → Hp → Prop} : ∀ {is : List Nat} {vs : List V} {σ : L2.St}, is.length = vs.length → Q (stAll σ is vs) H → gNames is vs σ H Q
  | [], [], σ, _, q => ⟨rfl, q⟩
  | i :: is, v :: vs, σ, hl, q => ⟨v, vs, rfl, gNames_all (S := S) (is := is) (vs := vs) (by simpa using hl) q⟩
  | [], _ :: _, _, hl, _ => by simp at hl
  | _ :: _, [], _, hl, _ => by simp at hl
theorem s_parG (is : List Nat) {ts : List Expr} {kt k2 : Nat} {pt pt2 : Pos} {n : Nat} (h : AO X es δ fun δ1 rs => OkSet δ1 is rs ∧ P.nx (setAll δ1 is rs)) (hg : PGs X ts (gNames is)) (hl : is.length = n := by rfl) (h9 : n ≤ 100 := by decide) (hc : X.calm = true := by rfl) (hn : (assignEach ts X.env).length = n := by rfl) (hst : (assignEach ts X.env).findIdx? (·.1) = none := by rfl)
    (hs : swapsWithSole [.Tuple ts kt pt] (.Tuple es k2 pt2) pos.line X.env = pure false := by rfl) (hw : swappedStores [.Tuple ts kt pt] (.Tuple es k2 pt2) X.env = pure none := by rfl)
    (h1 : (assignEach [.Tuple ts kt pt] X.env).map (·.2) = [assign (.Tuple ts kt pt) X.env] := by rfl) : SK1 X Γ (.Assign [.Tuple ts kt pt] (.Tuple es k2 pt2) pos) δ P :=
  sk1_of (ps_asg (pe_tup ao_any) (pg_tup (n := n) hc hg hn hst) hs hw h1) fun D σ H hq => by
    obtain ⟨S, g, st, k1, _⟩ := hq
    refine ⟨δ, _, h, S, g, fun vs H' S' rs δ' kp ad hs m g' r nd f hk => ?_⟩
    obtain ⟨o, hk⟩ := hk
    have hv : vs.length = n := (r.len.trans o.len.symm).trans hl
    refine ⟨Nat.le_of_lt (small1000 (by omega)), fun p hp => ⟨p, vs, rfl, .inl (.inl upd_same), hv, ?_⟩⟩
    obtain ⟨e1, e2⟩ := par_end st g m kp ad hs g' r nd f o
    exact gNames_all (S := S) (hl.trans hv.symm) (k1 S' _ _ _ (e1.ex (Ex.new hp)) (e2.ex (Ex.new hp)) hk)
end

/-! ## our own lists grow -/
section
variable {Γ : Gm} {X : Cx} {δ : Sls} {P : Pst} {pos cpos apos np : Pos} {e : Expr} {i : Nat} {x : Str} {ps p' : Pos}
theorem Gd.owned {S : Addr → Prop} {H : Hp} {σ : L2.St} {δ : Sls} {p : Addr} {ds ds' : List Dt} {vs' : List V} (g : Gd S H σ δ) (h : δ[i]? = some (.own p ds)) (r : Reps S H ds' vs') : Gd S (upd H p (.lst vs')) σ (δ.set i (.own p ds')) := by
  obtain ⟨o, ho, h1, hS, vs, hv, hr⟩ := g.ok i _ h
  subst h1
  have hi : i < δ.length := (List.getElem?_eq_some_iff.mp h).1
  have m : Mv S H S (upd H p (.lst vs')) := fun a u n z => ⟨n, by rw [upd_ne (show a ≠ p from fun e => n (by rw [e]; exact hS))]; exact z⟩
  have nd2 : (p :: adrs (δ.set i .any)).Nodup := (adrs_drop (e' := .any) h rfl).nodup_iff.mp g.nd
  refine ⟨by rw [List.length_set, g.len], fun j y hy => ?_, fun a z => ?_, by rw [adrs_put (e' := .own p ds') h rfl]; exact g.nd⟩
  · by_cases hj : i = j
    · subst hj
      rw [List.getElem?_set_self hi] at hy
      cases hy
      exact ⟨_, ho, rfl, hS, vs', upd_same, r.mv m⟩
    · rw [List.getElem?_set_ne hj] at hy
      obtain ⟨o, h1, h2⟩ := g.ok j y hy
      refine ⟨o, h1, h2.mv m (fun _ z => z) fun a ha u hu => ?_⟩
      have ne : a ≠ p := fun z => (List.nodup_cons.mp nd2).1 (mem_adrs_of (i := j) (by rw [List.getElem?_set_ne hj]; exact hy) (z ▸ ha))
      rw [upd_ne ne]
      exact hu
  · by_cases e : a = p
    · rw [e, upd_same]
      exact fun z => by cases z
    · rw [upd_ne e]
      exact g.live a z
theorem StA.own {S : Addr → Prop} {H : Hp} {p : Addr} {o : HO} {δ' : Sls} (st : StA Γ S H δ) (hp : p ∈ adrs δ) (ad : adrs δ' = adrs δ) : StA Γ S (upd H p o) δ' := by
  refine ⟨st.live, st.bS, st.loc, st.sub, fun a u h1 h2 => ?_, fun q hq => st.new q (by rw [← ad]; exact hq)⟩
  rw [upd_ne]
  · exact st.keep a u h1 h2
  · intro e
    rcases st.new p hp with z | z
    · exact h2 (e ▸ z)
    · rw [e, z] at h1
      cases h1
/-- x.append(e), x a list of our own -/
theorem s_app (i : Nat) {x : Str} (h : EK X e δ fun δ1 d => ∃ p ds, δ1[i]? = some (.own p ds) ∧ ds.length < 1000 ∧ P.nx (δ1.set i (.own p (ds ++ [d])))) (hown : ∃ p ds, δ[i]? = some (.own p ds) := by exact ⟨_, _, rfl⟩) (hN : X.N[i]? = some x := by rfl)
    (hv : Vis X.env.scope x := by first | exact Or.inl rfl | exact Or.inr (Or.inl rfl)) (hd : (x == ("__debug__" : Str)) = false := by decide) (hcd : (x == ("__classdict__" : Str)) = false := by decide)
    (hbase : attributeBase (.Name x np) "append" X.env (eval (.Name x np) X.env) = eval (.Name x np) X.env := by rfl)
    (hfew : ((backTo cpos (starEach [e] X.env)).all (fun x => !x.1) && (backToKw cpos (keywordEach [] X.env)).all (fun x => x.1.isSome) && decide ([e].length + ([] : List Keyword).length + (if ([] : List Keyword).isEmpty then 0 else 1) < 30)) = true := by rfl)
    (hline : (apos.endLine == cpos.line) = true := by rfl) (hs : starEach [e] X.env = (false, eval e X.env) :: starEach [] X.env := by rfl) (hplain : (backTo cpos (starEach [] X.env)).any (·.1) = false := by rfl)
    (hsw : swapsWith (.Call (.Attribute (.Name x np) "append" apos) [e] [] cpos) none pos.line X.env = pure false := by rfl) : SK1 X Γ (.Expr (.Call (.Attribute (.Name x np) "append" apos) [e] [] cpos) pos) δ P :=
  sk1_of (ps_expr (pe_bm PySem.F.plainAttrs_list PySem.F.slot_list_append PySem.F.type_list_append mt_append (pe_var (i := i) hN hv hd hcd) (pa_cons ek_any pa_nil hs) hbase hfew hline hs hplain) hsw) fun D σ H hq => by
    obtain ⟨S, g, st, k1, _⟩ := hq
    obtain ⟨p0, ds0, h0⟩ := hown
    obtain ⟨o, ho, e0, hS, vs, hv, hr⟩ := g.ok i _ h0
    subst e0
    refine ⟨.ref p0, ho, .inl ⟨rfl, _, .inl (.inl hv)⟩, te_seq g h fun v H1 d δ1 t1 g1 r1 h1 => ?_⟩
    obtain ⟨p, ds, h1, hlen, h2⟩ := h1
    obtain ⟨o', ho', e1, hS1, vs1, hv1, hr1⟩ := g1.ok i _ h1
    subst e1
    have e2 : p = p0 := by
      rw [ho] at ho'
      cases ho'
      rfl
    subst e2
    refine ⟨p, vs1, v, rfl, rfl, hv1, by rw [hr1.length]; exact small1000 (Nat.le_of_lt hlen), ?_⟩
    exact k1 S _ _ _ (g1.owned h1 (hr1.append (Reps.cons r1 Reps.nil))) ((st.stp t1).own (mem_adrs_of h1 (by simp [Sl.adr])) (adrs_put h1 rfl)) h2
/-- x.extend(e), e a list -/
theorem s_ext (i : Nat) {x : Str} (h : EK X e δ fun δ1 d => ∃ p ds es, d = .lst es ∧ δ1[i]? = some (.own p ds) ∧ ds.length + es.length ≤ 1000 ∧ P.nx (δ1.set i (.own p (ds ++ es)))) (hown : ∃ p ds, δ[i]? = some (.own p ds) := by exact ⟨_, _, rfl⟩) (hN : X.N[i]? = some x := by rfl)
    (hv : Vis X.env.scope x := by first | exact Or.inl rfl | exact Or.inr (Or.inl rfl)) (hd : (x == ("__debug__" : Str)) = false := by decide) (hcd : (x == ("__classdict__" : Str)) = false := by decide)
    (hbase : attributeBase (.Name x np) "extend" X.env (eval (.Name x np) X.env) = eval (.Name x np) X.env := by rfl)
    (hfew : ((backTo cpos (starEach [e] X.env)).all (fun x => !x.1) && (backToKw cpos (keywordEach [] X.env)).all (fun x => x.1.isSome) && decide ([e].length + ([] : List Keyword).length + (if ([] : List Keyword).isEmpty then 0 else 1) < 30)) = true := by rfl)
    (hline : (apos.endLine == cpos.line) = true := by rfl) (hs : starEach [e] X.env = (false, eval e X.env) :: starEach [] X.env := by rfl) (hplain : (backTo cpos (starEach [] X.env)).any (·.1) = false := by rfl)
    (hsw : swapsWith (.Call (.Attribute (.Name x np) "extend" apos) [e] [] cpos) none pos.line X.env = pure false := by rfl) : SK1 X Γ (.Expr (.Call (.Attribute (.Name x np) "extend" apos) [e] [] cpos) pos) δ P :=
  sk1_of (ps_expr (pe_bm PySem.F.plainAttrs_list PySem.F.slot_list_extend PySem.F.type_list_extend mt_extend (pe_var (i := i) hN hv hd hcd) (pa_cons ek_any pa_nil hs) hbase hfew hline hs hplain) hsw) fun D σ H hq => by
    obtain ⟨S, g, st, k1, _⟩ := hq
    obtain ⟨p0, ds0, h0⟩ := hown
    obtain ⟨o, ho, e0, hS, vs, hv, hr⟩ := g.ok i _ h0
    subst e0
    refine ⟨.ref p0, ho, .inl ⟨rfl, _, .inl (.inl hv)⟩, te_seq g h fun v H1 d δ1 t1 g1 r1 h1 => ?_⟩
    obtain ⟨p, ds, es, rfl, h1, hlen, h2⟩ := h1
    obtain ⟨a, us, rfl, _, ha, ru⟩ := rep_lst.mp r1
    obtain ⟨o', ho', e1, hS1, vs1, hv1, hr1⟩ := g1.ok i _ h1
    subst e1
    have e2 : p = p0 := by
      rw [ho] at ho'
      cases ho'
      rfl
    subst e2
    refine ⟨p, a, vs1, us, rfl, rfl, hv1, ha, by rw [hr1.length, ru.length]; exact Nat.le_of_lt (small1000 hlen), ?_⟩
    exact k1 S _ _ _ (g1.owned h1 (hr1.append ru)) ((st.stp t1).own (mem_adrs_of h1 (by simp [Sl.adr])) (adrs_put h1 rfl)) h2
/-- len(x), x[i] of a list of our own -/
theorem w_lenO (i : Nat) {x lx : Str} {K : Sls → Dt → Prop} {p0 : Addr} {ds : List Dt} (hδ : δ[i]? = some (.own p0 ds)) (hm : X.mg lx = none) (hvb : bootBuiltins lx = some (.builtin "len")) (k : K δ (.int ds.length)) (hN : X.N[i]? = some x := by rfl)
    (hv : Vis X.env.scope x := by first | exact Or.inl rfl | exact Or.inr (Or.inl rfl)) (hd : (x == ("__debug__" : Str)) = false := by decide) (hcd : (x == ("__classdict__" : Str)) = false := by decide)
    (hg : Gl X lx := by rfl) (hn : lx ≠ "__name__" := by decide) (hdb : (lx == ("__debug__" : Str)) = false := by decide)
    (he : starEach [.Name x np] X.env = (false, eval (.Name x np) X.env) :: starEach [] X.env := by rfl) (hpl : (backTo pos (starEach [] X.env)).any (·.1) = false := by rfl) : EK X (.Call (.Name lx ps) [.Name x np] [] pos) δ K :=
  ek_of (pe_callB call_len_seq hg hm hvb (pa_cons (pe_var (i := i) hN hv hd hcd) pa_nil he) hn hdb he hpl) fun σ H Q hq => by
    obtain ⟨S, g, q⟩ := hq
    obtain ⟨o, ho, e0, hS, vs, hv, hr⟩ := g.ok i _ hδ
    subst e0
    exact ⟨.ref p0, ho, p0, vs, rfl, .inl (.inl (.inl hv)), by rw [hr.length]; exact q _ H _ δ (Stp.refl H δ) g (rep_int.mpr rfl) k⟩
theorem w_ixO (i : Nat) {x : Str} {b : Expr} {K : Sls → Dt → Prop} {p0 : Addr} {ds0 : List Dt} (hδ : δ[i]? = some (.own p0 ds0)) (h : EK X b δ fun δ1 d1 => ∃ p ds z d, δ1[i]? = some (.own p ds) ∧ d1 = .int z ∧ atI ds z = some d ∧ K δ1 d) (hN : X.N[i]? = some x := by rfl)
    (hv : Vis X.env.scope x := by first | exact Or.inl rfl | exact Or.inr (Or.inl rfl)) (hd : (x == ("__debug__" : Str)) = false := by decide) (hcd : (x == ("__classdict__" : Str)) = false := by decide) (hs : PlainIx b := by exact fun _ _ => rfl) : EK X (.Subscript (.Name x np) b pos) δ K :=
  ek_of (pe_ix ix_list (pe_var (i := i) hN hv hd hcd) ek_any hs) fun σ H Q hq => by
    obtain ⟨S, g, q⟩ := hq
    obtain ⟨o, ho, e0, hS, vs, hv, hr⟩ := g.ok i _ hδ
    subst e0
    refine ⟨.ref p0, ho, te_seq g h fun v H1 d δ1 t1 g1 r1 h1 => ?_⟩
    obtain ⟨p, ds, z, d, h1, rfl, ha, k⟩ := h1
    obtain ⟨o', ho', e1, hS1, vs1, hv1, hr1⟩ := g1.ok i _ h1
    subst e1
    have e2 : p = p0 := by
      rw [ho] at ho'
      cases ho'
      rfl
    subst e2
    obtain ⟨w, hw, rw⟩ := atI_rep hr1 ha
    exact ⟨p, vs1, z, w, rfl, rep_int.mp r1, .inl (.inl hv1), hw, q w H1 _ δ1 t1 g1 rw k⟩
end
end Pr

end Text_P4
section Text_P5
set_option maxHeartbeats 4000000
namespace Pr
open PySem PySem.Spec PyProof.Rows L2
/-! ## what is walked -/
/-- J yields what stands for ds, wherever what stood away from S still stands -/
def Src (S : Addr → Prop) (H1 : Hp) (J : It) (ds : List Dt) : Prop := ∀ (S' : Addr → Prop) (H : Hp), Mv S H1 S' H → (∀ a, S' a → H a ≠ none) → ∀ i : Nat,
  (∀ d, ds[i]? = some d → J.go i H ∧ ∀ x H', J.yld i H x H' → Ex H H' ∧ Rep S' H' d x) ∧ (ds.length ≤ i → J.stop i H)
def tIK (δ : Sls) (K : Sls → List Dt → Prop) : TI := fun σ H R => ∃ S, Gd S H σ δ ∧ ∀ J H' δ' ds, Stp H δ H' δ' → Gd S H' σ δ' → Src S H' J ds → K δ' ds → R J H'
def IK (X : Cx) (tg iter : Expr) (δ : Sls) (K : Sls → List Dt → Prop) : Prop := PI X tg iter (tIK δ K)
def tIA (X : Cx) (tg iter : Expr) : TI := fun σ H R => ∃ δ K, IK X tg iter δ K ∧ tIK δ K σ H R
section
variable {X : Cx} {tg iter e a b : Expr} {δ : Sls} {K : Sls → List Dt → Prop} {p pos tpos : Pos} {elts : List Expr} {kk : Nat}
theorem ik_any : PI X tg iter (tIA X tg iter) := ⟨fun pins s σ H R I h => by
  obtain ⟨δ, K, h1, h2⟩ := h
  exact h1.run pins s σ H R I h2⟩
theorem ik_of {t : TI} (h : PI X tg iter t) (k : ∀ σ H R, tIK δ K σ H R → t σ H R) : IK X tg iter δ K := ⟨fun pins s σ H R I hq => h.run pins s σ H R I (k σ H R hq)⟩
theorem src_lst {K' : PySem.W.Frag} {S : Addr → Prop} {H : Hp} {a : Addr} {vs : List V} {ds : List Dt} (hs : ¬ S a) (ha : H a = some (.lst vs)) (r : Reps S H ds vs) : Src S H (Itl K' a) ds := fun S' H' m _ i => by
  have h' : SqL K' H' a vs := .inl (.inl (m a _ hs ha).2)
  refine ⟨fun d hd => ?_, fun hi => ⟨vs, h', by rw [r.length]; exact hi⟩⟩
  obtain ⟨v, hv, rv⟩ := r.get hd
  refine ⟨⟨vs, v, h', hv⟩, fun x H2 y => ?_⟩
  obtain ⟨e, y⟩ := y
  subst e
  have e2 : v = x := by
    have := y vs h'
    rw [hv] at this
    exact Option.some.inj this
  subst e2
  exact ⟨Ex.refl _, rv.mv m⟩
theorem src_tup {K' : PySem.W.Frag} {S : Addr → Prop} {H : Hp} {a : Addr} {vs : List V} {ds : List Dt} (hs : ¬ S a) (ha : H a = some (.tup vs)) (r : Reps S H ds vs) : Src S H (Itt K' a) ds := fun S' H' m _ i => by
  have h' : SqT K' H' a vs := .inl (.inl (m a _ hs ha).2)
  refine ⟨fun d hd => ?_, fun hi => ⟨vs, h', by rw [r.length]; exact hi⟩⟩
  obtain ⟨v, hv, rv⟩ := r.get hd
  refine ⟨⟨vs, v, h', hv⟩, fun x H2 y => ?_⟩
  obtain ⟨e, y⟩ := y
  subst e
  have e2 : v = x := by
    have := y vs h'
    rw [hv] at this
    exact Option.some.inj this
  subst e2
  exact ⟨Ex.refl _, rv.mv m⟩
theorem src_rng {S : Addr → Prop} {H : Hp} {lo : Int} {n : Nat} : Src S H (Itr lo n) ((List.range n).map fun i => .int (lo + (i : Nat))) := fun S' H' m _ i => by
  refine ⟨fun d hd => ?_, fun hi => show n ≤ i by simpa using hi⟩
  have hi : i < n := by
    have := (List.getElem?_eq_some_iff.mp hd).1
    simpa using this
  have e : d = .int (lo + (i : Nat)) := by
    rw [List.getElem?_map, List.getElem?_range hi] at hd
    exact (Option.some.inj hd).symm
  refine ⟨hi, fun x H2 y => ?_⟩
  obtain ⟨e1, e2⟩ := y
  subst e1 e2 e
  exact ⟨Ex.refl _, rep_int.mpr rfl⟩
theorem i_lst (h : EK X e δ fun δ1 d => ∃ ds, d = .lst ds ∧ K δ1 ds) : IK X tg e δ K := ik_of (pi_list ek_any) fun σ H R hq => by
  obtain ⟨S, g, q⟩ := hq
  refine te_seq g h fun v H1 d δ1 t1 g1 r1 h1 => ?_
  obtain ⟨ds, rfl, k⟩ := h1
  obtain ⟨a, vs, rfl, hs, ha, r⟩ := rep_lst.mp r1
  exact ⟨a, rfl, ⟨vs, .inl (.inl ha)⟩, q _ H1 δ1 ds t1 g1 (src_lst hs ha r) k⟩
theorem i_tup (h : EK X e δ fun δ1 d => ∃ ds, d = .tup ds ∧ K δ1 ds) : IK X tg e δ K := ik_of (pi_tup ek_any) fun σ H R hq => by
  obtain ⟨S, g, q⟩ := hq
  refine te_seq g h fun v H1 d δ1 t1 g1 r1 h1 => ?_
  obtain ⟨ds, rfl, k⟩ := h1
  obtain ⟨a, vs, rfl, hs, ha, r⟩ := rep_tup.mp r1
  exact ⟨a, rfl, ⟨vs, .inl (.inl ha)⟩, q _ H1 δ1 ds t1 g1 (src_tup hs ha r) k⟩
theorem i_rng1 (hm : X.mg "range" = none) (h : EK X a δ fun δ1 d => ∃ n : Nat, d = .int n ∧ n ≤ 1000 ∧ K δ1 ((List.range n).map fun i => .int (i : Nat))) (hg : Gl X "range" := by rfl) (hs : starEach [a] X.env = [(false, eval a X.env)] := by rfl) : IK X tg (.Call (.Name "range" p) [a] [] pos) δ K :=
  ik_of (pi_range1 hg hm (pa_cons ek_any pa_nil hs) hs) fun σ H R hq => by
    obtain ⟨S, g, q⟩ := hq
    refine te_seq g h fun v H1 d δ1 t1 g1 r1 h1 => ?_
    obtain ⟨n, rfl, hn, k⟩ := h1
    refine ⟨n, by rw [rep_int.mp r1], by omega, by omega, q _ H1 δ1 _ t1 g1 src_rng ?_⟩
    have e : ((List.range (n : Int).toNat).map fun i => Dt.int (0 + (i : Nat))) = (List.range n).map fun i => Dt.int (i : Nat) := by
      rw [Int.toNat_natCast]
      exact List.map_congr_left fun i _ => by rw [Int.zero_add]
    rw [e]
    exact k
theorem i_rng2 (hm : X.mg "range" = none) (h : EK X a δ fun δ1 d1 => EK X b δ1 fun δ2 d2 => ∃ (lo hi : Int), d1 = .int lo ∧ d2 = .int hi ∧ (0 ≤ lo ∧ lo ≤ 1000 ∧ hi ≤ 1000 ∧ 0 ≤ hi) ∧ K δ2 ((List.range (hi - lo).toNat).map fun i => .int (lo + (i : Nat)))) (hg : Gl X "range" := by rfl)
    (hs : starEach [a, b] X.env = [(false, eval a X.env), (false, eval b X.env)] := by rfl) (hs2 : starEach [b] X.env = [(false, eval b X.env)] := by rfl) : IK X tg (.Call (.Name "range" p) [a, b] [] pos) δ K :=
  ik_of (pi_range2 hg hm (pa_cons ek_any (pa_cons ek_any pa_nil hs2) (by rw [hs, hs2])) hs hs2) fun σ H R hq => by
    obtain ⟨S, g, q⟩ := hq
    refine te_seq g h fun v1 H1 d1 δ1 t1 g1 r1 h1 => te_seq g1 h1 fun v2 H2 d2 δ2 t2 g2 r2 h2 => ?_
    obtain ⟨lo, hi, rfl, rfl, hn, k⟩ := h2
    exact ⟨lo, hi, by rw [rep_int.mp r1, rep_int.mp r2], by omega, q _ H2 δ2 _ (t1.trans t2) g2 src_rng k⟩
theorem i_enum (hm : X.mg "enumerate" = none) (h : EK X e δ fun δ1 d => ∃ ds, d = .lst ds ∧ K δ1 (ds.mapIdx fun i d => .tup [.int (i : Nat), d])) (hg : Gl X "enumerate" := by rfl) (hs : starEach [e] X.env = [(false, eval e X.env)] := by rfl) : IK X (.Tuple elts kk tpos) (.Call (.Name "enumerate" p) [e] [] pos) δ K :=
  ik_of (pi_enum hg hm (pa_cons ek_any pa_nil hs) hs) fun σ H R hq => by
    obtain ⟨S, g, q⟩ := hq
    refine te_seq g h fun v H1 d δ1 t1 g1 r1 h1 => ?_
    obtain ⟨ds, rfl, k⟩ := h1
    obtain ⟨a, vs, rfl, hs, ha, r⟩ := rep_lst.mp r1
    refine ⟨a, vs, rfl, .inl (.inl ha), q _ H1 δ1 _ t1 g1 ?_ k⟩
    intro S' H' m lv i
    have h' : SqL X.K H' a vs := .inl (.inl (m a _ hs ha).2)
    refine ⟨fun d hd => ?_, fun hi => ⟨vs, h', by rw [r.length]; simpa using hi⟩⟩
    rw [List.getElem?_mapIdx] at hd
    cases hd0 : ds[i]? with
    | none => rw [hd0] at hd; cases hd
    | some d0 =>
      rw [hd0] at hd
      have e0 : d = .tup [.int (i : Nat), d0] := (Option.some.inj hd).symm
      subst e0
      obtain ⟨v, hv, rv⟩ := r.get hd0
      refine ⟨⟨vs, v, h', hv⟩, fun x H2 y => ?_⟩
      obtain ⟨T, x0, rfl, hT, rfl, y⟩ := y
      have e2 : v = x0 := by
        have := y vs h'
        rw [hv] at this
        exact Option.some.inj this
      subst e2
      exact ⟨Ex.new hT, rep_tup.mpr ⟨T, _, rfl, fun z => lv T z hT, upd_same, Reps.cons (rep_int.mpr rfl) (Reps.cons ((rv.mv m).mv (Ex.new hT).mv) Reps.nil)⟩⟩
theorem i_zip (hm : X.mg "zip" = none) (h : EK X a δ fun δ1 d1 => EK X b δ1 fun δ2 d2 => ∃ xs ys, d1 = .lst xs ∧ d2 = .lst ys ∧ K δ2 (List.zipWith (fun x y => .tup [x, y]) xs ys)) (hg : Gl X "zip" := by rfl)
    (hs : starEach [a, b] X.env = (false, eval a X.env) :: starEach [b] X.env := by rfl) (hs2 : starEach [b] X.env = (false, eval b X.env) :: starEach [] X.env := by rfl) (hpl : (backTo pos (starEach [b] X.env)).any (·.1) = false := by rfl) : IK X (.Tuple elts kk tpos) (.Call (.Name "zip" p) [a, b] [] pos) δ K :=
  ik_of (pi_zip hg hm (pa_cons ek_any (pa_cons ek_any pa_nil hs2) hs) hs hpl) fun σ H R hq => by
    obtain ⟨S, g, q⟩ := hq
    refine te_seq g h fun v1 H1 d1 δ1 t1 g1 r1 h1 => te_seq g1 h1 fun v2 H2 d2 δ2 t2 g2 r2 h2 => ?_
    obtain ⟨xs, ys, rfl, rfl, k⟩ := h2
    obtain ⟨a, vs, rfl, hsa, ha, ra⟩ := rep_lst.mp (r1.mv (t2.mv g1))
    obtain ⟨b, us, rfl, hsb, hb, rb⟩ := rep_lst.mp r2
    refine ⟨a, b, vs, us, rfl, .inl (.inl ha), .inl (.inl hb), q _ H2 δ2 _ (t1.trans t2) g2 ?_ k⟩
    intro S' H' m lv i
    have h1' : SqL X.K H' a vs := .inl (.inl (m a _ hsa ha).2)
    have h2' : SqL X.K H' b us := .inl (.inl (m b _ hsb hb).2)
    refine ⟨fun d hd => ?_, fun hi => ⟨vs, us, h1', h2', ?_⟩⟩
    · rw [List.getElem?_zipWith] at hd
      cases hx : xs[i]? with
      | none => rw [hx] at hd; cases hd
      | some x0 =>
        cases hy : ys[i]? with
        | none => rw [hx, hy] at hd; cases hd
        | some y0 =>
          rw [hx, hy] at hd
          have e0 : d = .tup [x0, y0] := (Option.some.inj hd).symm
          subst e0
          obtain ⟨v, hv, rv⟩ := ra.get hx
          obtain ⟨u, hu, ru⟩ := rb.get hy
          refine ⟨⟨vs, us, v, u, h1', h2', hv, hu⟩, fun x H3 y => ?_⟩
          obtain ⟨T, x1, y1, rfl, hT, rfl, z1, z2⟩ := y
          have e1 : v = x1 := by
            have := z1 vs h1'
            rw [hv] at this
            exact Option.some.inj this
          have e2 : u = y1 := by
            have := z2 us h2'
            rw [hu] at this
            exact Option.some.inj this
          subst e1 e2
          exact ⟨Ex.new hT, rep_tup.mpr ⟨T, _, rfl, fun z => lv T z hT, upd_same, Reps.cons ((rv.mv m).mv (Ex.new hT).mv) (Reps.cons ((ru.mv m).mv (Ex.new hT).mv) Reps.nil)⟩⟩
    · rw [ra.length, rb.length]
      rw [List.length_zipWith] at hi
      omega
end

/-! ## loops -/
section
variable {Γ : Gm} {X : Cx} {δ : Sls} {P : Pst} {tg iter c : Expr} {body : List Stmt} {pos : Pos}
/-- a loop's own frame -/
theorem StA.loop {S : Addr → Prop} {H : Hp} {σ : L2.St} (g : Gd S H σ δ) : StA ⟨S, H, adrs δ⟩ S H δ := ⟨g.live, fun b hb => g.inS hb, fun _ h => .inl h, fun _ h => h, fun _ _ h _ => h, fun _ h => .inl h⟩
theorem StA.old {S : Addr → Prop} {H : Hp} {σ : L2.St} (st : StA Γ S H δ) (g : Gd S H σ δ) {p : Addr} (hp : H p = none) : Γ.H0 p = none := by
  cases e0 : Γ.H0 p with
  | none => rfl
  | some u =>
    by_cases hb : p ∈ Γ.B
    · exact absurd hp (g.live p (st.sub p (st.bS p hb)))
    · rw [st.keep p u e0 hb] at hp
      cases hp
theorem StA.out {S S' : Addr → Prop} {H H' : Hp} {σ : L2.St} {δ' : Sls} (st : StA Γ S H δ) (g : Gd S H σ δ) (lp : StA ⟨S, H, adrs δ⟩ S' H' δ') : StA Γ S' H' δ' := by
  refine ⟨st.live, st.bS, fun a z => ?_, fun a z => lp.sub a (st.sub a z), fun a o h1 h2 => lp.keep a o (st.keep a o h1 h2) fun z => ?_, fun p hp => ?_⟩
  · rcases lp.loc a z with z | z
    · exact st.loc a z
    · exact .inr (st.old g z)
  · rcases st.new a z with e | e
    · exact h2 e
    · rw [e] at h1
      cases h1
  · rcases lp.new p hp with z | z
    · exact st.new p z
    · exact .inr (st.old g z)
theorem s_for (h : IK X tg iter δ fun δ1 ds => ∃ Iv : Nat → Sls → Prop, Iv 0 δ1 ∧
      (∀ (Γ' : Gm) (i : Nat) (d : Dt) (δ2 : Sls), ds[i]? = some d → Iv i δ2 → GK X (fun _ => True) tg d δ2 fun δ3 => SK X Γ' body δ3 { nx := Iv (i + 1), rt := P.rt, bk := P.nx, ct := Iv (i + 1) }) ∧ ∀ δ2, Iv ds.length δ2 → P.nx δ2)
    (hp : PassesOwn (model X.prog X.w) X.A X.env X.xe := by exact PassesOwn.never) (hc : X.calm = true := by rfl) (hs : ∀ x, foldedSetIterable iter X.env x = pure x := by intro _; rfl) : SK1 X Γ (.For tg iter body [] pos) δ P :=
  sk1_of (ps_for hp hc ik_any gk_any sk_any hs) fun D σ H hq => by
    obtain ⟨S, g, st, k1, k2, k3, k4⟩ := hq
    refine ⟨δ, _, h, S, g, fun J H1 δ1 ds t1 g1 src hI => ?_⟩
    obtain ⟨Iv, h0, hstep, hend⟩ := hI
    have st1 := st.stp t1
    refine ⟨fun i m σ2 H2 => m = ds.length - i ∧ i ≤ ds.length ∧ ∃ S2 δ2, Gd S2 H2 σ2 δ2 ∧ StA ⟨S, H1, adrs δ1⟩ S2 H2 δ2 ∧ Iv i δ2, ⟨ds.length, by simp, Nat.zero_le _, S, δ1, g1, StA.loop g1, h0⟩, ?_⟩
    rintro i m σ2 H2 ⟨rfl, hi, S2, δ2, g2, st2, hiv⟩
    obtain ⟨sg, ss⟩ := src S2 H2 st2.mv0 g2.live i
    by_cases hlt : i < ds.length
    · obtain ⟨hgo, hyld⟩ := sg (ds[i]) (List.getElem?_eq_getElem hlt)
      refine .inr ⟨hgo, fun σ' H' => ∃ S2 δ2, Gd S2 H' σ' δ2 ∧ StA ⟨S, H1, adrs δ1⟩ S2 H' δ2 ∧ Iv (i + 1) δ2, fun σ' H' hN => ⟨ds.length - (i + 1), by omega, rfl, hlt, hN⟩, fun x H3 y => ?_⟩
      obtain ⟨ex, r⟩ := hyld x H3 y
      refine ⟨_, ds[i], δ2, _, hstep ⟨S, H1, adrs δ1⟩ i _ δ2 (List.getElem?_eq_getElem hlt) hiv, S2, g2.ex ex, r, fun σ3 δ3 g3 e3 _ k => ?_⟩
      refine ⟨⟨S, H1, adrs δ1⟩, δ3, _, k, S2, g3, (st2.ex ex).adr (adrs_of e3), fun S4 σ4 H4 δ4 g4 st4 z => ⟨S4, δ4, g4, st4, z⟩, fun S4 σ4 v4 H4 δ4 d4 g4 st4 r4 z => ?_, fun S4 σ4 H4 δ4 g4 st4 z => k1 S4 σ4 H4 δ4 g4 (st1.out g1 st4) z, fun S4 σ4 H4 δ4 g4 st4 z => ⟨S4, δ4, g4, st4, z⟩⟩
      exact k2 S4 σ4 v4 H4 δ4 d4 g4 (st1.out g1 st4) (r4.mv fun a o n z => ⟨fun q => n (st1.sub a q), z⟩) z
    · have e : i = ds.length := by omega
      subst e
      exact .inl ⟨ss (Nat.le_refl _), k1 S2 σ2 H2 δ2 g2 (st1.out g1 st2) (hend δ2 hiv)⟩
/-- while: a word and a measure -/
theorem s_while (Iv : Nat → Sls → Prop) (h0 : ∃ m, Iv m δ) (h : ∀ m δ2, Iv m δ2 → TK X c δ2 fun δ3 b => if b = true then SK X Γ body δ3 { nx := fun δ4 => ∃ m', m' < m ∧ Iv m' δ4, rt := P.rt, bk := P.nx, ct := fun δ4 => ∃ m', m' < m ∧ Iv m' δ4 } else P.nx δ3)
    (hp : PassesOwn (model X.prog X.w) X.A X.env X.xe := by exact PassesOwn.never) : SK1 X Γ (.While c body [] pos) δ P :=
  sk1_of (ps_while hp tk_any sk_any) fun D σ H hq => by
    obtain ⟨S, g, st, k1, k2, k3, k4⟩ := hq
    refine ⟨fun m σ2 H2 => ∃ S2 δ2, Gd S2 H2 σ2 δ2 ∧ StA Γ S2 H2 δ2 ∧ Iv m δ2, h0.elim fun m hm => ⟨m, S, δ, g, st, hm⟩, ?_⟩
    rintro m σ2 H2 ⟨S2, δ2, g2, st2, hiv⟩
    refine tt_seq g2 (h m δ2 hiv) fun b H3 δ3 t3 g3 h3 => ?_
    cases b with
    | true =>
      refine ⟨fun σ' H' => ∃ S2 δ2, Gd S2 H' σ' δ2 ∧ StA Γ S2 H' δ2 ∧ ∃ m', m' < m ∧ Iv m' δ2, fun σ' H' ⟨S4, δ4, g4, st4, m', hm, z⟩ => ⟨m', hm, S4, δ4, g4, st4, z⟩, ?_⟩
      exact ⟨Γ, δ3, _, h3, S2, g3, st2.stp t3, fun S4 σ4 H4 δ4 g4 st4 z => ⟨S4, δ4, g4, st4, z⟩, k2, k1, fun S4 σ4 H4 δ4 g4 st4 z => ⟨S4, δ4, g4, st4, z⟩⟩
    | false => exact k1 S2 σ2 H3 δ3 g3 (st2.stp t3) h3
end

/-! ## comprehensions -/
def tsK (δ : Sls) (K : Sls → Bool → Prop) : TT := tTK δ K
def TsK (X : Cx) (ifs : List Expr) (δ : Sls) (K : Sls → Bool → Prop) : Prop := PTs X ifs (tTK δ K)
section
variable {X : Cx} {c : Expr} {δ : Sls} {K : Sls → Bool → Prop}
theorem ts_nil (k : K δ true) : TsK X [] δ K := ⟨fun pins s σ H Q I hq => by
  obtain ⟨S, g, q⟩ := hq
  exact pts_nil.run pins s σ H Q I (q true H δ (Stp.refl H δ) g k)⟩
theorem ts_one (h : TK X c δ K) : TsK X [c] δ K := ⟨fun pins s σ H Q I hq => (pts_one h).run pins s σ H Q I hq⟩
end
/-- of the block of a comprehension, whatever its frame -/
def Blk (X : Cx) (scope : Scope) (F : Cx → Prop) : Prop := ∀ (s : Shared) (H : Hp) (C : Addr) (cl : List (Str × Addr)) (fp : List Addr), F (X.blk s H scope (compEnvC scope cl C X.env) fp)
def wipeE (δ : Sls) : List Nat → Sls
  | [] => δ
  | v :: vs => (wipeE δ vs).set v .any
/-- the block's own names as they were ahead of it, all else as behind it -/
def merge (vs : List Nat) (δ δ' : Sls) : Sls := δ'.mapIdx fun i e => if i ∈ vs then δ.getD i .any else e
theorem wipeE_get {δ : Sls} : ∀ {vs : List Nat} {i : Nat}, (wipeE δ vs)[i]? = if i ∈ vs ∧ i < δ.length then some .any else δ[i]?
  | [], i => by simp [wipeE]
  | v :: vs, i => by
    have hl : (wipeE δ vs).length = δ.length := by
      induction vs with
      | nil => rfl
      | cons w ws ih => simp [wipeE, ih]
    show ((wipeE δ vs).set v .any)[i]? = _
    rw [List.getElem?_set, wipeE_get (vs := vs), hl]
    by_cases h : v = i
    · subst h
      by_cases h2 : v < δ.length
      · simp [h2]
      · have : δ[v]? = none := List.getElem?_eq_none (by omega)
        simp [h2, this]
    · have h' : ¬ i = v := fun e => h e.symm
      simp [h, h']
theorem wipe_get {σ : L2.St} : ∀ {vs : List Nat} {i : Nat}, (wipe σ vs)[i]? = if i ∈ vs ∧ i < σ.length then some none else σ[i]?
  | [], i => by simp [wipe]
  | v :: vs, i => by
    show ((wipe σ vs).set v none)[i]? = _
    rw [List.getElem?_set, wipe_get (vs := vs), wipe_length]
    by_cases h : v = i
    · subst h
      by_cases h2 : v < σ.length
      · simp [h2]
      · have : σ[v]? = none := List.getElem?_eq_none (by omega)
        simp [h2, this]
    · have h' : ¬ i = v := fun e => h e.symm
      simp [h, h']
theorem adm_wipe {δ : Sls} {vs : List Nat} (hv : ∀ i ∈ vs, ∀ e, δ[i]? = some e → e.adr = []) : (wipeE δ vs).map Sl.adr = δ.map Sl.adr := by
  apply List.ext_getElem?
  intro i
  rw [List.getElem?_map, List.getElem?_map, wipeE_get]
  by_cases h : i ∈ vs ∧ i < δ.length
  · rw [if_pos h]
    have e := List.getElem?_eq_getElem h.2
    rw [e]
    show some [] = some _
    rw [hv i h.1 _ e]
  · rw [if_neg h]
theorem Gd.wipe {S : Addr → Prop} {H : Hp} {σ : L2.St} {δ : Sls} {vs : List Nat} (g : Gd S H σ δ) (hv : ∀ i ∈ vs, ∀ e, δ[i]? = some e → e.adr = []) : Gd S H (L2.wipe σ vs) (wipeE δ vs) := by
  have hlE : (wipeE δ vs).length = δ.length := by
    have := congrArg List.length (adm_wipe hv)
    simpa using this
  refine ⟨by rw [wipe_length, hlE, g.len], fun i e hi => ?_, g.live, by rw [adrs_of (adm_wipe hv)]; exact g.nd⟩
  rw [wipeE_get] at hi
  rw [wipe_get, g.len]
  by_cases h : i ∈ vs ∧ i < δ.length
  · rw [if_pos h] at hi ⊢
    cases hi
    exact ⟨none, rfl, trivial⟩
  · rw [if_neg h] at hi ⊢
    exact g.ok i e hi
theorem merge_get {vs : List Nat} {δ δ' : Sls} {i : Nat} : (merge vs δ δ')[i]? = (δ'[i]?).map fun e => if i ∈ vs then δ.getD i .any else e := by
  unfold merge
  rw [List.getElem?_mapIdx]
/-- behind a turn: the outer slots -/
theorem Gd.merge {S : Addr → Prop} {H H' : Hp} {σ σ' : L2.St} {δ δ' : Sls} {vs : List Nat} (g : Gd S H σ δ) (g' : Gd S H' σ' δ') (hv : ∀ i ∈ vs, ∀ e, δ[i]? = some e → e.adr = []) (ad : δ'.map Sl.adr = (wipeE δ vs).map Sl.adr) (m : Mv S H S H') (hw : L2.wipe σ' vs = L2.wipe σ vs) :
    Gd S H' σ (Pr.merge vs δ δ') ∧ (Pr.merge vs δ δ').map Sl.adr = δ.map Sl.adr := by
  have ad2 := ad.trans (adm_wipe hv)
  have hl : δ'.length = δ.length := by
    have := congrArg List.length ad2
    simpa using this
  have hlσ : σ'.length = σ.length := by rw [g.len, g'.len, hl]
  have adm : (Pr.merge vs δ δ').map Sl.adr = δ.map Sl.adr := by
    apply List.ext_getElem?
    intro i
    have e2 := congrArg (fun l : List (List Addr) => l[i]?) ad2
    simp only [List.getElem?_map] at e2
    rw [List.getElem?_map, List.getElem?_map, merge_get]
    by_cases h : i ∈ vs
    · cases h1 : δ'[i]? with
      | none =>
        rw [h1] at e2
        rw [← e2]
        rfl
      | some e =>
        have hi : i < δ.length := by rw [← hl]; exact (List.getElem?_eq_some_iff.mp h1).1
        have e3 := List.getElem?_eq_getElem hi
        rw [e3]
        simp [h, List.getD, e3]
    · rw [← e2]
      cases h1 : δ'[i]? with
      | none => rfl
      | some e => simp [h]
  refine ⟨⟨by rw [g.len]; unfold Pr.merge; rw [List.length_mapIdx, hl], fun i e hi => ?_, g'.live, by rw [adrs_of adm]; exact g.nd⟩, adm⟩
  rw [merge_get] at hi
  cases h1 : δ'[i]? with
  | none => rw [h1] at hi; cases hi
  | some e' =>
    rw [h1] at hi
    have hi' : i < δ.length := by rw [← hl]; exact (List.getElem?_eq_some_iff.mp h1).1
    by_cases h : i ∈ vs
    · have e3 := List.getElem?_eq_getElem hi'
      have ee : e = δ[i] := by
        simp [h, List.getD, e3] at hi
        exact hi.symm
      subst ee
      obtain ⟨o, ho, hk⟩ := g.ok i _ e3
      refine ⟨o, ho, hk.mv m (fun _ z => z) fun a ha => ?_⟩
      rw [hv i h _ e3] at ha
      cases ha
    · have ee : e = e' := by
        simp [h] at hi
        exact hi.symm
      subst ee
      obtain ⟨o, ho, hk⟩ := g'.ok i _ h1
      refine ⟨o, ?_, hk⟩
      have e4 := congrArg (fun l : L2.St => l[i]?) hw
      simp only [wipe_get, h, false_and, if_false] at e4
      rw [← e4]
      exact ho
section
variable {X : Cx} {elt tg iter : Expr} {ifs : List Expr} {scope : Scope} {own : List (Str × Nat)} {pos : Pos} {δ : Sls} {K : Sls → Dt → Prop}
/-- the reading of a comprehension: an invariant over the turn, the slots, the list so far -/
def LcK (X : Cx) (tg elt : Expr) (ifs : List Expr) (scope : Scope) (vs : List Nat) (K : Sls → Dt → Prop) : Sls → List Dt → Prop := fun δ1 ds => ds.length ≤ 1000 ∧ (∀ i ∈ vs, ∀ e, δ1[i]? = some e → e.adr = []) ∧
  ∃ Iv : Nat → Sls → List Dt → Prop, Iv 0 δ1 [] ∧ (∀ i d δ2 acc, ds[i]? = some d → Iv i δ2 acc → Blk X scope fun Y => GK Y (· ∈ vs) tg d (wipeE δ2 vs) fun δ3 => Blk X scope fun Y => TsK Y ifs δ3 fun δ4 b =>
      if b = true then Blk X scope fun Y => EK Y elt δ4 fun δ5 d' => Iv (i + 1) (merge vs δ2 δ5) (acc ++ [d']) else Iv (i + 1) (merge vs δ2 δ4) acc) ∧ ∀ δ2 acc, Iv ds.length δ2 acc → K δ2 (.lst acc)
def gBlk (X : Cx) (tg : Expr) (scope : Scope) : TG := fun v σ H Q => ∃ J d δ K, (Blk X scope fun Y => GK Y J tg d δ K) ∧ tGK J d δ K v σ H Q
def tBlk (X : Cx) (ifs : List Expr) (scope : Scope) : TT := fun σ H Q => ∃ δ K, (Blk X scope fun Y => TsK Y ifs δ K) ∧ tTK δ K σ H Q
def eBlk (X : Cx) (e : Expr) (scope : Scope) : TE := fun σ H Q => ∃ δ K, (Blk X scope fun Y => EK Y e δ K) ∧ tEK δ K σ H Q
theorem lc_run {S : Addr → Prop} {σ : L2.St} {H : Hp} {Q : VK} (g : Gd S H σ δ) (h : IK X tg iter δ (LcK X tg elt ifs scope (own.map (·.2)) K))
    (q : ∀ v H' d δ', Stp H δ H' δ' → Gd S H' σ δ' → Rep S H' d v → K δ' d → Q v H') : tLc (tIA X tg iter) (gBlk X tg scope) (tBlk X ifs scope) (eBlk X elt scope) (own.map (·.2)) σ H Q := by
  refine ⟨δ, _, h, S, g, fun J H1 δ1 ds t1 g1 src hI => ?_⟩
  obtain ⟨h1000, hv1, Iv, h0, hstep, hend⟩ := hI
  intro D hD
  -- the state between turns: away from D
  refine ⟨fun i m H2 => m = ds.length - i ∧ i ≤ ds.length ∧ ∃ δ2 acc vs, Gd (plus S D) H2 σ δ2 ∧ Stp (upd H1 D (.lst [])) δ1 (upd H2 D (.lst [])) δ2 ∧ (H2 D = some (.lst vs) ∧ Reps (plus S D) H2 acc vs ∧ acc.length ≤ i) ∧ Iv i δ2 acc,
    ⟨ds.length, by simp, Nat.zero_le _, δ1, [], [], g1.grow hD, by rw [upd_upd]; exact Stp.refl _ _, ⟨upd_same, Reps.nil, Nat.zero_le _⟩, h0⟩, ?_⟩
  rintro i m H2 ⟨rfl, hi, δ2, acc, vs, g2, t2, ⟨hDv, ra, hla⟩, hiv⟩
  have mv2 : Mv S H1 (plus S D) H2 := fun a o n z => by
    have ne : a ≠ D := ne_of_none z hD
    refine ⟨fun w => w.elim n ne, ?_⟩
    have := t2.keep a o (fun w => n (g1.inS w)) (by rw [upd_ne ne]; exact z)
    rw [upd_ne ne] at this
    exact this
  obtain ⟨sg, ss⟩ := src (plus S D) H2 mv2 g2.live i
  have hv2 : ∀ i ∈ own.map (·.2), ∀ e, δ2[i]? = some e → e.adr = [] := fun i hi e he => by
    have e1 := congrArg (fun l : List (List Addr) => l[i]?) t2.adm
    simp only [List.getElem?_map, he] at e1
    cases h1 : δ1[i]? with
    | none => rw [h1] at e1; cases e1
    | some e' =>
      rw [h1] at e1
      rw [Option.some.inj e1]
      exact hv1 i hi e' h1
  have nD : D ∉ adrs δ2 := fun z => by
    rw [t2.adr] at z
    exact g1.fresh hD z
  by_cases hlt : i < ds.length
  · obtain ⟨hgo, hyld⟩ := sg (ds[i]) (List.getElem?_eq_getElem hlt)
    refine .inr ⟨hgo, fun H' => ∃ δ2 acc vs, Gd (plus S D) H' σ δ2 ∧ Stp (upd H1 D (.lst [])) δ1 (upd H' D (.lst [])) δ2 ∧ (H' D = some (.lst vs) ∧ Reps (plus S D) H' acc vs ∧ acc.length ≤ i + 1) ∧ Iv (i + 1) δ2 acc, fun H' hN => ⟨ds.length - (i + 1), by omega, rfl, hlt, hN⟩, fun x H3 y => ?_⟩
    obtain ⟨ex, r⟩ := hyld x H3 y
    refine ⟨_, ds[i], wipeE δ2 (own.map (·.2)), _, hstep i _ δ2 acc (List.getElem?_eq_getElem hlt) hiv, plus S D, (g2.ex ex).wipe hv2, r, fun σ3 δ3 g3 e3 j3 k3 => ?_⟩
    have hl3 : σ3.length = σ.length := by
      rw [g3.len, g2.len]
      have := congrArg List.length (e3.trans (adm_wipe hv2))
      simpa using this
    have hw3 : wipe σ3 (own.map (·.2)) = wipe σ (own.map (·.2)) := by
      apply List.ext_getElem?
      intro j
      rw [wipe_get, wipe_get, hl3]
      by_cases h : j ∈ own.map (·.2) ∧ j < σ.length
      · rw [if_pos h, if_pos h]
      · rw [if_neg h, if_neg h]
        by_cases hj : j ∈ own.map (·.2)
        · have hge : σ.length ≤ j := Nat.le_of_not_lt fun z => h ⟨hj, z⟩
          rw [List.getElem?_eq_none hge, List.getElem?_eq_none (by rw [hl3]; exact hge)]
        · rw [j3 j hj, wipe_get, if_neg (fun z => hj z.1)]
    have nD3 : D ∉ adrs δ3 := by
      rw [adrs_of (e3.trans (adm_wipe hv2))]
      exact nD
    have hD3 : H3 D = some (.lst vs) := ex D _ hDv
    have tw : Stp (upd H1 D (.lst [])) δ1 (upd H3 D (.lst [])) δ3 := by
      refine ⟨fun a o n z => ?_, (e3.trans (adm_wipe hv2)).trans t2.adm⟩
      have z2 := t2.keep a o n z
      by_cases ea : a = D
      · subst ea
        rw [upd_same] at z2 ⊢
        exact z2
      · rw [upd_ne ea] at z2 ⊢
        exact ex a o z2
    have fin : ∀ {H5 : Hp} {δ5 : Sls} {acc' : List Dt} {vs' : List V}, Gd (plus S D) H5 σ3 δ5 → Stp H3 δ3 H5 δ5 → Reps (plus S D) H5 acc' vs' → acc'.length ≤ i + 1 → Iv (i + 1) (merge (own.map (·.2)) δ2 δ5) acc' →
        ∃ δ2 acc vs, Gd (plus S D) (upd H5 D (.lst vs')) σ δ2 ∧ Stp (upd H1 D (.lst [])) δ1 (upd (upd H5 D (.lst vs')) D (.lst [])) δ2 ∧ (upd H5 D (.lst vs') D = some (.lst vs) ∧ Reps (plus S D) (upd H5 D (.lst vs')) acc vs ∧ acc.length ≤ i + 1) ∧ Iv (i + 1) δ2 acc := by
      intro H5 δ5 acc' vs' g5 t5 r5 l5 k5
      have m25 : Mv (plus S D) H2 (plus S D) H5 := ex.mv.trans (t5.mv g3)
      obtain ⟨gm, am⟩ := (g2).merge g5 hv2 (t5.adm.trans e3) m25 hw3
      have mD : Mv (plus S D) H5 (plus S D) (upd H5 D (.lst vs')) := fun a o n z => ⟨n, by rw [upd_ne (show a ≠ D from fun e => n (.inr e))]; exact z⟩
      refine ⟨merge (own.map (·.2)) δ2 δ5, acc', vs', gm.mv mD (fun _ z => z) (fun a ha u hu => ?_) (fun a z => ?_), ⟨fun a o n z => ?_, am.trans t2.adm⟩, ⟨upd_same, r5.mv mD, l5⟩, k5⟩
      · rw [upd_ne (show a ≠ D from fun e => nD (by rw [← e, ← adrs_of am]; exact ha))]
        exact hu
      · by_cases ea : a = D
        · rw [ea, upd_same]
          exact fun z => by cases z
        · rw [upd_ne ea]
          exact g5.live a z
      · have z2 := tw.keep a o n z
        rw [upd_upd]
        by_cases ea : a = D
        · subst ea
          rw [upd_same] at z2 ⊢
          exact z2
        · rw [upd_ne ea] at z2 ⊢
          exact t5.keep a o (by rw [← adrs_of tw.adm] at n; exact n) z2
    refine ⟨hw3, δ3, _, k3, plus S D, g3, fun b H4 δ4 t4 g4 k4 => ?_⟩
    have hD4 : H4 D = some (.lst vs) := t4.keep D _ nD3 hD3
    cases b with
    | false =>
      have hr4 : Reps (plus S D) H4 acc vs := (ra.mv ex.mv).mv (t4.mv g3)
      have hu : upd H4 D (.lst vs) = H4 := by
        funext a
        by_cases ea : a = D
        · rw [ea, upd_same, hD4]
        · rw [upd_ne ea]
      have := fin g4 t4 hr4 (by omega) k4
      rw [hu] at this
      exact this
    | true =>
      refine ⟨δ4, _, (show Blk X scope _ from k4), plus S D, g4, fun y H5 d' δ5 t5 g5 r5 k5 => ?_⟩
      have hD5 : H5 D = some (.lst vs) := t5.keep D _ (by rw [t4.adr]; exact nD3) hD4
      refine ⟨vs, hD5, ?_, ?_⟩
      · rw [ra.length]
        exact small1000 (by omega)
      · exact fin g5 (t4.trans t5) ((((ra.mv ex.mv).mv (t4.mv g3)).mv (t5.mv g4)).append (Reps.cons r5 Reps.nil)) (by rw [List.length_append]; simp; omega) k5
  · have e : i = ds.length := by omega
    subst e
    refine .inl ⟨ss (Nat.le_refl _), ?_⟩
    have nS : ¬ S D := fun z => g1.live D z hD
    have g2' : Gd S H2 σ δ2 := g2.shrink (fun a z => .inl z) fun a ha => by
      rw [t2.adr] at ha
      exact g1.inS ha
    refine q (.ref D) H2 (.lst acc) δ2 ⟨fun a o n z => ?_, t2.adm.trans t1.adm⟩ g2' (rep_lst.mpr ⟨D, vs, rfl, nS, hDv, ra.mv fun a o n z => ⟨fun w => n (.inl w), z⟩⟩) (hend δ2 acc hiv)
    have z1 := t1.keep a o n z
    have ne : a ≠ D := ne_of_none z1 hD
    have z2 := t2.keep a o (by rw [t1.adr]; exact n) (by rw [upd_ne ne]; exact z1)
    rw [upd_ne ne] at z2
    exact z2
theorem w_lc (h : IK X tg iter δ (LcK X tg elt ifs scope (own.map (·.2)) K)) (hN : X.N.Nodup := by assumption) (ok : BlkOk X.N X.env.scope scope own := by exact blkOk_by (by rfl)) (hc : X.calm = true := by rfl) (hs : ∀ x, foldedSetIterable iter X.env x = pure x := by intro _; rfl) : EK X (.ListComp elt [⟨tg, iter, ifs, 0⟩] scope pos) δ K :=
  ek_of (pe_lc (g := gBlk X tg scope) (tt := tBlk X ifs scope) (te := eBlk X elt scope) hc hN ik_any ok
    (fun s H C cl fp => ⟨fun pins s' σ H' v u Q I r hq => by
      obtain ⟨J, d, δ, K, h1, h2⟩ := hq
      exact (h1 s H C cl fp).run pins s' σ H' v u Q I r h2⟩)
    (fun s H C cl fp => ⟨fun pins s' σ H' Q I hq => by
      obtain ⟨δ, K, h1, h2⟩ := hq
      exact (h1 s H C cl fp).run pins s' σ H' Q I h2⟩)
    (fun s H C cl fp => ⟨fun pins s' σ H' Q I hq => by
      obtain ⟨δ, K, h1, h2⟩ := hq
      exact (h1 s H C cl fp).run pins s' σ H' Q I h2⟩) hs) fun σ H Q hq => by
    obtain ⟨S, g, q⟩ := hq
    exact lc_run g h q
theorem s_setLc (i : Nat) {Γ : Gm} {P : Pst} {y : Str} {py spos : Pos} (h : IK X tg iter δ (LcK X tg elt ifs scope (own.map (·.2)) fun δ1 d => (∃ z, δ1[i]? = some z ∧ z.adr = []) ∧ P.nx (δ1.set i (.v d)))) (hN : X.N.Nodup := by assumption) (hy : X.N[i]? = some y := by rfl) (hyl : X.env.scope.names.lookup y = some .local := by rfl)
    (hsw : swapsWith (.ListComp elt [⟨tg, iter, ifs, 0⟩] scope pos) (some (.Name y py)) spos.line X.env = pure true := by exact sw_true rfl rfl rfl (by decide +kernel))
    (ok : BlkOk X.N X.env.scope scope own := by exact blkOk_by (by rfl)) (hc : X.calm = true := by rfl) (hs : ∀ x, foldedSetIterable iter X.env x = pure x := by intro _; rfl) : SK1 X Γ (.Assign [.Name y py] (.ListComp elt [⟨tg, iter, ifs, 0⟩] scope pos) spos) δ P :=
  sk1_of (ps_setLc (g := gBlk X tg scope) (tt := tBlk X ifs scope) (te := eBlk X elt scope) hc hN hy hyl hsw ik_any ok
    (fun s H C cl fp => ⟨fun pins s' σ H' v u Q I r hq => by
      obtain ⟨J, d, δ, K, h1, h2⟩ := hq
      exact (h1 s H C cl fp).run pins s' σ H' v u Q I r h2⟩)
    (fun s H C cl fp => ⟨fun pins s' σ H' Q I hq => by
      obtain ⟨δ, K, h1, h2⟩ := hq
      exact (h1 s H C cl fp).run pins s' σ H' Q I h2⟩)
    (fun s H C cl fp => ⟨fun pins s' σ H' Q I hq => by
      obtain ⟨δ, K, h1, h2⟩ := hq
      exact (h1 s H C cl fp).run pins s' σ H' Q I h2⟩) hs) fun D σ H hq => by
    obtain ⟨S, g, st, k1, _⟩ := hq
    refine lc_run (K := fun δ1 d => (∃ z, δ1[i]? = some z ∧ z.adr = []) ∧ P.nx (δ1.set i (.v d))) g h fun v H1 d δ1 t1 g1 r1 h1 => ?_
    obtain ⟨⟨z, hz, hz2⟩, h1⟩ := h1
    exact k1 S _ H1 _ (g1.set hz hz2 r1) ((st.stp t1).adr (adrs_set hz hz2 rfl)) h1
/-- a pure comprehension: the items that f keeps, each as g makes it -/
theorem lc_pure {vs : List Nat} {δ1 : Sls} {ds : List Dt} (f : Dt → Bool) (gg : Dt → Dt) (hl : ds.length ≤ 1000) (hv : ∀ i ∈ vs, ∀ e, δ1[i]? = some e → e.adr = [])
    (h : ∀ d ∈ ds, Blk X scope fun Y => GK Y (· ∈ vs) tg d (wipeE δ1 vs) fun δ3 => Blk X scope fun Y => TsK Y ifs δ3 fun δ4 b => b = f d ∧ if b = true then Blk X scope fun Y => EK Y elt δ4 fun δ5 d' => merge vs δ1 δ5 = δ1 ∧ d' = gg d else merge vs δ1 δ4 = δ1)
    (k : K δ1 (.lst ((ds.filter f).map gg))) : LcK X tg elt ifs scope vs K δ1 ds := by
  refine ⟨hl, hv, fun i δ acc => δ = δ1 ∧ acc = ((ds.take i).filter f).map gg, ⟨rfl, by simp⟩, fun i d δ2 acc hd hI => ?_, fun δ2 acc hI => ?_⟩
  · obtain ⟨rfl, rfl⟩ := hI
    have hm : d ∈ ds := List.mem_of_getElem? hd
    have ht : ds.take (i + 1) = ds.take i ++ [d] := by
      rw [List.take_add_one, hd]
      rfl
    intro s H C cl fp
    refine ⟨fun pins s' σ H' v u Q I r hq => (h d hm s H C cl fp).run pins s' σ H' v u Q I r ?_⟩
    obtain ⟨S, g, rr, q⟩ := hq
    refine ⟨S, g, rr, fun σ' δ' g' a' j' k' => q σ' δ' g' a' j' ?_⟩
    intro s H C cl fp
    refine ⟨fun pins s' σ H' Q I hq => (k' s H C cl fp).run pins s' σ H' Q I ?_⟩
    obtain ⟨S, g, q⟩ := hq
    refine ⟨S, g, fun b H' δ4 t4 g4 k4 => q b H' δ4 t4 g4 ?_⟩
    obtain ⟨e4, k4⟩ := k4
    cases b with
    | true =>
      intro s H C cl fp
      have k4' : Blk X scope fun Y => EK Y elt δ4 fun δ5 d' => merge vs δ2 δ5 = δ2 ∧ d' = gg d := k4
      refine EK.imp (k4' s H C cl fp) fun δ5 d' h5 => ?_
      obtain ⟨e5, rfl⟩ := h5
      refine ⟨e5, ?_⟩
      rw [ht, List.filter_append, List.map_append]
      simp [← e4]
    | false =>
      refine ⟨k4, ?_⟩
      rw [ht, List.filter_append, List.map_append]
      simp [← e4]
  · obtain ⟨rfl, rfl⟩ := hI
    rw [List.take_length]
    exact k
end
end Pr

end Text_P5
section Text_P6
set_option maxHeartbeats 4000000
namespace Pr
open PySem PySem.Spec PyProof.Rows L2
open C8 (Cal Mak Met pe_c pe_mk pe_mt pe_mt0)
/-! ## promises -/
/-- a pure def: from what stands for enc a, under pre a, something that stands for a d with post a d; all that stood stands -/
def spP {α : Type} (enc : α → List Dt) (pre : α → Prop) (post : α → Dt → Prop) : Sp := fun vs H Q _ => ∃ (S : Addr → Prop) (a : α), (∀ p, S p → H p ≠ none) ∧ Reps S H (enc a) vs ∧ pre a ∧ ∀ v H' d, Ex H H' → Rep S H' d v → post a d → Q v H'
/-- a def that draws: its first argument is the box -/
def spB {α : Type} (enc : α → List Dt) (N : Nat) (pre : α → Prop) (post : α → Dt → Prop) : Sp := fun vs H Q _ => ∃ (S : Addr → Prop) (p : Addr) (n : Nat) (a : α) (vs' : List V), vs = .ref p :: vs' ∧ S p ∧ BoxAt H p n ∧ n + N ≤ 1000000 ∧ (∀ p, S p → H p ≠ none) ∧ Reps S H (enc a) vs' ∧ pre a ∧
  ∀ v H' d, (∀ b o, b ≠ p → H b = some o → H' b = some o) → BoxAt H' p (n + N) → Rep S H' d v → post a d → Q v H'
section
variable {X : Cx} {e : Expr} {es : List Expr} {δ : Sls} {K : Sls → Dt → Prop} {p np pos apos : Pos} {x : Str} {k j : Nat} {α : Type} {enc : α → List Dt} {pre : α → Prop} {post : α → Dt → Prop} {N : Nat}
theorem w_call (c : Cal X.prog X.w X.K X.mg X.base k x (spP enc pre post) []) (hr : Room j X.A) (hk : k ≤ j) (h : AK X (e :: es) δ fun δ1 ds => ∃ a, ds = enc a ∧ pre a ∧ ∀ d, post a d → K δ1 d) (hg : Gl X x := by rfl)
    (hdb : (x == ("__debug__" : Str)) = false := by decide) (he : starEach (e :: es) X.env = (false, eval e X.env) :: starEach es X.env := by rfl) (hpl : (backTo pos (starEach es X.env)).any (·.1) = false := by rfl) : EK X (.Call (.Name x p) (e :: es) [] pos) δ K :=
  ek_of (pe_c c hr hk hg ak_any hdb he hpl) fun σ H Q hq => by
    obtain ⟨S, g, q⟩ := hq
    refine ta_seq g h fun vs H1 ds δ1 t1 g1 r1 h1 => ?_
    obtain ⟨a, rfl, hp, hK⟩ := h1
    refine ⟨S, a, g1.live, by rw [List.append_nil]; exact r1, hp, fun v H' d ex r pd => q v H' d δ1 (t1.trans ex.stp) (g1.ex ex) r (hK d pd)⟩
/-- .. a def that is a function -/
theorem w_callF {f : α → Dt} (c : Cal X.prog X.w X.K X.mg X.base k x (spP enc pre fun a d => d = f a) []) (hr : Room j X.A) (hk : k ≤ j) (h : AK X (e :: es) δ fun δ1 ds => ∃ a, ds = enc a ∧ pre a ∧ K δ1 (f a)) (hg : Gl X x := by rfl)
    (hdb : (x == ("__debug__" : Str)) = false := by decide) (he : starEach (e :: es) X.env = (false, eval e X.env) :: starEach es X.env := by rfl) (hpl : (backTo pos (starEach es X.env)).any (·.1) = false := by rfl) : EK X (.Call (.Name x p) (e :: es) [] pos) δ K :=
  ek_of (pe_c c hr hk hg ak_any hdb he hpl) fun σ H Q hq => by
    obtain ⟨S, g, q⟩ := hq
    refine ta_seq g h fun vs H1 ds δ1 t1 g1 r1 h1 => ?_
    obtain ⟨a, rfl, hp, hK⟩ := h1
    refine ⟨S, a, g1.live, by rw [List.append_nil]; exact r1, hp, fun v H' d ex r pd => q v H' d δ1 (t1.trans ex.stp) (g1.ex ex) r (by rw [pd]; exact hK)⟩
theorem Gd.boxed {i : Nat} {S : Addr → Prop} {H H' : Hp} {σ : L2.St} {δ : Sls} {p : Addr} {n m : Nat} (g : Gd S H σ δ) (h : δ[i]? = some (.box p n)) (k : ∀ b o, b ≠ p → H b = some o → H' b = some o) (hb : BoxAt H' p m) : Gd S H' σ (δ.set i (.box p m)) := by
  obtain ⟨o, ho, h1, hS, _⟩ := g.ok i _ h
  subst h1
  have hi : i < δ.length := (List.getElem?_eq_some_iff.mp h).1
  have m' : Mv S H S H' := fun a u n z => ⟨n, k a u (fun e => n (by rw [e]; exact hS)) z⟩
  have nd2 : (p :: adrs (δ.set i .any)).Nodup := (adrs_drop (e' := .any) h rfl).nodup_iff.mp g.nd
  refine ⟨by rw [List.length_set, g.len], fun j y hy => ?_, fun a z => ?_, by rw [adrs_put (e' := .box p m) h rfl]; exact g.nd⟩
  · by_cases hj : i = j
    · subst hj
      rw [List.getElem?_set_self hi] at hy
      cases hy
      exact ⟨_, ho, rfl, hS, hb⟩
    · rw [List.getElem?_set_ne hj] at hy
      obtain ⟨o, h1, h2⟩ := g.ok j y hy
      refine ⟨o, h1, h2.mv m' (fun _ z => z) fun a ha u hu => k a u ?_ hu⟩
      exact fun z => (List.nodup_cons.mp nd2).1 (mem_adrs_of (i := j) (by rw [List.getElem?_set_ne hj]; exact hy) (by rw [← z]; exact ha))
  · by_cases e : a = p
    · rw [e]
      obtain ⟨_, _, _, hb, _⟩ := hb
      rw [hb]
      exact fun z => by cases z
    · cases hz : H a with
      | none => exact absurd hz (g.live a z)
      | some u =>
        rw [k a u e hz]
        exact fun z => by cases z
theorem w_cB (i : Nat) {bx : Str} (c : Cal X.prog X.w X.K X.mg X.base k x (spB enc N pre post) []) (hr : Room j X.A) (hk : k ≤ j) (h : AK X es δ fun δ1 ds => ∃ p n a, δ1[i]? = some (.box p n) ∧ n + N ≤ 1000000 ∧ ds = enc a ∧ pre a ∧ ∀ d, post a d → K (δ1.set i (.box p (n + N))) d)
    (hown : ∃ p n, δ[i]? = some (.box p n) := by exact ⟨_, _, rfl⟩) (hN : X.N[i]? = some bx := by rfl) (hv : Vis X.env.scope bx := by first | exact Or.inl rfl | exact Or.inr (Or.inl rfl) | exact Or.inr (Or.inr rfl)) (hd : (bx == ("__debug__" : Str)) = false := by decide) (hcd : (bx == ("__classdict__" : Str)) = false := by decide)
    (hg : Gl X x := by rfl) (hdb : (x == ("__debug__" : Str)) = false := by decide) (he : starEach (.Name bx np :: es) X.env = (false, eval (.Name bx np) X.env) :: starEach es X.env := by rfl) (hpl : (backTo pos (starEach es X.env)).any (·.1) = false := by rfl) :
    EK X (.Call (.Name x p) (.Name bx np :: es) [] pos) δ K :=
  ek_of (pe_c c hr hk hg (pa_cons (pe_var (i := i) hN hv hd hcd) ak_any he) hdb he hpl) fun σ H Q hq => by
    obtain ⟨S, g, q⟩ := hq
    obtain ⟨p0, n0, h0⟩ := hown
    obtain ⟨o, ho, e0, hS, hb⟩ := g.ok i _ h0
    subst e0
    refine ⟨.ref p0, ho, ta_seq g h fun vs H1 ds δ1 t1 g1 r1 h1 => ?_⟩
    obtain ⟨p, n, a, h1, hn, rfl, hp, hK⟩ := h1
    obtain ⟨o', ho', e1, hS1, hb1⟩ := g1.ok i _ h1
    subst e1
    have e2 : p = p0 := by
      rw [ho] at ho'
      cases ho'
      rfl
    subst e2
    refine ⟨S, p, n, a, vs, by rw [List.append_nil], hS, hb1, hn, g1.live, r1, hp, fun v H' d kp hb' r pd => ?_⟩
    refine q v H' d (δ1.set i (.box p (n + N))) (t1.trans ⟨fun b o nb z => kp b o (fun e => nb (by rw [e]; exact mem_adrs_of h1 (by simp [Sl.adr]))) z, adm_put (e' := .box p (n + N)) h1 rfl⟩) (g1.boxed (m := n + N) h1 kp hb') r (hK d pd)
end
/-! ## defs -/
/-- the slots at a def's entry -/
def args (ds : List Dt) (n : Nat) : Sls := ds.map .v ++ List.replicate (n - ds.length) .any
theorem adrs_any : ∀ n : Nat, adrs (List.replicate n Sl.any) = []
  | 0 => rfl
  | n + 1 => adrs_any n
theorem adrs_args : ∀ (ds : List Dt) (n : Nat), adrs (ds.map Sl.v ++ List.replicate n Sl.any) = []
  | [], n => adrs_any n
  | d :: ds, n => adrs_args ds n
theorem gd_args {S : Addr → Prop} {H : Hp} {ds : List Dt} {vs : List V} {N : List Str} (lv : ∀ p, S p → H p ≠ none) (r : Reps S H ds vs) : Gd S H (L2.start N vs) (args ds N.length) := by
  refine ⟨by simp [L2.start, args, r.length], fun i e he => ?_, lv, by unfold args; rw [adrs_args]; exact List.nodup_nil⟩
  unfold args at he
  unfold L2.start
  by_cases hi : i < ds.length
  · rw [List.getElem?_append_left (by simpa using hi), List.getElem?_map] at he
    rw [List.getElem?_append_left (by simpa [r.length] using hi), List.getElem?_map]
    cases hd : ds[i]? with
    | none => rw [hd] at he; cases he
    | some d =>
      rw [hd] at he
      cases he
      obtain ⟨v, hv, rv⟩ := r.get hd
      rw [hv]
      exact ⟨some v, rfl, v, rfl, rv⟩
  · have hi' : ds.length ≤ i := Nat.le_of_not_lt hi
    rw [List.getElem?_append_right (by simpa using hi')] at he
    have he2 : e = .any := by
      have := List.mem_of_getElem? he
      exact (List.mem_replicate.mp this).2
    subst he2
    have hl : i - ds.length < N.length - ds.length := by
      have := (List.getElem?_eq_some_iff.mp he).1
      simpa using this
    rw [List.getElem?_append_right (by simpa [r.length] using hi')]
    refine ⟨none, ?_, trivial⟩
    rw [List.getElem?_replicate]
    simp [r.length, hl]
/-- a def of the text by its global name x; dvs: its defaults -/
structure Dfn (K : PySem.W.Frag) (mg : Str → Option Value) (x nm qual : Str) (st : Stmt) (ps : List Str) : Prop where
  ex : ∃ (f : Addr) (fd : FuncData), mg x = some (.ref f) ∧ (Fun K nm qual st f fd ∨ ∃ dvs, FunD K nm qual (defArgs st) (defBody st) (defScope st) dvs [] f fd) ∧ PySem.W.keepIn K (.ref f) = true ∧ Binds K fd ps []
section
variable {P : Program} {w : World} {K : PySem.W.Frag} {mg : Str → Option Value} {base : Heap} {x nm qual : Str} {st : Stmt} {N ps : List Str} {k : Nat} {α : Type} {enc : α → List Dt} {pre : α → Prop} {post : α → Dt → Prop}
theorem def_rule {f : Addr} {fd : FuncData} (F : Fun K nm qual st f fd ∨ ∃ dvs, FunD K nm qual (defArgs st) (defBody st) (defScope st) dvs [] f fd) {sp : Sp} (Sc : FnScope N ps (defScope st)) (len : ∀ vs H Q E, sp vs H Q E → vs.length = ps.length)
    (hb : ∀ (cdv : Value) (A : Around) (outer : List Env) (s : Shared) (H : Hp) (vs : List V) (Q : VK) (E : XK), Room k (A.deeper (envOfC qual (defScope st) s.heap.objs.size f cdv)) → sp vs H Q E →
      ∃ t, PSs (cxOf L2.CX0 P w K mg base N qual (defScope st) f cdv A outer s H E).nox (defBody st) t ∧ t { nx := fun _ H' => Q .non H', rt := Q } (L2.start N vs) H) : FnOk P w K mg base L2.CX0 (k + 1) f fd ps sp := by
  rcases F with F | ⟨dvs, F⟩
  · exact F.ok Sc len hb
  · refine F.ok Sc len fun cdv A outer s H vs Q E hr h => ?_
    obtain ⟨t, h1, h2⟩ := hb cdv A outer s H vs Q E hr h
    exact ⟨t, h1.nox, h2⟩
theorem Dfn.pure (D : Dfn K mg x nm qual st ps) (Sc : FnScope N ps (defScope st)) (hl : ∀ a, (enc a).length = ps.length)
    (hb : ∀ (f : Addr) (cdv : Value) (A : Around) (outer : List Env) (s : Shared) (H : Hp) (E : XK), Room k (A.deeper (envOfC qual (defScope st) s.heap.objs.size f cdv)) → ∀ (Γ : Gm) (a : α), Γ.B = [] → pre a →
      SK (cxOf CX0 P w K mg base N qual (defScope st) f cdv A outer s H E).nox Γ (defBody st) (args (enc a) N.length) { nx := fun _ => post a .non, rt := fun _ d => post a d }) : Cal P w K mg base (k + 1) x (spP enc pre post) [] := by
  obtain ⟨f, fd, hm, F, kp, b⟩ := D.ex
  refine ⟨f, fd, ps, [], (def_rule F Sc (fun vs H Q E h => ?_) (fun cdv A outer s H vs Q E hr h => ?_) : FnOk P w K mg base L2.CX0 (k + 1) f fd ps _), hm, kp, b, .nil⟩
  · obtain ⟨S, a, _, r, _⟩ := h
    rw [r.length, hl]
  · obtain ⟨S, a, lv, r, hp, q⟩ := h
    refine ⟨_, hb f cdv A outer s H E hr ⟨S, H, []⟩ a rfl hp, S, gd_args lv r, ⟨lv, (fun _ h => by cases h), fun _ h => .inl h, fun _ h => h, fun _ _ h _ => h, fun p hp => ?_⟩, fun S' σ' H' δ' g' st' z => ?_, fun S' σ' v H' δ' d g' st' r' z => ?_, fun _ _ _ _ _ _ h => h.elim, fun _ _ _ _ _ _ h => h.elim⟩
    · unfold args at hp
      rw [adrs_args] at hp
      cases hp
    · exact q .non H' .non (fun a o h => st'.keep a o h (by simp)) (rep_non.mpr rfl) z
    · exact q v H' d (fun a o h => st'.keep a o h (by simp)) r' z
theorem Dfn.boxed {M : Nat} (D : Dfn K mg x nm qual st ps) (Sc : FnScope N ps (defScope st)) (hl : ∀ a, (enc a).length + 1 = ps.length)
    (hb : ∀ (f : Addr) (cdv : Value) (A : Around) (outer : List Env) (s : Shared) (H : Hp) (E : XK), Room k (A.deeper (envOfC qual (defScope st) s.heap.objs.size f cdv)) → ∀ (Γ : Gm) (p : Addr) (n : Nat) (a : α), Γ.B = [p] → n + M ≤ 1000000 → pre a →
      SK (cxOf CX0 P w K mg base N qual (defScope st) f cdv A outer s H E).nox Γ (defBody st) (.box p n :: args (enc a) (N.length - 1)) { nx := fun _ => False, rt := fun δ d => (∃ m, m ≤ n + M ∧ δ[0]? = some (.box p m)) ∧ post a d }) (hN : 1 ≤ N.length := by decide) : Cal P w K mg base (k + 1) x (spB enc M pre post) [] := by
  obtain ⟨f, fd, hm, F, kp, b⟩ := D.ex
  refine ⟨f, fd, ps, [], (def_rule F Sc (fun vs H Q E h => ?_) (fun cdv A outer s H vs Q E hr h => ?_) : FnOk P w K mg base L2.CX0 (k + 1) f fd ps _), hm, kp, b, .nil⟩
  · obtain ⟨S, p, n, a, vs', rfl, _, _, _, _, r, _⟩ := h
    rw [List.length_cons, r.length, hl]
  · obtain ⟨S, p, n, a, vs', rfl, hS, hbx, hn, lv, r, hp, q⟩ := h
    have hst : L2.start N (.ref p :: vs') = some (.ref p) :: L2.start (N.drop 1) vs' := by
      have e : (N.drop 1).length = N.length - 1 := by simp
      unfold L2.start
      rw [e, List.map_cons, List.cons_append, List.length_cons, Nat.sub_sub, Nat.add_comm 1]
    have g0 : Gd S H (L2.start N (.ref p :: vs')) (.box p n :: args (enc a) (N.length - 1)) := by
      rw [hst]
      have g1 := gd_args (N := N.drop 1) lv r
      have e : (N.drop 1).length = N.length - 1 := by simp
      rw [e] at g1
      refine ⟨by rw [List.length_cons, List.length_cons, g1.len], fun i e he => ?_, lv, ?_⟩
      · cases i with
        | zero =>
          cases he
          exact ⟨_, rfl, rfl, hS, hbx⟩
        | succ i => exact g1.ok i e (by simpa using he)
      · show ([p] ++ adrs (args (enc a) (N.length - 1))).Nodup
        unfold args
        rw [adrs_args]
        simp
    refine ⟨_, hb f cdv A outer s H E hr ⟨S, H, [p]⟩ p n a rfl hn hp, S, g0, ⟨lv, fun b h => by rw [List.mem_singleton.mp h]; exact hS, fun _ h => .inl h, fun _ h => h, fun _ _ h _ => h, fun b hb => ?_⟩, fun S' σ' H' δ' g' st' z => z.elim, fun S' σ' v H' δ' d g' st' r' z => ?_, fun _ _ _ _ _ _ h => h.elim, fun _ _ _ _ _ _ h => h.elim⟩
    · have hb' : b ∈ [p] ++ adrs (args (enc a) (N.length - 1)) := hb
      unfold args at hb'
      rw [adrs_args] at hb'
      exact .inl (by simpa using hb')
    · obtain ⟨⟨m, hm, h0⟩, z⟩ := z
      obtain ⟨o, _, _, _, aa, bb, cc, hx, x1, x2, x3, x4, x5⟩ := g'.ok 0 _ h0
      exact q v H' d (fun b o nb h => st'.keep b o h (by simpa using nb)) ⟨aa, bb, cc, hx, x1, x2, x3, x4, by omega⟩ r' z
end
section
variable {X : Cx} {Γ : Gm} {e : Expr} {δ : Sls} {P : Pst} {pos : Pos} {st : Stmt} {ss : List Stmt}
/-- an expression whose value is dropped -/
theorem s_expr (h : EK X e δ fun δ1 _ => P.nx δ1) (hs : swapsWith e none pos.line X.env = pure false := by rfl) : SK1 X Γ (.Expr e pos) δ P := sk1_of (ps_expr ek_any hs) fun D σ H hq => by
  obtain ⟨S, g, st, k1, _⟩ := hq
  exact te_seq g h fun v H1 d δ1 t1 g1 r1 h1 => k1 S σ H1 δ1 g1 (st.stp t1) h1
end
end Pr

end Text_P6
section Text_P7
set_option maxHeartbeats 4000000
namespace Pr
open PySem PySem.Spec PyProof.Rows L2
open C8 (Cal Mak Met pe_c pe_mk pe_mt pe_mt0)
/-! ## small words of the walks -/
theorem br {b : Bool} {p q : Prop} (h1 : b = true → p) (h2 : b = false → q) : if b = true then p else q := by
  cases b with
  | true => exact h1 rfl
  | false => exact h2 rfl
theorem brT {p q : Prop} (h : p) : if true = true then p else q := h
theorem brF {p q : Prop} (h : q) : if false = true then p else q := h
/-- a not ahead of a branching -/
theorem nb {b : Bool} {p q : Prop} (h : if b = true then q else p) : if (!b) = true then p else q := by
  cases b with
  | true => exact h
  | false => exact h
theorem ex {α β : Type} {f : α → β} {x : α} {b : β} {p : α → Prop} (h : b = f x) (k : p x) : ∃ x, b = f x ∧ p x := ⟨x, h, k⟩
section
variable {X : Cx} {elt tg iter : Expr} {ifs : List Expr} {scope : Scope} {pos : Pos} {δ : Sls} {K : Sls → Dt → Prop}
theorem w_gi {x : Str} {i : Int} (hm : ∃ t, X.mg x = some (.int i t)) (k : K δ (.int i)) (hg : Gl X x := by rfl) (hd : (x == ("__debug__" : Str)) = false := by decide) : EK X (.Name x pos) δ K := by
  obtain ⟨t, hm⟩ := hm
  exact w_glob (v := .int i) (d := .int i) hm ⟨t, rfl⟩ rfl k hg hd
theorem w_gs {x i : Str} (hm : ∃ t, X.mg x = some (.str i t)) (k : K δ (.str i)) (hg : Gl X x := by rfl) (hd : (x == ("__debug__" : Str)) = false := by decide) : EK X (.Name x pos) δ K := by
  obtain ⟨t, hm⟩ := hm
  exact w_glob (v := .str i) (d := .str i) hm ⟨t, rfl⟩ rfl k hg hd
/-- a pure comprehension over data of one kind -/
theorem lc_map {α : Type} {vs : List Nat} {δ1 : Sls} {ds : List Dt} (xs : List α) (en : α → Dt) (f : α → Bool) (gg : α → Dt) (hd0 : ds = xs.map en) (hl : xs.length ≤ 1000) (hv : ∀ i ∈ vs, ∀ e, δ1[i]? = some e → e.adr = [])
    (h : ∀ x ∈ xs, Blk X scope fun Y => GK Y (· ∈ vs) tg (en x) (wipeE δ1 vs) fun δ3 => Blk X scope fun Y => TsK Y ifs δ3 fun δ4 b => b = f x ∧ if b = true then Blk X scope fun Y => EK Y elt δ4 fun δ5 d' => merge vs δ1 δ5 = δ1 ∧ d' = gg x else merge vs δ1 δ4 = δ1)
    (k : K δ1 (.lst ((xs.filter f).map gg))) : LcK X tg elt ifs scope vs K δ1 ds := by
  subst hd0
  refine ⟨by rw [List.length_map]; exact hl, hv, fun i δ acc => δ = δ1 ∧ acc = ((xs.take i).filter f).map gg, ⟨rfl, by simp⟩, fun i d δ2 acc hd hI => ?_, fun δ2 acc hI => ?_⟩
  · obtain ⟨e1, e2⟩ := hI
    subst e1
    subst e2
    rw [List.getElem?_map] at hd
    cases hx : xs[i]? with
    | none => rw [hx] at hd; cases hd
    | some x =>
      rw [hx] at hd
      cases hd
      have hm : x ∈ xs := List.mem_of_getElem? hx
      have ht : xs.take (i + 1) = xs.take i ++ [x] := by
        rw [List.take_add_one, hx]
        rfl
      intro s H C cl fp
      refine ⟨fun pins s' σ H' v u Q I r hq => (h x hm s H C cl fp).run pins s' σ H' v u Q I r ?_⟩
      obtain ⟨S, g, rr, q⟩ := hq
      refine ⟨S, g, rr, fun σ' δ' g' a' j' k' => q σ' δ' g' a' j' ?_⟩
      intro s H C cl fp
      refine ⟨fun pins s' σ H' Q I hq => (k' s H C cl fp).run pins s' σ H' Q I ?_⟩
      obtain ⟨S, g, q⟩ := hq
      refine ⟨S, g, fun b H' δ4 t4 g4 k4 => q b H' δ4 t4 g4 ?_⟩
      obtain ⟨e4, k4⟩ := k4
      cases b with
      | true =>
        intro s H C cl fp
        have k4' : Blk X scope fun Y => EK Y elt δ4 fun δ5 d' => merge vs δ2 δ5 = δ2 ∧ d' = gg x := k4
        refine EK.imp (k4' s H C cl fp) fun δ5 d' h5 => ?_
        obtain ⟨e5, rfl⟩ := h5
        refine ⟨e5, ?_⟩
        rw [ht, List.filter_append, List.map_append]
        simp [← e4]
      | false =>
        refine ⟨k4, ?_⟩
        rw [ht, List.filter_append, List.map_append]
        simp [← e4]
  · obtain ⟨rfl, rfl⟩ := hI
    rw [List.length_map, List.take_length]
    exact k
end
/-- hv of lc_map at a written list of slots -/
theorem lv1 {δ : Sls} {i : Nat} (h : ∀ e, δ[i]? = some e → e.adr = []) : ∀ j ∈ [i], ∀ e, δ[j]? = some e → e.adr = [] := fun j hj => by
  rw [List.mem_singleton.mp hj]
  exact h
theorem lvS {δ : Sls} {i : Nat} {z : Sl} (h : δ[i]? = some z) (hz : z.adr = []) : ∀ e, δ[i]? = some e → e.adr = [] := fun e he => by
  rw [h] at he
  cases he
  exact hz
theorem lvN {δ : Sls} : ∀ j ∈ ([] : List Nat), ∀ e, δ[j]? = some e → e.adr = [] := fun j hj => by cases hj
theorem lvC {δ : Sls} {i : Nat} {is : List Nat} {z : Sl} (h : ∀ j ∈ is, ∀ e, δ[j]? = some e → e.adr = []) (h1 : δ[i]? = some z := by rfl) (hz : z.adr = [] := by rfl) : ∀ j ∈ i :: is, ∀ e, δ[j]? = some e → e.adr = [] := fun j hj => by
  rcases List.mem_cons.mp hj with e | hj
  · rw [e]
    exact lvS h1 hz
  · exact h j hj
/-! ## in, of a text in texts -/
theorem eqVS {a b : Str} : eqV (.str a) (.str b) = decide (a = b) := by
  show (a == b) = decide (a = b)
  by_cases h : a = b
  · rw [h, decide_eq_true rfl]
    exact beq_self_eq_true b
  · rw [decide_eq_false h]
    exact beq_eq_false_iff_ne.mpr h
theorem inVS {x : Str} : ∀ {xs : List Str}, inV (.str x) (xs.map V.str) = decide (x ∈ xs)
  | [] => rfl
  | a :: xs => by
    show (eqV (.str a) (.str x) || inV (.str x) (xs.map V.str)) = _
    rw [inVS, eqVS]
    by_cases h : a = x
    · rw [h, decide_eq_true rfl, decide_eq_true (List.mem_cons_self ..), Bool.true_or]
    · rw [decide_eq_false h, Bool.false_or]
      refine decide_eq_decide.mpr ⟨fun m => List.mem_cons_of_mem _ m, fun m => ?_⟩
      rcases List.mem_cons.mp m with e | m
      · exact absurd e.symm h
      · exact m
theorem flatS {xs : List Str} : (xs.map V.str).all flatV = true := by
  rw [List.all_eq_true]
  intro v hv
  obtain ⟨x, _, rfl⟩ := List.mem_map.mp hv
  rfl
section
variable {X : Cx} {δ : Sls} {K : Sls → Dt → Prop}
theorem oc_inSL {x : Str} {xs : List Str} (k : K δ (.bl (decide (x ∈ xs)))) : OC X (compareOp .In) δ (.str x) (.lst (xs.map Dt.str)) K := ⟨_, op_in_seq, fun S σ H v1 v2 Q g r1 r2 q => by
  obtain ⟨a, vs, rfl, _, ha, h1⟩ := rep_lst.mp r2
  rw [Reps.strs.mp h1] at ha
  rw [rep_str.mp r1]
  exact ⟨a, _, rfl, .inl (.inl (.inl ha)), rfl, flatS, by rw [if_neg (by decide), inVS]; exact q.val (rep_bl.mpr rfl) k⟩⟩
theorem oc_inST {x : Str} {xs : List Str} (k : K δ (.bl (decide (x ∈ xs)))) : OC X (compareOp .In) δ (.str x) (.tup (xs.map Dt.str)) K := ⟨_, op_in_seq, fun S σ H v1 v2 Q g r1 r2 q => by
  obtain ⟨a, vs, rfl, _, ha, h1⟩ := rep_tup.mp r2
  rw [Reps.strs.mp h1] at ha
  rw [rep_str.mp r1]
  exact ⟨a, _, rfl, .inr (.inl (.inl ha)), rfl, flatS, by rw [if_neg (by decide), inVS]; exact q.val (rep_bl.mpr rfl) k⟩⟩
end
theorem fT {α : Type} {xs : List α} : xs.filter (fun _ => true) = xs := List.filter_eq_self.mpr fun _ _ => rfl
theorem all_id {α : Type} {xs : List α} {f : α → Bool} (h : ∀ x ∈ xs, f x = true) : (xs.map f).all id = true := by
  rw [List.all_eq_true]
  intro b hb
  obtain ⟨x, hx, rfl⟩ := List.mem_map.mp hb
  exact h x hx
theorem mapmap {α β γ : Type} {xs : List α} {f : α → β} {g : β → γ} : xs.map (fun x => g (f x)) = (xs.map f).map g := by rw [List.map_map]; rfl
theorem zip_at {α β : Type} {xs : List α} {ys : List β} {x : α × β} (h : x ∈ xs.zip ys) : ∃ i : Nat, xs[i]? = some x.1 ∧ ys[i]? = some x.2 := by
  obtain ⟨i, hi⟩ := List.getElem?_of_mem h
  refine ⟨i, ?_⟩
  rw [List.getElem?_zip_eq_some] at hi
  exact hi
theorem zipW_map {α β γ δ ε : Type} {xs : List α} {ys : List β} {f : α → γ} {g : β → δ} {h : γ → δ → ε} : List.zipWith h (xs.map f) (ys.map g) = (xs.zip ys).map fun x => h (f x.1) (g x.2) := by
  rw [List.zipWith_map, List.zip, List.map_zipWith]
theorem cut_from {xs : List Dt} {i : Int} (h : 0 ≤ i) : cutD xs (some i) none = xs.drop i.toNat := by
  unfold cutD
  have e : HT.sIx xs.length 0 (some i) = min i.toNat xs.length := by
    show (if i < 0 then _ else _) = _
    rw [if_neg (by omega)]
  rw [e, show HT.sIx xs.length xs.length none = xs.length from rfl]
  rw [List.take_of_length_le (by rw [List.length_drop]; omega)]
  by_cases hl : i.toNat ≤ xs.length
  · rw [Nat.min_eq_left hl]
  · rw [Nat.min_eq_right (by omega), List.drop_length, List.drop_eq_nil_of_le (by omega)]
theorem cutD_from1 {xs : List Dt} : cutD xs (some 1) none = xs.drop 1 := cut_from (by decide)
theorem cut_to {xs : List Dt} {i : Int} (h : 0 ≤ i) : cutD xs none (some i) = xs.take i.toNat := by
  unfold cutD
  have e : HT.sIx xs.length xs.length (some i) = min i.toNat xs.length := by
    show (if i < 0 then _ else _) = _
    rw [if_neg (by omega)]
  rw [e, show HT.sIx xs.length 0 none = 0 from rfl]
  rw [List.drop_zero, Nat.sub_zero]
  by_cases hl : i.toNat ≤ xs.length
  · rw [Nat.min_eq_left hl]
  · rw [Nat.min_eq_right (by omega), List.take_length, List.take_of_length_le (by omega)]
theorem zip_map {α β γ δ : Type} {xs : List α} {ys : List β} {f : α → γ} {g : β → δ} : (xs.map f).zip (ys.map g) = (xs.zip ys).map fun x => (f x.1, g x.2) := by
  rw [List.zip_map]
  rfl
theorem take_succ_filter {α : Type} {f : α → Bool} {l : List α} {i : Nat} {r : α} (h : l[i]? = some r) : (l.take (i + 1)).filter f = (l.take i).filter f ++ if f r = true then [r] else [] := by
  rw [List.take_add_one, h, List.filter_append]
  congr 1
  cases e : f r with
  | true => simp [e]
  | false => simp [e]
end Pr

end Text_P7
section Text_P8
set_option maxHeartbeats 4000000
namespace Pr
open PySem PySem.Spec PyProof.Rows L2
open C8 (Cal Mak Met pe_c pe_mk pe_mt pe_mt0)
/-! ## data as the library's own -/
mutual
def Dt.py : Dt → PyData
  | .non => .none
  | .bl b => .bool b
  | .int i => .int i
  | .str x => .str x
  | .lst xs => .list (pys xs)
  | .tup xs => .tuple (pys xs)
  | .ty _ => .none
  | .ins _ _ _ => .none
def pys : List Dt → List PyData
  | [] => []
  | d :: ds => d.py :: pys ds
end
mutual
def Dt.plain : Dt → Bool
  | .non => true
  | .bl _ => true
  | .int _ => true
  | .str _ => true
  | .lst xs => plains xs
  | .tup xs => plains xs
  | .ty _ => false
  | .ins _ _ _ => false
def plains : List Dt → Bool
  | [] => true
  | d :: ds => d.plain && plains ds
end
theorem pys_map : ∀ ds : List Dt, pys ds = ds.map Dt.py
  | [] => rfl
  | d :: ds => by rw [pys, pys_map ds]; rfl
theorem plains_all : ∀ ds : List Dt, plains ds = true ↔ ∀ d ∈ ds, d.plain = true
  | [] => by simp [plains]
  | d :: ds => by rw [plains, Bool.and_eq_true, plains_all ds, List.forall_mem_cons]
mutual
theorem rep_dp {K' : PySem.W.Frag} {S : Addr → Prop} {H : Hp} : ∀ {d : Dt} {v : V}, d.plain = true → Rep S H d v → Dp K' H v d.py
  | .non, v, _, r => by rw [rep_non.mp r]; exact .non
  | .bl b, v, _, r => by rw [rep_bl.mp r]; exact .bl b
  | .int i, v, _, r => by rw [rep_int.mp r]; exact .int i
  | .str i, v, _, r => by rw [rep_str.mp r]; exact .str i
  | .lst ds, v, p, r => by
    obtain ⟨a, vs, rfl, _, ha, h⟩ := rep_lst.mp r
    exact .lst (.inl (.inl ha)) (reps_dp (by simpa [Dt.plain] using p) h)
  | .tup ds, v, p, r => by
    obtain ⟨a, vs, rfl, _, ha, h⟩ := rep_tup.mp r
    exact .tup (.inl (.inl ha)) (reps_dp (by simpa [Dt.plain] using p) h)
  | .ty _, _, p, _ => by cases p
  | .ins _ _ _, _, p, _ => by cases p
theorem reps_dp {K' : PySem.W.Frag} {S : Addr → Prop} {H : Hp} : ∀ {ds : List Dt} {vs : List V}, plains ds = true → Reps S H ds vs → DpAll K' H vs (pys ds)
  | [], vs, _, r => by rw [reps_nil.mp r]; exact .nil
  | d :: ds, vs, p, r => by
    rw [plains, Bool.and_eq_true] at p
    obtain ⟨v, rest, rfl, h1, h2⟩ := reps_cons.mp r
    exact .cons (rep_dp p.1 h1) (reps_dp p.2 h2)
end
section
variable {X : Cx} {δ : Sls} {K : Sls → Dt → Prop} {pins : List (Addr × Obj)} {σ : L2.St} {H : Hp} {s : Shared}
/-- == and != of data at any depth -/
theorem oc_eqD {d e : Dt} (hu : X.A.units + 64 < cLine) (pd : d.plain = true) (pe : e.plain = true) (sd : SeqAt.shaped d.py = true) (se : SeqAt.shaped e.py = true) (k : K δ (.bl (PyData.eqv d.py e.py))) : OC X (compareOp .Eq) δ d e K :=
  ⟨_, op_eqD hu, fun S σ H v1 v2 Q _ r1 r2 q => ⟨d.py, e.py, rep_dp pd r1, rep_dp pe r2, sd, se, q.val (rep_bl.mpr rfl) k⟩⟩
theorem oc_neD {d e : Dt} (hu : X.A.units + 64 < cLine) (pd : d.plain = true) (pe : e.plain = true) (sd : SeqAt.shaped d.py = true) (se : SeqAt.shaped e.py = true) (k : K δ (.bl (!PyData.eqv d.py e.py))) : OC X (compareOp .NotEq) δ d e K :=
  ⟨_, op_neD hu, fun S σ H v1 v2 Q _ r1 r2 q => ⟨d.py, e.py, rep_dp pd r1, rep_dp pe r2, sd, se, q.val (rep_bl.mpr rfl) k⟩⟩
/-! ## sorted, of data alike -/
/-- a value of the model that stands for d -/
def Std (S : Addr → Prop) (H : Hp) (u : Value) (d : Dt) : Prop := ∃ v, RelV v u ∧ Rep S H d v
theorem std_each {S : Addr → Prop} : ∀ {ds : List Dt} {vs : List V} {us : List Value}, Reps S H ds vs → Vals vs us → PySem.W.EachIs (Std S H) us ds
  | [], _, _, r, w => by
    rw [reps_nil.mp r] at w
    cases w
    exact .nil
  | d :: ds, _, _, r, w => by
    obtain ⟨v, rest, rfl, h1, h2⟩ := reps_cons.mp r
    cases w with
    | cons w1 w2 => exact .cons ⟨v, w1, h1⟩ (std_each h2 w2)
theorem each_std {S : Addr → Prop} : ∀ {ds : List Dt} {us : List Value}, PySem.W.EachIs (Std S H) us ds → ∃ vs, Reps S H ds vs ∧ Vals vs us
  | _, _, .nil => ⟨[], Reps.nil, .nil⟩
  | _, _, .cons ⟨v, w, r⟩ t => by
    obtain ⟨vs, r2, w2⟩ := each_std t
    exact ⟨v :: vs, Reps.cons r r2, .cons w w2⟩
theorem reads_each {S : Addr → Prop} (I : Inv X pins σ H s) : ∀ {ds : List Dt} {vs : List V} {us : List Value}, (∀ d ∈ ds, d.plain = true) → Reps S H ds vs → Vals vs us → PySem.W.EachIs (fun u (d : Dt) => ∃ as, Reads s.heap u d.py as) us ds
  | [], _, _, _, r, w => by
    rw [reps_nil.mp r] at w
    cases w
    exact .nil
  | d :: ds, _, _, p, r, w => by
    obtain ⟨v, rest, rfl, h1, h2⟩ := reps_cons.mp r
    cases w with
    | cons w1 w2 => exact .cons (Dp.reads I _ _ _ (rep_dp (K' := X.K) (p d (by simp)) h1) w1) (reads_each I (fun e he => p e (by simp [he])) h2 w2)
def rSortD (X : Cx) : List V → Hp → VK → Prop := fun vs H Q => ∃ (a : Addr) (us : List V) (ds : List Dt) (S : Addr → Prop), vs = [.ref a] ∧ H a = some (.lst us) ∧ Reps S H ds us ∧ (∀ d ∈ ds, d.plain = true) ∧ PySem.W.AllAlike (ds.map Dt.py) ∧ PySem.W.Sortable (ds.map Dt.py) ∧ (∀ d ∈ ds, d.py.depth ≤ 8) ∧ ds.length ≤ 1000 ∧
  ∀ (p : Addr) (us' : List V) (ds' : List Dt), H p = none → ds'.Perm ds → Reps S H ds' us' → Q (.ref p) (upd H p (.lst us'))
theorem cr_sortD (hu : X.A.units + 64 < cLine) : CallR X (.builtin "sorted") (rSortD X) := by
  intro pins s σ H vs us Q I r h
  obtain ⟨a, ws, ds, S, rfl, ha, rr, hp, al, so, dp, hl, q⟩ := h
  obtain ⟨its, rv, pl, _⟩ := I.list (.inl (.inl ha))
  rw [Vals.ref1 r]
  refine PySem.W.sorted_data (β := Dt) (bs := ds) (enc := Dt.py) (R := Std S H) pl.isList (std_each rr rv) (reads_each I hp rr rv) al so (Nat.le_of_lt (small1000 hl)) (fun d hd => ?_) fun out hlen hout => ?_
  · have := dp d hd
    omega
  · obtain ⟨us', r1, r2⟩ := each_std hout
    have pm : (ds.mergeSort (PySem.W.dataLe false Dt.py)).Perm ds := List.mergeSort_perm _ _
    obtain ⟨c, hc⟩ := PyProof.Rows.sortedAll_at s.heap its out.toArray
    have hz : us'.length ≤ sizeLine := by rw [r1.length, pm.length_eq]; exact Nat.le_of_lt (small1000 hl)
    refine ⟨.ref (s.heap.objs.size + 1), upd H (s.heap.objs.size + 1) (.lst us'), I.laid (t' := s.toks) (fun _ _ => PyProof.Rows.sortedAll_old) (Nat.le_succ _) ⟨hz, out, c, r2, hc⟩, rfl, q _ us' _ (I.hok.fresh (Nat.le_succ _)) pm r1⟩
theorem cc_sortedD {ds : List Dt} (hu : X.A.units + 64 < cLine) (hp : ∀ d ∈ ds, d.plain = true) (al : PySem.W.AllAlike (ds.map Dt.py)) (so : PySem.W.Sortable (ds.map Dt.py)) (dp : ∀ d ∈ ds, d.py.depth ≤ 8) (hl : ds.length ≤ 1000) (k : ∀ ds', ds'.Perm ds → K δ (.lst ds')) : CC X (.builtin "sorted") δ [.lst ds] K :=
  ⟨_, cr_sortD hu, fun S σ H vs Q g r q => by
    obtain ⟨v, rfl, r1⟩ := reps1 r
    obtain ⟨a, us, rfl, hs, ha, h1⟩ := rep_lst.mp r1
    exact ⟨a, us, ds, S, rfl, ha, h1, hp, al, so, dp, hl, fun p us' ds' n pm rr => q.lst g n rr (k ds' pm)⟩⟩
/-! ## max(.., default=None) -/
def rMaxDef (X : Cx) : List V → List V → Hp → VK → Prop := fun vs zs H Q => ∃ (a : Addr) (z : V) (us : List V) (ds : List Dt) (S : Addr → Prop), vs = [.ref a] ∧ zs = [z] ∧ H a = some (.lst us) ∧ Reps S H ds us ∧ (∀ d ∈ ds, d.plain = true) ∧ PySem.W.AlikeAll (ds.map Dt.py) ∧ PyData.depthAll (ds.map Dt.py) ≤ 8 ∧
  (ds = [] → Q z H) ∧ ∀ (x : V) (d d0 : Dt) (r : List Dt), ds = d0 :: r → d ∈ ds → d.py = PySem.W.maxD d0.py (r.map Dt.py) → Rep S H d x → Q x H
theorem cr_maxDef (hc : X.calm = true) (hu : X.A.units + 64 < cLine) : CallRK X (.builtin "max") [Str.ofString "default"] (rMaxDef X) := by
  intro pins s σ H xs zs us ws Q I rx rz h
  obtain ⟨a, z, vs, ds, S, rfl, rfl, ha, rr, hp, al, dp, q0, q1⟩ := h
  obtain ⟨its, rv, pl, _⟩ := I.list (.inl (.inl ha))
  obtain ⟨w, rfl, rw1⟩ := vals1 rz
  rw [Vals.ref1 rx]
  obtain ⟨as, hr⟩ := Dp.readsAll I (ds.map Dt.py) vs its (by rw [← pys_map]; exact reps_dp ((plains_all ds).mpr hp) rr) rv
  refine PySem.W.max_list_default (xs := ds.map Dt.py) (I.ok.hd hc) pl.isList (by simpa using hr) al (by omega) (fun e h' tk hk => ?_) fun y ys i v h' tk bs e hv hrd hk => ?_
  · exact ⟨z, H, I.kept hk, rw1, q0 (List.map_eq_nil_iff.mp e)⟩
  · have hv' : its[i]? = some v := by simpa using hv
    have hi : i < its.length := (List.getElem?_eq_some_iff.mp hv').1
    have hlen := rv.length
    have hlen2 := rr.length
    obtain ⟨x, hx⟩ : ∃ x, vs[i]? = some x := ⟨_, List.getElem?_eq_getElem (by omega)⟩
    obtain ⟨u, hu1, rxu⟩ := rv.get hx
    rw [hv'] at hu1
    cases hu1
    obtain ⟨d, hd, rd⟩ := rr.get' hx
    obtain ⟨as2, hr2⟩ := Dp.reads I d.py x v (rep_dp (K' := X.K) (hp d (List.mem_of_getElem? hd)) rd) rxu
    have hun := (PySem.Reads.unique (PyProof.Rows.Reads.keeps hk hr2) _ _ hrd).1
    cases ds with
    | nil => cases e
    | cons d0 r =>
      rw [List.map_cons] at e
      injection e with e1 e2
      exact ⟨x, H, I.kept hk, rxu, q1 x d d0 r rfl (List.mem_of_getElem? hd) (by rw [hun, e1, e2]) rd⟩
theorem w_maxDef {e dv : Expr} {p pos kp : Pos} (hm : X.mg "max" = none) (hu : X.A.units + 64 < cLine) (h : EK X e δ fun δ1 d1 => EK X dv δ1 fun δ2 z => ∃ ds, d1 = .lst ds ∧ (∀ d ∈ ds, d.plain = true) ∧ PySem.W.AlikeAll (ds.map Dt.py) ∧ PyData.depthAll (ds.map Dt.py) ≤ 8 ∧
      (ds = [] → K δ2 z) ∧ ∀ (d d0 : Dt) (r : List Dt), ds = d0 :: r → d ∈ ds → d.py = PySem.W.maxD d0.py (r.map Dt.py) → K δ2 d) (hc : X.calm = true := by rfl) (hg : Gl X "max" := by rfl)
    (hs : starEach [e] X.env = (false, eval e X.env) :: starEach [] X.env := by rfl) (he : backTo pos (starEach [e] X.env) = (false, eval e X.env) :: backTo pos (starEach [] X.env) := by rfl) (hpl : (backTo pos (starEach [e] X.env)).any (·.1) = false := by rfl)
    (hall : (backToKw pos (keywordEach [⟨some "default", dv, kp⟩] X.env)).all (·.1.isSome) = true := by rfl) (hnone : (backToKw pos (keywordEach [⟨some "default", dv, kp⟩] X.env)).any (·.1.isNone) = false := by rfl) (hks : (backToKw pos (keywordEach [⟨some "default", dv, kp⟩] X.env)).filterMap (·.1) = [Str.ofString "default"] := by rfl) :
    EK X (.Call (.Name "max" p) [e] [⟨some "default", dv, kp⟩] pos) δ K :=
  ek_of (pe_callBK (cr_maxDef hc hu) hg hm (by decide +kernel) (pa_cons ek_any pa_nil hs) (pk_cons ek_any pk_nil) (by decide) (by decide) he hpl hall hnone hks) fun σ H Q hq => by
    obtain ⟨S, g, q⟩ := hq
    refine te_seq g h fun v H1 d1 δ1 t1 g1 r1 h1 => ?_
    refine te_seq g1 h1 fun z H2 dz δ2 t2 g2 r2 h2 => ?_
    obtain ⟨ds, rfl, hp, al, dp, k0, k1⟩ := h2
    obtain ⟨a, us, rfl, hs, ha, rr⟩ := rep_lst.mp (r1.mv (t2.mv g1))
    exact ⟨a, z, us, ds, S, rfl, rfl, ha, rr, hp, al, dp, fun e => q z H2 dz δ2 (t1.trans t2) g2 r2 (k0 e), fun x d d0 r e m hd rd => q x H2 d δ2 (t1.trans t2) g2 rd (k1 d d0 r e m hd)⟩
end
theorem foldmax_ge : ∀ (ns : List Int) (n : Int), n ≤ ns.foldl max n ∧ ∀ y ∈ ns, y ≤ ns.foldl max n
  | [], n => ⟨Int.le_refl n, fun _ h => by cases h⟩
  | a :: ns, n => by
    obtain ⟨h1, h2⟩ := foldmax_ge ns (max n a)
    rw [List.foldl_cons]
    refine ⟨by omega, fun y hy => ?_⟩
    rcases List.mem_cons.mp hy with rfl | hy
    · omega
    · exact h2 y hy
theorem alike_intsD (ns : List Int) : PySem.W.AlikeAll ((ns.map Dt.int).map Dt.py) := by
  constructor
  · intro x hx y hy
    simp only [List.mem_map] at hx hy
    obtain ⟨_, ⟨a, _, rfl⟩, rfl⟩ := hx
    obtain ⟨_, ⟨b, _, rfl⟩, rfl⟩ := hy
    rfl
  · intro x hx
    simp only [List.mem_map] at hx
    obtain ⟨_, ⟨a, _, rfl⟩, rfl⟩ := hx
    exact fun h => by cases h
theorem depth_intsD (ns : List Int) : PyData.depthAll ((ns.map Dt.int).map Dt.py) ≤ 8 := by
  rw [List.map_map]
  show PyData.depthAll (ns.map PyData.int) ≤ 8
  rw [PySem.W.depth_ints]
  decide
/-- what max(.., default=z) of whole numbers asks -/
theorem maxDI {δ : Sls} {K : Sls → Dt → Prop} {z : Dt} {ns : List Int} (k0 : ns = [] → K δ z) (k1 : ∀ m ∈ ns, (∀ y ∈ ns, y ≤ m) → K δ (.int m)) : ∃ ds, Dt.lst (ns.map Dt.int) = .lst ds ∧ (∀ d ∈ ds, d.plain = true) ∧ PySem.W.AlikeAll (ds.map Dt.py) ∧ PyData.depthAll (ds.map Dt.py) ≤ 8 ∧
      (ds = [] → K δ z) ∧ ∀ (d d0 : Dt) (r : List Dt), ds = d0 :: r → d ∈ ds → d.py = PySem.W.maxD d0.py (r.map Dt.py) → K δ d := by
  refine ⟨_, rfl, fun d hd => ?_, alike_intsD ns, depth_intsD ns, fun e => k0 (List.map_eq_nil_iff.mp e), fun d d0 r e hd hm => ?_⟩
  · obtain ⟨n, _, rfl⟩ := List.mem_map.mp hd
    rfl
  · obtain ⟨m, hmem, rfl⟩ := List.mem_map.mp hd
    cases ns with
    | nil => cases e
    | cons n ns =>
      rw [List.map_cons] at e
      injection e with e1 e2
      subst e1
      subst e2
      have hr : (ns.map Dt.int).map Dt.py = ns.map PyData.int := by rw [List.map_map]; rfl
      rw [hr] at hm
      have hm : PyData.int m = PySem.W.maxD (.int n) (ns.map PyData.int) := hm
      rw [PySem.W.maxD_ints] at hm
      injection hm with hm
      refine k1 m hmem fun y hy => ?_
      rw [hm]
      rcases List.mem_cons.mp hy with rfl | hy
      · exact (foldmax_ge ns _).1
      · exact (foldmax_ge ns _).2 y hy
theorem enum_map {α : Type} (f : α → Dt) (xs : List α) : (xs.map f).mapIdx (fun i d => Dt.tup [.int (i : Nat), d]) = xs.zipIdx.map fun x => Dt.tup [.int (x.2 : Nat), f x.1] := by
  apply List.ext_getElem?
  intro i
  rw [List.getElem?_mapIdx, List.getElem?_map, List.getElem?_map, List.getElem?_zipIdx]
  cases xs[i]? with
  | none => rfl
  | some x => simp
end Pr

end Text_P8
section Text_M1
set_option maxHeartbeats 4000000
namespace Pr
open PySem PySem.Spec PyProof.Rows L2
/-! ## the hall's data -/
structure Col where
  nm : Str
  charge : Int
  melt : Int
  gathers : Int
structure Wsh where
  one : Str
  other : Str
  hours : Int
structure Pal where
  cs : List Col
  ws : List Wsh
structure Turn where
  at_ : Int
  col : Str
  bgn : Int
  fin : Int
  deriving DecidableEq
structure RowT where
  pot : Str
  team : Str
  col : Str
  hours : Int
structure StepT where
  one : Nat
  other : Nat
  hours : Int
  over : Int
structure TT where
  times : List (Int × Int)
  len : Int
instance : Inhabited Col := ⟨⟨Str.empty, 0, 0, 0⟩⟩
instance : Inhabited RowT := ⟨⟨Str.empty, Str.empty, Str.empty, 0⟩⟩
instance : Inhabited Turn := ⟨⟨0, Str.empty, 0, 0⟩⟩
def dCol (c : Col) : Dt := .tup [.str c.nm, .int c.charge, .int c.melt, .int c.gathers]
def dWsh (c : Wsh) : Dt := .tup [.str c.one, .str c.other, .int c.hours]
def dPal (p : Pal) : Dt := .tup [.tup (p.cs.map dCol), .tup (p.ws.map dWsh)]
def dTurn (t : Turn) : Dt := .tup [.int t.at_, .str t.col, .int t.bgn, .int t.fin]
def dTurns (ts : List Turn) : Dt := .lst (ts.map dTurn)
def dRow (r : RowT) : Dt := .tup [.str r.pot, .str r.team, .str r.col, .int r.hours]
def dRows (rs : List RowT) : Dt := .lst (rs.map dRow)
def dStep (s : StepT) : Dt := .tup [.int s.one, .int s.other, .int s.hours, .int s.over]
def dSteps (ss : List StepT) : Dt := .lst (ss.map dStep)
def dPair (p : Int × Int) : Dt := .tup [.int p.1, .int p.2]
def nTT : List Str := ["row_times", "length"]
def dTT (C : Addr) (t : TT) : Dt := .ins C nTT [.lst (t.times.map dPair), .int t.len]
def dOpt : Option Int → Dt
  | none => .non
  | some i => .int i
/-! ## what the program computes -/
def Pal.row (p : Pal) (c : Str) : Option Col := p.cs.find? fun r => decide (r.nm = c)
def Pal.has (p : Pal) (c : Str) : Prop := (p.row c).isSome = true
def Pal.washOf (p : Pal) (a b : Str) : Int := ((p.ws.find? fun r => decide (r.one = a) && decide (r.other = b)).map (·.hours)).getD 0
def Pal.rowD (p : Pal) (c : Str) : Col := (p.row c).getD default
def Pal.charge (p : Pal) (c : Str) : Int := (p.rowD c).charge
def Pal.melt (p : Pal) (c : Str) : Int := (p.rowD c).melt
def Pal.ready (p : Pal) (c : Str) (a : Int) : Int := a + p.charge c + p.melt c
theorem Pal.row_some {p : Pal} {c : Str} (h : p.has c) : p.row c = some (p.rowD c) ∧ p.rowD c ∈ p.cs ∧ (p.rowD c).nm = c := by
  unfold Pal.has at h
  cases e : p.row c with
  | none => rw [e] at h; cases h
  | some r =>
    have e2 : p.rowD c = r := by
      unfold Pal.rowD
      rw [e]
      rfl
    rw [e2]
    refine ⟨rfl, List.mem_of_find?_eq_some e, ?_⟩
    have := List.find?_some e
    simpa using this
theorem find_at {α : Type} {p : α → Bool} {r : α} : ∀ {l : List α} {i : Nat}, l[i]? = some r → p r = true → (∀ x ∈ l.take i, p x = false) → l.find? p = some r
  | [], _, h, _, _ => by simp at h
  | a :: l, 0, h, hp, _ => by
    have e : a = r := by simpa using h
    subst e
    rw [List.find?_cons, hp]
  | a :: l, i + 1, h, hp, hn => by
    have h0 : p a = false := hn a (by simp)
    rw [List.find?_cons, h0]
    exact find_at (i := i) (by simpa using h) hp fun x hx => hn x (by simp [hx])
theorem take_succ_all {α : Type} {p : α → Prop} {l : List α} {i : Nat} {r : α} (h : l[i]? = some r) (hn : ∀ x ∈ l.take i, p x) (hr : p r) : ∀ x ∈ l.take (i + 1), p x := fun x hx => by
  rw [List.take_add_one, h] at hx
  rcases List.mem_append.mp hx with z | z
  · exact hn x z
  · have : x = r := by simpa using z
    rw [this]
    exact hr
/-- the words of a turn with the hours ahead of which they end -/
def wordEnds (p : Pal) (t : Turn) (wash : Int) : List (Str × Int) := [("filled", t.at_ + p.charge t.col), ("melting", p.ready t.col t.at_), ("ready", t.bgn), ("worked", t.fin), ("washed", t.fin + wash)]
def dWE (x : Str × Int) : Dt := .tup [.str x.1, .int x.2]
def wordBy (p : Pal) (t : Turn) (wash hour : Int) : Str := (((wordEnds p t wash).find? fun x => decide (hour < x.2)).map (·.1)).getD "out"
/-- moved turns -/
def movedTurn (p : Pal) (t : Turn) (free : Int) : Turn :=
  let fill := if free > t.at_ then free else t.at_
  let work := if p.ready t.col fill > t.bgn then p.ready t.col fill else t.bgn
  ⟨fill, t.col, work, work + t.fin - t.bgn⟩
def laterTurns (p : Pal) : List Turn → Int → List Turn
  | [], _ => []
  | t :: r, free => movedTurn p t free :: match r with
    | [] => []
    | u :: _ => laterTurns p r ((movedTurn p t free).fin + p.washOf (movedTurn p t free).col u.col)
def firstBehind (ts : List Turn) (hour : Int) : Nat := (ts.filter fun t => decide (t.at_ ≤ hour)).length
def ended (ts : List Turn) (hour : Int) : List Turn := ts.filter fun t => decide (t.fin ≤ hour)
def movedFrom (n : Nat) (r s : List Turn) : List Int := ((r.zip s).zipIdx.filter fun x => !decide (x.1.1 = x.1.2)).map fun x => (n : Int) + (x.2 : Nat)
structure Brk where
  ended : List Turn
  lost : Option Int
  behind : List Turn
  moved : List Int
def dBrk (b : Brk) : Dt := .tup [dTurns b.ended, dOpt b.lost, dTurns b.behind, .lst (b.moved.map Dt.int)]
def brokenF (p : Pal) (ts : List Turn) (hour warm : Int) : Brk :=
  let begin_ := firstBehind ts hour
  let en := ended ts hour
  let rest := ts.drop begin_
  let behind := laterTurns p rest (hour + warm)
  ⟨en, if en.length < begin_ then some en.length else none, behind, movedFrom begin_ rest behind⟩
/-- turns without fault -/
def OkTurn (p : Pal) (t : Turn) : Prop := 0 ≤ t.at_ ∧ p.ready t.col t.at_ ≤ t.bgn ∧ t.at_ < t.bgn ∧ t.bgn < t.fin ∧ p.has t.col
def Faultless (p : Pal) : List Turn → Prop
  | [] => True
  | [t] => OkTurn p t
  | t :: u :: r => OkTurn p t ∧ 0 ≤ p.washOf t.col u.col ∧ t.fin + p.washOf t.col u.col ≤ u.at_ ∧ Faultless p (u :: r)
end Pr

end Text_M1
section Text_M2
set_option maxHeartbeats 4000000
namespace Pr
open PySem PySem.Spec PyProof.Rows L2
open C8 (Cal Mak Met pe_c pe_mk pe_mt pe_mt0)
/-! ## turns without fault, by places -/
structure FL (p : Pal) (ts : List Turn) : Prop where
  ok : ∀ t ∈ ts, OkTurn p t
  adj : ∀ (i : Nat) (t u : Turn), ts[i]? = some t → ts[i + 1]? = some u → 0 ≤ p.washOf t.col u.col ∧ t.fin + p.washOf t.col u.col ≤ u.at_
end Pr

end Text_M2
section Text_TX
set_option maxHeartbeats 4000000
namespace Pr
open PySem PySem.Spec PyProof.Rows L2
open C8 (Cal Mak Met pe_c pe_mk pe_mt pe_mt0)
/-! ## the text by places, and what the top has made of it -/
def topS (i : Nat) : Stmt := PySem.Challenge.pw_potround_k82_whole_a_pot_breaks_in_a_rou.main.body.getD i (.Pass ⟨0, 0, 0, 0⟩)
structure Txt (K : PySem.W.Frag) (mg : Str → Option Value) : Prop where
  d_colour_row : Dfn K mg "colour_row" "colour_row" "colour_row" (topS 5) ["palette", "colour"]
  d_wash_for : Dfn K mg "wash_for" "wash_for" "wash_for" (topS 6) ["palette", "ahead", "behind"]
  d_ready_at : Dfn K mg "ready_at" "ready_at" "ready_at" (topS 7) ["palette", "colour", "at"]
  d_is_hour : Dfn K mg "is_hour" "is_hour" "is_hour" (topS 12) ["thing"]
  d_is_turn : Dfn K mg "is_turn" "is_turn" "is_turn" (topS 13) ["palette", "thing"]
  d_is_turns : Dfn K mg "is_turns" "is_turns" "is_turns" (topS 14) ["palette", "thing"]
  d_step_fault : Dfn K mg "step_fault" "step_fault" "step_fault" (topS 15) ["palette", "ahead", "turn"]
  d_turn_fault : Dfn K mg "turn_fault" "turn_fault" "turn_fault" (topS 16) ["palette", "turns", "number"]
  d_fault_of : Dfn K mg "fault_of" "fault_of" "fault_of" (topS 17) ["palette", "turns"]
  d_word_ends : Dfn K mg "word_ends" "word_ends" "word_ends" (topS 18) ["palette", "turn", "wash"]
  d_word_by : Dfn K mg "word_by" "word_by" "word_by" (topS 19) ["palette", "turn", "wash", "hour"]
  d_wash_behind_turns : Dfn K mg "wash_behind_turns" "wash_behind" "wash_behind" (topS 20) ["palette", "turns", "number"]
  d_last_filled_turns : Dfn K mg "last_filled_turns" "last_filled" "last_filled" (topS 22) ["turns", "hour"]
  d_state_at : Dfn K mg "state_at" "state_at" "state_at" (topS 24) ["palette", "turns", "hour"]
  d_moved_turn : Dfn K mg "moved_turn" "moved_turn" "moved_turn" (topS 27) ["palette", "turn", "free"]
  d_later_turns : Dfn K mg "later_turns" "later_turns" "later_turns" (topS 28) ["palette", "rest", "free"]
  d_first_behind : Dfn K mg "first_behind" "first_behind" "first_behind" (topS 29) ["turns", "hour"]
  d_broken : Dfn K mg "broken" "broken" "broken" (topS 30) ["palette", "turns", "hour", "warm"]
  d_same_kind : Dfn K mg "same_kind" "same_kind" "same_kind" (topS 31) ["thing", "due"]
  d_shows_broken : Dfn K mg "shows_broken" "shows_broken" "shows_broken" (topS 32) ["palette", "turns", "hour", "warm", "thing"]
  d_last_warm : Dfn K mg "last_warm" "last_warm" "last_warm" (topS 34) ["palette", "turns", "hour", "number"]
  d_next_alike : Dfn K mg "next_alike" "next_alike" "next_alike" (topS 38) ["rows", "number", "part"]
  d_crossing : Dfn K mg "crossing" "crossing" "crossing" (topS 39) ["number", "other"]
  d_wash_behind_rounds : Dfn K mg "wash_behind_rounds" "wash_behind" "wash_behind" (topS 40) ["palette", "rows", "number"]
  d_row_steps : Dfn K mg "row_steps" "row_steps" "row_steps" (topS 42) ["palette", "rows", "number"]
  d_steps_of : Dfn K mg "steps_of" "steps_of" "steps_of" (topS 43) ["palette", "rows"]
  d_ring_sums : Dfn K mg "ring_sums" "ring_sums" "ring_sums" (topS 46) ["steps", "ring"]
  d_settled : Dfn K mg "settled" "settled" "settled" (topS 49) ["steps", "many", "length"]
  d_shortest : Dfn K mg "shortest" "shortest" "shortest" (topS 50) ["palette", "rows"]
  d_rows_by_pot : Dfn K mg "rows_by_pot" "rows_by_pot" "rows_by_pot" (topS 53) ["rows", "pot"]
  d_turn_in : Dfn K mg "turn_in" "turn_in" "turn_in" (topS 54) ["rows", "timetable", "number", "often"]
  d_last_filled_rounding : Dfn K mg "last_filled_rounding" "last_filled" "last_filled" (topS 55) ["timetable", "numbers", "hour"]
  d_round_state : Dfn K mg "round_state" "round_state" "round_state" (topS 57) ["palette", "rows", "timetable", "pot", "hour"]
  d_turns_of : Dfn K mg "turns_of" "turns_of" "turns_of" (topS 58) ["palette", "rows", "timetable", "pot", "often"]
  d_glass_in : Dfn K mg "glass_in" "glass_in" "glass_in" (topS 59) ["palette", "rows", "timetable", "colour", "hour"]
  d_law_box : Dfn K mg "_law_box" "_law_box" "_law_box" (topS 61) ["_law_script", "_law_k"]
  d_law_take : Dfn K mg "_law_take" "_law_take" "_law_take" (topS 62) ["_law_box_here", "_law_many"]
  d_law_names : Dfn K mg "_law_names" "_law_names" "_law_names" (topS 63) ["_law_box_here", "_law_many"]
  d_law_palette : Dfn K mg "_law_palette" "_law_palette" "_law_palette" (topS 64) ["_law_box_here", "_law_most"]
  d_law_wash : Dfn K mg "_law_wash" "_law_wash" "_law_wash" (topS 65) ["_law_palette_here", "_law_ahead", "_law_behind"]
  d_law_hours : Dfn K mg "_law_hours" "_law_hours" "_law_hours" (topS 66) ["_law_palette_here", "_law_colour"]
  d_law_same : Dfn K mg "_law_same" "_law_same" "_law_same" (topS 67) ["_law_found", "_law_due"]
  d_law_broken : Dfn K mg "_law_broken" "_law_broken" "_law_broken" (topS 68) ["_law_palette_here", "_law_turns", "_law_hour", "_law_warm"]
  d_law_when : Dfn K mg "_law_when" "_law_when" "_law_when" (topS 69) ["_law_box_here", "_law_turns"]
  d_law_rows : Dfn K mg "_law_rows" "_law_rows" "_law_rows" (topS 70) ["_law_box_here", "_law_palette_here"]
  d_law_view : Dfn K mg "_law_view" "_law_view" "_law_view" (topS 71) ["_law_palette_here", "_law_rows_here", "_law_table", "_law_hour"]
  d_law_as_the_round : Dfn K mg "_law_as_the_round" "_law_as_the_round" "_law_as_the_round" (topS 72) ["_law_palette_here", "_law_rows_here", "_law_table", "_law_pot", "_law_turns", "_law_hours_here"]
  d_law_pot_right : Dfn K mg "_law_pot_right" "_law_pot_right" "_law_pot_right" (topS 73) ["_law_box_here", "_law_palette_here", "_law_rows_here", "_law_table", "_law_pot"]
  d_law_long_right : Dfn K mg "_law_long_right" "_law_long_right" "_law_long_right" (topS 74) ["_law_box_here", "_law_palette_here"]
  b_abs : mg "abs" = none
  b_len : mg "len" = none
  b_max : mg "max" = none
  b_min : mg "min" = none
  b_sum : mg "sum" = none
  b_all : mg "all" = none
  b_sorted : mg "sorted" = none
  b_repr : mg "repr" = none
  b_isinstance : mg "isinstance" = none
  b_int : mg "int" = none
  b_str : mg "str" = none
  b_bool : mg "bool" = none
  b_list : mg "list" = none
  b_tuple : mg "tuple" = none
  b_set : mg "set" = none
  b_range : mg "range" = none
  b_zip : mg "zip" = none
  b_enumerate : mg "enumerate" = none
  g_MOST_TURNS : ∃ t, mg "MOST_TURNS" = some (.int 30 t)
  g_LAST_HOUR : ∃ t, mg "LAST_HOUR" = some (.int 1000000 t)
  g_OUT : ∃ t, mg "OUT" = some (.str "out" t)
  g_POT : ∃ t, mg "POT" = some (.int 0 t)
  g_TEAM : ∃ t, mg "TEAM" = some (.int 1 t)
end Pr

end Text_TX
section Text_M3
set_option maxHeartbeats 4000000
namespace Pr
open PySem PySem.Spec PyProof.Rows L2
open C8 (Cal Mak Met pe_c pe_mk pe_mt pe_mt0)
/-! ## the round -/
def RowT.key (b : Bool) (r : RowT) : Str := if b then r.team else r.pot
def rowAt (rs : List RowT) (i : Nat) : RowT := rs.getD i default
def turned (n i : Nat) : List Nat := (List.range n).map fun k => (i + (k + 1)) % n
def nextAlike (rs : List RowT) (i : Nat) (b : Bool) : Nat := ((turned rs.length i).find? fun j => decide ((rowAt rs j).key b = (rowAt rs i).key b)).getD i
def cross (i j : Nat) : Int := if j ≤ i then 1 else 0
def washBehindR (p : Pal) (rs : List RowT) (i : Nat) : Int := p.washOf (rowAt rs i).col (rowAt rs (nextAlike rs i false)).col
def stepsRow (p : Pal) (rs : List RowT) (i : Nat) : List StepT :=
  let r := rowAt rs i
  let behind := (i + 1) % rs.length
  let mate := nextAlike rs i true
  let filled := nextAlike rs i false
  [⟨2 * i, 2 * behind, p.charge r.col, cross i behind⟩, ⟨2 * i, 2 * i + 1, p.charge r.col + p.melt r.col, 0⟩, ⟨2 * i + 1, 2 * mate + 1, r.hours, cross i mate⟩, ⟨2 * i + 1, 2 * filled, r.hours + washBehindR p rs i, cross i filled⟩]
def stepsOf (p : Pal) (rs : List RowT) : List StepT := ((List.range rs.length).map (stepsRow p rs)).flatten
theorem mem_turned {n i j : Nat} (h : j ∈ turned n i) : j < n := by
  unfold turned at h
  obtain ⟨k, hk, rfl⟩ := List.mem_map.mp h
  exact Nat.mod_lt _ (by have := List.mem_range.mp hk; omega)
theorem self_turned {n i : Nat} (h : i < n) : i ∈ turned n i := by
  unfold turned
  refine List.mem_map.mpr ⟨n - 1, List.mem_range.mpr (by omega), ?_⟩
  show (i + (n - 1 + 1)) % n = i
  rw [show i + (n - 1 + 1) = i + n by omega, Nat.add_mod_right, Nat.mod_eq_of_lt h]
theorem next_some {rs : List RowT} {i : Nat} (b : Bool) (h : i < rs.length) : ((turned rs.length i).find? fun j => decide ((rowAt rs j).key b = (rowAt rs i).key b)) = some (nextAlike rs i b) ∧ nextAlike rs i b < rs.length ∧ (rowAt rs (nextAlike rs i b)).key b = (rowAt rs i).key b := by
  cases e : (turned rs.length i).find? fun j => decide ((rowAt rs j).key b = (rowAt rs i).key b) with
  | none => exact absurd (List.find?_eq_none.mp e i (self_turned h)) (by simp)
  | some j =>
    have ej : nextAlike rs i b = j := by unfold nextAlike; rw [e]; rfl
    rw [ej]
    have hs := List.find?_some e
    exact ⟨rfl, mem_turned (List.mem_of_find?_eq_some e), of_decide_eq_true (by simpa using hs)⟩
theorem rowAt_get {rs : List RowT} {i : Nat} (h : i < rs.length) : rs[i]? = some (rowAt rs i) := by
  unfold rowAt
  rw [List.getD_eq_getElem?_getD, List.getElem?_eq_getElem h]
  rfl
end Pr

end Text_M3
section Text_M4
set_option maxHeartbeats 4000000
namespace Pr
open PySem PySem.Spec PyProof.Rows L2
open C8 (Cal Mak Met pe_c pe_mk pe_mt pe_mt0)
local macro_rules | `(tactic| walk_at "nrm") => `(tactic| (simp only [args, setAll, List.set_cons_zero, List.set_cons_succ, List.map_cons, List.map_nil, List.length_cons, List.length_nil, List.replicate_succ, List.replicate_zero, List.cons_append, List.nil_append, Nat.reduceAdd, Nat.reduceSub]; try rfl))
/-! ## pots' rows -/
def byPot (rs : List RowT) (pot : Str) : List Nat := (rs.zipIdx.filter fun x => decide (x.1.pot = pot)).map (·.2)
theorem mem_byPot {rs : List RowT} {pot : Str} {i : Nat} : i ∈ byPot rs pot ↔ i < rs.length ∧ (rowAt rs i).pot = pot := by
  unfold byPot
  simp only [List.mem_map, List.mem_filter, decide_eq_true_eq, Prod.exists, List.mem_zipIdx_iff_getElem?]
  constructor
  · rintro ⟨r, j, ⟨h1, h2⟩, rfl⟩
    have hlt : j < rs.length := (List.getElem?_eq_some_iff.mp h1).1
    rw [rowAt_get hlt] at h1
    have e : rowAt rs j = r := Option.some.inj h1
    exact ⟨hlt, by show (rowAt rs j).pot = pot; rw [e]; exact h2⟩
  · rintro ⟨h1, h2⟩
    exact ⟨rowAt rs i, i, ⟨rowAt_get h1, h2⟩, rfl⟩
def ringSum (ss : List StepT) (f : StepT → Int) (ring : List Nat) : Int := (ring.map fun i => f (ss.getD i ⟨0, 0, 0, 0⟩)).sum
end Pr

end Text_M4
section Text_M5
set_option maxHeartbeats 4000000
namespace Pr
open PySem PySem.Spec PyProof.Rows L2
open C8 (Cal Mak Met pe_c pe_mk pe_mt pe_mt0)
local macro_rules | `(tactic| walk_at "nrm") => `(tactic| (simp only [args, setAll, List.set_cons_zero, List.set_cons_succ, List.map_cons, List.map_nil, List.length_cons, List.length_nil, List.replicate_succ, List.replicate_zero, List.cons_append, List.nil_append, Nat.reduceAdd, Nat.reduceSub]; try rfl))
/-! ## settling: hours and the steps that gave them -/
abbrev Stg := List Int × List (Option Nat)
def dOptN : Option Nat → Dt
  | none => .non
  | some n => .int (n : Nat)
structure SA where
  ss : List StepT
  L : Int
  q1 : Addr
  q2 : Addr
  s : Stg
def SA.fls (a : SA) : List (Str × Fl) := [("own_steps", .v (dSteps a.ss)), ("length", .v (.int a.L)), ("hours", .own a.q1 (a.s.1.map .int)), ("by_step", .own a.q2 (a.s.2.map dOptN))]
def stepAt (ss : List StepT) (n : Nat) : StepT := ss.getD n ⟨0, 0, 0, 0⟩
theorem stepAt_get {ss : List StepT} {n : Nat} (h : n < ss.length) : ss[n]? = some (stepAt ss n) := by
  unfold stepAt
  rw [List.getD_eq_getElem?_getD, List.getElem?_eq_getElem h]
  rfl
structure SA.Ok (a : SA) : Prop where
  len : a.s.2.length = a.s.1.length
  few : a.ss.length ≤ 1000
  many : a.s.1.length ≤ 900
  inn : ∀ st ∈ a.ss, st.one < a.s.1.length ∧ st.other < a.s.1.length
  lo : 0 ≤ a.L
  hi : a.L ≤ 1000000000000
def leastOf (ss : List StepT) (L : Int) (n : Nat) (hs : List Int) : Int := hs.getD (stepAt ss n).one 0 + (stepAt ss n).hours - (stepAt ss n).over * L
def putLater (ss : List StepT) (L : Int) (n : Nat) (s : Stg) : Bool × Stg :=
  if leastOf ss L n s.1 ≤ s.1.getD (stepAt ss n).other 0 then (false, s) else (true, (s.1.set (stepAt ss n).other (leastOf ss L n s.1), s.2.set (stepAt ss n).other (some n)))
def goneTo (ss : List StepT) (L : Int) (s : Stg) : Nat → Option Nat × Stg
  | 0 => (none, s)
  | n + 1 => let acc := goneTo ss L s n; let r := putLater ss L n acc.2; (if r.1 then some n else acc.1, r.2)
def gone (ss : List StepT) (L : Int) (s : Stg) : Option Nat × Stg := goneTo ss L s ss.length
/-- the state before the n-th time through -/
def thru (ss : List StepT) (L : Int) (s : Stg) : Nat → Option Nat × Stg
  | 0 => (none, s)
  | n + 1 => gone ss L (thru ss L s n).2
theorem put_len {ss : List StepT} {L : Int} {n : Nat} {s : Stg} : (putLater ss L n s).2.1.length = s.1.length ∧ (putLater ss L n s).2.2.length = s.2.length := by
  unfold putLater
  split
  · exact ⟨rfl, rfl⟩
  · exact ⟨List.length_set, List.length_set⟩
theorem goneTo_len {ss : List StepT} {L : Int} {s : Stg} : ∀ n, (goneTo ss L s n).2.1.length = s.1.length ∧ (goneTo ss L s n).2.2.length = s.2.length
  | 0 => ⟨rfl, rfl⟩
  | n + 1 => by
    obtain ⟨h1, h2⟩ := goneTo_len (ss := ss) (L := L) (s := s) n
    obtain ⟨k1, k2⟩ := put_len (ss := ss) (L := L) (n := n) (s := (goneTo ss L s n).2)
    exact ⟨k1.trans h1, k2.trans h2⟩
theorem goneTo_lt {ss : List StepT} {L : Int} {s : Stg} : ∀ n k, (goneTo ss L s n).1 = some k → k < n
  | 0, k, h => by cases h
  | n + 1, k, h => by
    have h : (if (putLater ss L n (goneTo ss L s n).2).1 then some n else (goneTo ss L s n).1) = some k := h
    split at h
    · cases h
      omega
    · have := goneTo_lt n k h
      omega
def SA.upd (a : SA) (s : Stg) : SA := { a with s := s }
theorem SA.Ok.to {a : SA} (h : a.Ok) {s : Stg} (h1 : s.1.length = a.s.1.length) (h2 : s.2.length = a.s.2.length) : (a.upd s).Ok := by
  unfold SA.upd
  exact ⟨by dsimp only; rw [h1, h2]; exact h.len, h.few, by dsimp only; rw [h1]; exact h.many, by dsimp only; rw [h1]; exact h.inn, h.lo, h.hi⟩
theorem SA.Ok.put {a : SA} (h : a.Ok) (n : Nat) : (a.upd (putLater a.ss a.L n a.s).2).Ok := h.to put_len.1 put_len.2
theorem SA.Ok.gone {a : SA} (h : a.Ok) : (a.upd (Pr.gone a.ss a.L a.s).2).Ok := h.to (goneTo_len _).1 (goneTo_len _).2
theorem thru_len {ss : List StepT} {L : Int} {s : Stg} : ∀ n, (thru ss L s n).2.1.length = s.1.length ∧ (thru ss L s n).2.2.length = s.2.length
  | 0 => ⟨rfl, rfl⟩
  | n + 1 => by
    obtain ⟨h1, h2⟩ := thru_len (ss := ss) (L := L) (s := s) n
    obtain ⟨k1, k2⟩ := goneTo_len (ss := ss) (L := L) (s := (thru ss L s n).2) ss.length
    exact ⟨k1.trans h1, k2.trans h2⟩
theorem SA.Ok.thru {a : SA} (h : a.Ok) (n : Nat) : (a.upd (Pr.thru a.ss a.L a.s n).2).Ok := h.to (thru_len n).1 (thru_len n).2
/-- what unsettled answers: through n times at most -/
def unsetFrom (ss : List StepT) (L : Int) (s : Stg) (m : Nat) : Nat → Option Nat × Stg
  | 0 => thru ss L s m
  | n + 1 => if (thru ss L s (m + 1)).1 = none then thru ss L s (m + 1) else unsetFrom ss L s (m + 1) n
def dTimes (ts : List (Int × Int)) : Dt := .lst (ts.map dPair)
end Pr

end Text_M5
section Text_M6
set_option maxHeartbeats 4000000
namespace Pr
open PySem PySem.Spec PyProof.Rows L2
open C8 (Cal Mak Met pe_c pe_mk pe_mt pe_mt0)
local macro_rules | `(tactic| walk_at "nrm") => `(tactic| (simp only [args, setAll, List.set_cons_zero, List.set_cons_succ, List.map_cons, List.map_nil, List.length_cons, List.length_nil, List.replicate_succ, List.replicate_zero, List.cons_append, List.nil_append, Nat.reduceAdd, Nat.reduceSub]; try rfl))
/-! ## walking back along the steps that gave the hours -/
theorem pigeon : ∀ (n : Nat) (f : Nat → Nat), (∀ i, i ≤ n → f i < n) → ∃ i j, i < j ∧ j ≤ n ∧ f i = f j
  | 0, f, h => absurd (h 0 (Nat.le_refl _)) (by omega)
  | n + 1, f, h => by
    by_cases q : ∃ i, i < n + 1 ∧ f i = f (n + 1)
    · obtain ⟨i, h1, h2⟩ := q
      exact ⟨i, n + 1, h1, Nat.le_refl _, h2⟩
    · have nq : ∀ i, i < n + 1 → f i ≠ f (n + 1) := fun i h1 h2 => q ⟨i, h1, h2⟩
      obtain ⟨i, j, h1, h2, h3⟩ := pigeon n (fun i => if f i = n then f (n + 1) else f i) fun i hi => by
        have a := h i (by omega)
        have b := h (n + 1) (Nat.le_refl _)
        have c := nq i (by omega)
        split
        · omega
        · omega
      refine ⟨i, j, h1, by omega, ?_⟩
      have ci := nq i (by omega)
      have cj := nq j (by omega)
      split at h3 <;> split at h3
      · omega
      · exact absurd h3.symm cj
      · exact absurd h3 ci
      · exact h3
def parOf (bs : List (Option Nat)) (m : Nat) : Nat := (bs.getD m none).getD 0
def bk (ss : List StepT) (bs : List (Option Nat)) (m : Nat) : Nat → Nat
  | 0 => m
  | k + 1 => (stepAt ss (parOf bs (bk ss bs m k))).one
theorem bk_add {ss : List StepT} {bs : List (Option Nat)} {m : Nat} (i : Nat) : ∀ t, bk ss bs m (i + t) = bk ss bs (bk ss bs m i) t
  | 0 => rfl
  | t + 1 => by
    show (stepAt ss (parOf bs (bk ss bs m (i + t)))).one = (stepAt ss (parOf bs (bk ss bs (bk ss bs m i) t))).one
    rw [bk_add i t]
/-- every moment on the way back has a step -/
def Back (ss : List StepT) (bs : List (Option Nat)) (m : Nat) : Prop := ∀ k, ∃ n, bs[bk ss bs m k]? = some (some n) ∧ n < ss.length
theorem Back.par {ss : List StepT} {bs : List (Option Nat)} {m : Nat} (h : Back ss bs m) (k : Nat) : bs[bk ss bs m k]? = some (some (parOf bs (bk ss bs m k))) ∧ parOf bs (bk ss bs m k) < ss.length := by
  obtain ⟨n, h1, h2⟩ := h k
  have e : parOf bs (bk ss bs m k) = n := by
    unfold parOf
    rw [List.getD_eq_getElem?_getD, h1]
    rfl
  rw [e]
  exact ⟨h1, h2⟩
theorem Back.lt {ss : List StepT} {bs : List (Option Nat)} {m : Nat} (h : Back ss bs m) (k : Nat) : bk ss bs m k < bs.length := by
  obtain ⟨n, h1, h2⟩ := h k
  exact (List.getElem?_eq_some_iff.mp h1).1
theorem Back.ring {ss : List StepT} {bs : List (Option Nat)} {m : Nat} (h : Back ss bs m) : ∃ c, 1 ≤ c ∧ c ≤ bs.length ∧ bk ss bs m (bs.length + c) = bk ss bs m bs.length ∧ ∀ j, 1 ≤ j → j < c → bk ss bs m (bs.length + j) ≠ bk ss bs m bs.length := by
  obtain ⟨i, j, h1, h2, h3⟩ := pigeon bs.length (bk ss bs m) fun i _ => h.lt i
  have hc : ∃ c, 1 ≤ c ∧ c ≤ bs.length ∧ bk ss bs m (bs.length + c) = bk ss bs m bs.length := by
    refine ⟨j - i, by omega, by omega, ?_⟩
    have e1 : bk ss bs m bs.length = bk ss bs (bk ss bs m i) (bs.length - i) := by rw [← bk_add]; congr 1; omega
    have e2 : bk ss bs m (bs.length + (j - i)) = bk ss bs (bk ss bs m j) (bs.length - i) := by rw [← bk_add]; congr 1; omega
    rw [e1, e2, h3]
  have least : ∀ n c, c ≤ n → 1 ≤ c ∧ c ≤ bs.length ∧ bk ss bs m (bs.length + c) = bk ss bs m bs.length → ∃ c, 1 ≤ c ∧ c ≤ bs.length ∧ bk ss bs m (bs.length + c) = bk ss bs m bs.length ∧ ∀ j, 1 ≤ j → j < c → bk ss bs m (bs.length + j) ≠ bk ss bs m bs.length := by
    intro n
    induction n with
    | zero => intro c h1 h2; omega
    | succ n ih =>
      intro c hcn ⟨a1, a2, a3⟩
      by_cases q : ∃ j, 1 ≤ j ∧ j < c ∧ bk ss bs m (bs.length + j) = bk ss bs m bs.length
      · obtain ⟨j, b1, b2, b3⟩ := q
        exact ih j (by omega) ⟨b1, by omega, b3⟩
      · exact ⟨c, a1, a2, a3, fun j b1 b2 b3 => q ⟨j, b1, b2, b3⟩⟩
  obtain ⟨c, hc⟩ := hc
  exact least c c (Nat.le_refl _) hc
/-- the steps from the moment where the walk ends, back -/
def ringTo (ss : List StepT) (bs : List (Option Nat)) (m c : Nat) : List Nat := (List.range c).map fun t => parOf bs (bk ss bs m (bs.length + t))
end Pr

end Text_M6
section Text_M7
set_option maxHeartbeats 4000000
namespace Pr
open PySem PySem.Spec PyProof.Rows L2
open C8 (Cal Mak Met pe_c pe_mk pe_mt pe_mt0)
local macro_rules | `(tactic| walk_at "nrm") => `(tactic| (simp only [args, setAll, List.set_cons_zero, List.set_cons_succ, List.map_cons, List.map_nil, List.length_cons, List.length_nil, List.replicate_succ, List.replicate_zero, List.cons_append, List.nil_append, Nat.reduceAdd, Nat.reduceSub]; try rfl))
/-! ## settling: what its passes know -/
def wOf (ss : List StepT) (L : Int) (e : Nat) : Int := (stepAt ss e).hours - (stepAt ss e).over * L
def hAt (s : Stg) (v : Nat) : Int := s.1.getD v 0
def bAt (s : Stg) (v : Nat) : Option Nat := s.2.getD v none
theorem getD_set {α : Type} {l : List α} {i j : Nat} {a d : α} (h : i < l.length) : (l.set i a).getD j d = if j = i then a else l.getD j d := by
  rw [List.getD_eq_getElem?_getD, List.getD_eq_getElem?_getD]
  by_cases e : j = i
  · rw [if_pos e, e, List.getElem?_set_self h]
    rfl
  · rw [if_neg e, List.getElem?_set_ne (fun z => e z.symm)]
/-- in the p-th time through, k steps done, c relaxations all in all; t: the time through at which a moment was put later last, u: when -/
structure BF (ss : List StepT) (L : Int) (n : Nat) (W : Int) (p k c : Nat) (s : Stg) (t u : Nat → Nat) : Prop where
  l1 : s.1.length = n
  l2 : s.2.length = n
  has : ∀ v, 1 ≤ t v → ∃ e, bAt s v = some e ∧ t v ≤ t (stepAt ss e).one + 1
  good : ∀ v e, bAt s v = some e → e < ss.length ∧ (stepAt ss e).other = v ∧ hAt s v ≤ hAt s (stepAt ss e).one + wOf ss L e ∧ (hAt s v < hAt s (stepAt ss e).one + wOf ss L e ∨ u (stepAt ss e).one < u v)
  top : ∀ v, t v ≤ p
  clk : ∀ v, u v < c
  old : ∀ e, e < ss.length → t (stepAt ss e).one + 1 < (if e < k then p + 1 else p) → hAt s (stepAt ss e).one + wOf ss L e ≤ hAt s (stepAt ss e).other
  lo : ∀ v, 0 ≤ hAt s v
  hi : ∀ v, hAt s v ≤ (c : Int) * W
theorem BF.relax {ss : List StepT} {L : Int} {n : Nat} {W : Int} {p k c : Nat} {s : Stg} {t u : Nat → Nat} (b : BF ss L n W p k c s t u) (hk : k < ss.length) (hn : (stepAt ss k).other < n) (hW : 0 ≤ W) (hw : wOf ss L k ≤ W) :
    ∃ t' u', BF ss L n W p (k + 1) (c + 1) (putLater ss L k s).2 t' u' ∧ ((putLater ss L k s).1 = true → t' (stepAt ss k).other = p) ∧ ((putLater ss L k s).1 = false → putLater ss L k s = (false, s) ∧ hAt s (stepAt ss k).one + wOf ss L k ≤ hAt s (stepAt ss k).other) ∧ ∀ v, t v ≤ t' v := by
  have el : leastOf ss L k s.1 = hAt s (stepAt ss k).one + wOf ss L k := by
    unfold leastOf hAt wOf
    omega
  have hc : ((c + 1 : Nat) : Int) * W = (c : Int) * W + W := by
    rw [show ((c + 1 : Nat) : Int) = (c : Int) + 1 by omega, Int.add_mul, Int.one_mul]
  by_cases q : leastOf ss L k s.1 ≤ s.1.getD (stepAt ss k).other 0
  · have e : putLater ss L k s = (false, s) := if_pos q
    have q2 : hAt s (stepAt ss k).one + wOf ss L k ≤ hAt s (stepAt ss k).other := by rw [← el]; exact q
    rw [e]
    dsimp only
    refine ⟨t, u, ⟨b.l1, b.l2, b.has, b.good, b.top, fun v => Nat.lt_succ_of_lt (b.clk v), fun x hx h => ?_, b.lo, fun v => ?_⟩, (fun h => by cases h), fun _ => ⟨rfl, q2⟩, fun v => Nat.le_refl _⟩
    · by_cases ex : x = k
      · rw [ex]
        exact q2
      · refine b.old x hx ?_
        by_cases h1 : x < k
        · rw [if_pos h1]
          rw [if_pos (by omega)] at h
          exact h
        · rw [if_neg h1]
          rw [if_neg (by omega)] at h
          exact h
    · have := b.hi v
      rw [hc]
      omega
  · have e : putLater ss L k s = (true, (s.1.set (stepAt ss k).other (leastOf ss L k s.1), s.2.set (stepAt ss k).other (some k))) := if_neg q
    rw [e, el]
    dsimp only
    have q2 : hAt s (stepAt ss k).other < hAt s (stepAt ss k).one + wOf ss L k := by
      rw [el] at q
      unfold hAt at q ⊢
      omega
    have hh : ∀ x, hAt (s.1.set (stepAt ss k).other (hAt s (stepAt ss k).one + wOf ss L k), s.2.set (stepAt ss k).other (some k)) x = if x = (stepAt ss k).other then hAt s (stepAt ss k).one + wOf ss L k else hAt s x := fun x => getD_set (by rw [b.l1]; exact hn)
    have hb : ∀ x, bAt (s.1.set (stepAt ss k).other (hAt s (stepAt ss k).one + wOf ss L k), s.2.set (stepAt ss k).other (some k)) x = if x = (stepAt ss k).other then some k else bAt s x := fun x => getD_set (by rw [b.l2]; exact hn)
    have up : ∀ x, hAt s x ≤ hAt (s.1.set (stepAt ss k).other (hAt s (stepAt ss k).one + wOf ss L k), s.2.set (stepAt ss k).other (some k)) x := fun x => by
      rw [hh]
      by_cases ex : x = (stepAt ss k).other
      · rw [if_pos ex, ex]
        exact Int.le_of_lt q2
      · rw [if_neg ex]
        exact Int.le_refl _
    generalize hs2 : (s.1.set (stepAt ss k).other (hAt s (stepAt ss k).one + wOf ss L k), s.2.set (stepAt ss k).other (some k)) = s2 at hh hb up
    have tt : ∀ x, t x ≤ if x = (stepAt ss k).other then p else t x := fun x => by
      by_cases ex : x = (stepAt ss k).other
      · rw [if_pos ex]
        exact b.top x
      · rw [if_neg ex]
        exact Nat.le_refl _
    refine ⟨fun x => if x = (stepAt ss k).other then p else t x, fun x => if x = (stepAt ss k).other then c else u x, ⟨?_, ?_, fun x hx => ?_, fun x y hy => ?_, fun x => ?_, fun x => ?_, fun x hx h => ?_, fun x => ?_, fun x => ?_⟩, fun _ => if_pos rfl, (fun h => by cases h), tt⟩
    · rw [← hs2]
      dsimp only
      rw [List.length_set, b.l1]
    · rw [← hs2]
      dsimp only
      rw [List.length_set, b.l2]
    · by_cases ex : x = (stepAt ss k).other
      · refine ⟨k, by rw [hb, if_pos ex], ?_⟩
        rw [if_pos ex]
        by_cases eu : (stepAt ss k).one = (stepAt ss k).other
        · rw [if_pos eu]
          omega
        · rw [if_neg eu]
          rcases Nat.lt_or_ge (t (stepAt ss k).one + 1) p with z | z
          · have := b.old k hk (by rw [if_neg (Nat.lt_irrefl _)]; exact z)
            omega
          · exact z
      · have hx : 1 ≤ t x := by simpa [ex] using hx
        obtain ⟨y, h1, h2⟩ := b.has x hx
        refine ⟨y, by rw [hb, if_neg ex]; exact h1, ?_⟩
        have := tt (stepAt ss y).one
        rw [if_neg ex]
        omega
    · by_cases ex : x = (stepAt ss k).other
      · rw [hb, if_pos ex] at hy
        cases hy
        refine ⟨hk, ex.symm, ?_, ?_⟩
        · have := up (stepAt ss k).one
          rw [hh x, if_pos ex]
          omega
        · rw [hh x, if_pos ex]
          by_cases eu : (stepAt ss k).one = (stepAt ss k).other
          · left
            rw [hh, if_pos eu]
            rw [eu] at q2 ⊢
            omega
          · right
            rw [if_neg eu, if_pos ex]
            exact b.clk _
      · rw [hb, if_neg ex] at hy
        obtain ⟨h1, h2, h3, h4⟩ := b.good x y hy
        have up' := up (stepAt ss y).one
        refine ⟨h1, h2, by rw [hh x, if_neg ex]; omega, ?_⟩
        rw [hh x, if_neg ex]
        rw [if_neg ex]
        by_cases ey : (stepAt ss y).one = (stepAt ss k).other
        · left
          rw [hh, if_pos ey]
          rw [ey] at h3
          omega
        · rw [if_neg ey, hh, if_neg ey]
          exact h4
    · split
      · exact Nat.le_refl _
      · exact b.top x
    · split
      · omega
      · exact Nat.lt_succ_of_lt (b.clk x)
    · by_cases eo : (stepAt ss x).one = (stepAt ss k).other
      · rw [if_pos eo] at h
        split at h <;> omega
      · rw [if_neg eo] at h
        rw [hh (stepAt ss x).one, if_neg eo]
        by_cases ex : x = k
        · rw [ex, hh, if_pos rfl]
          exact Int.le_refl _
        · have := b.old x hx (by
            by_cases h1 : x < k
            · rw [if_pos h1]
              rw [if_pos (by omega)] at h
              exact h
            · rw [if_neg h1]
              rw [if_neg (by omega)] at h
              exact h)
          exact Int.le_trans this (up _)
    · exact Int.le_trans (b.lo x) (up x)
    · rw [hh, hc]
      have h1 := b.hi x
      have h2 := b.hi (stepAt ss k).one
      split <;> omega
end Pr

end Text_M7
section Text_M8
set_option maxHeartbeats 4000000
namespace Pr
open PySem PySem.Spec PyProof.Rows L2
open C8 (Cal Mak Met pe_c pe_mk pe_mt pe_mt0)
local macro_rules | `(tactic| walk_at "nrm") => `(tactic| (simp only [args, setAll, List.set_cons_zero, List.set_cons_succ, List.map_cons, List.map_nil, List.length_cons, List.length_nil, List.replicate_succ, List.replicate_zero, List.cons_append, List.nil_append, Nat.reduceAdd, Nat.reduceSub]; try rfl))
/-! ## settling: its ends -/
/-- the weights' frame -/
structure Fr (ss : List StepT) (L : Int) (n : Nat) (W : Int) : Prop where
  inn : ∀ e, e < ss.length → (stepAt ss e).one < n ∧ (stepAt ss e).other < n
  W0 : 0 ≤ W
  w : ∀ e, e < ss.length → wOf ss L e ≤ W
def Holds (ss : List StepT) (L : Int) (s : Stg) (k : Nat) : Prop := ∀ e, e < k → hAt s (stepAt ss e).one + wOf ss L e ≤ hAt s (stepAt ss e).other
theorem hAt_rep {n v : Nat} : hAt (List.replicate n 0, List.replicate n none) v = 0 := by
  unfold hAt
  rw [List.getD_eq_getElem?_getD, List.getElem?_replicate]
  split <;> rfl
theorem bAt_rep {n v : Nat} : bAt (List.replicate n 0, List.replicate n none) v = none := by
  unfold bAt
  rw [List.getD_eq_getElem?_getD, List.getElem?_replicate]
  split <;> rfl
theorem BF.start {ss : List StepT} {L : Int} {n : Nat} {W : Int} (F : Fr ss L n W) : BF ss L n W 1 0 1 (List.replicate n 0, List.replicate n none) (fun _ => 0) (fun _ => 0) := by
  refine ⟨List.length_replicate, List.length_replicate, fun v h => absurd h (by decide), fun v e h => ?_, fun v => Nat.zero_le _, fun v => by decide, fun e he h => ?_, fun v => ?_, fun v => ?_⟩
  · rw [bAt_rep] at h
    cases h
  · rw [if_neg (Nat.not_lt_zero _)] at h
    omega
  · rw [hAt_rep]
    exact Int.le_refl _
  · rw [hAt_rep]
    have := F.W0
    omega
theorem BF.goneTo {ss : List StepT} {L : Int} {n : Nat} {W : Int} (F : Fr ss L n W) {p c : Nat} {s : Stg} {t u : Nat → Nat} (b : BF ss L n W p 0 c s t u) : ∀ k, k ≤ ss.length → ∃ t' u', BF ss L n W p k (c + k) (Pr.goneTo ss L s k).2 t' u' ∧ (∀ l, (Pr.goneTo ss L s k).1 = some l → t' (stepAt ss l).other = p) ∧ ((Pr.goneTo ss L s k).1 = none → (Pr.goneTo ss L s k).2 = s ∧ Holds ss L s k)
  | 0, _ => ⟨t, u, b, (fun l h => by cases h), fun _ => ⟨rfl, fun e h => absurd h (Nat.not_lt_zero _)⟩⟩
  | k + 1, hk => by
    obtain ⟨t1, u1, b1, h1, h2⟩ := BF.goneTo F b k (by omega)
    obtain ⟨t2, u2, b2, k1, k2, k3⟩ := b1.relax (by omega) (F.inn k (by omega)).2 F.W0 (F.w k (by omega))
    have e : Pr.goneTo ss L s (k + 1) = (if (putLater ss L k (Pr.goneTo ss L s k).2).1 then some k else (Pr.goneTo ss L s k).1, (putLater ss L k (Pr.goneTo ss L s k).2).2) := rfl
    rw [e]
    refine ⟨t2, u2, b2, fun l h => ?_, fun h => ?_⟩
    · dsimp only at h
      split at h
      · rename_i q
        cases h
        exact k1 q
      · have := h1 l h
        have a := k3 (stepAt ss l).other
        have d := b2.top (stepAt ss l).other
        omega
    · dsimp only at h
      split at h
      · cases h
      · rename_i q
        have q : (putLater ss L k (Pr.goneTo ss L s k).2).1 = false := by simpa using q
        obtain ⟨a1, a2⟩ := k2 q
        obtain ⟨b1, b2⟩ := h2 h
        dsimp only
        rw [a1]
        rw [b1] at a2 ⊢
        refine ⟨rfl, fun e he => ?_⟩
        by_cases ee : e = k
        · rw [ee]
          exact a2
        · exact b2 e (by omega)
theorem BF.thru {ss : List StepT} {L : Int} {n : Nat} {W : Int} (F : Fr ss L n W) : ∀ m, ∃ t u, BF ss L n W (m + 1) 0 (1 + m * ss.length) (Pr.thru ss L (List.replicate n 0, List.replicate n none) m).2 t u ∧ (∀ l, (Pr.thru ss L (List.replicate n 0, List.replicate n none) m).1 = some l → t (stepAt ss l).other = m) ∧ (1 ≤ m → (Pr.thru ss L (List.replicate n 0, List.replicate n none) m).1 = none → Holds ss L (Pr.thru ss L (List.replicate n 0, List.replicate n none) m).2 ss.length)
  | 0 => by
    refine ⟨fun _ => 0, fun _ => 0, ?_, (fun l h => by cases h), fun h => absurd h (by decide)⟩
    rw [Nat.zero_mul]
    exact BF.start F
  | m + 1 => by
    obtain ⟨t, u, b, _, _⟩ := BF.thru F m
    obtain ⟨t1, u1, b1, h1, h2⟩ := b.goneTo F ss.length (Nat.le_refl _)
    have ec : 1 + (m + 1) * ss.length = 1 + m * ss.length + ss.length := by rw [Nat.succ_mul]; omega
    rw [ec]
    refine ⟨t1, u1, ⟨b1.l1, b1.l2, b1.has, b1.good, fun v => Nat.le_succ_of_le (b1.top v), b1.clk, fun e he h => ?_, b1.lo, b1.hi⟩, h1, fun _ h => ?_⟩
    · refine b1.old e he ?_
      rw [if_neg (Nat.not_lt_zero _)] at h
      rw [if_pos he]
      exact h
    · obtain ⟨e1, e2⟩ := h2 h
      show Holds ss L (Pr.goneTo ss L _ ss.length).2 ss.length
      rw [e1]
      exact e2
theorem bAt_get {s : Stg} {v e : Nat} (h : bAt s v = some e) : s.2[v]? = some (some e) := by
  unfold bAt at h
  rw [List.getD_eq_getElem?_getD] at h
  cases q : s.2[v]? with
  | none => rw [q] at h; cases h
  | some x =>
    rw [q] at h
    exact congrArg some h
theorem bAt_par {s : Stg} {v e : Nat} (h : bAt s v = some e) : parOf s.2 v = e := by
  unfold bAt at h
  unfold parOf
  rw [h]
  rfl
/-- a time through too many: the way back never ends -/
theorem BF.back {ss : List StepT} {L : Int} {n : Nat} {W : Int} {p k c : Nat} {s : Stg} {t u : Nat → Nat} (b : BF ss L n W p k c s t u) {m : Nat} (hm : n + 1 ≤ t m) : Back ss s.2 m := by
  have st : ∀ i, i ≤ n → n + 1 ≤ t (bk ss s.2 m i) + i := by
    intro i
    induction i with
    | zero => exact fun _ => hm
    | succ i ih =>
      intro h
      have h1 := ih (by omega)
      obtain ⟨e, h2, h3⟩ := b.has (bk ss s.2 m i) (by omega)
      have e1 : bk ss s.2 m (i + 1) = (stepAt ss e).one := by
        show (stepAt ss (parOf s.2 (bk ss s.2 m i))).one = _
        rw [bAt_par h2]
      rw [e1]
      omega
  have hd : ∀ i, i ≤ n → ∃ e, s.2[bk ss s.2 m i]? = some (some e) ∧ e < ss.length := fun i hi => by
    have h1 := st i hi
    obtain ⟨e, h2, h3⟩ := b.has (bk ss s.2 m i) (by omega)
    exact ⟨e, bAt_get h2, (b.good _ _ h2).1⟩
  obtain ⟨i, j, h1, h2, h3⟩ := pigeon n (bk ss s.2 m) fun i hi => by
    obtain ⟨e, h1, _⟩ := hd i hi
    have := (List.getElem?_eq_some_iff.mp h1).1
    rw [b.l2] at this
    exact this
  intro q
  induction q using Nat.strongRecOn with
  | _ q ih =>
    rcases Nat.lt_or_ge n q with z | z
    · have e1 : bk ss s.2 m q = bk ss s.2 m (i + (q - j)) := by
        rw [show q = j + (q - j) by omega, bk_add, ← h3, ← bk_add]
        congr 1
        omega
      rw [e1]
      exact ih _ (by omega)
    · exact hd q z
theorem BF.ring {ss : List StepT} {L : Int} {n : Nat} {W : Int} {p k c : Nat} {s : Stg} {t u : Nat → Nat} (b : BF ss L n W p k c s t u) {m N : Nat} (bp : Back ss s.2 m) : ∀ j, hAt s (bk ss s.2 m N) < hAt s (bk ss s.2 m (N + j)) + (((List.range j).map fun i => parOf s.2 (bk ss s.2 m (N + i))).map (wOf ss L)).sum ∨ (hAt s (bk ss s.2 m N) ≤ hAt s (bk ss s.2 m (N + j)) + (((List.range j).map fun i => parOf s.2 (bk ss s.2 m (N + i))).map (wOf ss L)).sum ∧ u (bk ss s.2 m (N + j)) + j ≤ u (bk ss s.2 m N))
  | 0 => .inr ⟨by simp, Nat.le_refl _⟩
  | j + 1 => by
    have ih := b.ring (N := N) bp j
    have hp := (bp.par (N + j)).1
    have hb : bAt s (bk ss s.2 m (N + j)) = some (parOf s.2 (bk ss s.2 m (N + j))) := by
      unfold bAt
      rw [List.getD_eq_getElem?_getD, hp]
      rfl
    obtain ⟨g1, g2, g3, g4⟩ := b.good _ _ hb
    have e1 : bk ss s.2 m (N + (j + 1)) = (stepAt ss (parOf s.2 (bk ss s.2 m (N + j)))).one := rfl
    rw [e1, List.range_succ, List.map_append, List.map_append, List.sum_append]
    simp only [List.map_cons, List.map_nil, List.sum_cons, List.sum_nil]
    rcases ih with h | ⟨h, h'⟩
    · left
      omega
    · rcases g4 with g4 | g4
      · left
        omega
      · right
        exact ⟨by omega, by omega⟩
theorem ringSum_w {ss : List StepT} {L : Int} : ∀ l : List Nat, (l.map (wOf ss L)).sum = ringSum ss (·.hours) l - ringSum ss (·.over) l * L
  | [] => by unfold ringSum; simp
  | a :: l => by
    have ih := ringSum_w (ss := ss) (L := L) l
    unfold ringSum at ih ⊢
    simp only [List.map_cons, List.sum_cons]
    dsimp only at ih ⊢
    rw [ih, Int.add_mul]
    unfold wOf stepAt
    omega
theorem ringSum_rev {ss : List StepT} {f : StepT → Int} : ∀ l : List Nat, ringSum ss f l.reverse = ringSum ss f l
  | [] => rfl
  | a :: l => by
    have ih := ringSum_rev (ss := ss) (f := f) l
    unfold ringSum at ih ⊢
    rw [List.reverse_cons, List.map_append, List.sum_append, ih]
    simp only [List.map_cons, List.map_nil, List.sum_cons, List.sum_nil]
    omega
/-- a ring that the walk back finds is longer than the length allows -/
theorem BF.long {ss : List StepT} {L : Int} {n : Nat} {W : Int} {p k c : Nat} {s : Stg} {t u : Nat → Nat} (b : BF ss L n W p k c s t u) {m j : Nat} (bp : Back ss s.2 m) (hj : 1 ≤ j) (hr : bk ss s.2 m (s.2.length + j) = bk ss s.2 m s.2.length) : ringSum ss (·.over) (ringTo ss s.2 m j) * L < ringSum ss (·.hours) (ringTo ss s.2 m j) := by
  have h := b.ring (N := s.2.length) bp j
  rw [hr] at h
  have e := ringSum_w (ss := ss) (L := L) (ringTo ss s.2 m j)
  unfold ringTo at e ⊢
  rcases h with h | ⟨_, h⟩
  · omega
  · omega
end Pr

end Text_M8
section Text_P12
set_option maxHeartbeats 4000000
namespace Pr
open PySem PySem.Spec PyProof.Rows L2
open C8 (Cal Mak Met pe_c pe_mk pe_mt pe_mt0)
local macro_rules | `(tactic| walk_at "nrm") => `(tactic| (simp only [args, setAll, List.set_cons_zero, List.set_cons_succ, List.map_cons, List.map_nil, List.length_cons, List.length_nil, List.replicate_succ, List.replicate_zero, List.cons_append, List.nil_append, Nat.reduceAdd, Nat.reduceSub]; try rfl))
/-! ## instances that are data -/
theorem look_zip {S : Addr → Prop} {H : Hp} {f : Str} {d : Dt} : ∀ {ns : List Str} {ds : List Dt} {vs : List V}, ns.length = vs.length → Reps S H ds vs → (ns.zip ds).lookup f = some d → ∃ v, (ns.zip vs).lookup f = some v ∧ Rep S H d v
  | [], _, _, _, _, h => by simp at h
  | n :: ns, [], vs, _, r, h => by simp at h
  | n :: ns, e :: ds, vs, l, r, h => by
    obtain ⟨v, rest, rfl, h1, h2⟩ := reps_cons.mp r
    rw [List.zip_cons_cons, List.lookup_cons] at h ⊢
    cases q : f == n with
    | true =>
      rw [q] at h
      have e1 : e = d := by simpa using h
      subst e1
      exact ⟨v, by simp [q], h1⟩
    | false =>
      rw [q] at h
      obtain ⟨u, k1, k2⟩ := look_zip (ns := ns) (ds := ds) (vs := rest) (by simpa using l) h2 (by simpa using h)
      exact ⟨u, by simpa [q] using k1, k2⟩
theorem look_none {f : Str} : ∀ {ns : List Str} {vs : List V}, f ∉ ns → (ns.zip vs).lookup f = none
  | [], _, _ => rfl
  | n :: ns, [], _ => rfl
  | n :: ns, v :: vs, h => by
    rw [List.zip_cons_cons, List.lookup_cons]
    have q : (f == n) = false := beq_eq_false_iff_ne.mpr fun e => h (by rw [e]; exact List.mem_cons_self ..)
    rw [q]
    exact look_none fun z => h (List.mem_cons_of_mem _ z)
section
variable {X : Cx} {e o : Expr} {es : List Expr} {δ : Sls} {K : Sls → Dt → Prop} {pos apos : Pos} {f m : Str} {C : Addr} {k j : Nat} {sp : Sp} {α : Type} {enc : α → List Dt} {pre : α → Prop} {post : α → Dt → Prop}
theorem w_att (h : EK X e δ fun δ1 d => ∃ C ns ds d', d = .ins C ns ds ∧ Cls X.K C ∧ NoAttr X.K C f ∧ (ns.zip ds).lookup f = some d' ∧ K δ1 d') (hb : attributeBase e f X.env (eval e X.env) = eval e X.env := by rfl) : EK X (.Attribute e f pos) δ K :=
  ek_of (pe_fld ek_any hb) fun σ H Q hq => by
    obtain ⟨S, g, q⟩ := hq
    refine te_seq g h fun v H1 d δ1 t1 g1 r1 h1 => ?_
    obtain ⟨C, ns, ds, d', rfl, c, n, l, k⟩ := h1
    obtain ⟨a, dx, vs, rfl, hs, ha, hl, rr⟩ := rep_ins.mp r1
    obtain ⟨u, l1, l2⟩ := look_zip hl rr l
    exact ⟨a, C, dx, _, u, rfl, ha, c, n, l1, q u H1 d' δ1 t1 g1 l2 k⟩
/-- o.m(e, ..), dds: the defaults that fill up -/
theorem w_mt {dvs : List V} {dds : List Dt} (c : Met X.prog X.w X.K X.mg X.base k C m (spP enc pre post) dvs) (hd : ∀ S H, Reps S H dds dvs) (hr : Room j X.A) (hk : k ≤ j)
    (h : EK X o δ fun δ1 d0 => ∃ ns ds, d0 = .ins C ns ds ∧ m ∉ ns ∧ AK X (e :: es) δ1 fun δ2 as => ∃ a, enc a = d0 :: (as ++ dds) ∧ pre a ∧ ∀ d, post a d → K δ2 d)
    (hst : starEach (e :: es) X.env = (false, eval e X.env) :: starEach es X.env := by rfl) (hpl : (backTo pos (starEach es X.env)).any (·.1) = false := by rfl) {pl : Sem Bool}
    (ht : eval (.Call (.Attribute o m apos) (e :: es) [] pos) X.env = (do
      let ov ← eval o X.env
      standAt apos.atName
      let (f, first) ← holding [ov] (getMethod ov m pl)
      callWith pos f first (backTo pos (starEach (e :: es) X.env)) (backToKw pos (keywordEach [] X.env))) := by rfl) : EK X (.Call (.Attribute o m apos) (e :: es) [] pos) δ K :=
  ek_of (pe_mt (pl := pl) c hr hk ek_any ak_any hst hpl ht) fun σ H Q hq => by
    obtain ⟨S, g, q⟩ := hq
    refine te_seq g h fun v H1 d δ1 t1 g1 r1 h1 => ?_
    obtain ⟨ns, ds, rfl, hm, h1⟩ := h1
    obtain ⟨a, dx, vs, rfl, hs, ha, hl, rr⟩ := rep_ins.mp r1
    refine ⟨a, dx, _, rfl, ha, look_none hm, ta_seq g1 h1 fun us H2 as δ2 t2 g2 r2 h2 => ?_⟩
    obtain ⟨a0, e0, hp, hK⟩ := h2
    refine ⟨S, a0, g2.live, ?_, hp, fun v H' d ex r pd => q v H' d δ2 (t1.trans (t2.trans ex.stp)) (g2.ex ex) r (hK d pd)⟩
    rw [e0]
    exact Reps.cons (r1.mv (t2.mv g1)) (r2.append (hd S H2))
end
section
variable {X : Cx} {e o : Expr} {es : List Expr} {kws : List Keyword} {pos apos : Pos} {m : Str} {C f : Addr} {k j n : Nat} {sp : Sp} {fd : FuncData} {ps ks : List Str} {g : List Value → List Value → List Value} {gV : List V → List V → List V} {ta : TE} {t tk : TA}
def tMethN (C : Addr) (m : Str) (sp : Sp) (n l : Nat) (gV : List V → List V → List V) (ta : TE) (t tk : TA) : TE := fun σ H Q => ta σ H fun x H1 => ∃ a dx fs, x = .ref a ∧ H1 a = some (.ins C dx fs) ∧ fs.lookup m = none ∧ t σ H1 fun vs H2 => tk σ H2 fun zs H3 => vs.length + 1 = n ∧ zs.length = l ∧ sp (gV (x :: vs) zs) H3 Q E0
theorem pe_methN {pl : Sem Bool} (he : PE X o ta) (c : Cls X.K C) (hm : Meth X.K C m f) (F : FnOk X.prog X.w X.K X.mg X.base CX0 k f fd ps sp) (hr : Room k X.A) (hb : KBn X.K fd ps n ks g gV) (ha : PA X (e :: es) t) (hkw : PK X kws tk)
    (hall : (backToKw pos (keywordEach kws X.env)).all (·.1.isSome) = true := by rfl) (hks : (backToKw pos (keywordEach kws X.env)).filterMap (·.1) = ks := by rfl) (hst : starEach (e :: es) X.env = (false, eval e X.env) :: starEach es X.env := by rfl)
    (hpl : ((backTo pos (starEach (e :: es) X.env)).any (·.1) || (backToKw pos (keywordEach kws X.env)).any (·.1.isNone)) = false := by rfl)
    (ht : eval (.Call (.Attribute o m apos) (e :: es) kws pos) X.env = (do
      let ov ← eval o X.env
      standAt apos.atName
      let (f, first) ← holding [ov] (getMethod ov m pl)
      callWith pos f first (backTo pos (starEach (e :: es) X.env)) (backToKw pos (keywordEach kws X.env))) := by rfl) :
    PE X (.Call (.Attribute o m apos) (e :: es) kws pos) (tMethN C m sp n ks.length gV ta t tk) := by
  refine ⟨fun pins s σ H Q I h => ?_⟩
  refine PySem.W.methodCall_KW (pl := pl) (thn (he.run pins s σ H _ I h) fun u s1 ⟨x, H1, I1, rx, a, dx, fs, ex, ea, l, q⟩ => ?_) ht
  subst ex
  obtain rfl : u = Value.ref a := rx
  refine getmeth_ok I1 ea c hm l ?_
  refine PySem.W.callWith_KW (first := [.ref a]) (h₀ := X.base) I.ok.mod.kin hm.kp hall (thn (ha.run pos pins s1 σ H1 _ I1 q) fun us s2 ⟨vs, H2, I2, r, q2⟩ => ?_) hpl hst
  refine thn (hkw.run pos pins s2 σ H2 _ I2 q2) fun ws s3 ⟨zs, H3, I3, rz, l1, l2, q3⟩ => ⟨I3.kIn, ?_⟩
  rw [hks]
  exact run_fnN (us := .ref a :: us) (vs := .ref a :: vs) F hr hb pass0 I3 (.cons rfl r) rz (by simpa using l1) l2 q3
end
end Pr

end Text_P12
section Text_P13
set_option maxHeartbeats 4000000
namespace Pr
open PySem PySem.Spec PyProof.Rows L2
open C8 (Cal Mak Met pe_c pe_mk pe_mt pe_mt0)
local macro_rules | `(tactic| walk_at "nrm") => `(tactic| (simp only [args, setAll, List.set_cons_zero, List.set_cons_succ, List.map_cons, List.map_nil, List.length_cons, List.length_nil, List.replicate_succ, List.replicate_zero, List.cons_append, List.nil_append, Nat.reduceAdd, Nat.reduceSub]; try rfl))
/-! ## objects that change: reading -/
theorem fls_look {S : Addr → Prop} {H : Hp} {f : Str} {x : Fl} : ∀ {fls : List (Str × Fl)} {fs : List (Str × V)}, FlsOk S H fls fs → fls.lookup f = some x → ∃ v, fs.lookup f = some v ∧ FlOk S H x v
  | [], _, _, h => by simp at h
  | (n, y) :: fls, fs, hf, h => by
    obtain ⟨v, r, rfl, h1, h2⟩ := hf
    rw [List.lookup_cons] at h ⊢
    cases q : f == n with
    | true =>
      rw [q] at h
      have e : y = x := by simpa using h
      subst e
      exact ⟨v, by simp [q], h1⟩
    | false =>
      rw [q] at h
      obtain ⟨u, k1, k2⟩ := fls_look h2 (by simpa using h)
      exact ⟨u, by simpa [q] using k1, k2⟩
theorem fls_none {S : Addr → Prop} {H : Hp} {f : Str} : ∀ {fls : List (Str × Fl)} {fs : List (Str × V)}, FlsOk S H fls fs → fls.lookup f = none → fs.lookup f = none
  | [], _, hf, _ => by rw [show _ = [] from hf]; rfl
  | (n, y) :: fls, fs, hf, h => by
    obtain ⟨v, r, rfl, h1, h2⟩ := hf
    rw [List.lookup_cons] at h ⊢
    cases q : f == n with
    | true => rw [q] at h; cases h
    | false =>
      rw [q] at h
      simpa [q] using fls_none h2 (by simpa using h)
/-- every k-th item from a place on -/
def pickL {α : Type} (xs : List α) (lo : Option Int) (st : Int) : List α := (sliceRange (sliceBounds lo none (some st) xs.length).1 (sliceBounds lo none (some st) xs.length).2.1 (sliceBounds lo none (some st) xs.length).2.2).filterMap (xs[·]?)
section
variable {X : Cx} {pos np apos p2 cpos lpp : Pos} {δ : Sls} {K : Sls → Dt → Prop} {x f : Str} {i : Nat} {p C : Addr} {fls : List (Str × Fl)} {d : Dt} {b : Expr}
theorem obj_of {S : Addr → Prop} {H : Hp} {σ : L2.St} (g : Gd S H σ δ) (hδ : δ[i]? = some (.obj p C fls)) : σ[i]? = some (some (.ref p)) ∧ S p ∧ ∃ dx fs, H p = some (.ins C dx fs) ∧ FlsOk S H fls fs := by
  obtain ⟨o, ho, e, hS, dx, fs, h1, h2⟩ := g.ok i _ hδ
  subst e
  exact ⟨ho, hS, dx, fs, h1, h2⟩
/-- self.f, data -/
theorem w_attO (i : Nat) (c : Cls X.K C) (n : NoAttr X.K C f) (hδ : δ[i]? = some (.obj p C fls)) (hl : fls.lookup f = some (.v d)) (k : K δ d) (hN : X.N[i]? = some x := by rfl) (hv : Vis X.env.scope x := by first | exact Or.inl rfl | exact Or.inr (Or.inl rfl) | exact Or.inr (Or.inr rfl)) (hd : (x == ("__debug__" : Str)) = false := by decide) (hcd : (x == ("__classdict__" : Str)) = false := by decide)
    (hb : attributeBase (.Name x np) f X.env (eval (.Name x np) X.env) = eval (.Name x np) X.env := by rfl) : EK X (.Attribute (.Name x np) f pos) δ K :=
  ek_of (pe_fld (pe_var hN hv hd hcd) hb) fun σ H Q hq => by
    obtain ⟨S, g, q⟩ := hq
    obtain ⟨ho, hS, dx, fs, h1, h2⟩ := obj_of g hδ
    obtain ⟨v, l1, l2⟩ := fls_look h2 hl
    exact ⟨_, ho, p, C, dx, fs, v, rfl, h1, c, n, l1, q v H d δ (Stp.refl H δ) g l2 k⟩
/-- self.f[b], the list ours -/
theorem w_ixAttO (i : Nat) (c : Cls X.K C) (n : NoAttr X.K C f) {q0 : Addr} {ds0 : List Dt} (hδ : δ[i]? = some (.obj p C fls)) (hl : fls.lookup f = some (.own q0 ds0)) (h : EK X b δ fun δ1 d1 => ∃ fls1 ds z d, δ1[i]? = some (.obj p C fls1) ∧ fls1.lookup f = some (.own q0 ds) ∧ d1 = .int z ∧ atI ds z = some d ∧ K δ1 d)
    (hN : X.N[i]? = some x := by rfl) (hv : Vis X.env.scope x := by first | exact Or.inl rfl | exact Or.inr (Or.inl rfl) | exact Or.inr (Or.inr rfl)) (hd : (x == ("__debug__" : Str)) = false := by decide) (hcd : (x == ("__classdict__" : Str)) = false := by decide)
    (hb : attributeBase (.Name x np) f X.env (eval (.Name x np) X.env) = eval (.Name x np) X.env := by rfl) (hs : PlainIx b := by exact fun _ _ => rfl) : EK X (.Subscript (.Attribute (.Name x np) f apos) b pos) δ K :=
  ek_of (pe_ix ix_list (pe_fld (pe_var hN hv hd hcd) hb) ek_any hs) fun σ H Q hq => by
    obtain ⟨S, g, q⟩ := hq
    obtain ⟨ho, hS, dx, fs, h1, h2⟩ := obj_of g hδ
    obtain ⟨v, l1, l2⟩ := fls_look h2 hl
    obtain ⟨e1, hq0, vs0, hv0, hr0⟩ := l2
    subst e1
    refine ⟨_, ho, p, C, dx, fs, _, rfl, h1, c, n, l1, te_seq g h fun u H1 d1 δ1 t1 g1 r1 k1 => ?_⟩
    obtain ⟨fls1, ds, z, d, hδ1, hl1, rfl, ha, k⟩ := k1
    obtain ⟨ho1, hS1, dx1, fs1, m1, m2⟩ := obj_of g1 hδ1
    obtain ⟨v1, n1, n2⟩ := fls_look m2 hl1
    obtain ⟨e2, hq1, vs1, hv1, hr1⟩ := n2
    obtain ⟨w, hw, rw1⟩ := atI_rep hr1 ha
    exact ⟨q0, vs1, z, w, rfl, rep_int.mp r1, .inl (.inl hv1), hw, q w H1 d δ1 t1 g1 rw1 k⟩
/-- len(self.f) -/
theorem w_lenAttO (i : Nat) {lx : Str} (c : Cls X.K C) (n : NoAttr X.K C f) {q0 : Addr} {ds : List Dt} (hδ : δ[i]? = some (.obj p C fls)) (hl : fls.lookup f = some (.own q0 ds)) (hm : X.mg lx = none) (hvb : bootBuiltins lx = some (.builtin "len")) (k : K δ (.int ds.length))
    (hN : X.N[i]? = some x := by rfl) (hv : Vis X.env.scope x := by first | exact Or.inl rfl | exact Or.inr (Or.inl rfl) | exact Or.inr (Or.inr rfl)) (hd : (x == ("__debug__" : Str)) = false := by decide) (hcd : (x == ("__classdict__" : Str)) = false := by decide)
    (hb : attributeBase (.Name x np) f X.env (eval (.Name x np) X.env) = eval (.Name x np) X.env := by rfl) (hg : Gl X lx := by rfl) (hn : lx ≠ "__name__" := by decide) (hdb : (lx == ("__debug__" : Str)) = false := by decide)
    (hs : starEach [.Attribute (.Name x np) f apos] X.env = [(false, eval (.Attribute (.Name x np) f apos) X.env)] := by rfl) : EK X (.Call (.Name lx lpp) [.Attribute (.Name x np) f apos] [] cpos) δ K :=
  ek_of (pe_callB call_len_seq hg hm hvb (pa_cons (pe_fld (pe_var hN hv hd hcd) hb) pa_nil hs) hn hdb hs (by rfl)) fun σ H Q hq => by
    obtain ⟨S, g, q⟩ := hq
    obtain ⟨ho, hS, dx, fs, h1, h2⟩ := obj_of g hδ
    obtain ⟨v, l1, l2⟩ := fls_look h2 hl
    obtain ⟨e1, hq0, vs0, hv0, hr0⟩ := l2
    subst e1
    exact ⟨_, ho, p, C, dx, fs, _, rfl, h1, c, n, l1, q0, vs0, rfl, .inl (.inl (.inl hv0)), by rw [hr0.length]; exact q _ H (.int ds.length) δ (Stp.refl H δ) g (rep_int.mpr rfl) k⟩
end
/-! ## slices with a step -/
section
variable {X : Cx} {p1 p2 p3 pos : Pos} {e : Expr} {te : TE} {k1 k2 : Nat}
theorem vals_pick {xs : List V} {us : List Value} (r : Vals xs us) : ∀ (js : List Nat), Vals (js.filterMap (xs[·]?)) (js.filterMap (us[·]?))
  | [] => .nil
  | j :: js => by
    rw [List.filterMap_cons, List.filterMap_cons]
    have hl := r.length
    cases h : xs[j]? with
    | none =>
      have : us[j]? = none := by rw [List.getElem?_eq_none_iff] at h ⊢; omega
      rw [this]
      exact vals_pick r js
    | some v =>
      obtain ⟨u, hu, ru⟩ := r.get h
      rw [hu]
      exact .cons ru (vals_pick r js)
theorem reps_pick {S : Addr → Prop} {H : Hp} {ds : List Dt} {vs : List V} (r : Reps S H ds vs) : ∀ (js : List Nat), Reps S H (js.filterMap (ds[·]?)) (js.filterMap (vs[·]?))
  | [] => Reps.nil
  | j :: js => by
    rw [List.filterMap_cons, List.filterMap_cons]
    have hl := r.length
    cases h : ds[j]? with
    | none =>
      have : vs[j]? = none := by rw [List.getElem?_eq_none_iff] at h ⊢; omega
      rw [this]
      exact reps_pick r js
    | some v =>
      obtain ⟨u, hu, ru⟩ := r.get h
      rw [hu]
      exact Reps.cons ru (reps_pick r js)
def tStep (K : PySem.W.Frag) (te : TE) (tl : TO) (st : Int) : TE := fun σ H Q => te σ H fun x H1 => tl σ H1 fun l H2 => ∃ a xs, x = .ref a ∧ SqL K H2 a xs ∧ ∀ p, H2 p = none → Q (.ref p) (upd H2 p (.lst (pickL xs l st)))
theorem pe_step {lo : Option Expr} {tl : TO} {st : Int} (he : PE X e te) (hlo : PO X lo tl) (h0 : st ≠ 0) (ht : letTemporaryGo e = letTemporaryGo e := by rfl) : PE X (.Subscript e (.Slice lo none (some (.Constant (.int st) k1 p1)) p3) pos) (tStep X.K te tl st) := by
  refine ⟨fun pins s σ H Q I h => ?_⟩
  refine Subscript_ (thn (he.run pins s σ H _ I h) fun v s1 ⟨x, H1, I1, r1, q1⟩ => ?_)
  refine wpAny_Slice (thn (hlo.run pins s1 σ H1 _ I1 q1) fun vl s2 ⟨l, H2, I2, pl, q2⟩ => ?_)
  obtain ⟨a, xs, ex, hx, q⟩ := q2
  subst ex
  cases r1
  refine thn (po_none.run pins s2 σ H2 (fun o H3 => o = none ∧ H3 = H2) I2 ⟨rfl, rfl⟩) fun vu s3 ⟨u, H3, I3, pu, eu, e3⟩ => ?_
  subst eu e3
  have hst : PO X (some (.Constant (.int st) k1 p1)) (tPart (tC (.int st))) := po_some pe_int
  refine thn (hst.run pins s3 σ H3 (fun o H4 => o = some st ∧ H4 = H3) I3 ⟨st, rfl, rfl, rfl⟩) fun vs s4 ⟨o, H4, I4, ps, eo, e4⟩ => ?_
  subst eo e4
  have I5 : Inv X pins σ H4 { s4 with heap := s4.heap.push { cls := .type "slice", data := .fields #[vl, vu, vs] } } := I4.kept (t' := s4.toks) fun b ob q => Heap.get?_push_of_some _ q
  obtain ⟨its, r, hp, hz⟩ := I5.list hx
  have hlen := r.length
  show wpAny (model X.prog X.w) X.A (subscriptTail e (.Slice lo none (some (.Constant (.int st) k1 p1)) p3) (.ref a) (.ref s4.heap.objs.size)) (EP X pins σ Q) X.xe { s4 with heap := s4.heap.push { cls := .type "slice", data := .fields #[vl, vu, vs] } }
  refine tail_any (ops := [.ref a, .ref s4.heap.objs.size]) hp.isList.typeIs (PySem.slot_list_getitem.lookup) ?_ (by with_unfolding_all rfl)
  refine wpAny_getItem_list_slice hp.isList (Heap.IsSliceOf.new _ vl vu vs) pl pu ps (by simpa using h0) ?_ (by rw [List.size_toArray]; omega)
  have hpk : slicePick its.toArray l none (some st) = (pickL its l st).toArray := by
    unfold slicePick pickL
    rw [List.size_toArray]
    simp
  have hv : Vals (pickL xs l st) (pickL its l st) := by
    unfold pickL
    rw [hlen]
    exact vals_pick r _
  have hle : (pickL xs l st).length ≤ sizeLine := by
    rw [hv.length]
    have e : (pickL its l st).length = (slicePick its.toArray l none (some st)).size := by rw [hpk, List.size_toArray]
    rw [e]
    refine Nat.le_trans (slicePick_size_le _ _ _ _) ?_
    rw [List.size_toArray]
    omega
  rw [hpk]
  exact ⟨.ref _, _, I5.laid (t' := s4.toks) (o := .lst (pickL xs l st)) (fun b ob q => Heap.get?_push_of_some _ q) (Nat.le_refl _) ⟨hle, _, 0, hv, Heap.get?_push_size _ rfl⟩, rfl, q _ (I5.hok.fresh (Nat.le_refl _))⟩
end
section
variable {X : Cx} {pos np apos p1 p3 : Pos} {δ : Sls} {K : Sls → Dt → Prop} {x f : Str} {p C : Addr} {fls : List (Str × Fl)} {k1 : Nat} {e : Expr}
/-- x.f[lo::k], the list an object's own -/
theorem w_stepAttO (i : Nat) {lo : Option Expr} {st : Int} (c : Cls X.K C) (n : NoAttr X.K C f) {q0 : Addr} {ds : List Dt} {l : Option Int} (hδ : δ[i]? = some (.obj p C fls)) (hl : fls.lookup f = some (.own q0 ds)) (h0 : st ≠ 0) (hlo : ∀ {KO : Sls → Option Int → Prop}, KO δ l → OK X lo δ KO) (k : K δ (.lst (pickL ds l st)))
    (hN : X.N[i]? = some x := by rfl) (hv : Vis X.env.scope x := by first | exact Or.inl rfl | exact Or.inr (Or.inl rfl) | exact Or.inr (Or.inr rfl)) (hd : (x == ("__debug__" : Str)) = false := by decide) (hcd : (x == ("__classdict__" : Str)) = false := by decide)
    (hb : attributeBase (.Name x np) f X.env (eval (.Name x np) X.env) = eval (.Name x np) X.env := by rfl) : EK X (.Subscript (.Attribute (.Name x np) f apos) (.Slice lo none (some (.Constant (.int st) k1 p1)) p3) pos) δ K :=
  ek_of (pe_step (pe_fld (pe_var hN hv hd hcd) hb) ok_any h0) fun σ H Q hq => by
    obtain ⟨S, g, q⟩ := hq
    obtain ⟨ho, hS, dx, fs, h1, h2⟩ := obj_of g hδ
    obtain ⟨v, l1, l2⟩ := fls_look h2 hl
    obtain ⟨e1, hq0, vs0, hv0, hr0⟩ := l2
    subst e1
    refine ⟨_, ho, p, C, dx, fs, _, rfl, h1, c, n, l1, δ, fun δ' o => δ' = δ ∧ o = l, hlo ⟨rfl, rfl⟩, S, g, fun o H1 δ1 t1 g1 k1 => ?_⟩
    obtain ⟨rfl, rfl⟩ := k1
    obtain ⟨ho1, hS1, dx1, fs1, m1, m2⟩ := obj_of g1 hδ
    obtain ⟨v1, n1, n2⟩ := fls_look m2 hl
    obtain ⟨e2, hq1, vs1, hv1, hr1⟩ := n2
    have e3 : v1 = V.ref q0 := e2
    refine ⟨q0, vs1, rfl, .inl (.inl hv1), fun p' hp' => ?_⟩
    refine Fw.lst (K := K) (δ := δ1) (fun v H' d ex r k => q v H' d δ1 (t1.trans ex.stp) (g1.ex ex) r k) g1 hp' ?_ k
    unfold pickL
    rw [hr1.length]
    exact reps_pick hr1 _
/-- xs[::-1] -/
theorem w_rev {p2 : Pos} (h : EK X e δ fun δ1 d => ∃ ds, d = .lst ds ∧ K δ1 (.lst ds.reverse)) : EK X (.Subscript e (.Slice none none (some (.UnaryOp .USub (.Constant (.int 1) k1 p1) p2)) p3) pos) δ K :=
  ek_of (pe_revL ek_any) fun σ H Q hq => by
    obtain ⟨S, g, q⟩ := hq
    refine te_seq g h fun v H1 d δ1 t1 g1 r1 h1 => ?_
    obtain ⟨ds, rfl, k⟩ := h1
    obtain ⟨a, vs, rfl, hs, ha, rr⟩ := rep_lst.mp r1
    exact ⟨a, vs, rfl, .inl (.inl ha), fun p' hp' => Fw.lst (K := K) (δ := δ1) (fun v H' d ex r k => q v H' d δ1 (t1.trans ex.stp) (g1.ex ex) r k) g1 hp' rr.reverse k⟩
end
end Pr

end Text_P13
section Text_M9
set_option maxHeartbeats 4000000
namespace Pr
open PySem PySem.Spec PyProof.Rows L2
open C8 (Cal Mak Met pe_c pe_mk pe_mt pe_mt0)
local macro_rules | `(tactic| walk_at "nrm") => `(tactic| (simp only [args, setAll, List.set_cons_zero, List.set_cons_succ, List.map_cons, List.map_nil, List.length_cons, List.length_nil, List.replicate_succ, List.replicate_zero, List.cons_append, List.nil_append, Nat.reduceAdd, Nat.reduceSub]; try rfl))
/-! ## every second one; what steps are -/
theorem fmap_some {α β : Type} {f : α → Option β} {g : α → β} : ∀ {l : List α}, (∀ x ∈ l, f x = some (g x)) → l.filterMap f = l.map g
  | [], _ => rfl
  | x :: l, h => by
    rw [List.filterMap_cons, h x (List.mem_cons_self ..), List.map_cons, fmap_some fun y hy => h y (List.mem_cons_of_mem _ hy)]
theorem pick0 {α : Type} {xs : List α} {r : Nat} {d : α} (h : xs.length = 2 * r) : pickL xs none 2 = (List.range r).map fun i => xs.getD (2 * i) d := by
  unfold pickL sliceRange
  rw [h]
  have e1 : (sliceBounds none none (some 2) (2 * r)).1 = 0 := rfl
  have e2 : (sliceBounds none none (some 2) (2 * r)).2.1 = ((2 * r : Nat) : Int) := rfl
  have e3 : (sliceBounds none none (some 2) (2 * r)).2.2 = 2 := rfl
  rw [e1, e2, e3]
  have ec : (if (2 : Int) > 0 then (if (0 : Int) < ((2 * r : Nat) : Int) then (((2 * r : Nat) : Int) - 0 + 2 - 1) / 2 else 0) else (if (0 : Int) > ((2 * r : Nat) : Int) then (0 - ((2 * r : Nat) : Int) - 2 - 1) / (-2) else 0)).toNat = r := by
    rw [if_pos (by decide)]
    split <;> omega
  dsimp only
  rw [ec, List.filterMap_map]
  refine fmap_some fun i hi => ?_
  have hi := List.mem_range.mp hi
  show xs[(0 + 2 * (i : Int)).toNat]? = some (xs.getD (2 * i) d)
  rw [show (0 + 2 * (i : Int)).toNat = 2 * i by omega, List.getD_eq_getElem?_getD, List.getElem?_eq_getElem (by omega)]
  rfl
theorem pick1 {α : Type} {xs : List α} {r : Nat} {d : α} (h : xs.length = 2 * r) : pickL xs (some 1) 2 = (List.range r).map fun i => xs.getD (2 * i + 1) d := by
  unfold pickL sliceRange
  rw [h]
  have e2 : (sliceBounds (some 1) none (some 2) (2 * r)).2.1 = ((2 * r : Nat) : Int) := rfl
  have e3 : (sliceBounds (some 1) none (some 2) (2 * r)).2.2 = 2 := rfl
  rw [e2, e3]
  by_cases hr : r = 0
  · subst hr
    rfl
  have e1 : (sliceBounds (some 1) none (some 2) (2 * r)).1 = 1 := by
    show (_ : Int) = 1
    unfold sliceBounds
    simp
    omega
  rw [e1]
  have ec : (if (2 : Int) > 0 then (if (1 : Int) < ((2 * r : Nat) : Int) then (((2 * r : Nat) : Int) - 1 + 2 - 1) / 2 else 0) else (if (1 : Int) > ((2 * r : Nat) : Int) then (1 - ((2 * r : Nat) : Int) - 2 - 1) / (-2) else 0)).toNat = r := by
    rw [if_pos (by decide)]
    split <;> omega
  dsimp only
  rw [ec, List.filterMap_map]
  refine fmap_some fun i hi => ?_
  have hi := List.mem_range.mp hi
  show xs[(1 + 2 * (i : Int)).toNat]? = some (xs.getD (2 * i + 1) d)
  rw [show (1 + 2 * (i : Int)).toNat = 2 * i + 1 by omega, List.getD_eq_getElem?_getD, List.getElem?_eq_getElem (by omega)]
  rfl
/-- steps over n moments -/
def StepsOk (ss : List StepT) (n : Nat) : Prop := ∀ e, e < ss.length → (stepAt ss e).one < n ∧ (stepAt ss e).other < n ∧ 0 ≤ (stepAt ss e).hours ∧ (stepAt ss e).hours ≤ 48 ∧ ((stepAt ss e).over = 0 ∧ (stepAt ss e).one < (stepAt ss e).other ∨ (stepAt ss e).over = 1)
theorem StepsOk.fr {ss : List StepT} {n : Nat} (h : StepsOk ss n) {L : Int} (hL : 0 ≤ L) : Fr ss L n 48 := by
  refine ⟨fun e he => ⟨(h e he).1, (h e he).2.1⟩, by decide, fun e he => ?_⟩
  obtain ⟨_, _, h1, h2, h3⟩ := h e he
  unfold wOf
  rcases h3 with ⟨h3, _⟩ | h3
  · rw [h3]
    omega
  · rw [h3]
    omega
theorem ringSum_le {ss : List StepT} {n : Nat} (h : StepsOk ss n) : ∀ l : List Nat, (∀ e ∈ l, e < ss.length) → 0 ≤ ringSum ss (·.over) l ∧ 0 ≤ ringSum ss (·.hours) l ∧ ringSum ss (·.hours) l ≤ 48 * (l.length : Int)
  | [], _ => ⟨Int.le_refl _, Int.le_refl _, Int.le_refl _⟩
  | e :: l, he => by
    obtain ⟨i1, i2, i3⟩ := ringSum_le h l fun x hx => he x (List.mem_cons_of_mem _ hx)
    obtain ⟨_, _, h1, h2, h3⟩ := h e (he e (List.mem_cons_self ..))
    unfold stepAt at h1 h2 h3
    unfold ringSum at i1 i2 i3 ⊢
    simp only [List.map_cons, List.sum_cons, List.length_cons]
    dsimp only at i1 i2 i3 ⊢
    refine ⟨?_, ?_, ?_⟩
    · rcases h3 with ⟨h3, _⟩ | h3 <;> omega
    · omega
    · omega
/-- a ring passes the end of the round -/
theorem BF.over {ss : List StepT} {L : Int} {n : Nat} {W : Int} {p k c : Nat} {s : Stg} {t u : Nat → Nat} (b : BF ss L n W p k c s t u) (h : StepsOk ss n) {m N : Nat} (bp : Back ss s.2 m) : ∀ j, 1 ≤ ringSum ss (·.over) ((List.range j).map fun i => parOf s.2 (bk ss s.2 m (N + i))) ∨ (0 ≤ ringSum ss (·.over) ((List.range j).map fun i => parOf s.2 (bk ss s.2 m (N + i))) ∧ bk ss s.2 m (N + j) + j ≤ bk ss s.2 m N)
  | 0 => .inr ⟨Int.le_refl _, Nat.le_refl _⟩
  | j + 1 => by
    have ih := b.over (N := N) h bp j
    have hp := (bp.par (N + j)).1
    have hb : bAt s (bk ss s.2 m (N + j)) = some (parOf s.2 (bk ss s.2 m (N + j))) := by
      unfold bAt
      rw [List.getD_eq_getElem?_getD, hp]
      rfl
    obtain ⟨g1, g2, _⟩ := b.good _ _ hb
    obtain ⟨_, _, _, _, h3⟩ := h _ g1
    have e1 : bk ss s.2 m (N + (j + 1)) = (stepAt ss (parOf s.2 (bk ss s.2 m (N + j)))).one := rfl
    rw [e1]
    have es : ringSum ss (·.over) ((List.range (j + 1)).map fun i => parOf s.2 (bk ss s.2 m (N + i))) = ringSum ss (·.over) ((List.range j).map fun i => parOf s.2 (bk ss s.2 m (N + i))) + (stepAt ss (parOf s.2 (bk ss s.2 m (N + j)))).over := by
      unfold ringSum stepAt
      rw [List.range_succ, List.map_append, List.map_append, List.sum_append]
      simp only [List.map_cons, List.map_nil, List.sum_cons, List.sum_nil]
      omega
    rw [es]
    rcases h3 with ⟨h3, h4⟩ | h3
    · rcases ih with ih | ⟨i1, i2⟩
      · left
        omega
      · right
        exact ⟨by omega, by omega⟩
    · left
      rcases ih with ih | ⟨i1, i2⟩ <;> omega
theorem BF.overs {ss : List StepT} {L : Int} {n : Nat} {W : Int} {p k c : Nat} {s : Stg} {t u : Nat → Nat} (b : BF ss L n W p k c s t u) (h : StepsOk ss n) {m j : Nat} (bp : Back ss s.2 m) (hj : 1 ≤ j) (hr : bk ss s.2 m (s.2.length + j) = bk ss s.2 m s.2.length) : 1 ≤ ringSum ss (·.over) (ringTo ss s.2 m j) := by
  rcases b.over (N := s.2.length) h bp j with z | ⟨_, z⟩
  · exact z
  · rw [hr] at z
    omega
end Pr

end Text_M9
section Text_M10
set_option maxHeartbeats 4000000
namespace Pr
open PySem PySem.Spec PyProof.Rows L2
open C8 (Cal Mak Met pe_c pe_mk pe_mt pe_mt0)
local macro_rules | `(tactic| walk_at "nrm") => `(tactic| (simp only [args, setAll, List.set_cons_zero, List.set_cons_succ, List.map_cons, List.map_nil, List.length_cons, List.length_nil, List.replicate_succ, List.replicate_zero, List.cons_append, List.nil_append, Nat.reduceAdd, Nat.reduceSub]; try rfl))
/-! ## a round within bounds -/
structure RBd (p : Pal) (rs : List RowT) : Prop where
  ne : rs ≠ []
  len : rs.length ≤ 12
  has : ∀ r ∈ rs, p.has r.col
  ch : ∀ r ∈ rs, 1 ≤ p.charge r.col ∧ p.charge r.col ≤ 4
  ml : ∀ r ∈ rs, 0 ≤ p.melt r.col ∧ p.melt r.col ≤ 39
  hr : ∀ r ∈ rs, 1 ≤ r.hours ∧ r.hours ≤ 9
  ws : ∀ a b, 0 ≤ p.washOf a b ∧ p.washOf a b ≤ 39
theorem stepsOf_len {p : Pal} {rs : List RowT} : (stepsOf p rs).length = 4 * rs.length := by
  unfold stepsOf
  have : ∀ l : List Nat, ((l.map (stepsRow p rs)).flatten).length = 4 * l.length := by
    intro l
    induction l with
    | nil => rfl
    | cons a l ih =>
      rw [List.map_cons, List.flatten_cons, List.length_append, ih]
      show 4 + 4 * l.length = 4 * (l.length + 1)
      omega
  rw [this, List.length_range]
theorem cross_or {i j : Nat} : cross i j = 0 ∧ i < j ∨ cross i j = 1 := by
  unfold cross
  split
  · exact .inr rfl
  · exact .inl ⟨rfl, by omega⟩
theorem rowAt_mem {rs : List RowT} {i : Nat} (h : i < rs.length) : rowAt rs i ∈ rs := List.mem_of_getElem? (rowAt_get h)
theorem stepsOk_of {p : Pal} {rs : List RowT} (b : RBd p rs) : StepsOk (stepsOf p rs) (2 * rs.length) := by
  intro e he
  have hm : stepAt (stepsOf p rs) e ∈ stepsOf p rs := List.mem_of_getElem? (stepAt_get he)
  generalize hst : stepAt (stepsOf p rs) e = st at hm ⊢
  unfold stepsOf at hm
  obtain ⟨l, hl, hm⟩ := List.mem_flatten.mp hm
  obtain ⟨i, hi, rfl⟩ := List.mem_map.mp hl
  have hi := List.mem_range.mp hi
  have mem := rowAt_mem hi
  obtain ⟨c1, c2⟩ := b.ch _ mem
  obtain ⟨m1, m2⟩ := b.ml _ mem
  obtain ⟨h1, h2⟩ := b.hr _ mem
  obtain ⟨w1, w2⟩ := b.ws (rowAt rs i).col (rowAt rs (nextAlike rs i false)).col
  have w1 : 0 ≤ washBehindR p rs i := w1
  have w2 : washBehindR p rs i ≤ 39 := w2
  have nb : (i + 1) % rs.length < rs.length := Nat.mod_lt _ (by omega)
  have nm := (next_some true hi).2.1
  have nf := (next_some false hi).2.1
  have cb := cross_or (i := i) (j := (i + 1) % rs.length)
  have cm := cross_or (i := i) (j := nextAlike rs i true)
  have cf := cross_or (i := i) (j := nextAlike rs i false)
  unfold stepsRow at hm
  simp only [List.mem_cons, List.not_mem_nil, or_false] at hm
  rcases hm with rfl | rfl | rfl | rfl <;> dsimp only
  · refine ⟨by omega, by omega, by omega, by omega, ?_⟩
    rcases cb with ⟨z, _⟩ | z
    · exact .inl ⟨z, by omega⟩
    · exact .inr z
  · exact ⟨by omega, by omega, by omega, by omega, .inl ⟨rfl, by omega⟩⟩
  · refine ⟨by omega, by omega, by omega, by omega, ?_⟩
    rcases cm with ⟨z, _⟩ | z
    · exact .inl ⟨z, by omega⟩
    · exact .inr z
  · refine ⟨by omega, by omega, by omega, by omega, ?_⟩
    rcases cf with ⟨z, _⟩ | z
    · exact .inl ⟨z, by omega⟩
    · exact .inr z
theorem longer {h o L : Int} (h1 : 1 ≤ o) (h2 : o * L < h) (hL : 0 ≤ L) : L < (h + o - 1) / o ∧ (h + o - 1) / o ≤ h := by
  have hp : 0 < o := by omega
  have hn : 0 ≤ o * L := Int.mul_nonneg (by omega) hL
  constructor
  · have : L + 1 ≤ (h + o - 1) / o := by
      refine Int.le_ediv_of_mul_le hp ?_
      rw [Int.add_mul, Int.one_mul, Int.mul_comm L o]
      omega
    omega
  · have : (h + o - 1) / o < h + 1 := by
      refine Int.ediv_lt_of_lt_mul hp ?_
      rw [Int.add_mul, Int.one_mul]
      have : h * 1 ≤ h * o := Int.mul_le_mul_of_nonneg_left h1 (by omega)
      omega
    omega
end Pr

end Text_M10
section Text_M11
set_option maxHeartbeats 4000000
namespace Pr
open PySem PySem.Spec PyProof.Rows L2
open C8 (Cal Mak Met pe_c pe_mk pe_mt pe_mt0)
local macro_rules | `(tactic| walk_at "nrm") => `(tactic| (simp only [args, setAll, List.set_cons_zero, List.set_cons_succ, List.map_cons, List.map_nil, List.length_cons, List.length_nil, List.replicate_succ, List.replicate_zero, List.cons_append, List.nil_append, Nat.reduceAdd, Nat.reduceSub]; try rfl))
/-! ## what a settled round says -/
theorem holds_mem {ss : List StepT} {L : Int} {s : Stg} (h : Holds ss L s ss.length) {st : StepT} (hm : st ∈ ss) : hAt s st.one + st.hours - st.over * L ≤ hAt s st.other := by
  obtain ⟨e, he, rfl⟩ := List.getElem_of_mem hm
  have := h e he
  unfold wOf stepAt at this
  rw [List.getD_eq_getElem?_getD, List.getElem?_eq_getElem he] at this
  dsimp only [Option.getD] at this
  omega
theorem row_mem {p : Pal} {rs : List RowT} {i : Nat} (hi : i < rs.length) {st : StepT} (h : st ∈ stepsRow p rs i) : st ∈ stepsOf p rs := List.mem_flatten.mpr ⟨_, List.mem_map.mpr ⟨i, List.mem_range.mpr hi, rfl⟩, h⟩
section
variable {p : Pal} {rs : List RowT} {L : Int} {s : Stg} {i : Nat}
theorem hold_a (h : Holds (stepsOf p rs) L s (stepsOf p rs).length) (hi : i < rs.length) : hAt s (2 * i) + p.charge (rowAt rs i).col - cross i ((i + 1) % rs.length) * L ≤ hAt s (2 * ((i + 1) % rs.length)) :=
  holds_mem h (st := ⟨2 * i, 2 * ((i + 1) % rs.length), p.charge (rowAt rs i).col, cross i ((i + 1) % rs.length)⟩) (row_mem hi (by unfold stepsRow; simp))
theorem hold_b (h : Holds (stepsOf p rs) L s (stepsOf p rs).length) (hi : i < rs.length) : hAt s (2 * i) + p.charge (rowAt rs i).col + p.melt (rowAt rs i).col ≤ hAt s (2 * i + 1) := by
  have := holds_mem h (st := ⟨2 * i, 2 * i + 1, p.charge (rowAt rs i).col + p.melt (rowAt rs i).col, 0⟩) (row_mem hi (by unfold stepsRow; simp))
  dsimp only at this
  omega
theorem hold_d (h : Holds (stepsOf p rs) L s (stepsOf p rs).length) (hi : i < rs.length) : hAt s (2 * i + 1) + (rowAt rs i).hours + washBehindR p rs i - cross i (nextAlike rs i false) * L ≤ hAt s (2 * nextAlike rs i false) := by
  have := holds_mem h (st := ⟨2 * i + 1, 2 * nextAlike rs i false, (rowAt rs i).hours + washBehindR p rs i, cross i (nextAlike rs i false)⟩) (row_mem hi (by unfold stepsRow; simp))
  dsimp only at this
  omega
theorem length_pos (b : RBd p rs) (h : Holds (stepsOf p rs) L s (stepsOf p rs).length) : 1 ≤ L := by
  have hr : 0 < rs.length := List.length_pos_iff.mpr b.ne
  have up : ∀ i, i < rs.length → hAt s 0 + (i : Int) ≤ hAt s (2 * i) := by
    intro i
    induction i with
    | zero => intro _; simp
    | succ i ih =>
      intro hi
      have h1 := ih (by omega)
      have h2 := hold_a h (i := i) (by omega)
      have h3 := (b.ch _ (rowAt_mem (show i < rs.length by omega))).1
      rw [Nat.mod_eq_of_lt hi] at h2
      have e : cross i (i + 1) = 0 := by unfold cross; rw [if_neg (by omega)]
      rw [e] at h2
      omega
  have h1 := up (rs.length - 1) (by omega)
  have h2 := hold_a h (i := rs.length - 1) (by omega)
  have h3 := (b.ch _ (rowAt_mem (show rs.length - 1 < rs.length by omega))).1
  have e0 : (rs.length - 1 + 1) % rs.length = 0 := by rw [show rs.length - 1 + 1 = rs.length by omega, Nat.mod_self]
  rw [e0] at h2
  have e : cross (rs.length - 1) 0 = 1 := by unfold cross; rw [if_pos (by omega)]
  rw [e] at h2
  simp only [Nat.mul_zero] at h2
  omega
end
end Pr

end Text_M11
section Text_M12
set_option maxHeartbeats 4000000
namespace Pr
open PySem PySem.Spec PyProof.Rows L2
open C8 (Cal Mak Met pe_c pe_mk pe_mt pe_mt0)
local macro_rules | `(tactic| walk_at "nrm") => `(tactic| (simp only [args, setAll, List.set_cons_zero, List.set_cons_succ, List.map_cons, List.map_nil, List.length_cons, List.length_nil, List.replicate_succ, List.replicate_zero, List.cons_append, List.nil_append, Nat.reduceAdd, Nat.reduceSub]; try rfl))
/-! ## a pot's rows, one behind another -/
theorem zipIdx_rows (rs : List RowT) : rs.zipIdx = (List.range rs.length).map fun i => (rowAt rs i, i) := by
  apply List.ext_getElem?
  intro i
  rw [List.getElem?_zipIdx, List.getElem?_map]
  by_cases h : i < rs.length
  · rw [List.getElem?_range h, rowAt_get h]
    simp
  · rw [List.getElem?_eq_none (by omega), List.getElem?_eq_none (by rw [List.length_range]; omega)]
    rfl
theorem byPot_range (rs : List RowT) (pot : Str) : byPot rs pot = (List.range rs.length).filter fun i => decide ((rowAt rs i).pot = pot) := by
  unfold byPot
  rw [zipIdx_rows, List.filter_map, List.map_map]
  have : ∀ l : List Nat, l.map (Prod.snd ∘ fun i => (rowAt rs i, i)) = l := fun l => by
    induction l with
    | nil => rfl
    | cons a l ih => rw [List.map_cons, ih]; rfl
  rw [this]
  rfl
theorem byPot_lt (rs : List RowT) (pot : Str) : (byPot rs pot).Pairwise (· < ·) := by
  rw [byPot_range]
  exact List.Pairwise.filter _ List.pairwise_lt_range
theorem pw_lt {l : List Nat} (h : l.Pairwise (· < ·)) {i j a b : Nat} (hi : l[i]? = some a) (hj : l[j]? = some b) (hij : i < j) : a < b := by
  obtain ⟨h1, e1⟩ := List.getElem?_eq_some_iff.mp hi
  obtain ⟨h2, e2⟩ := List.getElem?_eq_some_iff.mp hj
  rw [← e1, ← e2]
  exact List.pairwise_iff_getElem.mp h i j h1 h2 hij
theorem next_eq {rs : List RowT} {a pos : Nat} (ha : a < rs.length) (hpos : pos < rs.length) (hk : (rowAt rs ((a + (pos + 1)) % rs.length)).pot = (rowAt rs a).pot) (hn : ∀ k, k < pos → (rowAt rs ((a + (k + 1)) % rs.length)).pot ≠ (rowAt rs a).pot) : nextAlike rs a false = (a + (pos + 1)) % rs.length := by
  unfold nextAlike
  have h : (turned rs.length a).find? (fun j => decide ((rowAt rs j).key false = (rowAt rs a).key false)) = some ((a + (pos + 1)) % rs.length) := by
    refine find_at (i := pos) ?_ (decide_eq_true hk) fun x hx => ?_
    · unfold turned
      rw [List.getElem?_map, List.getElem?_range hpos]
      rfl
    · unfold turned at hx
      rw [← List.map_take] at hx
      obtain ⟨k, hk1, rfl⟩ := List.mem_map.mp hx
      have hk2 : k < pos := by
        obtain ⟨m, hm, e⟩ := List.getElem_of_mem hk1
        rw [List.length_take] at hm
        rw [List.getElem_take, List.getElem_range] at e
        omega
      exact decide_eq_false (hn k hk2)
  rw [h]
  rfl
/-- the next row of the pot in the same round -/
theorem next_in {rs : List RowT} {pot : Str} {q a b : Nat} (hq : (byPot rs pot)[q]? = some a) (hq1 : (byPot rs pot)[q + 1]? = some b) : nextAlike rs a false = b ∧ cross a b = 0 := by
  have hab := pw_lt (byPot_lt rs pot) hq hq1 (Nat.lt_succ_self _)
  obtain ⟨a1, a2⟩ := mem_byPot.mp (List.mem_of_getElem? hq)
  obtain ⟨b1, b2⟩ := mem_byPot.mp (List.mem_of_getElem? hq1)
  have e1 : (a + (b - a - 1 + 1)) % rs.length = b := by
    rw [show a + (b - a - 1 + 1) = b by omega, Nat.mod_eq_of_lt b1]
  refine ⟨?_, by unfold cross; rw [if_neg (by omega)]⟩
  have := next_eq (pos := b - a - 1) a1 (by omega) (by rw [e1, a2, b2]) fun k hk z => by
    rw [Nat.mod_eq_of_lt (by omega), a2] at z
    have hm : a + (k + 1) ∈ byPot rs pot := mem_byPot.mpr ⟨by omega, z⟩
    obtain ⟨m, hm⟩ := List.getElem?_of_mem hm
    rcases Nat.lt_or_ge q m with h | h
    · rcases Nat.lt_or_ge (q + 1) m with h' | h'
      · have := pw_lt (byPot_lt rs pot) hq1 hm h'
        omega
      · have : m = q + 1 := by omega
        rw [this, hq1] at hm
        have := Option.some.inj hm
        omega
    · rcases Nat.lt_or_ge m q with h' | h'
      · have := pw_lt (byPot_lt rs pot) hm hq h'
        omega
      · have : m = q := by omega
        rw [this, hq] at hm
        have := Option.some.inj hm
        omega
  rw [this, e1]
/-- .. and behind the round's end -/
theorem next_over {rs : List RowT} {pot : Str} {a b : Nat} (hl : (byPot rs pot)[(byPot rs pot).length - 1]? = some a) (h0 : (byPot rs pot)[0]? = some b) : nextAlike rs a false = b ∧ cross a b = 1 := by
  obtain ⟨a1, a2⟩ := mem_byPot.mp (List.mem_of_getElem? hl)
  obtain ⟨b1, b2⟩ := mem_byPot.mp (List.mem_of_getElem? h0)
  have most : ∀ x, x ∈ byPot rs pot → b ≤ x ∧ x ≤ a := fun x hx => by
    obtain ⟨m, hm⟩ := List.getElem?_of_mem hx
    have hlt := (List.getElem?_eq_some_iff.mp hm).1
    constructor
    · rcases Nat.eq_zero_or_pos m with h | h
      · rw [h, h0] at hm
        exact Nat.le_of_eq (Option.some.inj hm)
      · exact Nat.le_of_lt (pw_lt (byPot_lt rs pot) h0 hm h)
    · rcases Nat.lt_or_ge m ((byPot rs pot).length - 1) with h | h
      · exact Nat.le_of_lt (pw_lt (byPot_lt rs pot) hm hl h)
      · have : m = (byPot rs pot).length - 1 := by omega
        rw [this, hl] at hm
        exact Nat.le_of_eq (Option.some.inj hm).symm
  have hba := (most b (List.mem_of_getElem? h0)).2
  have e1 : (a + (rs.length - a + b - 1 + 1)) % rs.length = b := by
    rw [show a + (rs.length - a + b - 1 + 1) = b + rs.length by omega, Nat.add_mod_right, Nat.mod_eq_of_lt b1]
  refine ⟨?_, by unfold cross; rw [if_pos hba]⟩
  have := next_eq (pos := rs.length - a + b - 1) a1 (by omega) (by rw [e1, a2, b2]) fun k hk z => by
    rw [a2] at z
    have hm := most _ (mem_byPot.mpr ⟨Nat.mod_lt _ (by omega), z⟩)
    rcases Nat.lt_or_ge (a + (k + 1)) rs.length with h | h
    · rw [Nat.mod_eq_of_lt h] at hm
      omega
    · have e : (a + (k + 1)) % rs.length = a + (k + 1) - rs.length := by
        rw [Nat.mod_eq_sub_mod h, Nat.mod_eq_of_lt (by omega)]
      rw [e] at hm
      omega
  rw [this, e1]
end Pr

end Text_M12
section Text_M13
set_option maxHeartbeats 4000000
namespace Pr
open PySem PySem.Spec PyProof.Rows L2
open C8 (Cal Mak Met pe_c pe_mk pe_mt pe_mt0)
local macro_rules | `(tactic| walk_at "nrm") => `(tactic| (simp only [args, setAll, List.set_cons_zero, List.set_cons_succ, List.map_cons, List.map_nil, List.length_cons, List.length_nil, List.replicate_succ, List.replicate_zero, List.cons_append, List.nil_append, Nat.reduceAdd, Nat.reduceSub]; try rfl))
/-! ## names -/
/-- small letters alone, n at most -/
def Lw (x : Str) (n : Nat) : Prop := (∀ c ∈ x.cps.toList, 97 ≤ c ∧ c ≤ 122) ∧ x.length ≤ n
theorem app_cps (x y : Str) : (x ++ y).cps.toList = x.cps.toList ++ y.cps.toList := by
  show (x.cps ++ y.cps).toList = _
  rw [Array.toList_append]
theorem app_len (x y : Str) : (x ++ y).length = x.length + y.length := by
  show (x.cps ++ y.cps).size = _
  rw [Array.size_append]
  rfl
theorem Lw.app {x y : Str} {n m : Nat} (h : Lw x n) (k : Lw y m) : Lw (x ++ y) (n + m) := by
  refine ⟨fun c hc => ?_, by rw [app_len]; have := h.2; have := k.2; omega⟩
  rw [app_cps] at hc
  rcases List.mem_append.mp hc with z | z
  · exact h.1 c z
  · exact k.1 c z
theorem Lw.mono {x : Str} {n m : Nat} (h : Lw x n) (k : n ≤ m) : Lw x m := ⟨h.1, by have := h.2; omega⟩
theorem Lw.ok {x : Str} {n : Nat} (h : Lw x n) : PyData.strOk x = true := by
  unfold PyData.strOk
  rw [← Array.all_toList, List.all_eq_true]
  intro c hc
  have := h.1 c hc
  exact decide_eq_true (by omega)
def ltr (z : Int) : Str := ⟨#[97 + z.toNat]⟩
theorem Lw.ltr {z : Int} (h1 : 0 ≤ z) (h2 : z < 26) : Lw (ltr z) 1 := by
  refine ⟨fun c hc => ?_, Nat.le_refl _⟩
  have e : c = 97 + z.toNat := by simpa [Pr.ltr] using hc
  omega
def abc : Str := "abcdefghijklmnopqrstuvwxyz"
theorem abc_cps : abc.cps.toList = (List.range 26).map (97 + ·) := by decide +kernel
theorem abc_len : abc.length = 26 := by decide +kernel
theorem abc_at {z : Int} (h1 : 0 ≤ z) (h2 : z < 26) : atI abc.cps.toList z = some (97 + z.toNat) := by
  rw [abc_cps]
  unfold atI ixN
  rw [List.length_map, List.length_range, if_pos h1, if_pos (by omega)]
  show ((List.range 26).map (97 + ·))[z.toNat]? = _
  rw [List.getElem?_map, List.getElem?_range (by omega)]
  rfl
theorem glue_go : ∀ (ys : List Str) (acc : Array Nat), (ys.foldl (fun acc (p : Str) => acc ++ (Str.empty).cps ++ p.cps) acc).toList = acc.toList ++ (ys.map fun y => y.cps.toList).flatten
  | [], acc => by simp
  | y :: ys, acc => by
    rw [List.foldl_cons, glue_go ys, Array.toList_append, Array.toList_append, List.map_cons, List.flatten_cons]
    simp [Str.empty]
theorem join_cps (ys : List Str) : (Txt.join Str.empty ys).cps.toList = (ys.map fun y => y.cps.toList).flatten := by
  cases ys with
  | nil => rfl
  | cons y ys => exact glue_go ys y.cps
theorem Lw.join {ys : List Str} (h : ∀ y ∈ ys, Lw y 1) : Lw (Txt.join Str.empty ys) ys.length := by
  refine ⟨fun c hc => ?_, ?_⟩
  · rw [join_cps] at hc
    obtain ⟨l, hl, hc⟩ := List.mem_flatten.mp hc
    obtain ⟨y, hy, rfl⟩ := List.mem_map.mp hl
    exact (h y hy).1 c hc
  · have e : (Txt.join Str.empty ys).length = (Txt.join Str.empty ys).cps.toList.length := by simp [Str.length]
    rw [e, join_cps]
    clear e
    induction ys with
    | nil => exact Nat.le_refl _
    | cons y ys ih =>
      have h1 : y.cps.toList.length ≤ 1 := by
        have := (h y (List.mem_cons_self ..)).2
        simpa [Str.length] using this
      have := ih fun z hz => h z (List.mem_cons_of_mem _ hz)
      rw [List.map_cons, List.flatten_cons, List.length_append, List.length_cons]
      omega
/-! the three ways -/
def StepOk (s : Int) : Prop := s = 1 ∨ s = 3 ∨ s = 5 ∨ s = 7 ∨ s = 25 ∨ s = 675
def nmReg (hd tl : Str) (first step : Int) (k : Nat) : Str := hd ++ ltr (((first + step * (k : Int)) % 676).fdiv 26) ++ ltr ((first + step * (k : Int)) % 676 % 26) ++ tl
def nms (hd tl : Str) (first step longer : Int) (k : Nat) : Str := if longer = 1 ∧ k % 2 = 1 then nmReg hd tl first step (k - 1) ++ ltr ((first + (k : Int)) % 26) else nmReg hd tl first step k
theorem nmReg_lw {hd tl : Str} (h1 : Lw hd 3) (h2 : Lw tl 2) (first step : Int) (k : Nat) : Lw (nmReg hd tl first step k) 7 := by
  have a : 0 ≤ (first + step * (k : Int)) % 676 := Int.emod_nonneg _ (by decide)
  have b : (first + step * (k : Int)) % 676 < 676 := Int.emod_lt_of_pos _ (by decide)
  unfold nmReg
  generalize (first + step * (k : Int)) % 676 = v at a b
  have e : v.fdiv 26 = v / 26 := Int.fdiv_eq_ediv_of_nonneg _ (by decide)
  rw [e]
  exact ((h1.app (Lw.ltr (z := v / 26) (by omega) (by omega))).app (Lw.ltr (z := v % 26) (by omega) (by omega))).app h2
theorem nms_lw {hd tl : Str} (h1 : Lw hd 3) (h2 : Lw tl 2) (first step longer : Int) (k : Nat) : Lw (nms hd tl first step longer k) 8 := by
  unfold nms
  split
  · exact (nmReg_lw h1 h2 first step (k - 1)).app (Lw.ltr (Int.emod_nonneg _ (by decide)) (Int.emod_lt_of_pos _ (by decide)))
  · exact (nmReg_lw h1 h2 first step k).mono (by decide)
theorem nmReg_ne {hd tl : Str} {first step : Int} (hs : StepOk step) {i j : Nat} (h1 : i < j) (h2 : j < 3) : nmReg hd tl first step i ≠ nmReg hd tl first step j := by
  intro e
  have e := congrArg (fun x : Str => x.cps.toList) e
  unfold nmReg at e
  simp only [app_cps, List.append_assoc, List.append_cancel_left_eq] at e
  have a : 0 ≤ (first + step * (i : Int)) % 676 := Int.emod_nonneg _ (by decide)
  have b : (first + step * (i : Int)) % 676 < 676 := Int.emod_lt_of_pos _ (by decide)
  have c : 0 ≤ (first + step * (j : Int)) % 676 := Int.emod_nonneg _ (by decide)
  have d : (first + step * (j : Int)) % 676 < 676 := Int.emod_lt_of_pos _ (by decide)
  have hne : (first + step * (i : Int)) % 676 ≠ (first + step * (j : Int)) % 676 := by
    rcases hs with rfl | rfl | rfl | rfl | rfl | rfl <;> omega
  generalize (first + step * (i : Int)) % 676 = v at a b e hne
  generalize (first + step * (j : Int)) % 676 = w at c d e hne
  have ev : v.fdiv 26 = v / 26 := Int.fdiv_eq_ediv_of_nonneg _ (by decide)
  have ew : w.fdiv 26 = w / 26 := Int.fdiv_eq_ediv_of_nonneg _ (by decide)
  rw [ev, ew] at e
  simp [ltr] at e
  obtain ⟨e1, e2⟩ := e
  omega
theorem reg_len (hd tl : Str) (first step : Int) (k : Nat) : (nmReg hd tl first step k).length = hd.length + 2 + tl.length := by
  unfold nmReg
  rw [app_len, app_len, app_len]
  rfl
theorem nodup_range {f : Nat → Str} {m : Nat} (h : ∀ i j, i < j → j < m → f i ≠ f j) : ((List.range m).map f).Nodup := by
  unfold List.Nodup
  rw [List.pairwise_map]
  refine List.Pairwise.imp_of_mem (R := fun a b => a < b) (fun {a b} ha hb hab => h a b hab (List.mem_range.mp hb)) List.pairwise_lt_range
theorem nms_nodup {hd tl : Str} {first step longer : Int} (hs : StepOk step) {m : Nat} (hm : m ≤ 3) : ((List.range m).map (nms hd tl first step longer)).Nodup := by
  refine nodup_range fun i j h1 h2 => ?_
  unfold nms
  split
  · split
    · omega
    · intro e
      have := congrArg Str.length e
      rw [app_len, reg_len, reg_len] at this
      have : (ltr ((first + (i : Int)) % 26)).length = 1 := rfl
      omega
  · split
    · intro e
      have := congrArg Str.length e
      rw [app_len, reg_len, reg_len] at this
      have : (ltr ((first + (j : Int)) % 26)).length = 1 := rfl
      omega
    · exact nmReg_ne hs h1 (by omega)
def nm1 (first step : Int) (k : Nat) : Str := ltr ((first + step * (k : Int)) % 26)
theorem nm1_lw (first step : Int) (k : Nat) : Lw (nm1 first step k) 1 := Lw.ltr (Int.emod_nonneg _ (by decide)) (Int.emod_lt_of_pos _ (by decide))
theorem nm1_nodup {first step : Int} (hs : StepOk step) {m : Nat} (hm : m ≤ 3) : ((List.range m).map (nm1 first step)).Nodup := by
  refine nodup_range fun i j h1 h2 e => ?_
  unfold nm1 ltr at e
  simp at e
  have a : 0 ≤ (first + step * (i : Int)) % 26 := Int.emod_nonneg _ (by decide)
  have c : 0 ≤ (first + step * (j : Int)) % 26 := Int.emod_nonneg _ (by decide)
  have hne : (first + step * (i : Int)) % 26 ≠ (first + step * (j : Int)) % 26 := by
    rcases hs with rfl | rfl | rfl | rfl | rfl | rfl <;> omega
  omega
def wds : List Str := Txt.split "never at undo slots done wash pot kind fill gather team colour" " "
def wd3 (f m : Nat) : List Str := ((wds ++ wds).drop f).take m
theorem wds_all : ((List.range 12).all fun f => (List.range 4).all fun m => decide (wd3 f m).Nodup && decide ((wd3 f m).length = m) && (wd3 f m).all fun x => x.cps.toList.all (fun c => decide (97 ≤ c) && decide (c ≤ 122)) && decide (x.length ≤ 8)) = true := by decide +kernel
theorem wds_len : wds.length = 12 := by decide +kernel
theorem wd3_ok {f m : Nat} (hf : f < 12) (hm : m ≤ 3) : (wd3 f m).Nodup ∧ (wd3 f m).length = m ∧ ∀ x ∈ wd3 f m, Lw x 8 := by
  have h := List.all_eq_true.mp (List.all_eq_true.mp wds_all f (List.mem_range.mpr hf)) m (List.mem_range.mpr (by omega))
  rw [Bool.and_eq_true, Bool.and_eq_true] at h
  refine ⟨of_decide_eq_true h.1.1, of_decide_eq_true h.1.2, fun x hx => ?_⟩
  have hx := List.all_eq_true.mp h.2 x hx
  rw [Bool.and_eq_true] at hx
  refine ⟨fun c hc => ?_, of_decide_eq_true hx.2⟩
  have := List.all_eq_true.mp hx.1 c hc
  rw [Bool.and_eq_true] at this
  exact ⟨of_decide_eq_true this.1, of_decide_eq_true this.2⟩
/-- an item of a written list -/
theorem pick {α : Type} (xs : List α) {r : Int} (h0 : 0 ≤ r) (h1 : r < (xs.length : Nat)) : ∃ d ∈ xs, atI xs r = some d := by
  have hl : r.toNat < xs.length := by omega
  refine ⟨xs[r.toNat], List.getElem_mem hl, ?_⟩
  unfold atI ixN
  rw [if_pos h0, if_pos h1]
  exact List.getElem?_eq_getElem hl
end Pr

end Text_M13
section Text_ZS
set_option maxHeartbeats 4000000
/-! zip(.., strict=True) of two lists of one length: its steps, whatever has become of the tuple that it keeps -/
namespace Zs
open PySem PySem.Spec PyProof.Rows L2
open Sem (wp)
/-- the zip's own object: a kept tuple's number or none, a mark, strict -/
def Cell (h : Heap) (z TI TO : Addr) : Prop := ∃ (f0 : Value) (f : Bool), (f0 = .none ∨ ∃ T : Nat, f0 = rawInt T) ∧ h.get? z = some { cls := .type "zip", dict := none, data := .fields #[f0, .bool f, .bool true, .ref TI, .ref TO], slots := #[] }
abbrev Two (h : Heap) (T : Addr) (a b : Value) : Prop := h.get? T = some { cls := .type "tuple", data := .seq #[a, b] }
structure Far (z TI TO i1 i2 l1 l2 : Addr) : Prop where
  a1 : TI ≠ z
  a2 : TO ≠ z
  a3 : i1 ≠ z
  a4 : i2 ≠ z
  a5 : TI ≠ TO
  a6 : TI ≠ i1
  a7 : TI ≠ i2
  a8 : TO ≠ i1
  a9 : TO ≠ i2
  b1 : i1 ≠ i2
  b2 : l1 ≠ z
  b3 : l1 ≠ TO
  b4 : l1 ≠ i1
  b5 : l1 ≠ i2
  b6 : l2 ≠ z
  b7 : l2 ≠ TO
  b8 : l2 ≠ i1
  b9 : l2 ≠ i2
/-- where a strict zip stands: behind k items of both lists -/
structure At (h : Heap) (z TI TO i1 i2 l1 l2 : Addr) (xs ys : Array Value) (k : Nat) : Prop where
  cell : Cell h z TI TO
  its : Two h TI (.ref i1) (.ref i2)
  kept : ∃ a b, Two h TO a b
  p1 : h.IsListIter i1 l1 k
  p2 : h.IsListIter i2 l2 k
  q1 : h.IsList l1 xs
  q2 : h.IsList l2 ys
theorem cell_ty {s : Shared} {z TI TO : Addr} (c : Cell s.heap z TI TO) : s.TypeIs (.ref z) "zip" := by
  obtain ⟨f0, f, _, hz⟩ := c
  exact ⟨_, hz, rfl⟩
section
variable {prog : Program} {w : World} {A : Around} {E : Value → Shared → Prop} {s : Shared}
/-- the next of a list's iterator, or its end -/
theorem noe_item {it l : Addr} {i : Nat} {items : Array Value} {x : Value} {Q : Option Value → Shared → Prop} (hit : s.heap.IsListIter it l i) (hl : s.heap.IsList l items) (hx : items[i]? = some x)
    (hQ : ∀ h', h'.IsListIter it l (i + 1) → Heap.SameBut it s.heap h' → Q (some x) { s with heap := h' }) : wpAny (model prog w) A (Builtin.SmallTypes.nextOrEnd (.ref it)) Q E s := by
  unfold Builtin.SmallTypes.nextOrEnd
  exact wpAny_bind (wpAny_attempt (wpAny_nextOf_list_item hit hl hx fun h' a b => wpAny_pure (hQ h' a b)))
theorem noe_end {it l : Addr} {i : Nat} {items : Array Value} {Q : Option Value → Shared → Prop} (hh : A.handled = none) (hit : s.heap.IsListIter it l i) (hl : s.heap.IsList l items) (hx : items[i]? = none)
    (hQ : ∀ h', Heap.ExtBut it s.heap h' → Q none { s with heap := h' }) : wpAny (model prog w) A (Builtin.SmallTypes.nextOrEnd (.ref it)) Q E s := by
  unfold Builtin.SmallTypes.nextOrEnd
  refine wpAny_bind (wpAny_attempt (wpAny_nextOf_list_end hh hit hl hx fun h' e a b => ?_))
  obtain ⟨o, ho, hc⟩ := b
  exact wpAny_bind (wpAny_isInstance (T := "StopIteration") (b := true) ⟨o, ho, hc⟩ isSubtype_stop (wpAny_pure (hQ h' a)))
theorem stop_iter {α : Type} {Q : α → Shared → Prop} (hh : A.handled = none) (hE : ∀ h' e, (∀ b o, s.heap.get? b = some o → h'.get? b = some o) → (∃ o, h'.get? e = some o ∧ o.cls = .type "StopIteration") → E (.ref e) { s with heap := h' }) : wpAny (model prog w) A (Builtin.SmallTypes.stopIteration (α := α)) Q E s := by
  unfold Builtin.SmallTypes.stopIteration
  refine wpAny_bind ?_
  simp only [newExc, newTuple]
  refine wpAny_bind (wpAny_newObj_type ?_ (by size_fits))
  refine wpAny_bind (m := firstArgMember _ _) (wpAny_of_eq (a := Value.none) (by first | rfl | (simp only [firstArgMember]; rfl)) ?_)
  refine wpAny_newObj_type ?_ (by size_fits)
  simp only [raiseNew]
  refine wpAny_bind (wpAny_handled ?_)
  rw [hh]
  refine wpAny_bind (wpAny_pure (wpAny_throw ?_))
  exact hE _ _ (fun b o e => Heap.get?_push_of_some _ (Heap.get?_push_of_some _ e)) ⟨_, Heap.get?_push_size _ rfl, rfl⟩
theorem alive {a : Addr} {Q : Option Obj → Shared → Prop} (h : Q (s.heap.get? a) s) : wpAny (model prog w) A (loadIfAlive a) Q E s := fun _ _ _ => h
/-- is the kept tuple free? either answer may come -/
theorem free {z TI TO : Addr} {Q : Bool → Shared → Prop} (c : Cell s.heap z TI TO) (h : ∀ b h', Cell h' z TI TO → Heap.SameBut z s.heap h' → Q b { s with heap := h' }) : wpAny (model prog w) A (Builtin.SmallTypes.ownedTupleIsFree (.ref z)) Q E s := by
  obtain ⟨f0, f, hf, hz⟩ := _root_.id c
  unfold Builtin.SmallTypes.ownedTupleIsFree
  rcases hf with rfl | ⟨T, rfl⟩
  · exact wpAny_bind (wpAny_field hz rfl (x := .none) rfl (wpAny_pure (h true s.heap c (Heap.SameBut.refl _ _))))
  · refine wpAny_bind (wpAny_field hz rfl (x := rawInt T) rfl ?_)
    show wpAny _ _ (loadIfAlive ((T : Int).toNat) >>= _) _ _ _
    rw [Int.toNat_natCast]
    refine wpAny_bind (alive ?_)
    cases hT : s.heap.get? T with
    | none => exact wpAny_pure (h true s.heap c (Heap.SameBut.refl _ _))
    | some o =>
      simp only [Option.isNone_some, Bool.false_eq_true, if_false]
      refine wpAny_bind (wpAny_field hz rfl (x := .bool f) rfl ?_)
      cases f with
      | true =>
        rw [if_neg (show ¬ ((Value.bool true != Value.bool true) = true) from Bool.false_ne_true)]
        exact wpAny_pure (h false s.heap c (Heap.SameBut.refl _ _))
      | false =>
        rw [if_pos (show (Value.bool false != Value.bool true) = true from rfl)]
        exact wpAny_bind (wpAny_setField_rec hz (by simp) fun h1 hz1 hs1 => wpAny_pure (h false h1 ⟨_, true, .inr ⟨T, rfl⟩, hz1⟩ hs1))
theorem item {z TI TO i1 i2 l1 l2 : Addr} {xs ys : Array Value} {k : Nat} {x y : Value} {Q : Value → Shared → Prop} (D : Far z TI TO i1 i2 l1 l2) (st : At s.heap z TI TO i1 i2 l1 l2 xs ys k) (hx : xs[k]? = some x) (hy : ys[k]? = some y)
    (hQ : ∀ h', At h' z TI TO i1 i2 l1 l2 xs ys (k + 1) → Two h' s.heap.objs.size x y → h'.objs.size = s.heap.objs.size + 1 → (∀ c o, c ≠ z → c ≠ TO → c ≠ i1 → c ≠ i2 → s.heap.get? c = some o → h'.get? c = some o) → Q (.ref s.heap.objs.size) { s with heap := h' }) :
    wpAny (model prog w) A (Builtin.«zip.__next__» ⟨[.ref z], []⟩) (fun fin s' => ∃ v, fin = .done (.ret v) ∧ Q v s') E s := by
  obtain ⟨f0, f, _, hz⟩ := st.cell
  show wpAny _ _ (field (.ref z) 2 >>= _) _ _ _
  refine wpAny_bind (wpAny_field hz rfl (x := .bool true) rfl ?_)
  show wpAny _ _ (field (.ref z) 3 >>= _) _ _ _
  refine wpAny_bind (wpAny_field hz rfl (x := .ref TI) rfl (wpAny_bind (wpAny_seqItems st.its rfl ?_)))
  show wpAny _ _ (Builtin.SmallTypes.ownedTupleIsFree (.ref z) >>= _) _ _ _
  refine wpAny_bind (free st.cell fun b h1 c1 e1 => ?_)
  obtain ⟨g0, g, hg, hz1⟩ := _root_.id c1
  obtain ⟨u1, u2, hTO⟩ := st.kept
  have p1 := st.p1.extBut e1.extBut D.a3
  have p2 := st.p2.extBut e1.extBut D.a4
  have q1 := st.q1.extBut e1.extBut D.b2
  have q2 := st.q2.extBut e1.extBut D.b6
  have tI := e1.extBut _ _ D.a1 st.its
  have tO := e1.extBut _ _ D.a2 hTO
  cases b with
  | false =>
    simp only [Bool.false_eq_true, if_false]
    refine wpAny_bind ?_
    rw [← Array.forIn_toList]
    simp only [List.forIn_cons, List.forIn_nil]
    refine wpAny_bind (wpAny_bind (wpAny_holding ?_))
    show wpAny _ _ (Builtin.SmallTypes.nextOrEnd (.ref i1)) _ _ _
    refine noe_item (s := { s with heap := h1 }) p1 q1 hx fun h2 p1' e2 => wpAny_pure ?_
    refine wpAny_bind (wpAny_bind (wpAny_holding ?_))
    show wpAny _ _ (Builtin.SmallTypes.nextOrEnd (.ref i2)) _ _ _
    refine noe_item (s := { s with heap := h2 }) (p2.extBut e2.extBut D.b1.symm) (q2.extBut e2.extBut D.b8) hy fun h3 p2' e3 => wpAny_pure (wpAny_pure ?_)
    show wpAny _ _ (newTuple [x, y] >>= _) _ _ _
    refine wpAny_bind (wpAny_newTuple (wpAny_pure ⟨_, rfl, ?_⟩))
    have hsz : h3.objs.size = s.heap.objs.size := by rw [e3.1, e2.1, e1.1]
    have kp : ∀ c o, c ≠ i1 → c ≠ i2 → h1.get? c = some o → h3.get? c = some o := fun c o n1 n2 e => e3.extBut _ _ n2 (e2.extBut _ _ n1 e)
    have up : ∀ c o, h3.get? c = some o → (h3.push { cls := .type "tuple", data := .seq #[x, y] }).get? c = some o := fun c o e => Heap.get?_push_of_some _ e
    have hp : Two (h3.push { cls := .type "tuple", data := .seq #[x, y] }) h3.objs.size x y := Heap.get?_push_size _ rfl
    have hz4 : (h3.push { cls := .type "tuple", data := .seq #[x, y] }).objs.size = h3.objs.size + 1 := Heap.size_push ..
    show Q (.ref h3.objs.size) _
    rw [hsz] at hp hz4 ⊢
    refine hQ _ ⟨⟨g0, g, hg, up _ _ (kp _ _ D.a3.symm D.a4.symm hz1)⟩, up _ _ (kp _ _ D.a6 D.a7 tI), ⟨u1, u2, up _ _ (kp _ _ D.a8 D.a9 tO)⟩, ?_, ?_, ?_, ?_⟩ hp hz4 fun c o n1 _ n3 n4 e => up _ _ (kp _ _ n3 n4 (e1.extBut _ _ n1 e))
    · exact (p1'.extBut e3.extBut D.b1).at fun o e => up _ o e
    · exact p2'.at fun o e => up _ o e
    · exact q1.at fun o e => up _ o (kp _ _ D.b4 D.b5 e)
    · exact q2.at fun o e => up _ o (kp _ _ D.b8 D.b9 e)
  | true =>
    simp only [if_true]
    refine wpAny_bind (wpAny_rule (wpAny_bind (wpAny_field hz1 rfl (x := .ref TO) rfl ?_)))
    refine wpAny_bind (wpAny_setField_rec hz1 (by simp) fun h2 hz2 e2 => ?_)
    refine wpAny_bind ?_
    simp only [List.zipIdx_cons, List.zipIdx_nil, List.forIn_cons, List.forIn_nil]
    refine wpAny_bind (wpAny_bind (wpAny_onRaise ?_))
    show wpAny _ _ (Builtin.SmallTypes.nextOrEnd (.ref i1)) _ _ _
    refine noe_item (s := { s with heap := h2 }) (p1.extBut e2.extBut D.a3) (q1.extBut e2.extBut D.b2) hx fun h3 p1' e3 => ?_
    have tO3 : Two h3 TO u1 u2 := e3.extBut _ _ D.a8 (e2.extBut _ _ D.a2 tO)
    refine wpAny_bind (wpAny_seqItems tO3 rfl (wpAny_bind (wpAny_updateSeq_pair tO3 fun h4 tO4 e4 => wpAny_bind (wpAny_letGo (wpAny_pure ?_)))))
    replace tO4 : Two h4 TO x u2 := tO4
    refine wpAny_bind (wpAny_bind (wpAny_onRaise ?_))
    show wpAny _ _ (Builtin.SmallTypes.nextOrEnd (.ref i2)) _ _ _
    refine noe_item (s := { s with heap := h4 }) (((p2.extBut e2.extBut D.a4).extBut e3.extBut D.b1.symm).extBut e4.extBut D.a9.symm) (((q2.extBut e2.extBut D.b6).extBut e3.extBut D.b8).extBut e4.extBut D.b7) hy fun h5 p2' e5 => ?_
    have tO5 : Two h5 TO x u2 := e5.extBut _ _ D.a9 tO4
    refine wpAny_bind (wpAny_seqItems tO5 rfl (wpAny_bind (wpAny_updateSeq_pair tO5 fun h6 tO6 e6 => wpAny_bind (wpAny_letGo (wpAny_pure (wpAny_pure ?_))))))
    replace tO6 : Two h6 TO x y := tO6
    refine wpAny_bind (wpAny_seqItems tO6 rfl (wpAny_bind (wpAny_newTuple ?_)))
    have hsz : h6.objs.size = s.heap.objs.size := by rw [e6.1, e5.1, e4.1, e3.1, e2.1, e1.1]
    have kp : ∀ c o, c ≠ z → c ≠ TO → c ≠ i1 → c ≠ i2 → h1.get? c = some o → h6.get? c = some o := fun c o n0 n1 n2 n3 e => e6.extBut _ _ n1 (e5.extBut _ _ n3 (e4.extBut _ _ n1 (e3.extBut _ _ n2 (e2.extBut _ _ n0 e))))
    have hz6 := e6.extBut _ _ D.a2.symm (e5.extBut _ _ D.a4.symm (e4.extBut _ _ D.a2.symm (e3.extBut _ _ D.a3.symm hz2)))
    have hz7 := Heap.get?_push_of_some { cls := .type "tuple", data := .seq #[x, y] } hz6
    show wpAny _ _ (Builtin.SmallTypes.ownedTupleHandOut (.ref z) (.ref h6.objs.size) >>= _) _ _ _
    refine wpAny_bind ?_
    unfold Builtin.SmallTypes.ownedTupleHandOut
    refine wpAny_bind (wpAny_setField_rec hz7 (by simp) fun h8 hz8 e8 => ?_)
    refine wpAny_setField_rec hz8 (by simp) fun h9 hz9 e9 => ?_
    have zlt : z < h6.objs.size := Heap.lt_size hz6
    have up : ∀ c o, c ≠ z → h6.get? c = some o → h9.get? c = some o := fun c o n e => e9.extBut _ _ n (e8.extBut _ _ n (Heap.get?_push_of_some _ e))
    have hp : Two h9 h6.objs.size x y := e9.extBut _ _ (Nat.ne_of_gt zlt) (e8.extBut _ _ (Nat.ne_of_gt zlt) (Heap.get?_push_size _ rfl))
    have hz10 : h9.objs.size = h6.objs.size + 1 := by rw [e9.1, e8.1, Heap.size_push]
    refine wpAny_pure ⟨_, rfl, ?_⟩
    show Q (.ref h6.objs.size) _
    rw [hsz] at hp hz10 ⊢
    refine hQ _ ⟨⟨_, _, .inr ⟨_, rfl⟩, hz9⟩, up _ _ D.a1 (kp _ _ D.a1 D.a5 D.a6 D.a7 tI), ⟨x, y, up _ _ D.a2 tO6⟩, ?_, ?_, ?_, ?_⟩ hp hz10 fun c o n1 n2 n3 n4 e => up _ _ n1 (kp _ _ n1 n2 n3 n4 (e1.extBut _ _ n1 e))
    · exact (((p1'.extBut e4.extBut D.a8.symm).extBut e5.extBut D.b1).extBut e6.extBut D.a8.symm).at fun o e => up _ o D.a3 e
    · exact (p2'.extBut e6.extBut D.a9.symm).at fun o e => up _ o D.a4 e
    · exact q1.at fun o e => up _ o D.b2 (kp _ _ D.b2 D.b3 D.b4 D.b5 e)
    · exact q2.at fun o e => up _ o D.b6 (kp _ _ D.b6 D.b7 D.b8 D.b9 e)
theorem last {z TI TO i1 i2 l1 l2 : Addr} {xs ys : Array Value} {k : Nat} {Q : Fin → Shared → Prop} (hh : A.handled = none) (D : Far z TI TO i1 i2 l1 l2) (st : At s.heap z TI TO i1 i2 l1 l2 xs ys k) (hx : xs[k]? = none) (hy : ys[k]? = none)
    (hE : ∀ h' e, (∀ c o, c ≠ z → c ≠ TO → c ≠ i1 → c ≠ i2 → s.heap.get? c = some o → h'.get? c = some o) → (∃ o, h'.get? e = some o ∧ o.cls = .type "StopIteration") → E (.ref e) { s with heap := h' }) :
    wpAny (model prog w) A (Builtin.«zip.__next__» ⟨[.ref z], []⟩) Q E s := by
  obtain ⟨f0, f, _, hz⟩ := st.cell
  show wpAny _ _ (field (.ref z) 2 >>= _) _ _ _
  refine wpAny_bind (wpAny_field hz rfl (x := .bool true) rfl ?_)
  show wpAny _ _ (field (.ref z) 3 >>= _) _ _ _
  refine wpAny_bind (wpAny_field hz rfl (x := .ref TI) rfl (wpAny_bind (wpAny_seqItems st.its rfl ?_)))
  show wpAny _ _ (Builtin.SmallTypes.ownedTupleIsFree (.ref z) >>= _) _ _ _
  refine wpAny_bind (free st.cell fun b h1 c1 e1 => ?_)
  obtain ⟨g0, g, hg, hz1⟩ := _root_.id c1
  obtain ⟨u1, u2, hTO⟩ := st.kept
  have p1 := st.p1.extBut e1.extBut D.a3
  have p2 := st.p2.extBut e1.extBut D.a4
  have q1 := st.q1.extBut e1.extBut D.b2
  have q2 := st.q2.extBut e1.extBut D.b6
  cases b with
  | false =>
    simp only [Bool.false_eq_true, if_false]
    refine wpAny_bind ?_
    rw [← Array.forIn_toList]
    simp only [List.forIn_cons, List.forIn_nil]
    refine wpAny_bind (wpAny_bind (wpAny_holding ?_))
    show wpAny _ _ (Builtin.SmallTypes.nextOrEnd (.ref i1)) _ _ _
    refine noe_end (s := { s with heap := h1 }) hh p1 q1 hx fun h2 e2 => ?_
    refine wpAny_bind ?_
    show wpAny _ _ (forIn [((Value.ref i2), 1)] PUnit.unit _ >>= _) _ _ _
    simp only [List.forIn_cons, List.forIn_nil]
    refine wpAny_bind (wpAny_bind (wpAny_bind ?_))
    refine noe_end (s := { s with heap := h2 }) hh (p2.extBut e2 D.b1.symm) (q2.extBut e2 D.b8) hy fun h3 e3 => ?_
    simp only [Option.isSome_none, Bool.false_eq_true, if_false]
    refine wpAny_pure (wpAny_pure (wpAny_bind (wpAny_rule (stop_iter (s := { s with heap := h3 }) hh fun h4 e k c => ?_))))
    exact hE h4 e (fun c o n1 n2 n3 n4 e => k _ _ (e3 _ _ n4 (e2 _ _ n3 (e1.extBut _ _ n1 e)))) c
  | true =>
    simp only [if_true]
    refine wpAny_bind (wpAny_rule (wpAny_bind (wpAny_field hz1 rfl (x := .ref TO) rfl ?_)))
    refine wpAny_bind (wpAny_setField_rec hz1 (by simp) fun h2 hz2 e2 => ?_)
    refine wpAny_bind ?_
    simp only [List.zipIdx_cons, List.zipIdx_nil, List.forIn_cons, List.forIn_nil]
    refine wpAny_bind (wpAny_bind (wpAny_onRaise ?_))
    show wpAny _ _ (Builtin.SmallTypes.nextOrEnd (.ref i1)) _ _ _
    refine noe_end (s := { s with heap := h2 }) hh (p1.extBut e2.extBut D.a3) (q1.extBut e2.extBut D.b2) hx fun h3 e3 => ?_
    have hz3 := e3 _ _ D.a3.symm hz2
    refine wpAny_bind (wpAny_setField_rec hz3 (by simp) fun h4 hz4 e4 => ?_)
    refine wpAny_bind ?_
    show wpAny _ _ (forIn [((Value.ref i2), 1)] PUnit.unit _ >>= _) _ _ _
    simp only [List.forIn_cons, List.forIn_nil]
    refine wpAny_bind (wpAny_bind (wpAny_bind ?_))
    refine noe_end (s := { s with heap := h4 }) hh (((p2.extBut e2.extBut D.a4).extBut e3 D.b1.symm).extBut e4.extBut D.a4) (((q2.extBut e2.extBut D.b6).extBut e3 D.b8).extBut e4.extBut D.b6) hy fun h5 e5 => ?_
    simp only [Option.isSome_none, Bool.false_eq_true, if_false]
    refine wpAny_pure (wpAny_pure (wpAny_bind (wpAny_rule (stop_iter (s := { s with heap := h5 }) hh fun h6 e k c => ?_))))
    exact hE h6 e (fun c o n1 n2 n3 n4 e => k _ _ (e5 _ _ n4 (e4.extBut _ _ n1 (e3 _ _ n3 (e2.extBut _ _ n1 (e1.extBut _ _ n1 e)))))) c
end
end Zs

end Text_ZS
section Text_ZS2
set_option maxHeartbeats 4000000
namespace Zs
open PySem PySem.Spec PyProof.Rows L2
open Sem (wp)
theorem typeCall_strict (a b v : Value) : checkTypeCall "zip" ⟨[a, b], [(Str.ofString "strict", v)]⟩ = pure () := by kernel_rfl
theorem newCall_strict (a b v : Value) : checkBuiltinCall "zip.__new__" ⟨[.type "zip", a, b], [(Str.ofString "strict", v)]⟩ = pure () := by kernel_rfl
theorem args_init_strict (a b c v : Value) : argsOk "object.__init__" ⟨[a, b, c], [(Str.ofString "strict", v)]⟩ := by
  unfold argsOk
  rw [signature?_of (id := "object.__init__") (n := ['_', '_', 't', 'i', 'n', 'i', '_', '_']) (o := ['t', 'c', 'e', 'j', 'b', 'o']) (by kernel_rfl) F.owner_object]
  kernel_rfl
abbrev pile5 (h : Heap) (l1 l2 : Addr) : Heap := ((((h.push { cls := .type "list_iterator", data := .fields #[.ref l1, .int 0 0] }).push { cls := .type "list_iterator", data := .fields #[.ref l2, .int 0 0] }).push { cls := .type "tuple", data := .seq #[.ref h.objs.size, .ref (h.objs.size + 1)] }).push { cls := .type "tuple", data := .seq #[.none, .none] }).push { cls := .type "zip", data := .fields #[.none, .bool false, .bool true, .ref (h.objs.size + 2), .ref (h.objs.size + 3)] }
theorem szp (h : Heap) (o : Obj) : (h.push o).objs.size = h.objs.size + 1 := Heap.size_push ..
theorem meets_new (l1 l2 : Addr) (xs ys : Array Value) : Meets (Builtin.«zip.__new__» ⟨[.type "zip", .ref l1, .ref l2], [(Str.ofString "strict", .bool true)]⟩) (fun _ R s => s.heap.IsList l1 xs ∧ s.heap.IsList l2 ys ∧ R (.ok (.ret (.ref (s.heap.objs.size + 4)))) { s with heap := pile5 s.heap l1 l2 }) :=
  .of_wp fun prog w A R s h => by
    obtain ⟨hp, g, d, tk, os⟩ := s
    obtain ⟨hl1, hl2, h⟩ := h
    have hsub := sub_zip
    have hL1 : Heap.IsList (Shared.heap ⟨hp, g, d, tk, os⟩) l1 xs := hl1
    have hL2 : Heap.IsList (Shared.heap ⟨hp.push { cls := .type "list_iterator", data := .fields #[.ref l1, .int 0 0] }, g, d, tk, os⟩) l2 ys := Heap.IsList.push hl2 _
    have e1 : (hp.push { cls := .type "list_iterator", data := .fields #[.ref l1, .int 0 0] }).objs.size = hp.objs.size + 1 := szp ..
    wp_walk using wpAny_pyIter_list hL1, wpAny_pyIter_list hL2
    simp only [szp] at h ⊢
    exact ⟨_, rfl, h⟩
end Zs

end Text_ZS2
section Text_ZS3
set_option maxHeartbeats 4000000
namespace Zs
open PySem PySem.Spec PyProof.Rows L2
open Sem (wp)
section
variable {prog : Program} {w : World} {A : Around} {E : Value → Shared → Prop} {s : Shared}
theorem call_new {l1 l2 : Addr} {xs ys : Array Value} {Q : Value → Shared → Prop} (h1 : s.heap.IsList l1 xs) (h2 : s.heap.IsList l2 ys)
    (h : ∀ h', At h' (s.heap.objs.size + 4) (s.heap.objs.size + 2) (s.heap.objs.size + 3) s.heap.objs.size (s.heap.objs.size + 1) l1 l2 xs ys 0 → h'.objs.size = s.heap.objs.size + 5 → (∀ c o, s.heap.get? c = some o → h'.get? c = some o) → Q (.ref (s.heap.objs.size + 4)) { s with heap := h' }) :
    wpAny (model prog w) A (call (.type "zip") [.ref l1, .ref l2] [(Str.ofString "strict", .bool true)]) Q E s := by
  refine callType_newKw F.called_zip (by decide) (typeCall_strict _ _ _) (newCall_strict _ _ _) (fun obj => args_init_strict obj _ _ _) F.entry_zip_new (meets_new l1 l2 xs ys) ⟨h1, h2, ?_⟩
  have up : ∀ c o, s.heap.get? c = some o → (pile5 s.heap l1 l2).get? c = some o := fun c o e => Heap.get?_push_of_some _ (Heap.get?_push_of_some _ (Heap.get?_push_of_some _ (Heap.get?_push_of_some _ (Heap.get?_push_of_some _ e))))
  have g5 : (pile5 s.heap l1 l2).get? (s.heap.objs.size + 4) = some { cls := .type "zip", data := .fields #[.none, .bool false, .bool true, .ref (s.heap.objs.size + 2), .ref (s.heap.objs.size + 3)] } := by
    have := Heap.get?_push_size ((((s.heap.push { cls := .type "list_iterator", data := .fields #[.ref l1, .int 0 0] }).push { cls := .type "list_iterator", data := .fields #[.ref l2, .int 0 0] }).push { cls := .type "tuple", data := .seq #[.ref s.heap.objs.size, .ref (s.heap.objs.size + 1)] }).push { cls := .type "tuple", data := .seq #[.none, .none] }) (o := { cls := .type "zip", data := .fields #[.none, .bool false, .bool true, .ref (s.heap.objs.size + 2), .ref (s.heap.objs.size + 3)] }) rfl
    rw [szp, szp, szp, szp] at this
    exact this
  have g4 : (pile5 s.heap l1 l2).get? (s.heap.objs.size + 3) = some { cls := .type "tuple", data := .seq #[.none, .none] } := by
    refine Heap.get?_push_of_some _ ?_
    have := Heap.get?_push_size (((s.heap.push { cls := .type "list_iterator", data := .fields #[.ref l1, .int 0 0] }).push { cls := .type "list_iterator", data := .fields #[.ref l2, .int 0 0] }).push { cls := .type "tuple", data := .seq #[.ref s.heap.objs.size, .ref (s.heap.objs.size + 1)] }) (o := { cls := .type "tuple", data := .seq #[.none, .none] }) rfl
    rw [szp, szp, szp] at this
    exact this
  have g3 : (pile5 s.heap l1 l2).get? (s.heap.objs.size + 2) = some { cls := .type "tuple", data := .seq #[.ref s.heap.objs.size, .ref (s.heap.objs.size + 1)] } := by
    refine Heap.get?_push_of_some _ (Heap.get?_push_of_some _ ?_)
    have := Heap.get?_push_size ((s.heap.push { cls := .type "list_iterator", data := .fields #[.ref l1, .int 0 0] }).push { cls := .type "list_iterator", data := .fields #[.ref l2, .int 0 0] }) (o := { cls := .type "tuple", data := .seq #[.ref s.heap.objs.size, .ref (s.heap.objs.size + 1)] }) rfl
    rw [szp, szp] at this
    exact this
  have g2 : (pile5 s.heap l1 l2).get? (s.heap.objs.size + 1) = some { cls := .type "list_iterator", data := .fields #[.ref l2, .int 0 0] } := by
    refine Heap.get?_push_of_some _ (Heap.get?_push_of_some _ (Heap.get?_push_of_some _ ?_))
    have := Heap.get?_push_size (s.heap.push { cls := .type "list_iterator", data := .fields #[.ref l1, .int 0 0] }) (o := { cls := .type "list_iterator", data := .fields #[.ref l2, .int 0 0] }) rfl
    rw [szp] at this
    exact this
  have g1 : (pile5 s.heap l1 l2).get? s.heap.objs.size = some { cls := .type "list_iterator", data := .fields #[.ref l1, .int 0 0] } :=
    Heap.get?_push_of_some _ (Heap.get?_push_of_some _ (Heap.get?_push_of_some _ (Heap.get?_push_of_some _ (Heap.get?_push_size _ rfl))))
  refine ⟨⟨_, g5, rfl⟩, h _ ⟨⟨_, _, .inl rfl, g5⟩, g3, ⟨_, _, g4⟩, ⟨_, g1, rfl, rfl⟩, ⟨_, g2, rfl, rfl⟩, h1.at fun o e => up _ o e, h2.at fun o e => up _ o e⟩ (by simp only [szp]) up⟩
theorem far_new {N l1 l2 : Nat} (h1 : l1 < N) (h2 : l2 < N) : Far (N + 4) (N + 2) (N + 3) N (N + 1) l1 l2 :=
  ⟨show (N + 2 : Nat) ≠ (N + 4 : Nat) by omega, show (N + 3 : Nat) ≠ (N + 4 : Nat) by omega, show (N : Nat) ≠ (N + 4 : Nat) by omega, show (N + 1 : Nat) ≠ (N + 4 : Nat) by omega, show (N + 2 : Nat) ≠ (N + 3 : Nat) by omega, show (N + 2 : Nat) ≠ (N : Nat) by omega, show (N + 2 : Nat) ≠ (N + 1 : Nat) by omega, show (N + 3 : Nat) ≠ (N : Nat) by omega, show (N + 3 : Nat) ≠ (N + 1 : Nat) by omega, show (N : Nat) ≠ (N + 1 : Nat) by omega, show (l1 : Nat) ≠ (N + 4 : Nat) by omega, show (l1 : Nat) ≠ (N + 3 : Nat) by omega, show (l1 : Nat) ≠ (N : Nat) by omega, show (l1 : Nat) ≠ (N + 1 : Nat) by omega, show (l2 : Nat) ≠ (N + 4 : Nat) by omega, show (l2 : Nat) ≠ (N + 3 : Nat) by omega, show (l2 : Nat) ≠ (N : Nat) by omega, show (l2 : Nat) ≠ (N + 1 : Nat) by omega⟩
/-- next(z) -/
theorem py_item {z TI TO i1 i2 l1 l2 : Addr} {xs ys : Array Value} {k : Nat} {x y : Value} {Q : Option Value → Shared → Prop} (D : Far z TI TO i1 i2 l1 l2) (st : At s.heap z TI TO i1 i2 l1 l2 xs ys k) (hx : xs[k]? = some x) (hy : ys[k]? = some y)
    (hQ : ∀ h', At h' z TI TO i1 i2 l1 l2 xs ys (k + 1) → Two h' s.heap.objs.size x y → h'.objs.size = s.heap.objs.size + 1 → (∀ c o, c ≠ z → c ≠ TO → c ≠ i1 → c ≠ i2 → s.heap.get? c = some o → h'.get? c = some o) → Q (some (.ref s.heap.objs.size)) { s with heap := h' }) :
    wpAny (model prog w) A (pyNext (.ref z)) Q E s := by
  have hT := cell_ty st.cell
  unfold pyNext
  exact wpAny_bind (wpAny_attempt (wpAny_callSpecial?_slot (name := Str.ofString "__next__") hT F.slot_zip_next (wpAny_call_entry F.slot_zip_next hT F.entry_zip_next (item D st hx hy fun h' a b c d => wpAny_pure (hQ h' a b c d)) (F.args_zip_next_1 _))))
theorem py_last {z TI TO i1 i2 l1 l2 : Addr} {xs ys : Array Value} {k : Nat} {Q : Option Value → Shared → Prop} (hh : A.handled = none) (D : Far z TI TO i1 i2 l1 l2) (st : At s.heap z TI TO i1 i2 l1 l2 xs ys k) (hx : xs[k]? = none) (hy : ys[k]? = none)
    (hQ : ∀ h', (∀ c o, c ≠ z → c ≠ TO → c ≠ i1 → c ≠ i2 → s.heap.get? c = some o → h'.get? c = some o) → Q none { s with heap := h' }) : wpAny (model prog w) A (pyNext (.ref z)) Q E s := by
  have hT := cell_ty st.cell
  unfold pyNext
  refine wpAny_bind (wpAny_attempt (wpAny_callSpecial?_slot (name := Str.ofString "__next__") hT F.slot_zip_next (wpAny_call_entry F.slot_zip_next hT F.entry_zip_next (last hh D st hx hy fun h' e a b => ?_) (F.args_zip_next_1 _))))
  obtain ⟨o, ho, hc⟩ := b
  exact wpAny_bind (wpAny_isInstance (T := "StopIteration") (b := true) ⟨o, ho, hc⟩ isSubtype_stop (wpAny_pure (hQ h' a)))
theorem py_self {z TI TO : Addr} {Q : Value → Shared → Prop} (c : Cell s.heap z TI TO) (h : Q (.ref z) s) : wpAny (model prog w) A (pyIter (.ref z)) Q E s := by
  have hT := cell_ty c
  refine wpAny_pyIter_slot hT F.slot_zip_iter (wpAny_call_entry F.slot_zip_iter hT F.entry_zip_iter ?_ (F.args_zip_iter_1 _))
  show wpAny _ _ (ret (.ref z)) _ _ s
  exact wpAny_pure ⟨_, rfl, "zip", _, hT, F.slot_zip_next.lookup, h⟩
theorem zip_no_len : typeLookup (.type "zip") "__len__" = pure none := by
  rw [typeLookup_type, builtinLookup_eq_fast]
  kernel_rfl
theorem zip_no_hint : typeLookup (.type "zip") "__length_hint__" = pure none := by
  rw [typeLookup_type, builtinLookup_eq_fast]
  kernel_rfl
/-- the pairs that have come, as tuples at as, all younger than S -/
structure Come (h : Heap) (S : Addr) (as : List Addr) (xs ys : Array Value) : Prop where
  young : ∀ a ∈ as, S < a
  nd : as.Nodup
  held : ∀ (i : Nat) (a : Addr), as[i]? = some a → ∃ x y, xs[i]? = some x ∧ ys[i]? = some y ∧ Two h a x y
theorem list_loop {R : Result → Shared → Prop} {z TI TO i1 i2 l1 l2 S : Addr} {xs ys : Array Value} {res : Value} (hh : A.handled = none) (D : Far z TI TO i1 i2 l1 l2) (hs : xs.size = ys.size) (hn : xs.size ≤ 1000) (hS : z < S ∧ TI < S ∧ TO < S ∧ i1 < S ∧ i2 < S ∧ l1 < S ∧ l2 < S) :
    ∀ (m k : Nat) (s : Shared) (acc : Array Value) (c : Nat) (as : List Addr), xs.size - k = m → k ≤ xs.size → At s.heap z TI TO i1 i2 l1 l2 xs ys k → s.heap.get? S = some { cls := .type "list", dict := none, data := .seq acc c, slots := #[] } → acc.toList = as.map Value.ref → as.length = k → Come s.heap S as xs ys →
    (∀ h' acc' c' as', h'.get? S = some { cls := .type "list", dict := none, data := .seq acc' c', slots := #[] } → acc'.toList = as'.map Value.ref → as'.length = xs.size → Come h' S as' xs ys → (∀ b o, b ≠ S → b ≠ z → b ≠ TO → b ≠ i1 → b ≠ i2 → s.heap.get? b = some o → h'.get? b = some o) → R (.ok (.ret res)) { s with heap := h' }) →
    codeAny (model prog w) A (.builtin "list.extend.loop" ⟨[.ref S, .ref z, res], []⟩) R s := by
  obtain ⟨z1, z2, z3, z4, z5, z6, z7⟩ := hS
  intro m
  induction m with
  | zero =>
    intro k s acc c as hm hk st hS he hl hc hR
    have e : k = xs.size := by omega
    subst e
    refine codeAny_builtin F.entry_extend_loop ?_
    rw [Around.under_plainId F.plain_extend_loop _]
    show wpAny _ A.in1 (pyNext (.ref z) >>= _) _ _ s
    refine wpAny_bind (py_last hh D st (by simp) (by simp [hs]) fun h' k' => wpAny_pure ?_)
    refine hR h' acc c as (k' _ _ (Nat.ne_of_gt z1) (Nat.ne_of_gt z3) (Nat.ne_of_gt z4) (Nat.ne_of_gt z5) hS) he hl ⟨hc.young, hc.nd, fun i a ha => ?_⟩ fun b o _ n1 n2 n3 n4 e => k' b o n1 n2 n3 n4 e
    obtain ⟨x, y, e1, e2, e3⟩ := hc.held i a ha
    have := hc.young a (List.mem_of_getElem? ha)
    exact ⟨x, y, e1, e2, k' _ _ (Nat.ne_of_gt (Nat.lt_trans z1 this)) (Nat.ne_of_gt (Nat.lt_trans z3 this)) (Nat.ne_of_gt (Nat.lt_trans z4 this)) (Nat.ne_of_gt (Nat.lt_trans z5 this)) e3⟩
  | succ m ih =>
    intro k s acc c as hm hk st hS he hl hc hR
    have hlt : k < xs.size := by omega
    refine codeAny_builtin F.entry_extend_loop ?_
    rw [Around.under_plainId F.plain_extend_loop _]
    show wpAny _ A.in1 (pyNext (.ref z) >>= _) _ _ s
    refine wpAny_bind (py_item D st (Array.getElem?_eq_getElem hlt) (Array.getElem?_eq_getElem (by omega)) fun h1 st1 tw hz1 k1 => ?_)
    have hS1 := k1 _ _ (Nat.ne_of_gt z1) (Nat.ne_of_gt z3) (Nat.ne_of_gt z4) (Nat.ne_of_gt z5) hS
    have hSl : S < s.heap.objs.size := Heap.lt_size hS
    show wpAny _ A.in1 (updateSeq S (·.push (.ref s.heap.objs.size)) >>= _) _ _ _
    refine wpAny_bind ?_
    have hsz : acc.size = k := by rw [← Array.length_toList, he, List.length_map, hl]
    have oth : ∀ b o, b ≠ S → h1.get? b = some o → (h1.update S (Obj.mapSeq (·.push (.ref s.heap.objs.size)))).get? b = some o := fun b o n e => (Heap.get?_update_other _ _ (Ne.symm n)).trans e
    refine wpAny_updateSeq hS1 rfl (wpAny_pure ⟨plainId_quiet F.plain_extend_loop _, ih (k + 1) _ (acc.push (.ref s.heap.objs.size)) _ (as ++ [s.heap.objs.size]) (by omega) hlt ⟨?_, ?_, ?_, ?_, ?_, ?_, ?_⟩ (Heap.get?_update_self _ hS1 rfl) ?_ ?_ ⟨?_, ?_, ?_⟩ fun h' acc' c' as' a1 a2 a3 a4 a5 => ?_⟩) ?_
    · obtain ⟨f0, f, hf, hz⟩ := st1.cell
      exact ⟨f0, f, hf, oth _ _ (Nat.ne_of_lt z1) hz⟩
    · exact oth _ _ (Nat.ne_of_lt z2) st1.its
    · obtain ⟨a, b, hab⟩ := st1.kept
      exact ⟨a, b, oth _ _ (Nat.ne_of_lt z3) hab⟩
    · exact st1.p1.at fun o e => oth _ o (Nat.ne_of_lt z4) e
    · exact st1.p2.at fun o e => oth _ o (Nat.ne_of_lt z5) e
    · exact st1.q1.at fun o e => oth _ o (Nat.ne_of_lt z6) e
    · exact st1.q2.at fun o e => oth _ o (Nat.ne_of_lt z7) e
    · rw [Array.toList_push, he, List.map_append]
      rfl
    · rw [List.length_append, hl]
      rfl
    · intro a ha
      rcases List.mem_append.mp ha with ha | ha
      · exact hc.young a ha
      · rw [List.mem_singleton.mp ha]
        exact hSl
    · refine List.nodup_append.mpr ⟨hc.nd, (List.nodup_cons.mpr ⟨List.not_mem_nil, List.nodup_nil⟩), fun a ha b hb => ?_⟩
      rw [List.mem_singleton.mp hb]
      obtain ⟨i, hi⟩ := List.getElem?_of_mem ha
      obtain ⟨x, y, _, _, e3⟩ := hc.held i a hi
      exact Nat.ne_of_lt (Heap.lt_size e3)
    · intro i a ha
      by_cases hi : i < as.length
      · rw [List.getElem?_append_left hi] at ha
        obtain ⟨x, y, e1, e2, e3⟩ := hc.held i a ha
        have := hc.young a (List.mem_of_getElem? ha)
        exact ⟨x, y, e1, e2, oth _ _ (Nat.ne_of_gt this) (k1 _ _ (Nat.ne_of_gt (Nat.lt_trans z1 this)) (Nat.ne_of_gt (Nat.lt_trans z3 this)) (Nat.ne_of_gt (Nat.lt_trans z4 this)) (Nat.ne_of_gt (Nat.lt_trans z5 this)) e3)⟩
      · have hi' : i = as.length := by
          have := (List.getElem?_eq_some_iff.mp ha).1
          rw [List.length_append] at this
          simp at this
          omega
        subst hi'
        rw [List.getElem?_append_right (Nat.le_refl _), Nat.sub_self] at ha
        have ea : s.heap.objs.size = a := Option.some.inj ha
        subst ea
        exact ⟨_, _, by rw [hl]; exact Array.getElem?_eq_getElem hlt, by rw [hl]; exact Array.getElem?_eq_getElem (by omega), oth _ _ (Nat.ne_of_gt hSl) tw⟩
    · exact hR h' acc' c' as' a1 a2 a3 a4 fun b o n0 n1 n2 n3 n4 e => a5 b o n0 n1 n2 n3 n4 (oth _ _ n0 (k1 b o n1 n2 n3 n4 e))
    · rw [hsz, sizeLine_eq]
      omega
theorem At.stay {h h' : Heap} {z TI TO i1 i2 l1 l2 : Addr} {xs ys : Array Value} {k : Nat} (st : At h z TI TO i1 i2 l1 l2 xs ys k) (kp : ∀ b ∈ [z, TI, TO, i1, i2, l1, l2], ∀ o, h.get? b = some o → h'.get? b = some o) : At h' z TI TO i1 i2 l1 l2 xs ys k := by
  obtain ⟨f0, f, hf, hz⟩ := st.cell
  obtain ⟨a, b, hab⟩ := st.kept
  exact ⟨⟨f0, f, hf, kp _ (by simp) _ hz⟩, kp _ (by simp) _ st.its, ⟨a, b, kp _ (by simp) _ hab⟩, st.p1.at fun o e => kp _ (by simp) o e, st.p2.at fun o e => kp _ (by simp) o e, st.q1.at fun o e => kp _ (by simp) o e, st.q2.at fun o e => kp _ (by simp) o e⟩
theorem At.low {h : Heap} {z TI TO i1 i2 l1 l2 : Addr} {xs ys : Array Value} {k : Nat} (st : At h z TI TO i1 i2 l1 l2 xs ys k) : z < h.objs.size ∧ TI < h.objs.size ∧ TO < h.objs.size ∧ i1 < h.objs.size ∧ i2 < h.objs.size ∧ l1 < h.objs.size ∧ l2 < h.objs.size := by
  obtain ⟨f0, f, hf, hz⟩ := st.cell
  obtain ⟨a, b, hab⟩ := st.kept
  obtain ⟨_, e1, _⟩ := st.p1
  obtain ⟨_, e2, _⟩ := st.p2
  obtain ⟨_, e3, _⟩ := st.q1
  obtain ⟨_, e4, _⟩ := st.q2
  exact ⟨Heap.lt_size hz, Heap.lt_size st.its, Heap.lt_size hab, Heap.lt_size e1, Heap.lt_size e2, Heap.lt_size e3, Heap.lt_size e4⟩
theorem not_of_low {h : Heap} {z TI TO i1 i2 l1 l2 : Addr} (l : z < h.objs.size ∧ TI < h.objs.size ∧ TO < h.objs.size ∧ i1 < h.objs.size ∧ i2 < h.objs.size ∧ l1 < h.objs.size ∧ l2 < h.objs.size) : ∀ b ∈ [z, TI, TO, i1, i2, l1, l2], b ≠ h.objs.size := fun b hb => by
  obtain ⟨z1, z2, z3, z4, z5, z6, z7⟩ := l
  simp only [List.mem_cons, List.not_mem_nil, or_false] at hb
  rcases hb with e | e | e | e | e | e | e <;> rw [e]
  · exact Nat.ne_of_lt z1
  · exact Nat.ne_of_lt z2
  · exact Nat.ne_of_lt z3
  · exact Nat.ne_of_lt z4
  · exact Nat.ne_of_lt z5
  · exact Nat.ne_of_lt z6
  · exact Nat.ne_of_lt z7
/-- list(z) -/
theorem call_list {z TI TO i1 i2 l1 l2 : Addr} {xs ys : Array Value} {Q : Value → Shared → Prop} (hh : A.handled = none) (D : Far z TI TO i1 i2 l1 l2) (hs : xs.size = ys.size) (hn : xs.size ≤ 1000) (st : At s.heap z TI TO i1 i2 l1 l2 xs ys 0)
    (hQ : ∀ h' acc c as, h'.get? s.heap.objs.size = some { cls := .type "list", dict := none, data := .seq acc c, slots := #[] } → acc.toList = as.map Value.ref → as.length = xs.size → Come h' s.heap.objs.size as xs ys → (∀ b o, b ≠ z → b ≠ TO → b ≠ i1 → b ≠ i2 → s.heap.get? b = some o → h'.get? b = some o) → Q (.ref s.heap.objs.size) { s with heap := h' }) :
    wpAny (model prog w) A (call (.type "list") [.ref z]) Q E s := by
  have lo := st.low
  have nl := not_of_low lo
  refine callType_codes (Q₁ := fun obj s₁ => obj = .ref s.heap.objs.size ∧ s₁ = { s with heap := s.heap.push { cls := .type "list", data := .seq #[] } }) F.called_list (F.typeCall_list_1 _) F.entry_list_init (code_list_new _ ⟨rfl, rfl⟩) fun obj s₁ h₁ => ?_
  obtain ⟨rfl, rfl⟩ := h₁
  have hS : (s.heap.push { cls := .type "list", data := .seq #[] }).get? s.heap.objs.size = some { cls := .type "list", data := .seq #[] } := Heap.get?_push_size _ rfl
  refine ⟨⟨_, hS, rfl⟩, F.args_list_init_2 _ _, ?_⟩
  show wpAny _ A.in1.in1 (do let old ← Builtin.List.listItems (.ref s.heap.objs.size); Builtin.List.listUpdate (.ref s.heap.objs.size) (fun _ => #[]); letGo old.toList.reverse; Builtin.List.listExtendWith (.ref s.heap.objs.size) (.ref z) .none) _ _ _
  refine wpAny_bind ?_
  unfold Builtin.List.listItems
  refine wpAny_bind (wpAny_seqItems hS rfl (wpAny_pure ?_))
  show wpAny _ _ (updateSeq s.heap.objs.size (fun _ => #[]) >>= fun _ => letGo (#[] : Array Value).toList.reverse >>= fun _ => Builtin.List.listExtendWith (.ref s.heap.objs.size) (.ref z) .none) _ _ _
  refine wpAny_bind (wpAny_updateSeq hS rfl (wpAny_bind (wpAny_letGo ?_)))
  have hS2 := Heap.get?_update_self (Obj.mapSeq (fun _ => (#[] : Array Value))) hS rfl
  have up2 : ∀ b o, b ≠ s.heap.objs.size → s.heap.get? b = some o → ((s.heap.push { cls := .type "list", data := .seq #[] }).update s.heap.objs.size (Obj.mapSeq (fun _ => (#[] : Array Value)))).get? b = some o := fun b o n e => (Heap.get?_update_other _ _ (Ne.symm n)).trans (Heap.get?_push_of_some _ e)
  have st2 := st.stay fun b hb o e => up2 b o (nl b hb) e
  have hT := cell_ty (s := { s with heap := (s.heap.push { cls := .type "list", data := .seq #[] }).update s.heap.objs.size (Obj.mapSeq (fun _ => (#[] : Array Value))) }) st2.cell
  unfold Builtin.List.listExtendWith
  refine wpAny_bind (wpAny_typeOf hT ?_)
  have h1 : Builtin.List.listSameRef (.ref s.heap.objs.size) (.ref z) = false := by simp [Builtin.List.listSameRef, Nat.ne_of_gt lo.1]
  have h2 : (Value.type "zip" == Value.type "list") = false := by decide
  have h3 : (Value.type "zip" == Value.type "tuple") = false := by decide
  simp only [h1, h2, h3, Bool.or_false, Bool.false_eq_true, if_false]
  refine wpAny_bind (py_self st2.cell ?_)
  refine wpAny_bind (wpAny_holding ?_)
  unfold Builtin.List.listLengthHint
  refine wpAny_bind (wpAny_specialOf hT zip_no_len ?_)
  show wpAny _ _ (specialOf (Value.ref z) (Str.ofString "__length_hint__") >>= _) _ _ _
  refine wpAny_bind (wpAny_specialOf hT zip_no_hint (wpAny_pure ?_))
  show wpAny _ _ (rule "list.extend.makes-room" >>= fun _ => Builtin.List.listTouch (.ref s.heap.objs.size) >>= fun _ => again (.builtin "list.extend.loop" ⟨[.ref s.heap.objs.size, .ref z, .none], []⟩)) _ _ _
  refine wpAny_bind (wpAny_rule (wpAny_bind ?_))
  show wpAny _ _ (updateSeq s.heap.objs.size (·.push .none) >>= fun _ => updateSeq s.heap.objs.size (·.pop)) _ _ _
  refine wpAny_bind (wpAny_updateSeq hS2 rfl ?_)
  have hS3 := Heap.get?_update_self (Obj.mapSeq (·.push Value.none)) hS2 rfl
  refine wpAny_updateSeq (hz := by seq_fits) hS3 rfl ?_
  have hS4 := Heap.get?_update_self (Obj.mapSeq (·.pop)) hS3 rfl
  have up4 : ∀ b o, b ≠ s.heap.objs.size → s.heap.get? b = some o → ((((s.heap.push { cls := .type "list", data := .seq #[] }).update s.heap.objs.size (Obj.mapSeq (fun _ => (#[] : Array Value)))).update s.heap.objs.size (Obj.mapSeq (·.push Value.none))).update s.heap.objs.size (Obj.mapSeq (·.pop))).get? b = some o :=
    fun b o n e => (Heap.get?_update_other _ _ (Ne.symm n)).trans ((Heap.get?_update_other _ _ (Ne.symm n)).trans (up2 b o n e))
  refine wpAny_pure ⟨plainId_quiet F.plain_extend_loop _, list_loop (A := A.in1) hh D hs hn lo _ 0 _ _ _ [] rfl (Nat.zero_le _) (st.stay fun b hb o e => up4 b o (nl b hb) e) hS4 rfl rfl ⟨(fun _ h => by cases h), List.nodup_nil, fun i a h => by simp at h⟩ fun h' acc c as a1 a2 a3 a4 a5 => ⟨rfl, ?_⟩⟩
  exact hQ h' acc c as a1 a2 a3 a4 fun b o n1 n2 n3 n4 e => a5 b o (Nat.ne_of_lt (Heap.lt_size e)) n1 n2 n3 n4 (up4 b o (Nat.ne_of_lt (Heap.lt_size e)) e)
end
end Zs

end Text_ZS3
section Text_ZS4
set_option maxHeartbeats 4000000
namespace Zs
open PySem PySem.Spec PyProof.Rows L2
open Sem (wp)
theorem meets_enum {z TI TO : Addr} (k : Int) (t : Tok) (hfit : Builtin.SmallTypes.fitsIndex k = true) : Meets (Builtin.«enumerate.__new__» ⟨[.type "enumerate", .ref z, .int k t], []⟩) (fun _ R s => Cell s.heap z TI TO ∧
      R (.ok (.ret (.ref s.heap.objs.size))) { s with heap := s.heap.push { cls := .type "enumerate", data := .fields #[.none, .bool false, .ref z, rawInt k, .none, .none] } }) :=
  .of_wp fun prog w A R s h => by
    obtain ⟨hp, g, d, tk, os⟩ := s
    obtain ⟨h1, h⟩ := h
    have hsub := sub_enumerate
    have hnf : (!Builtin.SmallTypes.fitsIndex k) = false := by rw [hfit]; rfl
    have q1 : ∀ {A' : Around} {E : Value → Shared → Prop} {Q : Value → Shared → Prop}, Q (.ref z) ⟨hp, g, d, tk, os⟩ → wpAny (model prog w) A' (pyIter (.ref z)) Q E ⟨hp, g, d, tk, os⟩ := fun q => py_self h1 q
    wp_walk using q1
    refine wpAny_stack_any fun st => wpAny_pure ?_
    split
    · rename_i c _ _ _ _ _
      cases (c == Value.type "enumerate")
      · wp_walk using q1
        exact ⟨_, rfl, h⟩
      · wp_walk using q1
        exact ⟨_, rfl, h⟩
    · wp_walk using q1
      exact ⟨_, rfl, h⟩
section
variable {prog : Program} {w : World} {A : Around} {E : Value → Shared → Prop} {s : Shared}
theorem call_enum {z TI TO : Addr} {k : Int} {t : Tok} {Q : Value → Shared → Prop} (c : Cell s.heap z TI TO) (hk0 : -(2 ^ 63) ≤ k) (hk1 : k < 2 ^ 63)
    (h : ∀ h', IsEnum h' s.heap.objs.size z k .none → h'.objs.size = s.heap.objs.size + 1 → (∀ b o, s.heap.get? b = some o → h'.get? b = some o) → Q (.ref s.heap.objs.size) { s with heap := h' }) :
    wpAny (model prog w) A (call (.type "enumerate") [.ref z, .int k t]) Q E s := by
  refine callType_new F.called_enumerate (by decide) (F.typeCall_enumerate_2 _ _) (F.newCall_enumerate_2 _ _) (fun obj => F.args_object_init_3 obj _ _) F.entry_enumerate_new (meets_enum (TI := TI) (TO := TO) k t (fits_start hk0 hk1)) ⟨c, ?_⟩
  have he : (s.heap.push { cls := .type "enumerate", data := .fields #[.none, .bool false, .ref z, rawInt k, .none, .none] }).get? s.heap.objs.size = some _ := Heap.get?_push_size _ rfl
  exact ⟨⟨_, he, rfl⟩, h _ he (Heap.size_push ..) fun b o x => Heap.get?_push_of_some _ x⟩
theorem enum_item {e z TI TO i1 i2 l1 l2 : Addr} {xs ys : Array Value} {k : Nat} {c : Int} {x y old : Value} {Q : Value → Shared → Prop} (D : Far z TI TO i1 i2 l1 l2) (st : At s.heap z TI TO i1 i2 l1 l2 xs ys k) (he : IsEnum s.heap e z c old) (hne : ∀ b ∈ [z, TI, TO, i1, i2, l1, l2], b ≠ e) (hx : xs[k]? = some x) (hy : ys[k]? = some y)
    (hQ : ∀ h' tk, IsEnumOut h' e z (c + 1) (.ref s.heap.objs.size) (s.heap.objs.size + 1) → At h' z TI TO i1 i2 l1 l2 xs ys (k + 1) → Two h' s.heap.objs.size x y → Two h' (s.heap.objs.size + 1) (.int c tk) (.ref s.heap.objs.size) → h'.objs.size = s.heap.objs.size + 2 →
      (∀ b o, b ≠ e → b ≠ z → b ≠ TO → b ≠ i1 → b ≠ i2 → s.heap.get? b = some o → h'.get? b = some o) → Q (.ref (s.heap.objs.size + 1)) { s with heap := h', toks := tk + 1 }) :
    wpAny (model prog w) A (Builtin.«enumerate.__next__» ⟨[.ref e], []⟩) (fun fin s' => ∃ v, fin = .done (.ret v) ∧ Q v s') E s := by
  obtain ⟨hp, g, d, tk0, os⟩ := s
  have ne := fun b hb => hne b hb
  show wpAny _ _ (field (.ref e) 2 >>= _) _ _ _
  refine wpAny_bind (wpAny_field he rfl (x := .ref z) rfl ?_)
  have hT : Shared.TypeIs ⟨hp, g, d, tk0, os⟩ (.ref z) "zip" := cell_ty st.cell
  unfold Builtin.SmallTypes.nextOf
  refine wpAny_bind (wpAny_bind (wpAny_callSpecial?_slot (name := Str.ofString "__next__") hT F.slot_zip_next (wpAny_call_entry F.slot_zip_next hT F.entry_zip_next (item D st hx hy fun h1 st1 tw hz1 k1 => ?_) (F.args_zip_next_1 _))))
  refine wpAny_pure ?_
  have hz1 : h1.objs.size = hp.objs.size + 1 := hz1
  have he1 : IsEnum h1 e z c old := k1 _ _ (ne z (by simp)).symm (ne TO (by simp)).symm (ne i1 (by simp)).symm (ne i2 (by simp)).symm he
  have hel : e < hp.objs.size := Heap.lt_size he
  show wpAny _ _ (field (.ref e) 3 >>= _) _ _ ⟨h1, g, d, tk0, os⟩
  refine wpAny_bind (wpAny_field he1 rfl (x := rawInt c) rfl ?_)
  show wpAny _ _ (field (.ref e) 4 >>= _) _ _ ⟨h1, g, d, tk0, os⟩
  refine wpAny_bind (wpAny_field he1 rfl (x := .none) rfl ?_)
  show wpAny _ _ (mkInt c >>= _) _ _ ⟨h1, g, d, tk0, os⟩
  refine wpAny_bind (wpAny_mkInt ?_)
  show wpAny _ _ (setField (.ref e) 3 (rawInt (c + 1)) >>= _) _ _ ⟨h1, g, d, tk0 + 1, os⟩
  refine wpAny_bind (wpAny_setField_rec he1 (by simp) fun h2 he2 e2 => ?_)
  replace e2 : Heap.SameBut e h1 h2 := e2
  show wpAny _ _ (setField (.ref e) 4 .none >>= _) _ _ ⟨h2, g, d, tk0 + 1, os⟩
  refine wpAny_bind (wpAny_setField_rec he2 (by simp) fun h3 he3 e3 => ?_)
  replace e3 : Heap.SameBut e h2 h3 := e3
  replace he3 : IsEnum h3 e z (c + 1) old := he3
  show wpAny _ _ (newTuple [.int c tk0, .ref hp.objs.size] >>= _) _ _ ⟨h3, g, d, tk0 + 1, os⟩
  refine wpAny_bind (wpAny_newTuple ?_)
  have hsz : h3.objs.size = hp.objs.size + 1 := by rw [e3.1, e2.1, hz1]
  have he4 : IsEnum (h3.push { cls := .type "tuple", data := .seq #[.int c tk0, .ref hp.objs.size] }) e z (c + 1) old := Heap.get?_push_of_some _ he3
  have ht4 : Two (h3.push { cls := .type "tuple", data := .seq #[.int c tk0, .ref hp.objs.size] }) (hp.objs.size + 1) (.int c tk0) (.ref hp.objs.size) := by
    rw [← hsz]
    exact Heap.get?_push_size _ rfl
  have hz4 : (h3.push { cls := .type "tuple", data := .seq #[.int c tk0, .ref hp.objs.size] }).objs.size = hp.objs.size + 2 := by rw [Heap.size_push, hsz]
  have k4 : ∀ b o, b ≠ e → h1.get? b = some o → (h3.push { cls := .type "tuple", data := .seq #[.int c tk0, .ref hp.objs.size] }).get? b = some o := fun b o n q => Heap.get?_push_of_some _ (e3.extBut b o n (e2.extBut b o n q))
  show wpAny _ _ (Builtin.SmallTypes.ownedTupleIsFree (.ref e) >>= _) _ _ ⟨_, g, d, tk0 + 1, os⟩
  generalize h3.push { cls := .type "tuple", data := .seq #[.int c tk0, .ref hp.objs.size] } = h4 at he4 ht4 hz4 k4
  rw [show (Value.ref h3.objs.size) = .ref (hp.objs.size + 1) by rw [hsz]]
  refine wpAny_bind ?_
  unfold Builtin.SmallTypes.ownedTupleIsFree
  refine wpAny_bind (wpAny_field he4 rfl (x := .none) rfl (wpAny_pure ?_))
  simp only [if_true]
  refine wpAny_bind (wpAny_rule (wpAny_bind (wpAny_field he4 rfl (x := old) rfl ?_)))
  refine wpAny_bind (wpAny_setField_rec he4 (by simp) fun h5 he5 e5 => ?_)
  replace e5 : Heap.SameBut e h4 h5 := e5
  show wpAny _ _ (Builtin.SmallTypes.ownedTupleHandOut (.ref e) (.ref (hp.objs.size + 1)) >>= _) _ _ ⟨h5, g, d, tk0 + 1, os⟩
  refine wpAny_bind ?_
  unfold Builtin.SmallTypes.ownedTupleHandOut
  refine wpAny_bind (wpAny_setField_rec he5 (by simp) fun h6 he6 e6 => ?_)
  replace e6 : Heap.SameBut e h5 h6 := e6
  refine wpAny_setField_rec he6 (by simp) fun h7 he7 e7 => ?_
  replace e7 : Heap.SameBut e h6 h7 := e7
  replace he7 : IsEnumOut h7 e z (c + 1) (.ref hp.objs.size) (hp.objs.size + 1) := he7
  have k7 : ∀ b o, b ≠ e → h4.get? b = some o → h7.get? b = some o := fun b o n q => e7.extBut b o n (e6.extBut b o n (e5.extBut b o n q))
  refine wpAny_bind (wpAny_letGo (wpAny_pure ⟨_, rfl, hQ h7 tk0 he7 (st1.stay fun b hb o q => k7 b o (ne b hb) (k4 b o (ne b hb) q)) (k7 _ _ (Nat.ne_of_gt hel) (k4 _ _ (Nat.ne_of_gt hel) tw)) (k7 _ _ (Nat.ne_of_gt (Nat.lt_succ_of_lt hel)) ht4) (by rw [e7.1, e6.1, e5.1, hz4]) fun b o n0 n1 n2 n3 n4 q => k7 b o n0 (k4 b o n0 (k1 b o n1 n2 n3 n4 q))⟩))
theorem py_enum_item {e z TI TO i1 i2 l1 l2 : Addr} {xs ys : Array Value} {k : Nat} {c : Int} {x y old : Value} {Q : Option Value → Shared → Prop} (D : Far z TI TO i1 i2 l1 l2) (st : At s.heap z TI TO i1 i2 l1 l2 xs ys k) (he : IsEnum s.heap e z c old) (hne : ∀ b ∈ [z, TI, TO, i1, i2, l1, l2], b ≠ e) (hx : xs[k]? = some x) (hy : ys[k]? = some y)
    (hQ : ∀ h' tk, IsEnumOut h' e z (c + 1) (.ref s.heap.objs.size) (s.heap.objs.size + 1) → At h' z TI TO i1 i2 l1 l2 xs ys (k + 1) → Two h' s.heap.objs.size x y → Two h' (s.heap.objs.size + 1) (.int c tk) (.ref s.heap.objs.size) → h'.objs.size = s.heap.objs.size + 2 →
      (∀ b o, b ≠ e → b ≠ z → b ≠ TO → b ≠ i1 → b ≠ i2 → s.heap.get? b = some o → h'.get? b = some o) → Q (some (.ref (s.heap.objs.size + 1))) { s with heap := h', toks := tk + 1 }) :
    wpAny (model prog w) A (pyNext (.ref e)) Q E s := by
  have hT : s.TypeIs (.ref e) "enumerate" := ⟨_, he, rfl⟩
  unfold pyNext
  exact wpAny_bind (wpAny_attempt (wpAny_callSpecial?_slot (name := Str.ofString "__next__") hT F.slot_enumerate_next (wpAny_call_entry F.slot_enumerate_next hT F.entry_enumerate_next (enum_item D st he hne hx hy fun h' tk a b c d e f => wpAny_pure (hQ h' tk a b c d e f)) (F.args_enumerate_next_1 _))))
theorem py_enum_last {e z TI TO i1 i2 l1 l2 : Addr} {xs ys : Array Value} {k : Nat} {c : Int} {old : Value} {Q : Option Value → Shared → Prop} (hh : A.handled = none) (D : Far z TI TO i1 i2 l1 l2) (st : At s.heap z TI TO i1 i2 l1 l2 xs ys k) (he : IsEnum s.heap e z c old) (hx : xs[k]? = none) (hy : ys[k]? = none)
    (hQ : ∀ h', (∀ b o, b ≠ z → b ≠ TO → b ≠ i1 → b ≠ i2 → s.heap.get? b = some o → h'.get? b = some o) → Q none { s with heap := h' }) : wpAny (model prog w) A (pyNext (.ref e)) Q E s := by
  have hT : s.TypeIs (.ref e) "enumerate" := ⟨_, he, rfl⟩
  unfold pyNext
  refine wpAny_bind (wpAny_attempt (wpAny_callSpecial?_slot (name := Str.ofString "__next__") hT F.slot_enumerate_next (wpAny_call_entry F.slot_enumerate_next hT F.entry_enumerate_next ?_ (F.args_enumerate_next_1 _))))
  show wpAny _ _ (field (.ref e) 2 >>= _) _ _ _
  refine wpAny_bind (wpAny_field he rfl (x := .ref z) rfl ?_)
  have hTz := cell_ty st.cell
  unfold Builtin.SmallTypes.nextOf
  refine wpAny_bind (wpAny_bind (wpAny_callSpecial?_slot (name := Str.ofString "__next__") hTz F.slot_zip_next (wpAny_call_entry F.slot_zip_next hTz F.entry_zip_next (last hh D st hx hy fun h' x a b => ?_) (F.args_zip_next_1 _))))
  obtain ⟨o, ho, hc⟩ := b
  exact wpAny_bind (wpAny_isInstance (T := "StopIteration") (b := true) ⟨o, ho, hc⟩ isSubtype_stop (wpAny_pure (hQ h' a)))
end
end Zs

end Text_ZS4
section Text_ZS5
set_option maxHeartbeats 4000000
namespace Zs
open PySem PySem.Spec PyProof.Rows L2
open Sem (wp)
/-! ## over the layer -/
theorem inv_many {X : Cx} {pins : List (Addr × Obj)} {σ : L2.St} {H H' : Hp} {s : Shared} {h' : Heap} {tk : Nat} (I : Inv X pins σ H s) (hk : ∀ b o, s.heap.get? b = some o → h'.get? b = some o) (kp : ∀ b u, H b = some u → H' b = some u) (off : ∀ b o, s.heap.get? b = some o → H b = none → H' b = none)
    (ok : ∀ b u, H b = none → H' b = some u → ObjOk X.prog X.w H' h' b u) : Inv X pins σ H' { s with heap := h', toks := tk } := by
  refine I.call' (ch := []) rfl ⟨fun b o q _ _ _ => hk b o q, fun b o q _ _ _ => ⟨o.slots, hk b o q⟩, fun b o q n _ => off b o q n, fun b o q _ => ⟨o, hk b o q⟩, fun b xs q => kp b _ q, fun b o u q => kp b _ q, fun b ps q => ⟨#[], by rw [kp b _ q]; simp⟩⟩ (fun b u q => ?_) I.bare fun b z => by simp at z
  cases e : H b with
  | none => exact ok b u e q
  | some v =>
    have := kp b v e
    rw [q] at this
    cases this
    exact (I.hok b u e).stay (fun d v _ y => hk d v y) (fun d y => kp d _ y) fun d xs y => kp d _ y
def put2 : Hp → List Addr → List (V × V) → Hp
  | H, a :: as, p :: ps => put2 (upd H a (.tup [p.1, p.2])) as ps
  | H, _, _ => H
theorem put2_off {b : Addr} : ∀ (as : List Addr) (ps : List (V × V)) (H : Hp), b ∉ as → put2 H as ps b = H b
  | [], _, _, _ => rfl
  | _ :: _, [], _, _ => rfl
  | a :: as, p :: ps, H, h => by
    show put2 (upd H a (.tup [p.1, p.2])) as ps b = H b
    rw [put2_off as ps _ (fun z => h (List.mem_cons_of_mem _ z)), upd_ne (fun z => h (by rw [z]; exact List.mem_cons_self))]
theorem put2_at : ∀ (as : List Addr) (ps : List (V × V)) (H : Hp) (i : Nat) (a : Addr) (p : V × V), as.Nodup → as[i]? = some a → ps[i]? = some p → put2 H as ps a = some (.tup [p.1, p.2])
  | [], _, _, i, _, _, _, h, _ => by simp at h
  | _ :: _, [], _, i, _, _, _, _, h => by simp at h
  | a :: as, p :: ps, H, 0, b, q, nd, h1, h2 => by
    have e1 : a = b := by simpa using h1
    have e2 : p = q := by simpa using h2
    subst e1 e2
    show put2 (upd H a (.tup [p.1, p.2])) as ps a = _
    rw [put2_off as ps _ (List.nodup_cons.mp nd).1, upd_same]
  | a :: as, p :: ps, H, i + 1, b, q, nd, h1, h2 => put2_at as ps _ i b q (List.nodup_cons.mp nd).2 (by simpa using h1) (by simpa using h2)
section
variable {X : Cx} {p zp pos zpos kp : Pos} {a b n : Expr} {ta : TA} {tn : TE} {kk : Nat} {elts : List Expr} {tpos : Pos}
abbrev zipE (zp zpos kp sp : Pos) (kk : Nat) (a b : Expr) : Expr := .Call (.Name "zip" zp) [a, b] [⟨some "strict", .Constant (.bool true) kk sp, kp⟩] zpos
/-- a call of a built-in class with keywords -/
theorem cw_kw {M : Model} {A : Around} {E : Value → Shared → Prop} {s : Shared} {pos : Pos} {T : String} {x : Sem Value} {rest : List (Bool × Sem Value)} {kws : List (Option Str × Sem Value)} {Q : Value → Shared → Prop} (hp : rest.any (·.1) = false) (hn : kws.any (·.1.isNone) = false) (hall : kws.all (·.1.isSome) = true)
    (h : wpAny M A (spliced ((false, x) :: rest)) (fun vs s1 => wpAny M A (evalAll (kws.map (·.2))) (fun zs s2 => wpAny M A (call (.type T) vs ((kws.filterMap (·.1)).zip zs)) Q E s2) E s1) E s) : wpAny M A (callWith pos (.type T) [] ((false, x) :: rest) kws) Q E s := by
  unfold callWith
  refine wpAny_bind (wpAny_holding (wpAny_mono (evalArgs_kwB (Q := fun a s1 => wpAny M A (call (.type T) a.pos a.kw) Q E s1) hall h) (fun a s1 h1 => wpAny_bind (wpAny_standAt ?_)) fun _ _ x => x))
  have hp' : ((false, x) :: rest).any (·.1) = false := by simpa using hp
  simp only [hp', hn, Bool.or_false]
  refine wpAny_bind (wpAny_pure ?_)
  exact wpAny_bind (wpAny_mono h1 (fun r s2 hr => wpAny_bind (wpAny_holding (wpAny_point (wpAny_pure hr)))) fun _ _ x => x)
/-- zip(a, b, strict=True): the zip laid -/
theorem zip_run {sp : Pos} {pins : List (Addr × Obj)} {s : Shared} {σ : L2.St} {H : Hp} {Q : Value → Shared → Prop} {R : List V → Hp → Prop} (hg : Gl X "zip") (hm : X.mg "zip" = none) (ha : PA X [a, b] ta) (I : Inv X pins σ H s) (h : ta σ H R)
    (hs : starEach [a, b] X.env = (false, eval a X.env) :: starEach [b] X.env) (hpl : (backTo zpos (starEach [b] X.env)).any (·.1) = false)
    (q : ∀ vs H1, R vs H1 → ∃ (u v : Addr) (xs ys : List V), vs = [.ref u, .ref v] ∧ SqL X.K H1 u xs ∧ SqL X.K H1 v ys ∧ ∀ (s1 : Shared) (h' : Heap) (ix iy : List Value) (z TI TO i1 i2 : Addr), Inv X pins σ H1 s1 → Vals xs ix → Vals ys iy → At h' z TI TO i1 i2 u v ix.toArray iy.toArray 0 → Far z TI TO i1 i2 u v → (∀ b o, s1.heap.get? b = some o → h'.get? b = some o) → (∀ b ∈ [z, TI, TO, i1, i2], s1.heap.objs.size ≤ b) → Q (.ref z) { s1 with heap := h' }) :
    wpAny (model X.prog X.w) X.A (eval (zipE zp zpos kp sp kk a b) X.env) Q X.xe s := by
  refine wpAny_Call_Name_kw (ld_blt I hg hm PyProof.Rows.boot_zip ?_)
  have hb : backTo zpos (starEach [a, b] X.env) = (false, (do let v ← eval a X.env; standAt zpos; pure v)) :: backTo zpos (starEach [b] X.env) ∨ True := .inr trivial
  rw [hs]
  show wpAny _ _ (callWith zpos (.type "zip") [] ((false, eval a X.env) :: backTo zpos (starEach [b] X.env)) _) _ _ s
  refine cw_kw hpl rfl rfl ?_
  have hrun := ha.run zpos pins s σ H R I h
  rw [hs] at hrun
  refine thn hrun fun us s1 ⟨vs, H1, I1, r1, q1⟩ => ?_
  obtain ⟨u, v, xs, ys, rfl, hx, hy, q2⟩ := q vs H1 q1
  show wpAny _ _ (evalAll [_]) _ _ _
  refine evalAll_cons (wpAny_bind (thn ((pe_bl (X := X)).run pins s1 σ H1 (fun v H2 => v = .bl true ∧ H2 = H1) I1 ⟨rfl, rfl⟩) fun w s2 ⟨t, H2, I2, r2, e1, e2⟩ => wpAny_bind (wpAny_standAt (wpAny_pure (evalAll_nil ?_)))))
  subst e1
  subst e2
  cases r2
  cases r1 with
  | cons ru rr =>
    cases rr with
    | cons rv rr =>
      cases rr
      cases ru
      cases rv
      obtain ⟨ix, r1, p1, _⟩ := I2.list hx
      obtain ⟨iy, r2, p2, _⟩ := I2.list hy
      refine call_new p1.isList p2.isList fun h' st hz hk => ?_
      refine q2 s2 h' ix iy _ _ _ _ _ I2 r1 r2 st (far_new p1.lt p2.lt) hk fun b hb => ?_
      simp only [List.mem_cons, List.not_mem_nil, or_false] at hb
      rcases hb with e | e | e | e | e <;> rw [e]
      · exact Nat.le_add_right _ _
      · exact Nat.le_add_right _ _
      · exact Nat.le_add_right _ _
      · exact Nat.le_refl _
      · exact Nat.le_add_right _ _
end
end Zs

end Text_ZS5
section Text_ZS6
set_option maxHeartbeats 4000000
namespace Zs
open PySem PySem.Spec PyProof.Rows L2
open Sem (wp)
section
variable {X : Cx} {p zp pos zpos kp lp : Pos} {a b n : Expr} {ta : TA} {tn : TE} {kk : Nat} {elts : List Expr} {tpos : Pos}
/-- list(zip(a, b, strict=True)) -/
def tListZip (K : PySem.W.Frag) (ta : TA) : TE := fun σ H Q => ta σ H fun vs H1 => ∃ (u v : Addr) (xs ys : List V), vs = [.ref u, .ref v] ∧ SqL K H1 u xs ∧ SqL K H1 v ys ∧ xs.length = ys.length ∧ xs.length ≤ 1000 ∧
  ∀ (H' : Hp) (S : Addr) (as : List Addr), (∀ c o, H1 c = some o → H' c = some o) → H1 S = none → (∀ c ∈ as, H1 c = none) → H' S = some (.lst (as.map V.ref)) → as.length = xs.length → (∀ (i : Nat) (c : Addr) (x y : V), as[i]? = some c → xs[i]? = some x → ys[i]? = some y → H' c = some (.tup [x, y])) → Q (.ref S) H'
theorem vals_size {xs : List V} {us : List Value} (r : Vals xs us) : us.toArray.size = xs.length := by rw [List.size_toArray, r.length]
theorem refs_vals : ∀ as : List Addr, Vals (as.map V.ref) (as.map Value.ref)
  | [] => .nil
  | _ :: as => .cons rfl (refs_vals as)
theorem pe_listZip {sp : Pos} (hc : X.calm = true) (hg : Gl X "list") (hm : X.mg "list" = none) (hg2 : Gl X "zip") (hm2 : X.mg "zip" = none) (ha : PA X [a, b] ta) (hv : bootBuiltins "list" = some (.type "list"))
    (hs : starEach [a, b] X.env = (false, eval a X.env) :: starEach [b] X.env := by rfl) (hpl : (backTo zpos (starEach [b] X.env)).any (·.1) = false := by rfl)
    (hs2 : starEach [zipE zp zpos kp sp kk a b] X.env = (false, eval (zipE zp zpos kp sp kk a b) X.env) :: starEach [] X.env := by rfl) :
    PE X (.Call (.Name "list" lp) [zipE zp zpos kp sp kk a b] [] pos) (tListZip X.K ta) := by
  refine ⟨fun pins s σ H Q I hq => ?_⟩
  refine wpAny_Call_Name_kw (ld_blt I hg hm hv ?_)
  refine PyProof.Rows.callWith_type1 ?_ hs2 rfl
  rw [hs2]
  show wpAny _ _ (spliced ((false, eval (zipE zp zpos kp sp kk a b) X.env) :: backTo pos (starEach [] X.env))) _ _ s
  refine Calls.spliced_cons ?_
  refine zip_run (zpos := zpos) hg2 hm2 ha I hq hs hpl fun vs H1 q1 => ?_
  obtain ⟨u, v, xs, ys, e, hx, hy, hl, hn, q⟩ := q1
  refine ⟨u, v, xs, ys, e, hx, hy, fun s1 h1 ix iy z TI TO i1 i2 I1 r1 r2 st D hk hlow => ?_⟩
  refine Calls.spliced_nil ?_
  have l1 := vals_size r1
  have l2 := vals_size r2
  refine call_list (s := { s1 with heap := h1 }) (I.ok.hd hc) D (by rw [l1, l2, hl]) (by rw [l1]; exact hn) st fun h' acc c_ as hS he hl' hC hk' => ?_
  have low : ∀ c o, s1.heap.get? c = some o → c < s1.heap.objs.size := fun c o e => Heap.lt_size e
  have zl : ∀ {b : Addr} {o : Obj}, s1.heap.get? b = some o → ∀ c ∈ [z, TI, TO, i1, i2], b ≠ c := fun {b o} e c hc z => Nat.lt_irrefl _ (Nat.lt_of_lt_of_le (z ▸ low b o e) (hlow c hc))
  have hk2 : ∀ b o, s1.heap.get? b = some o → h'.get? b = some o := fun b o e => hk' b o (zl e z (by simp)) (zl e TO (by simp)) (zl e i1 (by simp)) (zl e i2 (by simp)) (hk b o e)
  have up : ∀ {b : Addr} {o : Obj}, s1.heap.get? b = some o → b < h1.objs.size := fun {b o} e => Heap.lt_size (hk b o e)
  have nS : ∀ {b : Addr}, h1.objs.size ≤ b → H1 b = none := fun {b} hb => by
    cases e : H1 b with
    | none => rfl
    | some o =>
      refine absurd hb (Nat.not_le.mpr ?_)
      have := I1.hok.fresh (a := b)
      by_cases hlt : b < s1.heap.objs.size
      · have : s1.heap.objs.size ≤ h1.objs.size := by
          have l := st.low
          have := hlow z (by simp)
          exact Nat.le_of_lt (Nat.lt_of_le_of_lt this l.1)
        exact Nat.lt_of_lt_of_le hlt this
      · rw [I1.hok.fresh (Nat.le_of_not_lt hlt)] at e
        cases e
  have nSn : H1 h1.objs.size = none := nS (Nat.le_refl _)
  have nAs : ∀ c ∈ as, H1 c = none := fun c hc => nS (Nat.le_of_lt (hC.young c hc))
  have Sn : h1.objs.size ∉ as := fun z => Nat.lt_irrefl _ (hC.young _ z)
  let ps := xs.zip ys
  have hps : ps.length = as.length := by rw [List.length_zip, hl', l1]; omega
  let H' := put2 (upd H1 h1.objs.size (.lst (as.map V.ref))) as ps
  have eS : H' h1.objs.size = some (.lst (as.map V.ref)) := by
    show put2 _ as ps _ = _
    rw [put2_off as ps _ Sn, upd_same]
  have eA : ∀ (i : Nat) (c : Addr) (x y : V), as[i]? = some c → xs[i]? = some x → ys[i]? = some y → H' c = some (.tup [x, y]) := fun i c x y e1 e2 e3 => put2_at as ps _ i c (x, y) hC.nd e1 (by rw [List.getElem?_zip_eq_some]; exact ⟨e2, e3⟩)
  have off : ∀ c, c ∉ as → c ≠ h1.objs.size → H' c = H1 c := fun c n1 n2 => by
    show put2 _ as ps c = _
    rw [put2_off as ps _ n1, upd_ne n2]
  have kp : ∀ c o, H1 c = some o → H' c = some o := fun c o e => by
    rw [off c (fun z => by rw [nAs c z] at e; cases e) (fun z => by rw [z, nSn] at e; cases e)]
    exact e
  suffices J : Inv X pins σ H' { s1 with heap := h', toks := s1.toks } from ⟨.ref h1.objs.size, H', J, rfl, q H' h1.objs.size as kp nSn nAs eS (by rw [hl', l1]) eA⟩
  refine inv_many (s := s1) I1 hk2 kp (fun c o e n => ?_) (fun c o n e => ?_)
  · rw [off c (fun z => Nat.lt_irrefl _ (Nat.lt_trans (hC.young c z) (up e))) (fun z => Nat.lt_irrefl _ (z ▸ up e))]
    exact n
  · by_cases hc : c ∈ as
    · obtain ⟨i, hi⟩ := List.getElem?_of_mem hc
      obtain ⟨ux, uy, e1, e2, e3⟩ := hC.held i c hi
      have hlt : i < as.length := (List.getElem?_eq_some_iff.mp hi).1
      have hx1 : xs[i]? = some (xs[i]'(by rw [hl', l1] at hlt; exact hlt)) := List.getElem?_eq_getElem _
      have hy1 : ys[i]? = some (ys[i]'(by rw [hl', l1] at hlt; omega)) := List.getElem?_eq_getElem _
      rw [eA i c _ _ hi hx1 hy1] at e
      cases e
      obtain ⟨u1, g1, g2⟩ := r1.get hx1
      obtain ⟨u2, g3, g4⟩ := r2.get hy1
      have e1' : ix[i]? = some ux := by simpa using e1
      have e2' : iy[i]? = some uy := by simpa using e2
      rw [e1'] at g1
      rw [e2'] at g3
      cases g1
      cases g3
      exact ⟨by show 2 ≤ sizeLine; decide, [ux, uy], .cons g2 (.cons g4 .nil), ⟨_, e3, rfl, _, rfl⟩⟩
    · by_cases hc2 : c = h1.objs.size
      · rw [hc2] at e ⊢
        rw [eS] at e
        cases e
        refine ⟨by rw [List.length_map, hl', l1, sizeLine_eq]; omega, acc.toList, c_, by rw [he]; exact refs_vals as, ?_⟩
        rw [Array.toArray_toList]
        exact hS
      · rw [off c hc hc2, n] at e
        cases e
/-! enumerate(zip(a, b, strict=True), n) -/
def Itez (K : PySem.W.Frag) (u v : Addr) (k0 : Int) : It :=
  ⟨fun i H => ∃ (xs ys : List V) (x y : V), SqL K H u xs ∧ SqL K H v ys ∧ xs[i]? = some x ∧ ys[i]? = some y,
    fun i H w H' => ∃ T T2 x y, w = .ref T ∧ H T2 = none ∧ H T = none ∧ T ≠ T2 ∧ H' = upd (upd H T2 (.tup [x, y])) T (.tup [.int (k0 + (i : Nat)), .ref T2]) ∧ (∀ xs, SqL K H u xs → xs[i]? = some x) ∧ ∀ ys, SqL K H v ys → ys[i]? = some y,
    fun i H => ∃ xs ys : List V, SqL K H u xs ∧ SqL K H v ys ∧ xs.length ≤ i ∧ ys.length ≤ i⟩
end
end Zs

end Text_ZS6
section Text_ZS7
set_option maxHeartbeats 4000000
namespace Zs
open PySem PySem.Spec PyProof.Rows L2
open Sem (wp)
theorem turn_ez {P : Program} {w : World} {K : PySem.W.Frag} {elts : List Expr} {kk : Nat} {tpos : Pos} {e z TI TO i1 i2 u v : Addr} {ix iy : Array Value} {k0 : Int} (D : Far z TI TO i1 i2 u v) (hne : ∀ b ∈ [z, TI, TO, i1, i2, u, v], b ≠ e) :
    Turn P w K (.Tuple elts kk tpos) (Itez K u v k0) [e, z, TI, TO, i1, i2] e (fun i h => (∃ old, IsEnum h e z (k0 + (i : Nat)) old) ∧ Cell h z TI TO ∧ Two h TI (.ref i1) (.ref i2) ∧ (∃ x y, Two h TO x y) ∧ h.IsListIter i1 u i ∧ h.IsListIter i2 v i) where
  mem := by simp
  obj := fun i h st c hc => by
    obtain ⟨⟨old, he⟩, ⟨f0, f, _, hz⟩, hTI, ⟨x, y, hTO⟩, ⟨o1, e1, _, d1⟩, ⟨o2, e2, _, d2⟩⟩ := st
    simp only [List.mem_cons, List.not_mem_nil, or_false] at hc
    rcases hc with q | q | q | q | q | q <;> rw [q]
    · exact ⟨_, he, fun v q => nomatch q⟩
    · exact ⟨_, hz, fun v q => nomatch q⟩
    · exact ⟨_, hTI, fun v q => nomatch q⟩
    · exact ⟨_, hTO, fun v q => nomatch q⟩
    · exact ⟨o1, e1, fun v q => by rw [d1] at q; cases q⟩
    · exact ⟨o2, e2, fun v q => by rw [d2] at q; cases q⟩
  keep := fun i h h' st k => by
    obtain ⟨⟨old, he⟩, ⟨f0, f, hf, hz⟩, hTI, ⟨x, y, hTO⟩, h1, h2⟩ := st
    exact ⟨⟨old, k e (by simp) _ he⟩, ⟨f0, f, hf, k z (by simp) _ hz⟩, k TI (by simp) _ hTI, ⟨x, y, k TO (by simp) _ hTO⟩, h1.at fun o q => k i1 (by simp) o q, h2.at fun o q => k i2 (by simp) o q⟩
  item := by
    intro X hP hw hK hc i pins s σ H E I hf st hg
    subst hP hw hK
    obtain ⟨⟨old, he⟩, hz, hTI, hTO, h1, h2⟩ := st
    obtain ⟨xs, ys, x, y, hqx, hqy, hx, hy⟩ := hg
    obtain ⟨its, rv, p1, _⟩ := I.list hqx
    obtain ⟨its2, rv2, p2, _⟩ := I.list hqy
    obtain ⟨ux, hu, ru⟩ := rv.get hx
    obtain ⟨uy, hu2, ru2⟩ := rv2.get hy
    have st : At s.heap z TI TO i1 i2 u v its.toArray its2.toArray i := ⟨hz, hTI, hTO, h1, h2, p1.isList, p2.isList⟩
    have low : ∀ {b : Addr} {o : Obj}, s.heap.get? b = some o → b ≠ s.heap.objs.size := fun q => Nat.ne_of_lt (Heap.lt_size q)
    have low2 : ∀ {b : Addr} {o : Obj}, s.heap.get? b = some o → b ≠ s.heap.objs.size + 1 := fun q => Nat.ne_of_lt (Nat.lt_succ_of_lt (Heap.lt_size q))
    have elt : e < s.heap.objs.size := Heap.lt_size he
    refine py_enum_item D st he hne (x := ux) (y := uy) (by simpa using hu) (by simpa using hu2) fun h' tk ho st' tw te hsz hk => ?_
    refine ⟨_, rfl, wpAny_letOwnedTupleGo_enum (s := { s with heap := h', toks := tk + 1 }) ho fun h'' he' sb => ?_⟩
    have kk : ∀ b o, b ≠ e → h'.get? b = some o → h''.get? b = some o := fun b o n q => (sb.2 b n).trans q
    have tw2 : Two h'' s.heap.objs.size ux uy := kk _ _ (Nat.ne_of_gt elt) tw
    have te2 : Two h'' (s.heap.objs.size + 1) (.int (k0 + (i : Nat)) tk) (.ref s.heap.objs.size) := kk _ _ (Nat.ne_of_gt (Nat.lt_succ_of_lt elt)) te
    have I1 : Inv X pins σ (upd H s.heap.objs.size (.tup [x, y])) { s with heap := s.heap.push { cls := .type "tuple", data := .seq #[ux, uy] }, toks := s.toks } :=
      I.laid (t' := s.toks) (fun b o q => Heap.get?_push_of_some _ q) (Nat.le_refl _) ⟨by show 2 ≤ sizeLine; decide, [ux, uy], .cons ru (.cons ru2 .nil), ⟨_, Heap.get?_push_size _ rfl, rfl, _, rfl⟩⟩
    have hlive : ∀ b ∈ [e, z, TI, TO, i1, i2], b ≠ s.heap.objs.size ∧ b ≠ s.heap.objs.size + 1 := fun b hb => by
      obtain ⟨_, _, _, hz⟩ := hz
      obtain ⟨_, _, hTO⟩ := hTO
      obtain ⟨_, q1, _⟩ := h1
      obtain ⟨_, q2, _⟩ := h2
      simp only [List.mem_cons, List.not_mem_nil, or_false] at hb
      rcases hb with q | q | q | q | q | q <;> rw [q]
      · exact ⟨low he, low2 he⟩
      · exact ⟨low hz, low2 hz⟩
      · exact ⟨low hTI, low2 hTI⟩
      · exact ⟨low hTO, low2 hTO⟩
      · exact ⟨low q1, low2 q1⟩
      · exact ⟨low q2, low2 q2⟩
    have hf1 : ∀ b ∈ [e, z, TI, TO, i1, i2], FpOk X pins (upd H s.heap.objs.size (.tup [x, y])) b := fun b hb => by
      obtain ⟨f1, f2⟩ := hf b hb
      exact ⟨by rw [upd_ne (hlive b hb).1]; exact f1, f2⟩
    have sp : (s.heap.push { cls := .type "tuple", data := .seq #[ux, uy] }).objs.size = s.heap.objs.size + 1 := Heap.size_push ..
    have I2 : Inv X pins σ (upd (upd H s.heap.objs.size (.tup [x, y])) (s.heap.objs.size + 1) (.tup [.int (k0 + (i : Nat)), .ref s.heap.objs.size])) { s with heap := h'', toks := tk + 1 } := by
      refine I1.turnedNew (t' := tk + 1) (ch := [e, z, TI, TO, i1, i2]) (fun b o hb q => ?_) hf1 (by rw [sp]; exact Nat.le_refl _) ⟨by show 2 ≤ sizeLine; decide, [.int (k0 + (i : Nat)) tk, .ref s.heap.objs.size], .cons ⟨_, rfl⟩ (.cons rfl .nil), ⟨_, te2, rfl, _, rfl⟩⟩
      by_cases hbn : b = s.heap.objs.size
      · subst hbn
        have q2 : (s.heap.push { cls := .type "tuple", data := .seq #[ux, uy] }).get? s.heap.objs.size = some { cls := .type "tuple", data := .seq #[ux, uy] } := Heap.get?_push_size _ rfl
        have q3 : (s.heap.push { cls := .type "tuple", data := .seq #[ux, uy] }).get? s.heap.objs.size = some o := q
        rw [q2] at q3
        cases q3
        exact tw2
      · have q3 : (s.heap.push { cls := .type "tuple", data := .seq #[ux, uy] }).get? b = some o := q
        have hlt : b < s.heap.objs.size := by
          have := Heap.lt_size q3
          rw [sp] at this
          exact Nat.lt_of_le_of_ne (Nat.le_of_lt_succ this) hbn
        have q4 : s.heap.get? b = some o := by
          have e1 := (Heap.get?_some_iff.mp q3)
          refine Heap.get?_some_iff.mpr ⟨?_, e1.2⟩
          rw [← e1.1]
          show s.heap.objs[b]? = (s.heap.objs.push _)[b]?
          rw [Array.getElem?_push_lt hlt]
          exact Array.getElem?_eq_getElem hlt
        exact kk b o (fun z => hb (by simp [z])) (hk b o (fun z => hb (by simp [z])) (fun z => hb (by simp [z])) (fun z => hb (by simp [z])) (fun z => hb (by simp [z])) (fun z => hb (by simp [z])) q4)
    have n1 : H s.heap.objs.size = none := I.hok.fresh (Nat.le_refl _)
    have n2 : H (s.heap.objs.size + 1) = none := I.hok.fresh (Nat.le_succ _)
    refine ⟨.ref (s.heap.objs.size + 1), _, I2, rfl, ⟨_, s.heap.objs.size, x, y, rfl, n1, n2, Nat.succ_ne_self _, rfl, fun l hl => by rw [I.list_inj hl hqx]; exact hx, fun l hl => by rw [I.list_inj hl hqy]; exact hy⟩, ?_, fun b hb => ?_⟩
    · obtain ⟨f0, f, hf, hz'⟩ := st'.cell
      obtain ⟨a, b, hab⟩ := st'.kept
      refine ⟨⟨.ref s.heap.objs.size, ?_⟩, ⟨f0, f, hf, kk _ _ (hne z (by simp)) hz'⟩, kk _ _ (hne TI (by simp)) st'.its, ⟨a, b, kk _ _ (hne TO (by simp)) hab⟩, st'.p1.at fun o q => kk _ o (hne i1 (by simp)) q, st'.p2.at fun o q => kk _ o (hne i2 (by simp)) q⟩
      have e1 : k0 + ((i + 1 : Nat) : Int) = k0 + (i : Int) + 1 := by omega
      rw [e1]
      exact he'
    · rw [upd_ne (hlive b hb).2, upd_ne (hlive b hb).1]
      exact (hf b hb).1
  done := by
    intro X hP hw hK hc i pins s σ H E I hf st hg
    subst hP hw hK
    obtain ⟨⟨old, he⟩, hz, hTI, hTO, h1, h2⟩ := st
    obtain ⟨xs, ys, hqx, hqy, l1, l2⟩ := hg
    obtain ⟨its, rv, p1, _⟩ := I.list hqx
    obtain ⟨its2, rv2, p2, _⟩ := I.list hqy
    have e1 := rv.length
    have e2 := rv2.length
    have st : At s.heap z TI TO i1 i2 u v its.toArray its2.toArray i := ⟨hz, hTI, hTO, h1, h2, p1.isList, p2.isList⟩
    exact py_enum_last (I.ok.hd hc) D st he (by simp; omega) (by simp; omega) fun h' hk => ⟨rfl, I.turnedL (t' := s.toks) (ch := [e, z, TI, TO, i1, i2]) (fun c o hb q => hk c o (fun q' => hb (by simp [q'])) (fun q' => hb (by simp [q'])) (fun q' => hb (by simp [q'])) (fun q' => hb (by simp [q'])) q) hf⟩
  self := fun A i s Q E st h => let ⟨⟨_, he⟩, _⟩ := st; wpAny_pyIter_enum he h
section
variable {X : Cx} {p zp pos zpos kp ep np : Pos} {a b : Expr} {ta : TA} {kk : Nat} {elts : List Expr} {k9 : Nat} {tpos : Pos} {j : Nat} {x : Str}
theorem var_run {pins : List (Addr × Obj)} {s : Shared} {σ : L2.St} {H : Hp} {v : V} {E : Value → Shared → Prop} {Q : Value → Shared → Prop} (I : Inv X pins σ H s) (hN : X.N[j]? = some x) (hv : Vis X.env.scope x) (hd : (x == ("__debug__" : Str)) = false) (hcd : (x == ("__classdict__" : Str)) = false) (e : σ[j]? = some (some v)) (h : ∀ u, RelV v u → Q u s) :
    wpAny (model X.prog X.w) X.A (eval (.Name x np) X.env) Q E s := by
  obtain ⟨m, hn, hl⟩ := I.loc
  obtain ⟨u, r, l⟩ := hl j x v hN e hv
  rcases l with ⟨hk, hm⟩ | ⟨hk, c, hc, hcell⟩
  · exact wpAny_Name (wpAny_loadName_local I.ok.kind hk hn hm (h u r)) hd
  · rcases hk with hk | hk
    · exact wpAny_Name (wpAny_loadName_cell I.ok.kind hk hc hcell (h u r)) hd
    · exact wpAny_Name (wpAny_loadName_free I.ok.kind hk hc hcell (h u r) hcd) hd
def iEz (K : PySem.W.Frag) (ta : TA) (j : Nat) : TI := fun σ H R => ta σ H fun vs H1 => ∃ (u v : Addr) (xs ys : List V), vs = [.ref u, .ref v] ∧ SqL K H1 u xs ∧ SqL K H1 v ys ∧ ∃ (k0 : Int), σ[j]? = some (some (.int k0)) ∧ 0 ≤ k0 ∧ k0 ≤ 1000 ∧ R (Itez K u v k0) H1
theorem pi_ez {sp : Pos} (hg : Gl X "enumerate") (hm : X.mg "enumerate" = none) (hg2 : Gl X "zip") (hm2 : X.mg "zip" = none) (ha : PA X [a, b] ta) (hN : X.N[j]? = some x) (hv : Vis X.env.scope x) (hd : (x == ("__debug__" : Str)) = false := by decide) (hcd : (x == ("__classdict__" : Str)) = false := by decide)
    (hs : starEach [a, b] X.env = (false, eval a X.env) :: starEach [b] X.env := by rfl) (hpl : (backTo zpos (starEach [b] X.env)).any (·.1) = false := by rfl)
    (hs2 : starEach [zipE zp zpos kp sp kk a b, .Name x np] X.env = [(false, eval (zipE zp zpos kp sp kk a b) X.env), (false, eval (.Name x np) X.env)] := by rfl) :
    PI X (.Tuple elts k9 tpos) (.Call (.Name "enumerate" ep) [zipE zp zpos kp sp kk a b, .Name x np] [] pos) (iEz X.K ta j) := by
  refine ⟨fun pins s σ H R I hq => ?_⟩
  refine wpAny_Call_Name_kw (ld_blt I hg hm boot_enumerate ?_)
  rw [hs2]
  show wpAny _ _ (callWith pos (.type "enumerate") [] ((false, eval (zipE zp zpos kp sp kk a b) X.env) :: backTo pos [(false, eval (.Name x np) X.env)]) []) _ _ s
  refine cw_kw rfl rfl rfl ?_
  refine Calls.spliced_cons ?_
  refine zip_run (zpos := zpos) hg2 hm2 ha I hq hs hpl fun vs H1 q1 => ?_
  obtain ⟨u, v, xs, ys, e, hx, hy, k0, hk0, hk1, hk2, q⟩ := q1
  refine ⟨u, v, xs, ys, e, hx, hy, fun s1 h1 ix iy z TI TO i1 i2 I1 r1 r2 st D hk hlow => ?_⟩
  have I2 : Inv X pins σ H1 { s1 with heap := h1 } := I1.kept (t' := s1.toks) hk
  refine Calls.spliced_cons (var_run I2 hN hv hd hcd hk0 fun w rw1 => Calls.spliced_nil (evalAll_nil ?_))
  obtain ⟨t, rfl⟩ := rw1
  have lo := st.low
  have nl := not_of_low lo
  refine call_enum (s := { s1 with heap := h1 }) st.cell (by omega) (by omega) fun h' he hz hk3 => wpAny_pyIter_enum he ?_
  have I3 : Inv X pins σ H1 { s1 with heap := h' } := I1.kept (t' := s1.toks) fun b o e => hk3 b o (hk b o e)
  have st' := st.stay fun b _ o e => hk3 b o e
  refine ⟨h1.objs.size, [h1.objs.size, z, TI, TO, i1, i2], _, _, H1, rfl, I3, turn_ez (ix := ix.toArray) (iy := iy.toArray) (k0 := k0) D nl, ⟨⟨.none, by simpa using he⟩, st'.cell, st'.its, st'.kept, st'.p1, st'.p2⟩, fun c hc => ?_, q⟩
  have hle : s1.heap.objs.size ≤ c := by
    simp only [List.mem_cons, List.not_mem_nil, or_false] at hc
    rcases hc with e | e | e | e | e | e <;> rw [e]
    · exact Nat.le_of_lt (Nat.lt_of_le_of_lt (hlow z (by simp)) lo.1)
    · exact hlow z (by simp)
    · exact hlow TI (by simp)
    · exact hlow TO (by simp)
    · exact hlow i1 (by simp)
    · exact hlow i2 (by simp)
  have f := I1.fpOk hle (I1.hok.fresh hle)
  exact f
end
end Zs

end Text_ZS7
section Text_P9
set_option maxHeartbeats 4000000
namespace Pr
open PySem PySem.Spec PyProof.Rows L2
open C8 (Cal Mak Met pe_c pe_mk pe_mt pe_mt0)
/-! ## zip(.., strict=True) -/
section
variable {X : Cx} {p zp pos zpos kp lp ep np sp : Pos} {a b : Expr} {kk : Nat} {elts : List Expr} {k9 : Nat} {tpos : Pos} {δ : Sls}
theorem w_listZip {K : Sls → Dt → Prop} (hm : X.mg "list" = none) (hm2 : X.mg "zip" = none) (h : EK X a δ fun δ1 d1 => EK X b δ1 fun δ2 d2 => ∃ xs ys, d1 = .lst xs ∧ d2 = .lst ys ∧ xs.length = ys.length ∧ xs.length ≤ 1000 ∧ K δ2 (.lst (List.zipWith (fun x y => .tup [x, y]) xs ys))) (hc : X.calm = true := by rfl) (hg : Gl X "list" := by rfl) (hg2 : Gl X "zip" := by rfl)
    (hs : starEach [a, b] X.env = (false, eval a X.env) :: starEach [b] X.env := by rfl) (hsb : starEach [b] X.env = (false, eval b X.env) :: starEach [] X.env := by rfl) (hpl : (backTo zpos (starEach [b] X.env)).any (·.1) = false := by rfl)
    (hs2 : starEach [Zs.zipE zp zpos kp sp kk a b] X.env = (false, eval (Zs.zipE zp zpos kp sp kk a b) X.env) :: starEach [] X.env := by rfl) :
    EK X (.Call (.Name "list" lp) [Zs.zipE zp zpos kp sp kk a b] [] pos) δ K :=
  ek_of (Zs.pe_listZip hc hg hm hg2 hm2 (pa_cons ek_any (pa_cons ek_any pa_nil hsb) hs) (by decide +kernel) hs hpl hs2) fun σ H Q hq => by
    obtain ⟨S, g, q⟩ := hq
    refine te_seq g h fun v1 H1 d1 δ1 t1 g1 r1 h1 => te_seq g1 h1 fun v2 H2 d2 δ2 t2 g2 r2 h2 => ?_
    obtain ⟨xs, ys, rfl, rfl, hl, hn, k⟩ := h2
    obtain ⟨u, vs, rfl, hsu, hu, ru⟩ := rep_lst.mp (r1.mv (t2.mv g1))
    obtain ⟨v, us, rfl, hsv, hv, rv⟩ := rep_lst.mp r2
    refine ⟨u, v, vs, us, rfl, .inl (.inl hu), .inl (.inl hv), by rw [ru.length, rv.length, hl], by rw [ru.length]; exact hn, fun H' C as ex nC nA hC la hA => ?_⟩
    have ex : Ex H2 H' := ex
    have g3 : Gd S H' σ δ2 := g2.ex ex
    refine q (.ref C) H' _ δ2 (t1.trans (t2.trans (Ex.stp ex))) g3 (rep_lst.mpr ⟨C, _, rfl, not_S g2 nC, hC, ?_⟩) k
    have go : ∀ (as : List Addr) (xs ys : List Dt) (vs us : List V), as.length = vs.length → xs.length = ys.length → Reps S H2 xs vs → Reps S H2 ys us → (∀ c ∈ as, H2 c = none) → (∀ (i : Nat) (c : Addr) (x y : V), as[i]? = some c → vs[i]? = some x → us[i]? = some y → H' c = some (.tup [x, y])) → Reps S H' (List.zipWith (fun x y => .tup [x, y]) xs ys) (as.map V.ref) := by
      intro as
      induction as with
      | nil =>
        intro xs ys vs us l1 l2 r1 r2 _ _
        have e : xs = [] := List.eq_nil_of_length_eq_zero (by rw [← r1.length, ← l1]; rfl)
        subst e
        exact Reps.nil
      | cons c as ih =>
        intro xs ys vs us l1 l2 r1 r2 nA hA
        cases xs with
        | nil => rw [reps_nil.mp r1] at l1; cases l1
        | cons x xs =>
          cases ys with
          | nil => cases l2
          | cons y ys =>
            obtain ⟨vx, vr, rfl, a1, a2⟩ := reps_cons.mp r1
            obtain ⟨vy, ur, rfl, b1, b2⟩ := reps_cons.mp r2
            have tc := hA 0 c vx vy rfl rfl rfl
            exact Reps.cons (rep_tup.mpr ⟨c, _, rfl, not_S g2 (nA c (by simp)), tc, Reps.cons (a1.mv ex.mv) (Reps.cons (b1.mv ex.mv) Reps.nil)⟩)
              (ih xs ys vr ur (by simpa using l1) (by simpa using l2) a2 b2 (fun d hd => nA d (by simp [hd])) fun i d x y e1 e2 e3 => hA (i + 1) d x y (by simpa using e1) (by simpa using e2) (by simpa using e3))
    exact go as xs ys vs us la hl ru rv nA hA
theorem i_enumZip (j : Nat) {x : Str} {K : Sls → List Dt → Prop} (hm : X.mg "enumerate" = none) (hm2 : X.mg "zip" = none) (h : EK X a δ fun δ1 d1 => EK X b δ1 fun δ2 d2 => ∃ xs ys k0, d1 = .lst xs ∧ d2 = .lst ys ∧ xs.length = ys.length ∧ δ2[j]? = some (.v (.int k0)) ∧ 0 ≤ k0 ∧ k0 ≤ 1000 ∧ K δ2 ((List.zip xs ys).zipIdx.map fun x => .tup [.int (k0 + (x.2 : Nat)), .tup [x.1.1, x.1.2]]))
    (hN : X.N[j]? = some x := by rfl) (hv : Vis X.env.scope x := by first | exact Or.inl rfl | exact Or.inr (Or.inl rfl) | exact Or.inr (Or.inr rfl)) (hd : (x == ("__debug__" : Str)) = false := by decide) (hcd : (x == ("__classdict__" : Str)) = false := by decide) (hg : Gl X "enumerate" := by rfl) (hg2 : Gl X "zip" := by rfl)
    (hs : starEach [a, b] X.env = (false, eval a X.env) :: starEach [b] X.env := by rfl) (hsb : starEach [b] X.env = (false, eval b X.env) :: starEach [] X.env := by rfl) (hpl : (backTo zpos (starEach [b] X.env)).any (·.1) = false := by rfl)
    (hs2 : starEach [Zs.zipE zp zpos kp sp kk a b, .Name x np] X.env = [(false, eval (Zs.zipE zp zpos kp sp kk a b) X.env), (false, eval (.Name x np) X.env)] := by rfl) :
    IK X (.Tuple elts k9 tpos) (.Call (.Name "enumerate" ep) [Zs.zipE zp zpos kp sp kk a b, .Name x np] [] pos) δ K :=
  ik_of (Zs.pi_ez hg hm hg2 hm2 (pa_cons ek_any (pa_cons ek_any pa_nil hsb) hs) hN hv hd hcd hs hpl hs2) fun σ H R hq => by
    obtain ⟨S, g, q⟩ := hq
    refine te_seq g h fun v1 H1 d1 δ1 t1 g1 r1 h1 => te_seq g1 h1 fun v2 H2 d2 δ2 t2 g2 r2 h2 => ?_
    obtain ⟨xs, ys, k0, rfl, rfl, hl, hj, hk0, hk1, k⟩ := h2
    obtain ⟨u, vs, rfl, hsu, hu, ru⟩ := rep_lst.mp (r1.mv (t2.mv g1))
    obtain ⟨v, us, rfl, hsv, hv, rv⟩ := rep_lst.mp r2
    obtain ⟨o, ho, w, e1, e2⟩ := g2.ok j _ hj
    rw [rep_int.mp e2] at e1
    subst e1
    refine ⟨u, v, vs, us, rfl, .inl (.inl hu), .inl (.inl hv), k0, ho, hk0, hk1, q _ H2 δ2 _ (t1.trans t2) g2 ?_ k⟩
    intro S' H' m lv i
    have h1' : SqL X.K H' u vs := .inl (.inl (m u _ hsu hu).2)
    have h2' : SqL X.K H' v us := .inl (.inl (m v _ hsv hv).2)
    refine ⟨fun d hd => ?_, fun hi => ⟨vs, us, h1', h2', ?_⟩⟩
    · rw [List.getElem?_map, List.getElem?_zipIdx] at hd
      cases hz : (List.zip xs ys)[i]? with
      | none => rw [hz] at hd; cases hd
      | some z =>
        rw [hz] at hd
        have e0 : d = .tup [.int (k0 + (i : Nat)), .tup [z.1, z.2]] := by
          have := (Option.some.inj hd).symm
          simpa using this
        subst e0
        rw [List.getElem?_zip_eq_some] at hz
        obtain ⟨vx, hx, rx⟩ := ru.get hz.1
        obtain ⟨vy, hy, ry⟩ := rv.get hz.2
        refine ⟨⟨vs, us, vx, vy, h1', h2', hx, hy⟩, fun x H3 y => ?_⟩
        obtain ⟨T, T2, x1, y1, rfl, n2, n1, nt, rfl, z1, z2⟩ := y
        have e1 : vx = x1 := by
          have := z1 vs h1'
          rw [hx] at this
          exact Option.some.inj this
        have e2 : vy = y1 := by
          have := z2 us h2'
          rw [hy] at this
          exact Option.some.inj this
        subst e1 e2
        have nT : upd H' T2 (.tup [vx, vy]) T = none := by rw [upd_ne nt]; exact n1
        have ex : Ex H' (upd (upd H' T2 (.tup [vx, vy])) T (.tup [.int (k0 + (i : Nat)), .ref T2])) := (Ex.new n2).trans (Ex.new nT)
        refine ⟨ex, rep_tup.mpr ⟨T, _, rfl, fun z => lv T z n1, upd_same, Reps.cons (rep_int.mpr rfl) (Reps.cons (rep_tup.mpr ⟨T2, _, rfl, fun z => lv T2 z n2, ?_, Reps.cons ((rx.mv m).mv ex.mv) (Reps.cons ((ry.mv m).mv ex.mv) Reps.nil)⟩) Reps.nil)⟩⟩
        rw [upd_ne nt.symm, upd_same]
    · rw [ru.length, rv.length]
      rw [List.length_map, List.length_zipIdx, List.length_zip] at hi
      omega
end
end Pr

end Text_P9
section Text_P10
set_option maxHeartbeats 4000000
namespace Pr
open PySem PySem.Spec PyProof.Rows L2
open C8 (Cal Mak Met pe_c pe_mk pe_mt pe_mt0)
local macro_rules | `(tactic| walk_at "nrm") => `(tactic| (simp only [args, setAll, List.set_cons_zero, List.set_cons_succ, List.map_cons, List.map_nil, List.length_cons, List.length_nil, List.replicate_succ, List.replicate_zero, List.cons_append, List.nil_append, Nat.reduceAdd, Nat.reduceSub]; try rfl))
/-! ## zip of tuples -/
section
variable {X : Cx} {p pos : Pos} {a b : Expr} {kk : Nat} {elts : List Expr} {tpos : Pos} {δ : Sls}
theorem i_zipT {K : Sls → List Dt → Prop} (hm : X.mg "zip" = none) (h : EK X a δ fun δ1 d1 => EK X b δ1 fun δ2 d2 => ∃ xs ys, d1 = .tup xs ∧ d2 = .tup ys ∧ K δ2 (List.zipWith (fun x y => .tup [x, y]) xs ys)) (hg : Gl X "zip" := by rfl)
    (hs : starEach [a, b] X.env = (false, eval a X.env) :: starEach [b] X.env := by rfl) (hs2 : starEach [b] X.env = (false, eval b X.env) :: starEach [] X.env := by rfl) (hpl : (backTo pos (starEach [b] X.env)).any (·.1) = false := by rfl) : IK X (.Tuple elts kk tpos) (.Call (.Name "zip" p) [a, b] [] pos) δ K :=
  ik_of (RZ.pi_zipA hg hm (pa_cons ek_any (pa_cons ek_any pa_nil hs2) hs) hs hpl) fun σ H R hq => by
    obtain ⟨S, g, q⟩ := hq
    refine te_seq g h fun v1 H1 d1 δ1 t1 g1 r1 h1 => te_seq g1 h1 fun v2 H2 d2 δ2 t2 g2 r2 h2 => ?_
    obtain ⟨xs, ys, rfl, rfl, k⟩ := h2
    obtain ⟨a, vs, rfl, hsa, ha, ra⟩ := rep_tup.mp (r1.mv (t2.mv g1))
    obtain ⟨b, us, rfl, hsb, hb, rb⟩ := rep_tup.mp r2
    refine ⟨a, b, vs, us, rfl, .inr ⟨.inl (.inl ha), .inl (.inl hb), q _ H2 δ2 _ (t1.trans t2) g2 ?_ k⟩⟩
    intro S' H' m lv i
    have h1' : SqT X.K H' a vs := .inl (.inl (m a _ hsa ha).2)
    have h2' : SqT X.K H' b us := .inl (.inl (m b _ hsb hb).2)
    refine ⟨fun d hd => ?_, fun hi => ⟨vs, us, h1', h2', ?_⟩⟩
    · rw [List.getElem?_zipWith] at hd
      cases hx : xs[i]? with
      | none => rw [hx] at hd; cases hd
      | some x0 =>
        cases hy : ys[i]? with
        | none => rw [hx, hy] at hd; cases hd
        | some y0 =>
          rw [hx, hy] at hd
          have e0 : d = .tup [x0, y0] := (Option.some.inj hd).symm
          subst e0
          obtain ⟨v, hv, rv⟩ := ra.get hx
          obtain ⟨u, hu, ru⟩ := rb.get hy
          refine ⟨⟨vs, us, v, u, h1', h2', hv, hu⟩, fun x H3 y => ?_⟩
          obtain ⟨T, x1, y1, rfl, hT, rfl, z1, z2⟩ := y
          have e1 : v = x1 := by
            have := z1 vs h1'
            rw [hv] at this
            exact Option.some.inj this
          have e2 : u = y1 := by
            have := z2 us h2'
            rw [hu] at this
            exact Option.some.inj this
          subst e1 e2
          exact ⟨Ex.new hT, rep_tup.mpr ⟨T, _, rfl, fun z => lv T z hT, upd_same, Reps.cons ((rv.mv m).mv (Ex.new hT).mv) (Reps.cons ((ru.mv m).mv (Ex.new hT).mv) Reps.nil)⟩⟩
    · rw [ra.length, rb.length]
      rw [List.length_zipWith] at hi
      omega
end
/-! ## data of none, whole numbers, texts, lists, tuples, at most n deep -/
def Dt.okN : Nat → Dt → Bool
  | _, .non => true
  | _, .int _ => true
  | _, .str _ => true
  | n + 1, .lst ds => decide (ds.length ≤ 1000) && ds.all (Dt.okN n)
  | n + 1, .tup ds => decide (ds.length ≤ 1000) && ds.all (Dt.okN n)
  | _, _ => false
theorem zipW_self (ds : List Dt) : List.zipWith (fun x y => Dt.tup [x, y]) ds ds = ds.map fun x => .tup [x, x] := by
  induction ds with
  | nil => rfl
  | cons d ds ih => rw [List.zipWith_cons_cons, ih]; rfl
theorem eqV_non : PyData.eqv .none .none = true := by simp only [PyData.eqv]
theorem eqV_str (x : Str) : PyData.eqv (.str x) (.str x) = true := by simp only [PyData.eqv, beq_self_eq_true]
/-! ## a written list that is ours -/
section
variable {Γ : Gm} {X : Cx} {δ : Sls} {P : Pst} {pos p' : Pos} {es : List Expr}
theorem s_newL (i : Nat) {x : Str} {lp : Pos} (h : AK X es δ fun δ1 ds => ds.length ≤ 1000 ∧ (∃ z, δ1[i]? = some z ∧ z.adr = []) ∧ ∀ p, P.nx (δ1.set i (.own p ds))) (hN : X.N.Nodup := by assumption) (hi : X.N[i]? = some x := by rfl) (hx : Loc X.env.scope x := by first | exact Or.inl rfl | exact Or.inr rfl)
    (hs : swapsWith (.List es lp) (some (.Name x p')) pos.line X.env = pure false := by rfl) (hf : X.fn x = true ∨ X.env.scope.names.lookup x = some .local := by first | exact .inl rfl | exact .inr rfl) : SK1 X Γ (.Assign [.Name x p'] (.List es lp) pos) δ P :=
  sk1_of (ps_set hN hi hx (pe_lst ak_any) hs hf) fun D σ H hq => by
    obtain ⟨S, g0, st0, k1, k2, k3, k4⟩ := hq
    refine ta_seq g0 h fun vs H1 ds δ1 t1 g r1 h1 => ?_
    obtain ⟨hl, ⟨z, hδ, hz⟩, h⟩ := h1
    have st := st0.stp t1
    refine ⟨by rw [r1.length]; exact Nat.le_of_lt (small1000 hl), fun p hp => ?_⟩
    have hn : (adrs (δ1.set i (.own p ds))).Nodup := (adrs_new hδ hz).nodup_iff.mpr (List.nodup_cons.mpr ⟨g.fresh hp, g.nd⟩)
    have hp0 : Γ.H0 p = none := by
      cases e0 : Γ.H0 p with
      | none => rfl
      | some o =>
        by_cases hb : p ∈ Γ.B
        · exact absurd hp (g.live p (st.sub p (st.bS p hb)))
        · rw [st.keep p o e0 hb] at hp
          cases hp
    refine k1 (plus S p) _ _ _ ((g.grow hp).put hδ (e' := .own p ds) ⟨rfl, .inr rfl, vs, upd_same, r1.mv (mv_plus hp)⟩ hn) ⟨st.live, st.bS, fun a z => z.elim (st.loc a) (fun e => .inr (by rw [e]; exact hp0)), fun a z => .inl (st.sub a z), fun a o h1 h2 => Ex.new hp _ _ (st.keep a o h1 h2), fun q hq => ?_⟩ (h p)
    rcases List.mem_cons.mp ((adrs_new hδ hz).mem_iff.mp hq) with e | hq
    · rw [e]
      exact .inr hp0
    · exact st.new q hq
end
section
variable {X : Cx} {δ : Sls} {K : Sls → Dt → Prop}
theorem cc_lenM {α : Type} {f : α → Dt} {xs : List α} (k : K δ (.int (xs.length : Nat))) : CC X (.builtin "len") δ [.lst (xs.map f)] K := cc_lenL (by rw [List.length_map]; exact k)
theorem oc_modE {i j r : Int} (h : 0 < j) (e : i % j = r) (k : K δ (.int r)) : OC X (binaryOp .Mod) δ (.int i) (.int j) K := oc_mod h (by rw [e]; exact k)
theorem oc_addE {i j r : Int} (e : i + j = r) (k : K δ (.int r)) : OC X (binaryOp .Add) δ (.int i) (.int j) K := oc_add (by rw [e]; exact k)
theorem oc_subE {i j r : Int} (e : i - j = r) (k : K δ (.int r)) : OC X (binaryOp .Sub) δ (.int i) (.int j) K := oc_sub (by rw [e]; exact k)
theorem oc_mulE {i j r : Int} (h : (-(2 ^ 64) < i ∧ i < 2 ^ 64) ∨ (-(2 ^ 64) < j ∧ j < 2 ^ 64)) (e : i * j = r) (k : K δ (.int r)) : OC X (binaryOp .Mult) δ (.int i) (.int j) K := oc_mul h (by rw [e]; exact k)
end
theorem SK.norm {X : Cx} {Γ : Gm} {ss : List Stmt} {δ δ' : Sls} {P : Pst} (h : δ = δ') (k : SK X Γ ss δ' P) : SK X Γ ss δ P := by
  rw [h]
  exact k
end Pr

end Text_P10
section Text_SL
set_option maxHeartbeats 4000000
/-! sum(a list of lists, start=a list) -/
namespace Sl
open PySem PySem.Spec PyProof.Rows L2
theorem args_start (a d : Value) : argsOk "sum" ⟨[a], [(Str.ofString "start", d)]⟩ := by unfold argsOk; kernel_rfl
abbrev Lst (h : Heap) (l : Addr) (vs : List Value) (n : Nat) : Prop := h.get? l = some { cls := .type "list", dict := none, data := .seq vs.toArray n, slots := #[] }
/-- the lists at as hold vss -/
def Held (h : Heap) (as : List Addr) (vss : List (List Value)) : Prop := as.length = vss.length ∧ ∀ (j : Nat) (a : Addr) (vs : List Value), as[j]? = some a → vss[j]? = some vs → ∃ n, Lst h a vs n
theorem Held.stay {h h' : Heap} {as : List Addr} {vss : List (List Value)} (x : Held h as vss) (k : ∀ a ∈ as, ∀ o, h.get? a = some o → h'.get? a = some o) : Held h' as vss := ⟨x.1, fun j a vs e1 e2 => by
  obtain ⟨n, e⟩ := x.2 j a vs e1 e2
  exact ⟨n, k a (List.mem_of_getElem? e1) _ e⟩⟩
theorem add2 {prog : Program} {w : World} {A : Around} {E : Value → Shared → Prop} {s : Shared} {l b : Addr} {vs us : List Value} {n m : Nat} {Q : Value → Shared → Prop} (h1 : Lst s.heap l vs n) (h2 : Lst s.heap b us m) (hz : vs.length + us.length ≤ sizeLine)
    (h : Q (.ref s.heap.objs.size) { s with heap := s.heap.push { cls := .type "list", data := .seq (vs ++ us).toArray } }) : wpAny (model prog w) A (binaryOp .Add (.ref l) (.ref b)) Q E s := by
  refine PySem.P.add_list h1 h2 ?_ (by simpa using hz)
  have e : vs.toArray ++ us.toArray = (vs ++ us).toArray := by simp
  rw [e]
  exact h
section
variable {prog : Program} {w : World} {A : Around} {R : Result → Shared → Prop}
theorem loop {it S l : Addr} {as : List Addr} {vss : List (List Value)} (hh : A.handled = none) (hn : vss.flatten.length ≤ 100000) (d1 : it ≠ S) (d2 : l ≠ it) (d3 : l ≠ S) (d4 : ∀ a ∈ as, a ≠ it ∧ a ≠ S) :
    ∀ (m k : Nat) (s : Shared) (tot : Addr) (acc : List Value) (nt c : Nat), as.length - k = m → k ≤ as.length → s.heap.IsListIter it l k → s.heap.IsList l (as.map Value.ref).toArray → s.heap.get? S = some { cls := .type "list", dict := none, data := .seq #[.ref tot] c, slots := #[] } → Lst s.heap tot acc nt → tot ≠ it → tot ≠ S → Held s.heap as vss → acc.length + (vss.drop k).flatten.length ≤ 100000 →
    (∀ h' t' n', Lst h' t' (acc ++ (vss.drop k).flatten) n' → ((k < as.length → s.heap.objs.size ≤ t') ∧ (k = as.length → t' = tot)) → (∀ b o, b ≠ it → b ≠ S → s.heap.get? b = some o → h'.get? b = some o) → R (.ok (.ret (.ref t'))) { s with heap := h' }) →
    codeAny (model prog w) A (.builtin "sum.loop" ⟨[.ref it, .ref S, rawInt 2, rawInt 0], []⟩) R s := by
  intro m
  induction m with
  | zero =>
    intro k s tot acc nt c hm hk hit hl hS ht _ _ hH hz hR
    have e : k = as.length := by omega
    subst e
    refine codeAny_builtin F.entry_sum_loop ?_
    rw [Around.under_plainId F.plain_sum_loop _]
    show wpAny _ A.in1 (seqItems? (.ref S) >>= _) _ _ s
    refine wpAny_bind (wpAny_seqItems hS rfl ?_)
    show wpAny _ A.in1 (tryCatch (pyNext (.ref it)) _ >>= _) _ _ s
    refine wpAny_bind (wpAny_tryCatch (wpAny_pyNext_list_end hh hit hl (by simp) fun h' k' => ?_))
    have hv : vss.drop as.length = [] := by rw [hH.1, List.drop_length]
    have ht' := k' _ _ ‹tot ≠ it› ht
    refine wpAny_pure (hR h' tot nt ?_ ⟨fun q => absurd q (Nat.lt_irrefl _), fun _ => rfl⟩ fun b o n1 _ q => k' b o n1 q)
    rw [hv, List.flatten_nil, List.append_nil]
    exact ht'
  | succ m ih =>
    intro k s tot acc nt c hm hk hit hl hS ht t1 t2 hH hz hR
    have hlt : k < as.length := by omega
    have ea : as[k]? = some as[k] := List.getElem?_eq_getElem hlt
    have ev : vss[k]? = some (vss[k]'(by rw [← hH.1]; exact hlt)) := List.getElem?_eq_getElem _
    have hma := List.mem_of_getElem? ea
    have hd : vss.drop k = vss[k]'(by rw [← hH.1]; exact hlt) :: vss.drop (k + 1) := List.drop_eq_getElem_cons _
    obtain ⟨na, hva⟩ := hH.2 k _ _ ea ev
    refine codeAny_builtin F.entry_sum_loop ?_
    rw [Around.under_plainId F.plain_sum_loop _]
    show wpAny _ A.in1 (seqItems? (.ref S) >>= _) _ _ s
    refine wpAny_bind (wpAny_seqItems hS rfl ?_)
    show wpAny _ A.in1 (tryCatch (pyNext (.ref it)) _ >>= _) _ _ s
    refine wpAny_bind (wpAny_tryCatch (wpAny_pyNext_list_item hit hl (x := .ref as[k]) (by simp [ea]) fun h1 hit1 e1 => ?_))
    have hS1 := e1.extBut _ _ d1.symm hS
    have ht1 := e1.extBut _ _ t1 ht
    have ha1 := e1.extBut _ _ (d4 _ hma).1 hva
    have hz1 : h1.objs.size = s.heap.objs.size := e1.1
    show wpAny _ A.in1 ((holding [.ref as[k]] (binaryOp .Add (.ref tot) (.ref as[k]))).attempt >>= _) _ _ _
    rw [hd, List.flatten_cons, List.length_append] at hz
    refine wpAny_bind (wpAny_attempt (wpAny_holding (add2 (s := { s with heap := h1 }) ht1 ha1 (by rw [sizeLine_eq]; omega) ?_)))
    show wpAny _ A.in1 (updateSeq S (fun _ => #[.ref h1.objs.size]) >>= _) _ _ _
    rw [hz1]
    have hS2 := Heap.get?_push_of_some { cls := .type "list", data := .seq (acc ++ vss[k]'(by rw [← hH.1]; exact hlt)).toArray } hS1
    have up2 : ∀ b o, b ≠ it → s.heap.get? b = some o → (h1.push { cls := .type "list", data := .seq (acc ++ vss[k]'(by rw [← hH.1]; exact hlt)).toArray }).get? b = some o := fun b o n q => Heap.get?_push_of_some _ (e1.extBut b o n q)
    have hnew : Lst (h1.push { cls := .type "list", data := .seq (acc ++ vss[k]'(by rw [← hH.1]; exact hlt)).toArray }) s.heap.objs.size (acc ++ vss[k]'(by rw [← hH.1]; exact hlt)) 0 := by
      rw [← hz1]
      exact Heap.get?_push_size _ rfl
    have hsz2 : (h1.push { cls := .type "list", data := .seq (acc ++ vss[k]'(by rw [← hH.1]; exact hlt)).toArray }).objs.size = s.heap.objs.size + 1 := by rw [Heap.size_push, hz1]
    have hit2 : (h1.push { cls := .type "list", data := .seq (acc ++ vss[k]'(by rw [← hH.1]; exact hlt)).toArray }).IsListIter it l (k + 1) := hit1.at fun o q => Heap.get?_push_of_some _ q
    generalize h1.push { cls := .type "list", data := .seq (acc ++ vss[k]'(by rw [← hH.1]; exact hlt)).toArray } = h2 at hS2 up2 hnew hsz2 hit2
    refine wpAny_bind (wpAny_updateSeq hS2 rfl (wpAny_bind (wpAny_letGo ?_)))
    have hS3 := Heap.get?_update_self (Obj.mapSeq (fun _ => #[Value.ref s.heap.objs.size])) hS2 rfl
    have hsz3 : (h2.update S (Obj.mapSeq (fun _ => #[Value.ref s.heap.objs.size]))).objs.size = s.heap.objs.size + 1 := by rw [Heap.size_update, hsz2]
    have up3 : ∀ b o, b ≠ S → h2.get? b = some o → (h2.update S (Obj.mapSeq (fun _ => #[Value.ref s.heap.objs.size]))).get? b = some o := fun b o n q => (Heap.get?_update_other _ _ (Ne.symm n)).trans q
    generalize h2.update S (Obj.mapSeq (fun _ => #[Value.ref s.heap.objs.size])) = h3 at hS3 hsz3 up3
    show wpAny _ A.in1 (updateSeq S (fun _ => #[.ref s.heap.objs.size]) >>= fun _ => again (.builtin "sum.loop" ⟨[.ref it, .ref S, rawInt 2, rawInt 0], []⟩)) _ _ _
    refine wpAny_bind (wpAny_updateSeq hS3 rfl ?_)
    have hS4 := Heap.get?_update_self (Obj.mapSeq (fun _ => #[Value.ref s.heap.objs.size])) hS3 rfl
    have hsz4 : (h3.update S (Obj.mapSeq (fun _ => #[Value.ref s.heap.objs.size]))).objs.size = s.heap.objs.size + 1 := by rw [Heap.size_update, hsz3]
    have up4 : ∀ b o, b ≠ S → h3.get? b = some o → (h3.update S (Obj.mapSeq (fun _ => #[Value.ref s.heap.objs.size]))).get? b = some o := fun b o n q => (Heap.get?_update_other _ _ (Ne.symm n)).trans q
    generalize h3.update S (Obj.mapSeq (fun _ => #[Value.ref s.heap.objs.size])) = h4 at hS4 hsz4 up4
    have iS : S ≠ s.heap.objs.size := Nat.ne_of_lt (Heap.lt_size hS)
    have iI : it ≠ s.heap.objs.size := by
      obtain ⟨_, q, _⟩ := hit
      exact Nat.ne_of_lt (Heap.lt_size q)
    have up : ∀ b o, b ≠ it → b ≠ S → s.heap.get? b = some o → h4.get? b = some o := fun b o n1 n2 q => up4 b o n2 (up3 b o n2 (up2 b o n1 q))
    refine wpAny_pure ⟨plainId_quiet F.plain_sum_loop _, ih (k + 1) { s with heap := h4 } s.heap.objs.size (acc ++ vss[k]'(by rw [← hH.1]; exact hlt)) 0 _ (by omega) hlt (hit2.at fun o q => up4 _ o d1 (up3 _ o d1 q)) (hl.at fun o q => up _ o d2 d3 q) hS4 (up4 _ _ iS.symm (up3 _ _ iS.symm hnew)) iI.symm iS.symm (hH.stay fun a ha o q => up a o (d4 a ha).1 (d4 a ha).2 q) (by rw [List.length_append]; omega) fun h' t' n' a1 a2 a3 => ?_⟩
    refine hR h' t' n' ?_ ⟨fun _ => ?_, fun q => by omega⟩ fun b o n1 n2 q => a3 b o n1 n2 (up b o n1 n2 q)
    · rw [hd, List.flatten_cons, ← List.append_assoc]
      exact a1
    · by_cases hk2 : k + 1 < as.length
      · have := a2.1 hk2
        have e : ({ s with heap := h4 } : Shared).heap.objs.size = s.heap.objs.size + 1 := hsz4
        rw [e] at this
        exact Nat.le_of_succ_le this
      · rw [a2.2 (by omega)]
        exact Nat.le_refl _
end
section
variable {prog : Program} {w : World} {A : Around} {E : Value → Shared → Prop} {s : Shared}
theorem call_sum {l s0 : Addr} {as : List Addr} {vss : List (List Value)} {n0 : Nat} {Q : Value → Shared → Prop} (hh : A.handled = none) (hn : vss.flatten.length ≤ 100000) (h0 : as ≠ []) (hl : s.heap.IsList l (as.map Value.ref).toArray) (hs : Lst s.heap s0 [] n0) (hH : Held s.heap as vss)
    (hQ : ∀ h' t' n', Lst h' t' vss.flatten n' → s.heap.objs.size ≤ t' → (∀ b o, s.heap.get? b = some o → h'.get? b = some o) → Q (.ref t') { s with heap := h' }) :
    wpAny (model prog w) A (call (.builtin "sum") [.ref l] [(Str.ofString "start", .ref s0)]) Q E s := by
  have lt : ∀ {b : Addr} {o : Obj}, s.heap.get? b = some o → b < s.heap.objs.size := fun q => Heap.lt_size q
  have ll : l < s.heap.objs.size := by
    obtain ⟨_, q, _⟩ := hl
    exact lt q
  refine PyProof.Rows.kmk_tree F.kind_sum F.plain_sum F.entry_sum (args_start _ _) ?_
  unfold Builtin.«sum»
  simp only [List.length_cons, List.length_nil]
  rw [if_neg (by decide)]
  refine wpAny_bind (wpAny_of_eq (show Builtin.Builtins.bindParams "sum" ["start"] 0 ⟨[], [(Str.ofString "start", .ref s0)]⟩ = pure [some (.ref s0)] from rfl) ?_)
  refine wpAny_bind (wpAny_pyIter_list hl ?_)
  refine wpAny_bind (wpAny_pure ?_)
  have sz1 : (s.heap.push { cls := .type "list_iterator", data := .fields #[.ref l, .int 0 0] }).objs.size = s.heap.objs.size + 1 := Heap.size_push ..
  have up1 : ∀ b o, s.heap.get? b = some o → (s.heap.push { cls := .type "list_iterator", data := .fields #[.ref l, .int 0 0] }).get? b = some o := fun b o q => Heap.get?_push_of_some _ q
  have it1 : (s.heap.push { cls := .type "list_iterator", data := .fields #[.ref l, .int 0 0] }).IsListIter s.heap.objs.size l 0 := ⟨_, Heap.get?_push_size _ rfl, rfl, rfl⟩
  generalize s.heap.push { cls := .type "list_iterator", data := .fields #[.ref l, .int 0 0] } = h1 at sz1 up1 it1
  have hT : Shared.TypeIs { s with heap := h1 } (.ref s0) "list" := ⟨_, up1 _ _ hs, rfl⟩
  simp only [List.forIn_cons, List.forIn_nil]
  refine wpAny_bind (wpAny_bind (wpAny_bind (wpAny_isInstance (T := "list") (b := false) hT PySem.F.sub_list_str ?_)))
  simp only [Bool.false_eq_true, if_false]
  refine wpAny_pure (wpAny_bind (wpAny_bind (wpAny_isInstance (T := "list") (b := false) hT PySem.F.sub_list_bytes ?_)))
  simp only [Bool.false_eq_true, if_false]
  refine wpAny_pure (wpAny_bind (wpAny_bind (wpAny_isInstance (T := "list") (b := false) hT PySem.F.sub_list_bytearray ?_)))
  simp only [Bool.false_eq_true, if_false]
  refine wpAny_pure (wpAny_pure ?_)
  refine wpAny_bind (wpAny_newObj_type ?_)
  have up2 : ∀ b o, h1.get? b = some o → (h1.push { cls := .type "list", data := .seq [Value.ref s0].toArray }).get? b = some o := fun b o q => Heap.get?_push_of_some _ q
  have hS : (h1.push { cls := .type "list", data := .seq [Value.ref s0].toArray }).get? (s.heap.objs.size + 1) = some { cls := .type "list", data := .seq #[.ref s0] } := by
    rw [← sz1]
    exact Heap.get?_push_size _ rfl
  have sz2 : (h1.push { cls := .type "list", data := .seq [Value.ref s0].toArray }).objs.size = s.heap.objs.size + 2 := by rw [Heap.size_push, sz1]
  rw [show (Value.ref ({ s with heap := h1 } : Shared).heap.objs.size) = .ref (s.heap.objs.size + 1) from congrArg Value.ref sz1]
  generalize h1.push { cls := .type "list", data := .seq [Value.ref s0].toArray } = h2 at up2 hS sz2
  have up : ∀ b o, s.heap.get? b = some o → h2.get? b = some o := fun b o q => up2 b o (up1 b o q)
  refine wpAny_pure ⟨plainId_quiet F.plain_sum_loop _, loop (A := A) (S := s.heap.objs.size + 1) (l := l) hh hn (Nat.ne_of_lt (Nat.lt_succ_self _)) (Nat.ne_of_lt ll) (Nat.ne_of_lt (Nat.lt_succ_of_lt ll)) (fun a ha => ?_) _ 0 _ s0 [] n0 0 rfl (Nat.zero_le _) (it1.at fun o q => up2 _ o q) (hl.at fun o q => up _ o q) hS (up _ _ hs) (Nat.ne_of_lt (lt hs)) (Nat.ne_of_lt (Nat.lt_succ_of_lt (lt hs))) (hH.stay fun a _ o q => up a o q) (by simpa using hn) fun h' t' n' a1 a2 a3 => ?_⟩
  · obtain ⟨j, hj⟩ := List.getElem?_of_mem ha
    have hv : j < vss.length := by rw [← hH.1]; exact (List.getElem?_eq_some_iff.mp hj).1
    obtain ⟨n, e⟩ := hH.2 j a _ hj (List.getElem?_eq_getElem hv)
    exact ⟨Nat.ne_of_lt (lt e), Nat.ne_of_lt (Nat.lt_succ_of_lt (lt e))⟩
  · have hpos : 0 < as.length := List.length_pos_iff.mpr h0
    have := a2.1 hpos
    have e : ({ s with heap := h2 } : Shared).heap.objs.size = s.heap.objs.size + 2 := sz2
    rw [e] at this
    refine hQ h' t' n' (by simpa using a1) (Nat.le_trans (Nat.le_add_right _ 2) this) fun b o q => a3 b o (Nat.ne_of_lt (lt q)) (Nat.ne_of_lt (Nat.lt_succ_of_lt (lt q))) (up b o q)
end
/-- over the layer -/
def rSumL (X : Cx) : List V → List V → Hp → VK → Prop := fun vs zs H Q => ∃ (l s0 : Addr) (as : List Addr) (vss : List (List V)), vs = [.ref l] ∧ zs = [.ref s0] ∧ H l = some (.lst (as.map V.ref)) ∧ H s0 = some (.lst []) ∧ as ≠ [] ∧ as.length = vss.length ∧ (∀ (j : Nat) (a : Addr) (vs : List V), as[j]? = some a → vss[j]? = some vs → H a = some (.lst vs)) ∧ vss.flatten.length ≤ 1000 ∧
  ∀ p, H p = none → Q (.ref p) (upd H p (.lst vss.flatten))
theorem refs_of {as : List Addr} : ∀ {us : List Value}, Vals (as.map V.ref) us → us = as.map Value.ref := by
  induction as with
  | nil => intro us r; cases r; rfl
  | cons a as ih =>
    intro us r
    cases r with
    | cons r1 r2 =>
      cases r1
      rw [ih r2]
      rfl
theorem cr_sumL {X : Cx} (hc : X.calm = true) : CallRK X (.builtin "sum") [Str.ofString "start"] (rSumL X) := by
  intro pins s σ H xs zs us ws Q I rx rz h
  obtain ⟨l, s0, as, vss, rfl, rfl, hl, hs, h0, hlen, hA, hz, q⟩ := h
  obtain ⟨u1, e1, ru1⟩ := vals1 rx
  obtain ⟨u2, e2, ru2⟩ := vals1 rz
  subst e1
  subst e2
  cases ru1
  cases ru2
  obtain ⟨_, its, n, rv, _, el⟩ := I.lstM hl
  obtain ⟨_, its0, n0, rv0, _, el0⟩ := I.lstM hs
  cases rv0
  rw [refs_of rv] at el
  have ex : ∀ (as : List Addr) (vss : List (List V)), as.length = vss.length → (∀ (j : Nat) (a : Addr) (vs : List V), as[j]? = some a → vss[j]? = some vs → H a = some (.lst vs)) → ∃ uss : List (List Value), Held s.heap as uss ∧ Vals vss.flatten uss.flatten := by
    intro as
    induction as with
    | nil =>
      intro vss hl _
      cases vss with
      | nil => exact ⟨[], ⟨rfl, fun j a vs h => by simp at h⟩, .nil⟩
      | cons v vss => cases hl
    | cons a as ih =>
      intro vss hl hA
      cases vss with
      | nil => cases hl
      | cons v vss =>
        obtain ⟨uss, ⟨g1, g2⟩, g3⟩ := ih vss (by simpa using hl) fun j a vs e1 e2 => hA (j + 1) a vs (by simpa using e1) (by simpa using e2)
        obtain ⟨_, us, n, r, _, e⟩ := I.lstM (hA 0 a v rfl rfl)
        refine ⟨us :: uss, ⟨by simp [g1], fun j b vs e1 e2 => ?_⟩, by rw [List.flatten_cons, List.flatten_cons]; exact r.append g3⟩
        cases j with
        | zero =>
          have e1 : a = b := by simpa using e1
          have e2 : us = vs := by simpa using e2
          subst e1 e2
          exact ⟨n, e⟩
        | succ j => exact g2 j b vs (by simpa using e1) (by simpa using e2)
  obtain ⟨uss, hH, rr⟩ := ex as vss hlen hA
  have hzz : uss.flatten.length = vss.flatten.length := rr.length.symm
  refine call_sum (I.ok.hd hc) (by omega) h0 ⟨_, el, rfl, _, rfl⟩ el0 hH fun h' t' n' a1 a2 a3 => ?_
  exact ⟨.ref t', upd H t' (.lst vss.flatten), I.laid (t' := s.toks) a3 a2 ⟨by rw [sizeLine_eq]; omega, uss.flatten, n', rr, a1⟩, rfl, q t' (I.hok.fresh a2)⟩
end Sl

end Text_SL
section Text_P11
set_option maxHeartbeats 4000000
namespace Pr
open PySem PySem.Spec PyProof.Rows L2
open C8 (Cal Mak Met pe_c pe_mk pe_mt pe_mt0)
local macro_rules | `(tactic| walk_at "nrm") => `(tactic| (simp only [args, setAll, List.set_cons_zero, List.set_cons_succ, List.map_cons, List.map_nil, List.length_cons, List.length_nil, List.replicate_succ, List.replicate_zero, List.cons_append, List.nil_append, Nat.reduceAdd, Nat.reduceSub]; try rfl))
/-! ## sum(lists, start=[]) -/
section
variable {X : Cx} {δ : Sls} {K : Sls → Dt → Prop}
theorem w_sumL {e sv : Expr} {p pos kp : Pos} (hm : X.mg "sum" = none) (h : EK X e δ fun δ1 d1 => EK X sv δ1 fun δ2 z => ∃ dss : List (List Dt), d1 = .lst (dss.map Dt.lst) ∧ z = .lst [] ∧ dss ≠ [] ∧ dss.flatten.length ≤ 1000 ∧ K δ2 (.lst dss.flatten)) (hc : X.calm = true := by rfl) (hg : Gl X "sum" := by rfl)
    (hs : starEach [e] X.env = (false, eval e X.env) :: starEach [] X.env := by rfl) (he : backTo pos (starEach [e] X.env) = (false, eval e X.env) :: backTo pos (starEach [] X.env) := by rfl) (hpl : (backTo pos (starEach [e] X.env)).any (·.1) = false := by rfl)
    (hall : (backToKw pos (keywordEach [⟨some "start", sv, kp⟩] X.env)).all (·.1.isSome) = true := by rfl) (hnone : (backToKw pos (keywordEach [⟨some "start", sv, kp⟩] X.env)).any (·.1.isNone) = false := by rfl) (hks : (backToKw pos (keywordEach [⟨some "start", sv, kp⟩] X.env)).filterMap (·.1) = [Str.ofString "start"] := by rfl) :
    EK X (.Call (.Name "sum" p) [e] [⟨some "start", sv, kp⟩] pos) δ K :=
  ek_of (pe_callBK (Sl.cr_sumL hc) hg hm (by decide +kernel) (pa_cons ek_any pa_nil hs) (pk_cons ek_any pk_nil) (by decide) (by decide) he hpl hall hnone hks) fun σ H Q hq => by
    obtain ⟨S, g, q⟩ := hq
    refine te_seq g h fun v H1 d1 δ1 t1 g1 r1 h1 => ?_
    refine te_seq g1 h1 fun z H2 dz δ2 t2 g2 r2 h2 => ?_
    obtain ⟨dss, rfl, rfl, h0, hz, k⟩ := h2
    obtain ⟨l, us, rfl, hsl, hl, rr⟩ := rep_lst.mp (r1.mv (t2.mv g1))
    obtain ⟨s0, zs, rfl, hss, hs0, rz⟩ := rep_lst.mp r2
    rw [reps_nil.mp rz] at hs0
    have ex : ∀ (dss : List (List Dt)) (us : List V), Reps S H2 (dss.map Dt.lst) us → ∃ (as : List Addr) (vss : List (List V)), us = as.map V.ref ∧ as.length = vss.length ∧ as.length = dss.length ∧ (∀ (j : Nat) (a : Addr) (vs : List V), as[j]? = some a → vss[j]? = some vs → H2 a = some (.lst vs)) ∧ Reps S H2 dss.flatten vss.flatten := by
      intro dss
      induction dss with
      | nil => intro us r; exact ⟨[], [], reps_nil.mp r, rfl, rfl, fun j a vs h => by simp at h, Reps.nil⟩
      | cons d dss ih =>
        intro us r
        obtain ⟨v, rest, rfl, a1, a2⟩ := reps_cons.mp r
        obtain ⟨as, vss, rfl, b1, b2, b3, b4⟩ := ih rest a2
        obtain ⟨a, vs, rfl, _, ha, c1⟩ := rep_lst.mp a1
        refine ⟨a :: as, vs :: vss, rfl, by simp [b1], by simp [b2], fun j b ws e1 e2 => ?_, by rw [List.flatten_cons, List.flatten_cons]; exact c1.append b4⟩
        cases j with
        | zero =>
          have e1 : a = b := by simpa using e1
          have e2 : vs = ws := by simpa using e2
          subst e1 e2
          exact ha
        | succ j => exact b3 j b ws (by simpa using e1) (by simpa using e2)
    obtain ⟨as, vss, rfl, b1, b2, b3, b4⟩ := ex dss us rr
    refine ⟨l, s0, as, vss, rfl, rfl, hl, hs0, fun z => h0 (List.eq_nil_of_length_eq_zero (by rw [← b2, z]; rfl)), b1, b3, by rw [b4.length]; exact hz, fun p hp => ?_⟩
    exact Fw.lst (K := K) (δ := δ2) (fun v H' d ex r k => q v H' d δ2 ((t1.trans t2).trans ex.stp) (g2.ex ex) r k) g2 hp b4 k
end
end Pr

end Text_P11
section Text_P14
set_option maxHeartbeats 4000000
namespace Pr
open PySem PySem.Spec PyProof.Rows L2
open C8 (Cal Mak Met pe_c pe_mk pe_mt pe_mt0)
local macro_rules | `(tactic| walk_at "nrm") => `(tactic| (simp only [args, setAll, List.set_cons_zero, List.set_cons_succ, List.map_cons, List.map_nil, List.length_cons, List.length_nil, List.replicate_succ, List.replicate_zero, List.cons_append, List.nil_append, Nat.reduceAdd, Nat.reduceSub]; try rfl))
/-! ## objects that change: writing -/
theorem disj {l1 l2 : List Addr} (h : (l1 ++ l2).Nodup) {a : Addr} (h1 : a ∈ l1) (h2 : a ∈ l2) : False := (List.nodup_append.mp h).2.2 a h1 a h2 rfl
def setFl (f : Str) (y : Fl) : List (Str × Fl) → List (Str × Fl)
  | [] => []
  | (n, z) :: r => if f == n then (n, y) :: r else (n, z) :: setFl f y r
theorem adrF_set {f : Str} {q : Addr} {ds ds' : List Dt} : ∀ {fls : List (Str × Fl)}, fls.lookup f = some (.own q ds) → adrF (setFl f (.own q ds') fls) = adrF fls ∧ q ∈ adrF fls
  | [], h => by simp at h
  | (n, z) :: r, h => by
    rw [List.lookup_cons] at h
    unfold setFl
    cases e : f == n with
    | true =>
      rw [e] at h
      have e2 : z = .own q ds := by simpa using h
      subst e2
      exact ⟨rfl, by simp [adrF, Fl.adr]⟩
    | false =>
      rw [e] at h
      obtain ⟨h1, h2⟩ := adrF_set (ds' := ds') (fls := r) (by simpa using h)
      refine ⟨?_, List.mem_append_right _ h2⟩
      show z.adr ++ adrF (setFl f (.own q ds') r) = z.adr ++ adrF r
      rw [h1]
theorem flOk_off {S : Addr → Prop} {H : Hp} {q : Addr} {o : HO} {y : Fl} {v : V} (h : FlOk S H y v) (hS : S q) (hy : q ∉ y.adr) : FlOk S (upd H q o) y v := by
  have m : Mv S H S (upd H q o) := fun a u n z => ⟨n, by rw [upd_ne (fun e => n (by rw [e]; exact hS))]; exact z⟩
  cases y with
  | v d => exact Rep.mv m h
  | own p ds =>
    obtain ⟨e, h1, vs, h2, h3⟩ := h
    exact ⟨e, h1, vs, by rw [upd_ne (fun e => hy (by rw [e]; simp [Fl.adr]))]; exact h2, h3.mv m⟩
theorem flsOk_off {S : Addr → Prop} {H : Hp} {q : Addr} {o : HO} : ∀ {fls : List (Str × Fl)} {fs : List (Str × V)}, FlsOk S H fls fs → S q → q ∉ adrF fls → FlsOk S (upd H q o) fls fs
  | [], _, h, _, _ => h
  | (n, y) :: r, fs, h, hS, hq => by
    obtain ⟨v, rest, rfl, h1, h2⟩ := h
    exact ⟨v, rest, rfl, flOk_off h1 hS fun z => hq (List.mem_append_left _ z), flsOk_off h2 hS fun z => hq (List.mem_append_right _ z)⟩
theorem flsOk_set {S : Addr → Prop} {H : Hp} {f : Str} {q : Addr} {ds ds' : List Dt} {vs' : List V} : ∀ {fls : List (Str × Fl)} {fs : List (Str × V)}, FlsOk S H fls fs → fls.lookup f = some (.own q ds) → (adrF fls).Nodup → S q → Reps S H ds' vs' → FlsOk S (upd H q (.lst vs')) (setFl f (.own q ds') fls) fs
  | [], _, _, h, _, _, _ => by simp at h
  | (n, y) :: r, fs, hf, h, nd, hS, rr => by
    obtain ⟨v, rest, rfl, h1, h2⟩ := hf
    have nd : (y.adr ++ adrF r).Nodup := nd
    rw [List.lookup_cons] at h
    unfold setFl
    cases e : f == n with
    | true =>
      rw [e] at h
      have e2 : y = .own q ds := by simpa using h
      subst e2
      have m : Mv S H S (upd H q (.lst vs')) := fun a u n z => ⟨n, by rw [upd_ne (fun e => n (by rw [e]; exact hS))]; exact z⟩
      have hq : q ∉ adrF r := (List.nodup_cons.mp nd).1
      exact ⟨v, rest, rfl, ⟨h1.1, hS, vs', upd_same, rr.mv m⟩, flsOk_off h2 hS hq⟩
    | false =>
      rw [e] at h
      have h' : r.lookup f = some (.own q ds) := by simpa using h
      have hq : q ∈ adrF r := (adrF_set (ds' := ds') h').2
      exact ⟨v, rest, rfl, flOk_off h1 hS fun z => disj nd z hq, flsOk_set h2 h' (List.nodup_append.mp nd).2.1 hS rr⟩
section
variable {S : Addr → Prop} {H : Hp} {σ : L2.St} {δ : Sls} {i : Nat} {p C q : Addr} {fls : List (Str × Fl)} {f : Str} {ds ds' : List Dt} {vs' : List V}
theorem nodup_at {e : Sl} : ∀ {δ : Sls} {i : Nat}, (adrs δ).Nodup → δ[i]? = some e → e.adr.Nodup
  | [], _, _, h => by simp at h
  | s :: r, 0, nd, h => by
    have e' : s = e := by simpa using h
    subst e'
    exact (List.nodup_append.mp nd).1
  | s :: r, i + 1, nd, h => nodup_at (i := i) (List.nodup_append.mp nd).2.1 (by simpa using h)
theorem apart_at {e e' : Sl} {a : Addr} : ∀ {δ : Sls} {i j : Nat}, (adrs δ).Nodup → δ[i]? = some e → δ[j]? = some e' → i ≠ j → a ∈ e.adr → a ∈ e'.adr → False
  | [], _, _, _, h, _, _, _, _ => by simp at h
  | s :: r, 0, 0, _, _, _, h, _, _ => h rfl
  | s :: r, 0, j + 1, nd, h1, h2, _, m1, m2 => by
    have e' : s = e := by simpa using h1
    subst e'
    exact disj nd m1 (mem_adrs_of (i := j) (by simpa using h2) m2)
  | s :: r, i + 1, 0, nd, h1, h2, _, m1, m2 => by
    have e2 : s = e' := by simpa using h2
    subst e2
    exact disj nd m2 (mem_adrs_of (i := i) (by simpa using h1) m1)
  | s :: r, i + 1, j + 1, nd, h1, h2, hn, m1, m2 => apart_at (i := i) (j := j) (List.nodup_append.mp nd).2.1 (by simpa using h1) (by simpa using h2) (fun e => hn (by rw [e])) m1 m2
/-- one of the objects in slot i has changed: the slot's new state holds, all else stays -/
theorem Gd.changed {e e' : Sl} {a : Addr} {o : HO} (g : Gd S H σ δ) (hδ : δ[i]? = some e) (ad : e'.adr = e.adr) (ha : a ∈ e.adr) (hok : ∀ ov, σ[i]? = some ov → SlOk S H e ov → SlOk S (upd H a o) e' ov) : Gd S (upd H a o) σ (δ.set i e') := by
  have hS : S a := g.inS (mem_adrs_of hδ ha)
  have hi : i < δ.length := (List.getElem?_eq_some_iff.mp hδ).1
  have m : Mv S H S (upd H a o) := fun b u n z => ⟨n, by rw [upd_ne (fun e => n (by rw [e]; exact hS))]; exact z⟩
  refine ⟨by rw [List.length_set, g.len], fun j y hy => ?_, fun b z => ?_, by rw [adrs_put hδ ad]; exact g.nd⟩
  · by_cases hj : i = j
    · subst hj
      rw [List.getElem?_set_self hi] at hy
      cases hy
      obtain ⟨ov, h1, h2⟩ := g.ok i _ hδ
      exact ⟨ov, h1, hok ov h1 h2⟩
    · rw [List.getElem?_set_ne hj] at hy
      obtain ⟨ov, h1, h2⟩ := g.ok j y hy
      exact ⟨ov, h1, h2.mv m (fun _ z => z) fun b hb u hu => by rw [upd_ne (fun e => apart_at g.nd hδ hy hj ha (by rw [← e]; exact hb))]; exact hu⟩
  · by_cases hb : b = a
    · rw [hb, upd_same]
      exact fun e => by cases e
    · rw [upd_ne hb]
      exact g.live b z
theorem Gd.objList (g : Gd S H σ δ) (hδ : δ[i]? = some (.obj p C fls)) (hl : fls.lookup f = some (.own q ds)) (rr : Reps S H ds' vs') : Gd S (upd H q (.lst vs')) σ (δ.set i (.obj p C (setFl f (.own q ds') fls))) := by
  obtain ⟨ad, hq⟩ := adrF_set (ds' := ds') hl
  have nd := nodup_at g.nd hδ
  have nd : (p :: adrF fls).Nodup := nd
  refine g.changed hδ (show p :: _ = p :: _ by rw [ad]) (List.mem_cons_of_mem _ hq) fun ov hov hok => ?_
  obtain ⟨e, hS, dx, fs, h1, h2⟩ := hok
  have hSq : S q := g.inS (mem_adrs_of hδ (List.mem_cons_of_mem _ hq))
  exact ⟨e, hS, dx, fs, by rw [upd_ne (fun z => (List.nodup_cons.mp nd).1 (by rw [z]; exact hq))]; exact h1, flsOk_set h2 hl (List.nodup_cons.mp nd).2 hSq rr⟩
theorem adm_at {e e' : Sl} (hδ : δ[i]? = some e) (ad : e'.adr = e.adr) : (δ.set i e').map Sl.adr = δ.map Sl.adr := adm_put hδ ad
end
section
variable {Γ : Gm} {X : Cx} {δ : Sls} {P : Pst} {pos np apos tpos : Pos} {e b : Expr} {x f : Str} {p C : Addr} {fls : List (Str × Fl)}
/-- self.f[b] = e -/
theorem s_putAttO (i : Nat) (c : Cls X.K C) (n : NoAttr X.K C f) {q0 : Addr} (h : EK X e δ fun δ1 d => ∃ fls1 ds0, δ1[i]? = some (.obj p C fls1) ∧ fls1.lookup f = some (.own q0 ds0) ∧ EK X b δ1 fun δ2 d2 => ∃ fls2 ds z j, δ2[i]? = some (.obj p C fls2) ∧ fls2.lookup f = some (.own q0 ds) ∧ d2 = .int z ∧ ixN ds.length z = some j ∧ P.nx (δ2.set i (.obj p C (setFl f (.own q0 (ds.set j d)) fls2))))
    (hN : X.N[i]? = some x := by rfl) (hv : Vis X.env.scope x := by first | exact Or.inl rfl | exact Or.inr (Or.inl rfl) | exact Or.inr (Or.inr rfl)) (hd : (x == ("__debug__" : Str)) = false := by decide) (hcd : (x == ("__classdict__" : Str)) = false := by decide)
    (hb : attributeBase (.Name x np) f X.env (eval (.Name x np) X.env) = eval (.Name x np) X.env := by rfl)
    (ha : ∀ v, assign (.Subscript (.Attribute (.Name x np) f apos) b tpos) X.env v = (do
      let ov ← holding [v] (eval (.Attribute (.Name x np) f apos) X.env)
      let iv ← holding [v, ov] (eval b X.env)
      standAt tpos
      holding [v, ov, iv] (setItem ov iv v)
      release [v, ov, iv] []) := by intro _; rfl)
    (hs : swapsWithSole [.Subscript (.Attribute (.Name x np) f apos) b tpos] e pos.line X.env = pure false := by rfl) (hw : swappedStores [.Subscript (.Attribute (.Name x np) f apos) b tpos] e X.env = pure none := by rfl)
    (h1 : (assignEach [.Subscript (.Attribute (.Name x np) f apos) b tpos] X.env).map (·.2) = [assign (.Subscript (.Attribute (.Name x np) f apos) b tpos) X.env] := by rfl) : SK1 X Γ (.Assign [.Subscript (.Attribute (.Name x np) f apos) b tpos] e pos) δ P :=
  sk1_of (ps_asg ek_any (pg_sub (pe_fld (pe_var hN hv hd hcd) hb) ek_any set_list ha) hs hw h1) fun D σ H hq => by
    obtain ⟨S, g, st, k1, k2, k3, k4⟩ := hq
    refine te_seq g h fun v H1 d δ1 t1 g1 r1 z1 => ?_
    obtain ⟨fls1, ds0, hδ1, hl1, z1⟩ := z1
    obtain ⟨ho, hS, dx, fs, m1, m2⟩ := obj_of g1 hδ1
    obtain ⟨vq, l1, l2⟩ := fls_look m2 hl1
    obtain ⟨e1, hq0, vs0, hv0, hr0⟩ := l2
    subst e1
    refine ⟨_, ho, p, C, dx, fs, _, rfl, m1, c, n, l1, te_seq g1 z1 fun u H2 d2 δ2 t2 g2 r2 z2 => ?_⟩
    obtain ⟨fls2, ds, z, j, hδ2, hl2, rfl, hj, hK⟩ := z2
    obtain ⟨ho2, hS2, dx2, fs2, m3, m4⟩ := obj_of g2 hδ2
    obtain ⟨vq2, l3, l4⟩ := fls_look m4 hl2
    obtain ⟨e2, hq2, vs2, hv2, hr2⟩ := l4
    refine ⟨q0, vs2, z, j, rfl, rep_int.mp r2, hv2, by rw [hr2.length]; exact hj, ?_⟩
    have g3 := g2.objList hδ2 hl2 (hr2.set (i := j) (r1.mv (t2.mv g1)))
    have ad : (Sl.obj p C (setFl f (.own q0 (ds.set j d)) fls2)).adr = (Sl.obj p C fls2).adr := by
      show p :: _ = p :: _
      rw [(adrF_set (ds' := ds.set j d) hl2).1]
    have hqm : q0 ∈ adrs δ2 := mem_adrs_of hδ2 (List.mem_cons_of_mem _ (adrF_set (ds' := ds.set j d) hl2).2)
    exact k1 S σ _ _ g3 (((st.stp t1).stp t2).own hqm (adrs_of (adm_put hδ2 ad))) hK
end
end Pr

end Text_P14
section Text_P15
set_option maxHeartbeats 4000000
namespace Pr
open PySem PySem.Spec PyProof.Rows L2
open C8 (Cal Mak Met pe_c pe_mk pe_mt pe_mt0)
local macro_rules | `(tactic| walk_at "nrm") => `(tactic| (simp only [args, setAll, List.set_cons_zero, List.set_cons_succ, List.map_cons, List.map_nil, List.length_cons, List.length_nil, List.replicate_succ, List.replicate_zero, List.cons_append, List.nil_append, Nat.reduceAdd, Nat.reduceSub]; try rfl))
/-! ## methods of objects that change -/
def spO {α : Type} (C : Addr) (st : α → List (Str × Fl)) (enc : α → List Dt) (pre : α → Prop) (post : α → Dt → List (Str × Fl) → Prop) : Sp := fun vs H Q _ => ∃ (S : Addr → Prop) (p : Addr) (a : α) (vs' : List V) (dx : Addr) (fs : List (Str × V)), vs = .ref p :: vs' ∧ S p ∧ H p = some (.ins C dx fs) ∧ FlsOk S H (st a) fs ∧ (p :: adrF (st a)).Nodup ∧ (∀ b, S b → H b ≠ none) ∧ Reps S H (enc a) vs' ∧ pre a ∧
  ∀ v H' d fls' dx' fs', (∀ b o, b ∉ p :: adrF (st a) → H b = some o → H' b = some o) → H' p = some (.ins C dx' fs') → FlsOk S H' fls' fs' → adrF fls' = adrF (st a) → (∀ b, S b → H' b ≠ none) → Rep S H' d v → post a d fls' → Q v H'
/-- .. and the one that makes them -/
def spI {α : Type} (C : Addr) (enc : α → List Dt) (pre : α → Prop) (post : α → List (Str × Fl) → Prop) : Sp := fun vs H Q _ => ∃ (S : Addr → Prop) (p : Addr) (a : α) (vs' : List V) (dx : Addr), vs = .ref p :: vs' ∧ S p ∧ H p = some (.ins C dx []) ∧ (∀ b, S b → H b ≠ none) ∧ Reps S H (enc a) vs' ∧ pre a ∧
  ∀ (S' : Addr → Prop) H' fls dx' fs, (∀ b, S b → S' b) → (∀ b, S' b → S b ∨ H b = none) → (∀ b, S' b → H' b ≠ none) → (∀ b o, b ≠ p → H b = some o → H' b = some o) → H' p = some (.ins C dx' fs) → FlsOk S' H' fls fs → (p :: adrF fls).Nodup → (∀ q ∈ adrF fls, H q = none) → post a fls → Q .non H'
theorem flsOk_back {Γ : Gm} {S : Addr → Prop} {H : Hp} {δ : Sls} (st : StA Γ S H δ) : ∀ {fls : List (Str × Fl)} {fs : List (Str × V)}, FlsOk S H fls fs → (∀ q ∈ adrF fls, Γ.S0 q) → FlsOk Γ.S0 H fls fs
  | [], _, h, _ => h
  | (n, y) :: r, fs, h, k => by
    obtain ⟨v, rest, rfl, h1, h2⟩ := h
    refine ⟨v, rest, rfl, ?_, flsOk_back st h2 fun q hq => k q (List.mem_append_right _ hq)⟩
    cases y with
    | v d => exact st.back h1
    | own q ds =>
      obtain ⟨e, _, vs, m1, m2⟩ := h1
      exact ⟨e, k q (List.mem_append_left _ (by simp [Fl.adr])), vs, m1, m2.mv fun x o n z => ⟨fun w => n (st.sub x w), z⟩⟩
theorem flsOk_mv {S S' : Addr → Prop} {H H' : Hp} (m : Mv S H S' H') (hs : ∀ a, S a → S' a) : ∀ {fls : List (Str × Fl)} {fs : List (Str × V)}, FlsOk S H fls fs → (∀ q ∈ adrF fls, ∀ o, H q = some o → H' q = some o) → FlsOk S' H' fls fs
  | [], _, h, _ => h
  | (n, y) :: r, fs, h, k => by
    obtain ⟨v, rest, rfl, h1, h2⟩ := h
    refine ⟨v, rest, rfl, ?_, flsOk_mv m hs h2 fun q hq => k q (List.mem_append_right _ hq)⟩
    cases y with
    | v d => exact Rep.mv m h1
    | own q ds =>
      obtain ⟨e, h0, vs, m1, m2⟩ := h1
      exact ⟨e, hs q h0, vs, k q (List.mem_append_left _ (by simp [Fl.adr])) _ m1, m2.mv m⟩
/-- a method of the class at C -/
structure Dfm (K : PySem.W.Frag) (C : Addr) (m qual : Str) (st : Stmt) (ps : List Str) : Prop where
  ex : ∃ (f : Addr) (fd : FuncData), Cls K C ∧ Meth K C m f ∧ (Fun K m qual st f fd ∨ ∃ dvs, FunD K m qual (defArgs st) (defBody st) (defScope st) dvs [] f fd) ∧ Binds K fd ps []
section
variable {P : Program} {w : World} {K : PySem.W.Frag} {mg : Str → Option Value} {base : Heap} {m nm qual : Str} {st : Stmt} {N ps : List Str} {k : Nat} {α : Type} {enc : α → List Dt} {pre : α → Prop} {C : Addr}
theorem start_cons {N : List Str} {p : Addr} {vs' : List V} : L2.start N (.ref p :: vs') = some (.ref p) :: L2.start (N.drop 1) vs' := by
  unfold L2.start
  rw [List.length_drop, List.map_cons, List.cons_append, List.length_cons, Nat.sub_sub, Nat.add_comm 1]
theorem gd_self {S : Addr → Prop} {H : Hp} {ds : List Dt} {vs' : List V} {N : List Str} {p : Addr} {fls : List (Str × Fl)} (lv : ∀ b, S b → H b ≠ none) (r : Reps S H ds vs') (h : SlOk S H (.obj p C fls) (some (.ref p))) (nd : (p :: adrF fls).Nodup) : Gd S H (L2.start N (.ref p :: vs')) (.obj p C fls :: args ds (N.length - 1)) := by
  rw [start_cons]
  have g1 := gd_args (N := N.drop 1) lv r
  rw [List.length_drop] at g1
  refine ⟨by rw [List.length_cons, List.length_cons, g1.len], fun i e he => ?_, lv, ?_⟩
  · cases i with
    | zero =>
      cases he
      exact ⟨_, rfl, h⟩
    | succ i => exact g1.ok i e (by simpa using he)
  · show ((p :: adrF fls) ++ adrs (args ds (N.length - 1))).Nodup
    unfold args
    rw [adrs_args, List.append_nil]
    exact nd
theorem adrs_self {ds : List Dt} {n : Nat} {p : Addr} {fls : List (Str × Fl)} : adrs (.obj p C fls :: args ds n) = p :: adrF fls := by
  show (p :: adrF fls) ++ adrs (args ds n) = _
  unfold args
  rw [adrs_args, List.append_nil]
theorem Dfm.obj {stt : α → List (Str × Fl)} {post : α → Dt → List (Str × Fl) → Prop} (D : Dfm K C m qual st ps) (Sc : FnScope N ps (defScope st)) (hl : ∀ a, (enc a).length + 1 = ps.length)
    (hb : ∀ (f : Addr) (cdv : Value) (A : Around) (outer : List Env) (s : Shared) (H : Hp) (E : XK), Room k (A.deeper (envOfC qual (defScope st) s.heap.objs.size f cdv)) → Cls K C → ∀ (Γ : Gm) (p : Addr) (a : α), Γ.B = p :: adrF (stt a) → pre a →
      SK (cxOf CX0 P w K mg base N qual (defScope st) f cdv A outer s H E).nox Γ (defBody st) (.obj p C (stt a) :: args (enc a) (N.length - 1)) { nx := fun δ => ∃ fls, δ[0]? = some (.obj p C fls) ∧ adrF fls = adrF (stt a) ∧ post a .non fls, rt := fun δ d => ∃ fls, δ[0]? = some (.obj p C fls) ∧ adrF fls = adrF (stt a) ∧ post a d fls }) : Met P w K mg base (k + 1) C m (spO C stt enc pre post) [] := by
  obtain ⟨f, fd, c, me, F, b⟩ := D.ex
  refine ⟨f, fd, ps, [], c, me, (def_rule F Sc (fun vs H Q E h => ?_) (fun cdv A outer s H vs Q E hr h => ?_) : FnOk P w K mg base L2.CX0 (k + 1) f fd ps _), b, .nil⟩
  · obtain ⟨S, p, a, vs', dx, fs, rfl, _, _, _, _, _, r, _⟩ := h
    rw [List.length_cons, r.length, hl]
  · obtain ⟨S, p, a, vs', dx, fs, rfl, hS, hp, hf, nd, lv, r, hpre, q⟩ := h
    have g0 : Gd S H (L2.start N (.ref p :: vs')) (.obj p C (stt a) :: args (enc a) (N.length - 1)) := gd_self lv r ⟨rfl, hS, dx, fs, hp, hf⟩ nd
    have inS : ∀ b ∈ p :: adrF (stt a), S b := fun b hb => g0.inS (by rw [adrs_self]; exact hb)
    have fin : ∀ {S' σ' v H' δ' d}, Gd S' H' σ' δ' → StA ⟨S, H, p :: adrF (stt a)⟩ S' H' δ' → Rep S H' d v → (∃ fls, δ'[0]? = some (.obj p C fls) ∧ adrF fls = adrF (stt a) ∧ post a d fls) → Q v H' := by
      intro S' σ' v H' δ' d g' st' r' z
      obtain ⟨fls, h0, had, hpo⟩ := z
      obtain ⟨_, _, dx', fs', k1, k2⟩ := obj_of g' h0
      exact q v H' d fls dx' fs' (fun b o nb h => st'.keep b o h nb) k1 (flsOk_back st' k2 fun q hq => inS q (List.mem_cons_of_mem _ (by rw [← had]; exact hq))) had (fun b hb => g'.live b (st'.sub b hb)) r' hpo
    refine ⟨_, hb f cdv A outer s H E hr c ⟨S, H, p :: adrF (stt a)⟩ p a rfl hpre, S, g0, ⟨lv, inS, fun _ h => .inl h, fun _ h => h, fun _ _ h _ => h, fun b hb => .inl (by rw [adrs_self] at hb; exact hb)⟩, fun S' σ' H' δ' g' st' z => ?_, fun S' σ' v H' δ' d g' st' r' z => ?_, fun _ _ _ _ _ _ h => h.elim, fun _ _ _ _ _ _ h => h.elim⟩
    · exact fin g' st' (rep_non.mpr rfl) z
    · exact fin g' st' r' z
/-- the rule for __init__ -/
theorem init_rule {post : α → List (Str × Fl) → Prop} {f : Addr} {fd : FuncData} {nm : Str} (F : Fun K nm qual st f fd ∨ ∃ dvs, FunD K nm qual (defArgs st) (defBody st) (defScope st) dvs [] f fd) (Sc : FnScope N ps (defScope st)) (hl : ∀ a, (enc a).length + 1 = ps.length)
    (hb : ∀ (f : Addr) (cdv : Value) (A : Around) (outer : List Env) (s : Shared) (H : Hp) (E : XK), Room k (A.deeper (envOfC qual (defScope st) s.heap.objs.size f cdv)) → ∀ (Γ : Gm) (p : Addr) (a : α), Γ.B = [p] → pre a →
      SK (cxOf CX0 P w K mg base N qual (defScope st) f cdv A outer s H E).nox Γ (defBody st) (.obj p C [] :: args (enc a) (N.length - 1)) { nx := fun δ => ∃ fls, δ[0]? = some (.obj p C fls) ∧ post a fls, rt := fun _ _ => False }) : FnOk P w K mg base L2.CX0 (k + 1) f fd ps (spI C enc pre post) := by
  refine def_rule F Sc (fun vs H Q E h => ?_) (fun cdv A outer s H vs Q E hr h => ?_)
  · obtain ⟨S, p, a, vs', dx, rfl, _, _, _, r, _⟩ := h
    rw [List.length_cons, r.length, hl]
  · obtain ⟨S, p, a, vs', dx, rfl, hS, hp, lv, r, hpre, q⟩ := h
    have g0 : Gd S H (L2.start N (.ref p :: vs')) (.obj p C [] :: args (enc a) (N.length - 1)) := gd_self lv r ⟨rfl, hS, dx, [], hp, rfl⟩ (by simp [adrF])
    refine ⟨_, hb f cdv A outer s H E hr ⟨S, H, [p]⟩ p a rfl hpre, S, g0, ⟨lv, fun b hb => by rw [List.mem_singleton.mp hb]; exact hS, fun _ h => .inl h, fun _ h => h, fun _ _ h _ => h, fun b hb => .inl (by rw [adrs_self] at hb; exact hb)⟩, fun S' σ' H' δ' g' st' z => ?_, fun S' σ' v H' δ' d g' st' r' z => z.elim, fun _ _ _ _ _ _ h => h.elim, fun _ _ _ _ _ _ h => h.elim⟩
    obtain ⟨fls, h0, hpo⟩ := z
    obtain ⟨_, _, dx', fs', k1, k2⟩ := obj_of g' h0
    have nd := nodup_at g'.nd h0
    have nd : (p :: adrF fls).Nodup := nd
    refine q S' H' fls dx' fs' st'.sub st'.loc g'.live (fun b o nb h => st'.keep b o h (by simpa using nb)) k1 k2 nd (fun q hq => ?_) hpo
    rcases st'.new q (mem_adrs_of h0 (List.mem_cons_of_mem _ hq)) with z | z
    · rw [List.mem_singleton.mp z] at hq
      exact absurd hq (List.nodup_cons.mp nd).1
    · exact z
end
end Pr

end Text_P15
section Text_P16
set_option maxHeartbeats 4000000
namespace Pr
open PySem PySem.Spec PyProof.Rows L2
open C8 (Cal Mak Met pe_c pe_mk pe_mt pe_mt0)
local macro_rules | `(tactic| walk_at "nrm") => `(tactic| (simp only [args, setAll, List.set_cons_zero, List.set_cons_succ, List.map_cons, List.map_nil, List.length_cons, List.length_nil, List.replicate_succ, List.replicate_zero, List.cons_append, List.nil_append, Nat.reduceAdd, Nat.reduceSub]; try rfl))
/-! ## fields that are made; methods that change; instances made -/
theorem flsOk_app {S : Addr → Prop} {H : Hp} {f : Str} {y : Fl} {v : V} : ∀ {fls : List (Str × Fl)} {fs : List (Str × V)}, FlsOk S H fls fs → fls.lookup f = none → FlOk S H y v → FlsOk S H (fls ++ [(f, y)]) (putF f v fs)
  | [], fs, h, _, k => by
    rw [show fs = [] from h]
    exact ⟨v, [], rfl, k, rfl⟩
  | (n, z) :: r, fs, h, hl, k => by
    obtain ⟨u, rest, rfl, h1, h2⟩ := h
    rw [List.lookup_cons] at hl
    cases e : f == n with
    | true => rw [e] at hl; cases hl
    | false =>
      rw [e] at hl
      have ne : n ≠ f := fun z => by rw [z, beq_self_eq_true] at e; cases e
      refine ⟨u, putF f v rest, ?_, h1, flsOk_app h2 (by simpa using hl) k⟩
      show (if n = f then _ else _) = _
      rw [if_neg ne]
theorem flsOk_len {S : Addr → Prop} {H : Hp} : ∀ {fls : List (Str × Fl)} {fs : List (Str × V)}, FlsOk S H fls fs → fs.length = fls.length
  | [], fs, h => by rw [show fs = [] from h]; rfl
  | (n, z) :: r, fs, h => by
    obtain ⟨u, rest, rfl, h1, h2⟩ := h
    rw [List.length_cons, List.length_cons, flsOk_len h2]
theorem adrF_app : ∀ {l1 l2 : List (Str × Fl)}, adrF (l1 ++ l2) = adrF l1 ++ adrF l2
  | [], _ => rfl
  | (n, y) :: r, l2 => by
    show y.adr ++ adrF (r ++ l2) = (y.adr ++ adrF r) ++ adrF l2
    rw [adrF_app, List.append_assoc]
section
variable {S S' : Addr → Prop} {H H' : Hp} {σ : L2.St} {δ : Sls} {i : Nat} {e e' : Sl}
theorem Gd.swap (g : Gd S H σ δ) (hδ : δ[i]? = some e) (hn : (adrs (δ.set i e')).Nodup) (hk : ∀ b o, b ∉ e.adr → H b = some o → H' b = some o) (hl : ∀ b, S b → H' b ≠ none) (hok : ∀ ov, σ[i]? = some ov → SlOk S H e ov → SlOk S H' e' ov) : Gd S H' σ (δ.set i e') := by
  have hi : i < δ.length := (List.getElem?_eq_some_iff.mp hδ).1
  have m : Mv S H S H' := fun b u n z => ⟨n, hk b u (fun q => n (g.inS (mem_adrs_of hδ q))) z⟩
  refine ⟨by rw [List.length_set, g.len], fun j y hy => ?_, hl, hn⟩
  by_cases hj : i = j
  · subst hj
    rw [List.getElem?_set_self hi] at hy
    cases hy
    obtain ⟨ov, h1, h2⟩ := g.ok i _ hδ
    exact ⟨ov, h1, hok ov h1 h2⟩
  · rw [List.getElem?_set_ne hj] at hy
    obtain ⟨ov, h1, h2⟩ := g.ok j y hy
    exact ⟨ov, h1, h2.mv m (fun _ z => z) fun b hb u hu => hk b u (fun q => apart_at g.nd hδ hy hj q hb) hu⟩
theorem adrs_swap (hδ : δ[i]? = some e) : ∃ R, (adrs δ).Perm (e.adr ++ R) ∧ (adrs (δ.set i e')).Perm (e'.adr ++ R) := by
  have hi : i < δ.length := (List.getElem?_eq_some_iff.mp hδ).1
  refine ⟨adrs (δ.set i .any), adrs_drop hδ rfl, ?_⟩
  have h := adrs_new (δ := δ.set i .any) (i := i) (e := .any) (e' := e') (by rw [List.getElem?_set_self hi]) rfl
  rw [List.set_set] at h
  exact h
end
section
variable {X : Cx} {elt tg iter : Expr} {ifs : List Expr} {scope : Scope} {own : List (Str × Nat)} {pos : Pos} {δ : Sls} {K : Sls → Dt → Prop}
theorem lc_run2 {S : Addr → Prop} {σ : L2.St} {H : Hp} {Q : VK} (g : Gd S H σ δ) (h : IK X tg iter δ (LcK X tg elt ifs scope (own.map (·.2)) K))
    (q : ∀ D H' acc vs δ', H D = none → Stp H δ H' δ' → Gd (plus S D) H' σ δ' → H' D = some (.lst vs) → Reps (plus S D) H' acc vs → K δ' (.lst acc) → Q (.ref D) H') : tLc (tIA X tg iter) (gBlk X tg scope) (tBlk X ifs scope) (eBlk X elt scope) (own.map (·.2)) σ H Q := by
  refine ⟨δ, _, h, S, g, fun J H1 δ1 ds t1 g1 src hI => ?_⟩
  obtain ⟨h1000, hv1, Iv, h0, hstep, hend⟩ := hI
  intro D hD
  -- the state between turns: away from D
  refine ⟨fun i m H2 => m = ds.length - i ∧ i ≤ ds.length ∧ ∃ δ2 acc vs, Gd (plus S D) H2 σ δ2 ∧ Stp (upd H1 D (.lst [])) δ1 (upd H2 D (.lst [])) δ2 ∧ (H2 D = some (.lst vs) ∧ Reps (plus S D) H2 acc vs ∧ acc.length ≤ i) ∧ Iv i δ2 acc,
    ⟨ds.length, by simp, Nat.zero_le _, δ1, [], [], g1.grow hD, by rw [upd_upd]; exact Stp.refl _ _, ⟨upd_same, Reps.nil, Nat.zero_le _⟩, h0⟩, ?_⟩
  rintro i m H2 ⟨rfl, hi, δ2, acc, vs, g2, t2, ⟨hDv, ra, hla⟩, hiv⟩
  have mv2 : Mv S H1 (plus S D) H2 := fun a o n z => by
    have ne : a ≠ D := ne_of_none z hD
    refine ⟨fun w => w.elim n ne, ?_⟩
    have := t2.keep a o (fun w => n (g1.inS w)) (by rw [upd_ne ne]; exact z)
    rw [upd_ne ne] at this
    exact this
  obtain ⟨sg, ss⟩ := src (plus S D) H2 mv2 g2.live i
  have hv2 : ∀ i ∈ own.map (·.2), ∀ e, δ2[i]? = some e → e.adr = [] := fun i hi e he => by
    have e1 := congrArg (fun l : List (List Addr) => l[i]?) t2.adm
    simp only [List.getElem?_map, he] at e1
    cases h1 : δ1[i]? with
    | none => rw [h1] at e1; cases e1
    | some e' =>
      rw [h1] at e1
      rw [Option.some.inj e1]
      exact hv1 i hi e' h1
  have nD : D ∉ adrs δ2 := fun z => by
    rw [t2.adr] at z
    exact g1.fresh hD z
  by_cases hlt : i < ds.length
  · obtain ⟨hgo, hyld⟩ := sg (ds[i]) (List.getElem?_eq_getElem hlt)
    refine .inr ⟨hgo, fun H' => ∃ δ2 acc vs, Gd (plus S D) H' σ δ2 ∧ Stp (upd H1 D (.lst [])) δ1 (upd H' D (.lst [])) δ2 ∧ (H' D = some (.lst vs) ∧ Reps (plus S D) H' acc vs ∧ acc.length ≤ i + 1) ∧ Iv (i + 1) δ2 acc, fun H' hN => ⟨ds.length - (i + 1), by omega, rfl, hlt, hN⟩, fun x H3 y => ?_⟩
    obtain ⟨ex, r⟩ := hyld x H3 y
    refine ⟨_, ds[i], wipeE δ2 (own.map (·.2)), _, hstep i _ δ2 acc (List.getElem?_eq_getElem hlt) hiv, plus S D, (g2.ex ex).wipe hv2, r, fun σ3 δ3 g3 e3 j3 k3 => ?_⟩
    have hl3 : σ3.length = σ.length := by
      rw [g3.len, g2.len]
      have := congrArg List.length (e3.trans (adm_wipe hv2))
      simpa using this
    have hw3 : wipe σ3 (own.map (·.2)) = wipe σ (own.map (·.2)) := by
      apply List.ext_getElem?
      intro j
      rw [wipe_get, wipe_get, hl3]
      by_cases h : j ∈ own.map (·.2) ∧ j < σ.length
      · rw [if_pos h, if_pos h]
      · rw [if_neg h, if_neg h]
        by_cases hj : j ∈ own.map (·.2)
        · have hge : σ.length ≤ j := Nat.le_of_not_lt fun z => h ⟨hj, z⟩
          rw [List.getElem?_eq_none hge, List.getElem?_eq_none (by rw [hl3]; exact hge)]
        · rw [j3 j hj, wipe_get, if_neg (fun z => hj z.1)]
    have nD3 : D ∉ adrs δ3 := by
      rw [adrs_of (e3.trans (adm_wipe hv2))]
      exact nD
    have hD3 : H3 D = some (.lst vs) := ex D _ hDv
    have tw : Stp (upd H1 D (.lst [])) δ1 (upd H3 D (.lst [])) δ3 := by
      refine ⟨fun a o n z => ?_, (e3.trans (adm_wipe hv2)).trans t2.adm⟩
      have z2 := t2.keep a o n z
      by_cases ea : a = D
      · subst ea
        rw [upd_same] at z2 ⊢
        exact z2
      · rw [upd_ne ea] at z2 ⊢
        exact ex a o z2
    have fin : ∀ {H5 : Hp} {δ5 : Sls} {acc' : List Dt} {vs' : List V}, Gd (plus S D) H5 σ3 δ5 → Stp H3 δ3 H5 δ5 → Reps (plus S D) H5 acc' vs' → acc'.length ≤ i + 1 → Iv (i + 1) (merge (own.map (·.2)) δ2 δ5) acc' →
        ∃ δ2 acc vs, Gd (plus S D) (upd H5 D (.lst vs')) σ δ2 ∧ Stp (upd H1 D (.lst [])) δ1 (upd (upd H5 D (.lst vs')) D (.lst [])) δ2 ∧ (upd H5 D (.lst vs') D = some (.lst vs) ∧ Reps (plus S D) (upd H5 D (.lst vs')) acc vs ∧ acc.length ≤ i + 1) ∧ Iv (i + 1) δ2 acc := by
      intro H5 δ5 acc' vs' g5 t5 r5 l5 k5
      have m25 : Mv (plus S D) H2 (plus S D) H5 := ex.mv.trans (t5.mv g3)
      obtain ⟨gm, am⟩ := (g2).merge g5 hv2 (t5.adm.trans e3) m25 hw3
      have mD : Mv (plus S D) H5 (plus S D) (upd H5 D (.lst vs')) := fun a o n z => ⟨n, by rw [upd_ne (show a ≠ D from fun e => n (.inr e))]; exact z⟩
      refine ⟨merge (own.map (·.2)) δ2 δ5, acc', vs', gm.mv mD (fun _ z => z) (fun a ha u hu => ?_) (fun a z => ?_), ⟨fun a o n z => ?_, am.trans t2.adm⟩, ⟨upd_same, r5.mv mD, l5⟩, k5⟩
      · rw [upd_ne (show a ≠ D from fun e => nD (by rw [← e, ← adrs_of am]; exact ha))]
        exact hu
      · by_cases ea : a = D
        · rw [ea, upd_same]
          exact fun z => by cases z
        · rw [upd_ne ea]
          exact g5.live a z
      · have z2 := tw.keep a o n z
        rw [upd_upd]
        by_cases ea : a = D
        · subst ea
          rw [upd_same] at z2 ⊢
          exact z2
        · rw [upd_ne ea] at z2 ⊢
          exact t5.keep a o (by rw [← adrs_of tw.adm] at n; exact n) z2
    refine ⟨hw3, δ3, _, k3, plus S D, g3, fun b H4 δ4 t4 g4 k4 => ?_⟩
    have hD4 : H4 D = some (.lst vs) := t4.keep D _ nD3 hD3
    cases b with
    | false =>
      have hr4 : Reps (plus S D) H4 acc vs := (ra.mv ex.mv).mv (t4.mv g3)
      have hu : upd H4 D (.lst vs) = H4 := by
        funext a
        by_cases ea : a = D
        · rw [ea, upd_same, hD4]
        · rw [upd_ne ea]
      have := fin g4 t4 hr4 (by omega) k4
      rw [hu] at this
      exact this
    | true =>
      refine ⟨δ4, _, (show Blk X scope _ from k4), plus S D, g4, fun y H5 d' δ5 t5 g5 r5 k5 => ?_⟩
      have hD5 : H5 D = some (.lst vs) := t5.keep D _ (by rw [t4.adr]; exact nD3) hD4
      refine ⟨vs, hD5, ?_, ?_⟩
      · rw [ra.length]
        exact small1000 (by omega)
      · exact fin g5 (t4.trans t5) ((((ra.mv ex.mv).mv (t4.mv g3)).mv (t5.mv g4)).append (Reps.cons r5 Reps.nil)) (by rw [List.length_append]; simp; omega) k5
  · have e : i = ds.length := by omega
    subst e
    refine .inl ⟨ss (Nat.le_refl _), ?_⟩
    have hD0 : H D = none := by
      cases e0 : H D with
      | none => rfl
      | some o =>
        by_cases hb : D ∈ adrs δ
        · exact absurd hD (g1.there (by rw [t1.adr]; exact hb))
        · rw [t1.keep D o hb e0] at hD
          cases hD
    refine q D H2 acc vs δ2 hD0 ⟨fun a o n z => ?_, t2.adm.trans t1.adm⟩ g2 hDv ra (hend δ2 acc hiv)
    have z1 := t1.keep a o n z
    have ne : a ≠ D := ne_of_none z1 hD
    have z2 := t2.keep a o (by rw [t1.adr]; exact n) (by rw [upd_ne ne]; exact z1)
    rw [upd_ne ne] at z2
    exact z2
end
section
variable {Γ : Gm} {X : Cx} {δ : Sls} {P : Pst} {pos np apos : Pos} {e : Expr} {x f : Str} {p C : Addr} {fls : List (Str × Fl)}
/-- self.f = e, a new field, data -/
theorem s_attV (i : Nat) (c : Cls X.K C) (n : NoAttr X.K C f) (h : EK X e δ fun δ1 d => ∃ p fls, δ1[i]? = some (.obj p C fls) ∧ fls.lookup f = none ∧ fls.length < 999 ∧ P.nx (δ1.set i (.obj p C (fls ++ [(f, .v d)]))))
    (hN : X.N[i]? = some x := by rfl) (hv : Vis X.env.scope x := by first | exact Or.inl rfl | exact Or.inr (Or.inl rfl) | exact Or.inr (Or.inr rfl)) (hd : (x == ("__debug__" : Str)) = false := by decide) (hcd : (x == ("__classdict__" : Str)) = false := by decide)
    (hs : swapsWith e (some (.Attribute (.Name x np) f apos)) pos.line X.env = pure false := by rfl) : SK1 X Γ (.Assign [.Attribute (.Name x np) f apos] e pos) δ P :=
  sk1_of (ps_fld (pe_var hN hv hd hcd) ek_any hs) fun D σ H hq => by
    obtain ⟨S, g, st, k1, k2, k3, k4⟩ := hq
    refine te_seq g h fun v H1 d δ1 t1 g1 r1 z1 => ?_
    obtain ⟨p, fls, hδ1, hl, hlen, z1⟩ := z1
    obtain ⟨ho, hS, dx, fs, m1, m2⟩ := obj_of g1 hδ1
    have ad : (Sl.obj p C (fls ++ [(f, .v d)])).adr = (Sl.obj p C fls).adr := by
      show p :: adrF _ = p :: adrF _
      rw [adrF_app]
      simp [adrF, Fl.adr]
    have nd := nodup_at g1.nd hδ1
    have nd : (p :: adrF fls).Nodup := nd
    have hp : p ∈ (Sl.obj p C fls).adr := List.mem_cons_self ..
    refine ⟨_, ho, p, C, dx, fs, rfl, m1, c, n, by rw [flsOk_len m2]; omega, ?_⟩
    have g3 := g1.changed (e' := .obj p C (fls ++ [(f, .v d)])) (o := .ins C dx (putF f v fs)) hδ1 ad hp fun ov hov hok => by
      obtain ⟨e0, _, _⟩ := hok
      have mv : Mv S H1 S (upd H1 p (.ins C dx (putF f v fs))) := fun a u nn z => ⟨nn, by rw [upd_ne (fun e => nn (by rw [e]; exact hS))]; exact z⟩
      exact ⟨e0, hS, dx, putF f v fs, upd_same, flsOk_app (flsOk_off m2 hS (List.nodup_cons.mp nd).1) hl (Rep.mv mv r1)⟩
    exact k1 S σ _ _ g3 ((st.stp t1).own (mem_adrs_of hδ1 hp) (adrs_of (adm_put hδ1 ad))) z1
end
section
variable {Γ : Gm} {X : Cx} {δ : Sls} {P : Pst} {pos np apos spos : Pos} {elt tg iter : Expr} {ifs : List Expr} {scope : Scope} {own : List (Str × Nat)} {x f : Str} {C : Addr}
/-- self.f = [..], the list our own -/
theorem s_attLc (i : Nat) (c : Cls X.K C) (n : NoAttr X.K C f) (h : IK X tg iter δ (LcK X tg elt ifs scope (own.map (·.2)) fun δ1 d => ∃ p fls ds, d = .lst ds ∧ δ1[i]? = some (.obj p C fls) ∧ fls.lookup f = none ∧ fls.length < 999 ∧ ∀ q, P.nx (δ1.set i (.obj p C (fls ++ [(f, .own q ds)])))))
    (hNd : X.N.Nodup := by assumption) (hN : X.N[i]? = some x := by rfl) (hv : Vis X.env.scope x := by first | exact Or.inl rfl | exact Or.inr (Or.inl rfl) | exact Or.inr (Or.inr rfl)) (hd : (x == ("__debug__" : Str)) = false := by decide) (hcd : (x == ("__classdict__" : Str)) = false := by decide)
    (hsw : swapsWith (.ListComp elt [⟨tg, iter, ifs, 0⟩] scope pos) (some (.Attribute (.Name x np) f apos)) spos.line X.env = pure false := by rfl)
    (ok : BlkOk X.N X.env.scope scope own := by exact blkOk_by (by rfl)) (hc : X.calm = true := by rfl) (hs : ∀ x, foldedSetIterable iter X.env x = pure x := by intro _; rfl) : SK1 X Γ (.Assign [.Attribute (.Name x np) f apos] (.ListComp elt [⟨tg, iter, ifs, 0⟩] scope pos) spos) δ P :=
  sk1_of (ps_fld (pe_var hN hv hd hcd) (pe_lc (g := gBlk X tg scope) (tt := tBlk X ifs scope) (te := eBlk X elt scope) hc hNd ik_any ok
    (fun s H C cl fp => ⟨fun pins s' σ H' v u Q I r hq => by
      obtain ⟨J, d, δ, K, h1, h2⟩ := hq
      exact (h1 s H C cl fp).run pins s' σ H' v u Q I r h2⟩)
    (fun s H C cl fp => ⟨fun pins s' σ H' Q I hq => by
      obtain ⟨δ, K, h1, h2⟩ := hq
      exact (h1 s H C cl fp).run pins s' σ H' Q I h2⟩)
    (fun s H C cl fp => ⟨fun pins s' σ H' Q I hq => by
      obtain ⟨δ, K, h1, h2⟩ := hq
      exact (h1 s H C cl fp).run pins s' σ H' Q I h2⟩) hs) hsw) fun E σ H hq => by
    obtain ⟨S, g, st, k1, k2, k3, k4⟩ := hq
    refine lc_run2 g h fun D H1 acc vs δ1 hD0 t1 g1 hDv ra z1 => ?_
    obtain ⟨p, fls, ds, e0, hδ1, hl, hlen, z1⟩ := z1
    cases e0
    obtain ⟨ho, hS, dx, fs, m1, m2⟩ := obj_of g1 hδ1
    have nd := nodup_at g1.nd hδ1
    have nd : (p :: adrF fls).Nodup := nd
    have hp : p ∈ (Sl.obj p C fls).adr := List.mem_cons_self ..
    have hD : D ∉ adrs δ1 := by
      rw [t1.adr]
      exact g.fresh hD0
    have neD : D ≠ p := fun e => hD (mem_adrs_of hδ1 (by rw [e]; exact hp))
    have hΓD : Γ.H0 D = none := st.old g hD0
    obtain ⟨R, q1, q2⟩ := adrs_swap (e' := .obj p C (fls ++ [(f, .own D acc)])) hδ1
    have ad : (Sl.obj p C (fls ++ [(f, .own D acc)])).adr = (Sl.obj p C fls).adr ++ [D] := by
      show p :: adrF _ = (p :: adrF _) ++ [D]
      rw [adrF_app]
      simp [adrF, Fl.adr]
    rw [ad] at q2
    have pm : (adrs (δ1.set i (.obj p C (fls ++ [(f, .own D acc)])))).Perm (D :: adrs δ1) := by
      refine q2.trans ?_
      rw [List.append_assoc]
      exact (List.perm_middle (l₁ := (Sl.obj p C fls).adr) (a := D) (l₂ := R)).trans (q1.symm.cons D)
    refine ⟨_, ho, p, C, dx, fs, rfl, m1, c, n, by rw [flsOk_len m2]; omega, ?_⟩
    have mv : Mv (plus S D) H1 (plus S D) (upd H1 p (.ins C dx (putF f (.ref D) fs))) := fun a u nn z => ⟨nn, by rw [upd_ne (fun e => nn (by rw [e]; exact hS))]; exact z⟩
    have g3 : Gd (plus S D) (upd H1 p (.ins C dx (putF f (.ref D) fs))) σ (δ1.set i (.obj p C (fls ++ [(f, .own D acc)]))) := by
      refine g1.swap hδ1 (pm.nodup_iff.mpr (List.nodup_cons.mpr ⟨hD, g1.nd⟩)) (fun b o hb hbo => ?_) (fun b hb => ?_) fun ov hov hok => ?_
      · rw [upd_ne (fun e => hb (by rw [e]; exact hp))]
        exact hbo
      · by_cases e : b = p
        · rw [e, upd_same]
          exact fun z => by cases z
        · rw [upd_ne e]
          exact g1.live b hb
      · obtain ⟨e0, _, _⟩ := hok
        refine ⟨e0, hS, dx, putF f (.ref D) fs, upd_same, flsOk_app (flsOk_off m2 hS (List.nodup_cons.mp nd).1) hl ⟨rfl, .inr rfl, vs, ?_, Reps.mv mv ra⟩⟩
        rw [upd_ne neD]
        exact hDv
    have st1 := st.stp t1
    refine k1 (plus S D) σ _ _ g3 ⟨st1.live, st1.bS, fun a z => z.elim (st1.loc a) (fun e => .inr (by rw [e]; exact hΓD)), fun a z => .inl (st1.sub a z), fun a o h1 h2 => ?_, fun q hq => ?_⟩ (z1 D)
    · have := st1.keep a o h1 h2
      by_cases e : a = p
      · rcases st1.new p (mem_adrs_of hδ1 hp) with z | z
        · exact absurd (by rw [e]; exact z) h2
        · rw [e, z] at h1
          cases h1
      · rw [upd_ne e]
        exact this
    · rcases List.mem_cons.mp (pm.mem_iff.mp hq) with e | hq
      · rw [e]
        exact .inr hΓD
      · exact st1.new q hq
end
end Pr

end Text_P16
section Text_P17
set_option maxHeartbeats 4000000
namespace Pr
open PySem PySem.Spec PyProof.Rows L2
open C8 (Cal Mak Met pe_c pe_mk pe_mt pe_mt0)
local macro_rules | `(tactic| walk_at "nrm") => `(tactic| (simp only [args, setAll, List.set_cons_zero, List.set_cons_succ, List.map_cons, List.map_nil, List.length_cons, List.length_nil, List.replicate_succ, List.replicate_zero, List.cons_append, List.nil_append, Nat.reduceAdd, Nat.reduceSub]; try rfl))
/-! ## methods that change, called; instances made -/
section
variable {X : Cx} {e : Expr} {es : List Expr} {kws : List Keyword} {pos apos np : Pos} {δ : Sls} {K : Sls → Dt → Prop} {x m : Str} {C : Addr} {k j : Nat} {α : Type} {stt : α → List (Str × Fl)} {enc : α → List Dt} {pre : α → Prop} {post : α → Dt → List (Str × Fl) → Prop}
theorem objCall {S : Addr → Prop} {H : Hp} {σ : L2.St} {Q : VK} {i : Nat} {p : Addr} {a : α} {vs' : List V} (g : Gd S H σ δ) (hδ : δ[i]? = some (.obj p C (stt a))) (r : Reps S H (enc a) vs') (hp : pre a) (q : ∀ v H' d δ', Stp H δ H' δ' → Gd S H' σ δ' → Rep S H' d v → K δ' d → Q v H')
    (hK : ∀ d fls, adrF fls = adrF (stt a) → post a d fls → K (δ.set i (.obj p C fls)) d) : spO C stt enc pre post (.ref p :: vs') H Q L2.E0 := by
  obtain ⟨ho, hS, dx, fs, m1, m2⟩ := obj_of g hδ
  have nd := nodup_at g.nd hδ
  refine ⟨S, p, a, vs', dx, fs, rfl, hS, m1, m2, nd, g.live, r, hp, fun v H' d fls' dx' fs' hk k1 k2 had hl rr hpo => ?_⟩
  have ad : (Sl.obj p C fls').adr = (Sl.obj p C (stt a)).adr := by
    show p :: adrF _ = p :: adrF _
    rw [had]
  refine q v H' d _ ⟨fun b o hb hbo => hk b o (fun z => hb (mem_adrs_of hδ z)) hbo, adm_put hδ ad⟩ (g.swap hδ (by rw [adrs_put hδ ad]; exact g.nd) hk hl fun ov hov hok => ⟨hok.1, hS, dx', fs', k1, k2⟩) rr (hK d fls' had hpo)
/-- o.m(e, ..) of an object in slot i -/
theorem w_mtO (i : Nat) {p : Addr} {fls : List (Str × Fl)} (c : Met X.prog X.w X.K X.mg X.base k C m (spO C stt enc pre post) []) (hr : Room j X.A) (hk : k ≤ j) (hδ : δ[i]? = some (.obj p C fls)) (hl : fls.lookup m = none)
    (h : AK X (e :: es) δ fun δ1 ds => ∃ a, δ1[i]? = some (.obj p C (stt a)) ∧ enc a = ds ∧ pre a ∧ ∀ d fls, adrF fls = adrF (stt a) → post a d fls → K (δ1.set i (.obj p C fls)) d)
    (hN : X.N[i]? = some x := by rfl) (hv : Vis X.env.scope x := by first | exact Or.inl rfl | exact Or.inr (Or.inl rfl) | exact Or.inr (Or.inr rfl)) (hd : (x == ("__debug__" : Str)) = false := by decide) (hcd : (x == ("__classdict__" : Str)) = false := by decide)
    (hst : starEach (e :: es) X.env = (false, eval e X.env) :: starEach es X.env := by rfl) (hpl : (backTo pos (starEach es X.env)).any (·.1) = false := by rfl) {pl : Sem Bool}
    (ht : eval (.Call (.Attribute (.Name x np) m apos) (e :: es) [] pos) X.env = (do
      let ov ← eval (.Name x np) X.env
      standAt apos.atName
      let (f, first) ← holding [ov] (getMethod ov m pl)
      callWith pos f first (backTo pos (starEach (e :: es) X.env)) (backToKw pos (keywordEach [] X.env))) := by rfl) : EK X (.Call (.Attribute (.Name x np) m apos) (e :: es) [] pos) δ K :=
  ek_of (pe_mt (pl := pl) c hr hk (pe_var hN hv hd hcd) ak_any hst hpl ht) fun σ H Q hq => by
    obtain ⟨S, g, q⟩ := hq
    obtain ⟨ho, hS, dx, fs, m1, m2⟩ := obj_of g hδ
    refine ⟨_, ho, p, dx, fs, rfl, m1, fls_none m2 hl, ta_seq g h fun vs H1 ds δ1 t1 g1 r1 h1 => ?_⟩
    obtain ⟨a, hδ1, e1, hp, hK⟩ := h1
    subst e1
    rw [List.append_nil]
    exact objCall g1 hδ1 r1 hp (fun v H' d δ' t' => q v H' d δ' (t1.trans t')) hK
/-- o.m() -/
theorem w_mtO0 (i : Nat) {p : Addr} (a : α) (c : Met X.prog X.w X.K X.mg X.base k C m (spO C stt enc pre post) []) (hr : Room j X.A) (hk : k ≤ j) (hδ : δ[i]? = some (.obj p C (stt a))) (hl : (stt a).lookup m = none) (he : enc a = []) (hp : pre a) (hK : ∀ d fls, adrF fls = adrF (stt a) → post a d fls → K (δ.set i (.obj p C fls)) d)
    (hN : X.N[i]? = some x := by rfl) (hv : Vis X.env.scope x := by first | exact Or.inl rfl | exact Or.inr (Or.inl rfl) | exact Or.inr (Or.inr rfl)) (hd : (x == ("__debug__" : Str)) = false := by decide) (hcd : (x == ("__classdict__" : Str)) = false := by decide) {pl : Sem Bool}
    (ht : eval (.Call (.Attribute (.Name x np) m apos) [] [] pos) X.env = (do
      let ov ← eval (.Name x np) X.env
      standAt apos.atName
      let (f, first) ← holding [ov] (getMethod ov m pl)
      callWith pos f first (backTo pos (starEach [] X.env)) (backToKw pos (keywordEach [] X.env))) := by rfl) : EK X (.Call (.Attribute (.Name x np) m apos) [] [] pos) δ K :=
  ek_of (pe_mt0 (pl := pl) c hr hk (pe_var hN hv hd hcd) ht) fun σ H Q hq => by
    obtain ⟨S, g, q⟩ := hq
    obtain ⟨ho, hS, dx, fs, m1, m2⟩ := obj_of g hδ
    refine ⟨_, ho, p, dx, fs, rfl, m1, fls_none m2 hl, ?_⟩
    show spO C stt enc pre post (.ref p :: ([] ++ [])) H Q L2.E0
    exact objCall g hδ (by rw [he]; exact Reps.nil) hp q hK
end
section
variable {Γ : Gm} {X : Cx} {δ : Sls} {P : Pst} {pos cpos np p' : Pos} {e : Expr} {es : List Expr} {x y : Str} {C : Addr} {k j : Nat} {α : Type} {enc : α → List Dt} {pre : α → Prop} {post : α → List (Str × Fl) → Prop}
theorem new2 {H : Hp} {x dx : Addr} {o o' : HO} (h1 : H x = none) (h2 : H dx = none) {a : Addr} {u : HO} (h : H a = some u) : upd (upd H dx o) x o' a = some u := by
  rw [upd_ne (ne_of_none h h1), upd_ne (ne_of_none h h2)]
  exact h
theorem old2 {H : Hp} {x dx : Addr} {o o' : HO} {a : Addr} (h : upd (upd H dx o) x o' a = none) : H a = none ∧ a ≠ x ∧ a ≠ dx := by
  have n1 : a ≠ x := fun e => by rw [e, upd_same] at h; cases h
  rw [upd_ne n1] at h
  have n2 : a ≠ dx := fun e => by rw [e, upd_same] at h; cases h
  rw [upd_ne n2] at h
  exact ⟨h, n1, n2⟩
/-- what stands after an instance is made -/
theorem madeGd {S S' : Addr → Prop} {H H' : Hp} {σ : L2.St} {x dx : Addr} {o o' : HO} (g : Gd S H σ δ) (h1 : H x = none) (h2 : H dx = none) (sub : ∀ b, plus S x b → S' b) (loc : ∀ b, S' b → plus S x b ∨ upd (upd H dx o) x o' b = none) (hl : ∀ b, S' b → H' b ≠ none) (keep : ∀ b u, b ≠ x → upd (upd H dx o) x o' b = some u → H' b = some u) : Mv S H S' H' ∧ Gd S' H' σ δ := by
  have kp : ∀ a u, H a = some u → H' a = some u := fun a u h => keep a u (ne_of_none h h1) (new2 h1 h2 h)
  have mv : Mv S H S' H' := fun a u n h => ⟨fun z => (loc a z).elim (fun z => z.elim n (ne_of_none h h1)) fun z => (nomatch ((old2 z).1.symm.trans h : none = some u)), kp a u h⟩
  exact ⟨mv, g.mv mv (fun a z => sub a (.inl z)) (fun a _ u hu => kp a u hu) hl⟩
/-- x = C(e, ..), the instance our own -/
theorem s_mkO (i : Nat) (c : Mak X.prog X.w X.K X.mg X.base k y C (spI C enc pre post) []) (hr : Room j X.A) (hk : k + 1 ≤ j) (h : AK X (e :: es) δ fun δ1 ds => ∃ a, enc a = ds ∧ pre a ∧ (∃ z, δ1[i]? = some z ∧ z.adr = []) ∧ ∀ p fls, post a fls → P.nx (δ1.set i (.obj p C fls)))
    (hN : X.N.Nodup := by assumption) (hi : X.N[i]? = some x := by rfl) (hx : Loc X.env.scope x := by first | exact Or.inl rfl | exact Or.inr rfl) (hg : Gl X y := by rfl)
    (hdb : (y == ("__debug__" : Str)) = false := by decide) (he : starEach (e :: es) X.env = (false, eval e X.env) :: starEach es X.env := by rfl) (hpl : (backTo cpos (starEach es X.env)).any (·.1) = false := by rfl)
    (hs : swapsWith (.Call (.Name y np) (e :: es) [] cpos) (some (.Name x p')) pos.line X.env = pure false := by rfl) (hf : X.fn x = true ∨ X.env.scope.names.lookup x = some .local := by first | exact .inl rfl | exact .inr rfl) : SK1 X Γ (.Assign [.Name x p'] (.Call (.Name y np) (e :: es) [] cpos) pos) δ P :=
  sk1_of (ps_set hN hi hx (pe_mk c hr hk hg ak_any hdb he hpl) hs hf) fun D σ H hq => by
    obtain ⟨S, g0, st0, k1, k2, k3, k4⟩ := hq
    refine ta_seq g0 h fun vs H1 ds δ1 t1 g r1 h1 => ?_
    obtain ⟨a, e1, hp, ⟨z, hδ, hz⟩, hK⟩ := h1
    subst e1
    have st := st0.stp t1
    intro q dq hq hdq nq
    rw [List.append_nil]
    have mq : Mv S H1 (plus S q) (upd (upd H1 dq (.own q)) q (.ins C dq [])) := fun b u n h => ⟨fun z => z.elim n (ne_of_none h hq), new2 hq hdq h⟩
    refine ⟨plus S q, q, a, vs, dq, rfl, .inr rfl, upd_same, fun b hb => ?_, r1.mv mq, hp, fun S' H' fls dx' fs sub loc hl keep hf hfl nd nw hpo => ⟨rfl, ?_⟩⟩
    · rcases hb with hb | hb
      · intro z
        exact g.live b hb (old2 z).1
      · rw [hb, upd_same]
        exact fun z => by cases z
    · obtain ⟨mv, g2⟩ := madeGd g hq hdq sub loc hl keep
      have fr : ∀ b ∈ q :: adrF fls, H1 b = none := fun b hb => by
        rcases List.mem_cons.mp hb with e | hb
        · rw [e]
          exact hq
        · exact (old2 (nw b hb)).1
      have pm := adrs_new (e' := .obj q C fls) hδ hz
      have hn : (adrs (δ1.set i (.obj q C fls))).Nodup := pm.nodup_iff.mpr (List.nodup_append.mpr ⟨nd, g.nd, fun b hb b' hb' e => g.fresh (fr b hb) (by rw [e]; exact hb')⟩)
      have g3 := g2.put (v := .ref q) hδ (e' := .obj q C fls) ⟨rfl, sub q (.inr rfl), dx', fs, hf, hfl⟩ hn
      refine k1 S' _ _ _ g3 ⟨st.live, st.bS, fun b z => ?_, fun b z => sub b (.inl (st.sub b z)), fun b o h1 h2 => ?_, fun b hb => ?_⟩ (hK q fls hpo)
      · rcases loc b z with z | z
        · rcases z with z | z
          · exact st.loc b z
          · rw [z]
            exact .inr (st.old g hq)
        · exact .inr (st.old g (old2 z).1)
      · have hb := st.keep b o h1 h2
        exact keep b o (ne_of_none hb hq) (new2 hq hdq hb)
      · rcases List.mem_append.mp (pm.mem_iff.mp hb) with hb | hb
        · exact .inr (st.old g (fr b hb))
        · exact st.new b hb
end
section
variable {X : Cx} {δ : Sls} {K : Sls → Dt → Prop} {pos cpos np : Pos} {e : Expr} {es : List Expr} {y : Str} {C : Addr} {k j : Nat} {α : Type} {enc : α → List Dt} {pre : α → Prop} {post : α → List (Str × Fl) → Prop}
theorem adrF_v : ∀ {ns : List Str} {ds : List Dt}, adrF ((ns.zip ds).map fun z => (z.1, Fl.v z.2)) = []
  | [], _ => rfl
  | n :: ns, [] => rfl
  | n :: ns, d :: ds => by
    show [] ++ adrF ((ns.zip ds).map fun z => (z.1, Fl.v z.2)) = []
    rw [adrF_v]
    rfl
theorem flsOk_v {S : Addr → Prop} {H : Hp} : ∀ {ns : List Str} {ds : List Dt} {fs : List (Str × V)}, ns.length = ds.length → FlsOk S H ((ns.zip ds).map fun z => (z.1, Fl.v z.2)) fs → ∃ vs, fs = ns.zip vs ∧ ns.length = vs.length ∧ Reps S H ds vs
  | [], [], fs, _, h => ⟨[], by rw [show fs = [] from h]; rfl, rfl, Reps.nil⟩
  | [], d :: ds, _, h, _ => by simp at h
  | n :: ns, [], _, h, _ => by simp at h
  | n :: ns, d :: ds, fs, hl, h => by
    obtain ⟨v, r, rfl, h1, h2⟩ := h
    obtain ⟨vs, e, l, rr⟩ := flsOk_v (by simpa using hl) h2
    exact ⟨v :: vs, by rw [e]; rfl, by rw [List.length_cons, List.length_cons, l], Reps.cons h1 rr⟩
/-- C(e, ..), the instance data -/
theorem w_mkD (c : Mak X.prog X.w X.K X.mg X.base k y C (spI C enc pre post) []) (hr : Room j X.A) (hk : k + 1 ≤ j) (h : AK X (e :: es) δ fun δ1 ds => ∃ a, enc a = ds ∧ pre a ∧ ∀ fls, post a fls → ∃ (ns : List Str) (ds' : List Dt), ns.length = ds'.length ∧ fls = ((ns.zip ds').map fun z => (z.1, Fl.v z.2)) ∧ K δ1 (.ins C ns ds'))
    (hg : Gl X y := by rfl) (hdb : (y == ("__debug__" : Str)) = false := by decide) (he : starEach (e :: es) X.env = (false, eval e X.env) :: starEach es X.env := by rfl) (hpl : (backTo cpos (starEach es X.env)).any (·.1) = false := by rfl) : EK X (.Call (.Name y np) (e :: es) [] cpos) δ K :=
  ek_of (pe_mk c hr hk hg ak_any hdb he hpl) fun σ H Q hq => by
    obtain ⟨S, g0, qq⟩ := hq
    refine ta_seq g0 h fun vs H1 ds δ1 t1 g r1 h1 => ?_
    obtain ⟨a, e1, hp, hK⟩ := h1
    subst e1
    intro q dq hq hdq nq
    rw [List.append_nil]
    have mq : Mv S H1 (plus S q) (upd (upd H1 dq (.own q)) q (.ins C dq [])) := fun b u n h => ⟨fun z => z.elim n (ne_of_none h hq), new2 hq hdq h⟩
    refine ⟨plus S q, q, a, vs, dq, rfl, .inr rfl, upd_same, fun b hb => ?_, r1.mv mq, hp, fun S' H' fls dx' fs sub loc hl keep hf hfl nd nw hpo => ⟨rfl, ?_⟩⟩
    · rcases hb with hb | hb
      · intro z
        exact g.live b hb (old2 z).1
      · rw [hb, upd_same]
        exact fun z => by cases z
    · obtain ⟨mv, g2⟩ := madeGd g hq hdq sub loc hl keep
      obtain ⟨ns, ds', hln, rfl, hK⟩ := hK fls hpo
      obtain ⟨us, e2, lu, rr⟩ := flsOk_v hln hfl
      have sh : Mv S' H' S H' := fun a u n h => ⟨fun z => n (sub a (.inl z)), h⟩
      have g3 : Gd S H' σ δ1 := g2.shrink (fun a z => sub a (.inl z)) fun a ha => g.inS ha
      refine qq _ H' _ δ1 (t1.trans ⟨fun b o _ h => keep b o (ne_of_none h hq) (new2 hq hdq h), rfl⟩) g3 (rep_ins.mpr ⟨q, dx', us, rfl, fun z => g.live q z hq, by rw [← e2]; exact hf, lu, rr.mv sh⟩) hK
end
/-! ## a method call with one keyword -/
structure MetK (P : Program) (w : World) (K : PySem.W.Frag) (mg : Str → Option Value) (base : Heap) (k : Nat) (C : Addr) (m : Str) (sp : Sp) (n : Nat) (ks : List Str) : Prop where
  ex : ∃ (f : Addr) (fd : FuncData) (ps : List Str), Cls K C ∧ Meth K C m f ∧ FnOk P w K mg base CX0 k f fd ps sp ∧ KBn K fd ps n ks (fun us ws => us ++ ws) (fun us ws => us ++ ws)
section
variable {X : Cx} {e o b : Expr} {es : List Expr} {δ : Sls} {K : Sls → Dt → Prop} {pos apos kpos : Pos} {m kw : Str} {C : Addr} {k j n : Nat} {α : Type} {enc : α → List Dt} {pre : α → Prop} {post : α → Dt → Prop}
/-- o.m(e, .., kw=b) -/
theorem w_mtK (c : MetK X.prog X.w X.K X.mg X.base k C m (spP enc pre post) n [kw]) (hr : Room j X.A) (hk : k ≤ j)
    (h : EK X o δ fun δ1 d0 => ∃ ns ds, d0 = .ins C ns ds ∧ m ∉ ns ∧ AK X (e :: es) δ1 fun δ2 as => as.length + 1 = n ∧ EK X b δ2 fun δ3 d3 => ∃ a, enc a = d0 :: (as ++ [d3]) ∧ pre a ∧ ∀ d, post a d → K δ3 d)
    (hall : (backToKw pos (keywordEach [⟨some kw, b, kpos⟩] X.env)).all (·.1.isSome) = true := by rfl) (hks : (backToKw pos (keywordEach [⟨some kw, b, kpos⟩] X.env)).filterMap (·.1) = [kw] := by rfl) (hst : starEach (e :: es) X.env = (false, eval e X.env) :: starEach es X.env := by rfl)
    (hpl : ((backTo pos (starEach (e :: es) X.env)).any (·.1) || (backToKw pos (keywordEach [⟨some kw, b, kpos⟩] X.env)).any (·.1.isNone)) = false := by rfl) {pl : Sem Bool}
    (ht : eval (.Call (.Attribute o m apos) (e :: es) [⟨some kw, b, kpos⟩] pos) X.env = (do
      let ov ← eval o X.env
      standAt apos.atName
      let (f, first) ← holding [ov] (getMethod ov m pl)
      callWith pos f first (backTo pos (starEach (e :: es) X.env)) (backToKw pos (keywordEach [⟨some kw, b, kpos⟩] X.env))) := by rfl) : EK X (.Call (.Attribute o m apos) (e :: es) [⟨some kw, b, kpos⟩] pos) δ K := by
  obtain ⟨f, fd, ps, hc, hm, F, hb⟩ := c.ex
  refine ek_of (pe_methN (pl := pl) (kws := [⟨some kw, b, kpos⟩]) ek_any hc hm F (hr.mono hk) hb ak_any (pk_cons ek_any pk_nil) hall hks hst hpl ht) fun σ H Q hq => ?_
  obtain ⟨S, g, q⟩ := hq
  refine te_seq g h fun v H1 d δ1 t1 g1 r1 h1 => ?_
  obtain ⟨ns, ds, rfl, hm, h1⟩ := h1
  obtain ⟨a, dx, vs, rfl, hs, ha, hl, rr⟩ := rep_ins.mp r1
  refine ⟨a, dx, _, rfl, ha, look_none hm, ta_seq g1 h1 fun us H2 as δ2 t2 g2 r2 h2 => ?_⟩
  obtain ⟨l2, h2⟩ := h2
  refine te_seq g2 h2 fun u H3 d3 δ3 t3 g3 r3 h3 => ?_
  obtain ⟨a0, e0, hp, hK⟩ := h3
  refine ⟨by rw [r2.length]; exact l2, rfl, S, a0, g3.live, ?_, hp, fun v H' d ex r pd => q v H' d δ3 (((t1.trans t2).trans t3).trans ex.stp) (g3.ex ex) r (hK d pd)⟩
  rw [e0]
  exact Reps.cons ((r1.mv (t2.mv g1)).mv (t3.mv g2)) ((r2.mv (t3.mv g2)).append (Reps.cons r3 Reps.nil))
end
/-! ## a def (or method) over data -/
section
variable {P : Program} {w : World} {K : PySem.W.Frag} {mg : Str → Option Value} {base : Heap} {nm qual : Str} {st : Stmt} {N ps : List Str} {k : Nat} {α : Type} {enc : α → List Dt} {pre : α → Prop} {post : α → Dt → Prop}
theorem pure_rule {f : Addr} {fd : FuncData} (F : Fun K nm qual st f fd ∨ ∃ dvs, FunD K nm qual (defArgs st) (defBody st) (defScope st) dvs [] f fd) (Sc : FnScope N ps (defScope st)) (hl : ∀ a, (enc a).length = ps.length)
    (hb : ∀ (f : Addr) (cdv : Value) (A : Around) (outer : List Env) (s : Shared) (H : Hp) (E : XK), Room k (A.deeper (envOfC qual (defScope st) s.heap.objs.size f cdv)) → ∀ (Γ : Gm) (a : α), Γ.B = [] → pre a →
      SK (cxOf CX0 P w K mg base N qual (defScope st) f cdv A outer s H E).nox Γ (defBody st) (args (enc a) N.length) { nx := fun _ => post a .non, rt := fun _ d => post a d }) : FnOk P w K mg base CX0 (k + 1) f fd ps (spP enc pre post) := by
  refine def_rule F Sc (fun vs H Q E h => ?_) (fun cdv A outer s H vs Q E hr h => ?_)
  · obtain ⟨S, a, _, r, _⟩ := h
    rw [r.length, hl]
  · obtain ⟨S, a, lv, r, hp, q⟩ := h
    refine ⟨_, hb f cdv A outer s H E hr ⟨S, H, []⟩ a rfl hp, S, gd_args lv r, ⟨lv, (fun _ h => by cases h), fun _ h => .inl h, fun _ h => h, fun _ _ h _ => h, fun p hp => ?_⟩, fun S' σ' H' δ' g' st' z => ?_, fun S' σ' v H' δ' d g' st' r' z => ?_, fun _ _ _ _ _ _ h => h.elim, fun _ _ _ _ _ _ h => h.elim⟩
    · unfold args at hp
      rw [adrs_args] at hp
      cases hp
    · exact q .non H' .non (fun a o h => st'.keep a o h (by simp)) (rep_non.mpr rfl) z
    · exact q v H' d (fun a o h => st'.keep a o h (by simp)) r' z
end
end Pr

end Text_P17
section Text_P18
set_option maxHeartbeats 4000000
namespace Pr
open PySem PySem.Spec PyProof.Rows L2
open C8 (Cal Mak Met pe_c pe_mk pe_mt pe_mt0)
local macro_rules | `(tactic| walk_at "nrm") => `(tactic| (simp only [args, setAll, List.set_cons_zero, List.set_cons_succ, List.map_cons, List.map_nil, List.length_cons, List.length_nil, List.replicate_succ, List.replicate_zero, List.cons_append, List.nil_append, Nat.reduceAdd, Nat.reduceSub]; try rfl))
/-! ## the greatest of threes -/
abbrev Tr := Int × Int × Int
def dTr (x : Tr) : Dt := .tup [.int x.1, .int x.2.1, .int x.2.2]
def pTr (x : Tr) : PyData := .tuple [.int x.1, .int x.2.1, .int x.2.2]
theorem dTr_py (x : Tr) : (dTr x).py = pTr x := rfl
theorem lt_tr {x y : Tr} (h : x.1 ≠ y.1) : PySem.W.dataLt (pTr x) (pTr y) = decide (x.1 < y.1) := by
  have e : PySem.W.dataLt (pTr x) (pTr y) = PyProof.Rows.lexLt PyProof.Rows.itemOrd (.inl 1 :: .inl x.1 :: .inl 1 :: .inl x.2.1 :: .inl 1 :: .inl x.2.2 :: .inl 0 :: []) (.inl 1 :: .inl y.1 :: .inl 1 :: .inl y.2.1 :: .inl 1 :: .inl y.2.2 :: .inl 0 :: []) := rfl
  rw [e, PyProof.Rows.lex_self, PySem.W.lex_atom (fun z => h (Sum.inl.inj z))]
  exact PySem.W.dataLt_int x.1 y.1
theorem max_tr : ∀ (xs : List Tr) (x : Tr), ∃ z, PySem.W.maxD (pTr x) (xs.map pTr) = pTr z ∧ z ∈ x :: xs ∧ ∀ y ∈ x :: xs, y.1 ≤ z.1
  | [], x => ⟨x, rfl, List.mem_cons_self .., fun y hy => by
    rcases List.mem_cons.mp hy with rfl | hy
    · exact Int.le_refl _
    · cases hy⟩
  | a :: xs, x => by
    have e : PySem.W.maxD (pTr x) ((a :: xs).map pTr) = PySem.W.maxD (if PySem.W.dataLt (pTr x) (pTr a) then pTr a else pTr x) (xs.map pTr) := rfl
    rw [e]
    cases q : PySem.W.dataLt (pTr x) (pTr a) with
    | true =>
      obtain ⟨z, h1, h2, h3⟩ := max_tr xs a
      refine ⟨z, h1, List.mem_cons_of_mem _ h2, fun y hy => ?_⟩
      rcases List.mem_cons.mp hy with rfl | hy
      · have ha := h3 a (List.mem_cons_self ..)
        by_cases hx : y.1 = a.1
        · omega
        · rw [lt_tr hx] at q
          have := of_decide_eq_true q
          omega
      · exact h3 y hy
    | false =>
      obtain ⟨z, h1, h2, h3⟩ := max_tr xs x
      refine ⟨z, h1, ?_, fun y hy => ?_⟩
      · rcases List.mem_cons.mp h2 with h | h
        · rw [h]
          exact List.mem_cons_self ..
        · exact List.mem_cons_of_mem _ (List.mem_cons_of_mem _ h)
      · rcases List.mem_cons.mp hy with rfl | hy
        · exact h3 y (List.mem_cons_self ..)
        · rcases List.mem_cons.mp hy with rfl | hy
          · have hx0 := h3 x (List.mem_cons_self ..)
            by_cases hx : x.1 = y.1
            · omega
            · rw [lt_tr hx] at q
              have := of_decide_eq_false q
              omega
          · exact h3 y (List.mem_cons_of_mem _ hy)
theorem maxD3 {δ : Sls} {K : Sls → Dt → Prop} {z : Dt} {ns : List Tr} (k0 : ns = [] → K δ z) (k1 : ∀ m ∈ ns, (∀ y ∈ ns, y.1 ≤ m.1) → K δ (dTr m)) : ∃ ds, Dt.lst (ns.map dTr) = .lst ds ∧ (∀ d ∈ ds, d.plain = true) ∧ PySem.W.AlikeAll (ds.map Dt.py) ∧ PyData.depthAll (ds.map Dt.py) ≤ 8 ∧
      (ds = [] → K δ z) ∧ ∀ (d d0 : Dt) (r : List Dt), ds = d0 :: r → d ∈ ds → d.py = PySem.W.maxD d0.py (r.map Dt.py) → K δ d := by
  have em : (ns.map dTr).map Dt.py = ns.map pTr := by rw [List.map_map]; rfl
  refine ⟨_, rfl, fun d hd => ?_, ?_, ?_, fun e => k0 (List.map_eq_nil_iff.mp e), fun d d0 r e hd hm => ?_⟩
  · obtain ⟨n, _, rfl⟩ := List.mem_map.mp hd
    rfl
  · rw [em]
    constructor
    · intro x hx y hy
      obtain ⟨a, _, rfl⟩ := List.mem_map.mp hx
      obtain ⟨b, _, rfl⟩ := List.mem_map.mp hy
      rfl
    · intro x hx
      obtain ⟨a, _, rfl⟩ := List.mem_map.mp hx
      exact fun h => by cases h
  · rw [em]
    clear k0 k1 em
    induction ns with
    | nil => decide
    | cons a ns ih =>
      show max (PyData.depth (pTr a)) (PyData.depthAll (ns.map pTr)) ≤ 8
      have : PyData.depth (pTr a) = 1 := rfl
      omega
  · obtain ⟨m, hmem, rfl⟩ := List.mem_map.mp hd
    cases ns with
    | nil => cases e
    | cons n ns =>
      rw [List.map_cons] at e
      injection e with e1 e2
      subst e1
      subst e2
      obtain ⟨z', h1, h2, h3⟩ := max_tr ns n
      have hr : (ns.map dTr).map Dt.py = ns.map pTr := by rw [List.map_map]; rfl
      rw [hr, dTr_py, dTr_py, h1] at hm
      have ez : m = z' := by
        unfold pTr at hm
        injection hm with hm
        injection hm with a1 hm
        injection hm with a2 hm
        injection hm with a3 hm
        injection a1 with a1
        injection a2 with a2
        injection a3 with a3
        exact Prod.ext a1 (Prod.ext a2 a3)
      rw [ez]
      exact k1 z' h2 h3
end Pr

end Text_P18
section Text_P19
set_option maxHeartbeats 4000000
namespace Pr
open PySem PySem.Spec PyProof.Rows L2
open C8 (Cal Mak Met pe_c pe_mk pe_mt pe_mt0)
local macro_rules | `(tactic| walk_at "nrm") => `(tactic| (simp only [args, setAll, List.set_cons_zero, List.set_cons_succ, List.map_cons, List.map_nil, List.length_cons, List.length_nil, List.replicate_succ, List.replicate_zero, List.cons_append, List.nil_append, Nat.reduceAdd, Nat.reduceSub]; try rfl))
/-! ## a list of our own, compared -/
section
variable {X : Cx} {pos np : Pos} {δ : Sls} {KB : Sls → Bool → Prop} {x : Str} {b : Expr}
theorem own_dp {K' : PySem.W.Frag} {S : Addr → Prop} {H : Hp} {p : Addr} {ds : List Dt} (pd : (Dt.lst ds).plain = true) (h : OwnL S H p ds) : Dp K' H (.ref p) (Dt.lst ds).py := by
  obtain ⟨hS, vs, hv, hr⟩ := h
  refine rep_dp (S := fun a => S a ∧ a ≠ p) pd (rep_lst.mpr ⟨p, vs, rfl, fun z => z.2 rfl, hv, hr.mv fun a o n z => ⟨fun w => n w.1, z⟩⟩)
/-- x != e, x a list of our own -/
theorem t_neO (i : Nat) {p : Addr} {ds : List Dt} (hu : X.A.units + 64 < cLine) (hδ : δ[i]? = some (.own p ds)) (pd : (Dt.lst ds).plain = true) (sd : SeqAt.shaped (Dt.lst ds).py = true) (h : EK X b δ fun δ2 d2 => d2.plain = true ∧ SeqAt.shaped d2.py = true ∧ δ2[i]? = some (.own p ds) ∧ KB δ2 (!PyData.eqv (Dt.lst ds).py d2.py))
    (hN : X.N[i]? = some x := by rfl) (hv : Vis X.env.scope x := by first | exact Or.inl rfl | exact Or.inr (Or.inl rfl) | exact Or.inr (Or.inr rfl)) (hd : (x == ("__debug__" : Str)) = false := by decide) (hcd : (x == ("__classdict__" : Str)) = false := by decide) (hm : behindInMarks .NotEq b = false := by first | exact nomark _ | with_unfolding_all rfl) : TK X (.Compare (.Name x np) [.NotEq] [b] pos) δ KB :=
  tk_of (pt_cmpR (op_neD hu) (pe_var hN hv hd hcd) ek_any hm) fun σ H Q hq => by
    obtain ⟨S, g, q⟩ := hq
    obtain ⟨o, ho, e0, _⟩ := g.ok i _ hδ
    subst e0
    refine ⟨_, ho, te_seq g h fun v2 H2 d2 δ2 t2 g2 r2 h2 => ?_⟩
    obtain ⟨pd2, sd2, hδ2, k⟩ := h2
    obtain ⟨o2, ho2, e2, hown⟩ := g2.ok i _ hδ2
    exact ⟨_, _, own_dp pd hown, rep_dp pd2 r2, sd, sd2, _, rfl, q _ H2 δ2 t2 g2 k⟩
end
end Pr

end Text_P19
section Text_SSet
set_option maxHeartbeats 4000000
namespace Ss
open PySem PySem.Spec PyProof.Rows L2
open PySem.Froz (SD sObj addTx tailTx TxOk add_ok add_x is_str get_upd)
/-! ## texts in order, each once -/
def leS (a b : Str) : Bool := decide (a.cps.toList ≤ b.cps.toList)
theorem leS_trans (a b c : Str) (h1 : leS a b = true) (h2 : leS b c = true) : leS a c = true := decide_eq_true (List.le_trans (of_decide_eq_true h1) (of_decide_eq_true h2))
theorem leS_total (a b : Str) : (leS a b || leS b a) = true := by
  rw [Bool.or_eq_true]
  rcases List.le_total a.cps.toList b.cps.toList with h | h
  · exact .inl (decide_eq_true h)
  · exact .inr (decide_eq_true h)
theorem leS_anti (a b : Str) (h1 : leS a b = true) (h2 : leS b a = true) : a = b := by
  have e := List.le_antisymm (of_decide_eq_true h1) (of_decide_eq_true h2)
  cases a; cases b
  congr
  exact Array.toList_inj.mp e
/-- r is the texts of xs, each once, in order -/
structure IsSS (xs r : List Str) : Prop where
  nd : r.Nodup
  mem : ∀ x, x ∈ r ↔ x ∈ xs
  ord : r.Pairwise fun a b => leS a b = true
theorem IsSS.one {xs r r' : List Str} (h : IsSS xs r) (h' : IsSS xs r') : r = r' := by
  have p : r.Perm r' := (List.perm_ext_iff_of_nodup h.nd h'.nd).mpr fun x => (h.mem x).trans (h'.mem x).symm
  exact p.eq_of_pairwise (fun a b _ _ h1 h2 => leS_anti a b h1 h2) h.ord h'.ord
/-! ## the set -/
structure TxR (P : Program) (w : World) (D : SD) (l : List Str) : Prop where
  ok : TxOk P w D l
  ris : Ris D.2.2.place.toList
  led : w.params.followText "set-order" = true ∨ D.2.2.led = true
section
variable {P : Program} {w : World} {A : Around} {E : Value → Shared → Prop} {s : Shared}
theorem tail_ris {ep : Nat} {es1 : Array (Int × Value)} {t2 : SetTable} {wd : Bool} (r : Ris t2.place.toList) : Ris (tailTx ep es1 t2 wd).2.2.place.toList := by
  unfold tailTx
  split
  · exact relayAll_ris _ _ _
  · exact r
theorem tail_led {ep : Nat} {es1 : Array (Int × Value)} {t2 : SetTable} {wd : Bool} : (tailTx ep es1 t2 wd).2.2.led = t2.led := by
  unfold tailTx
  split
  · exact relayAll_led _ _ _
  · rfl
theorem TxR.add {D : SD} {l : List Str} {k : Str} (u : Tok) (F : TxR P w D l) : TxR P w (addTx (hashStr w k) (.str k u) D) (k :: l) := by
  have h1 := layNew_ris D.2.2 D.1 (hashStr w k) (.str k u) F.ris
  have h2 := layNew_led D.2.2 D.1 (hashStr w k) (.str k u)
  refine ⟨add_ok u F.ok, ?_, F.led.imp id fun z => ?_⟩
  · unfold addTx
    refine tail_ris ?_
    split
    · exact h1
    · exact h1
  · unfold addTx
    rw [tail_led]
    rw [z] at h2
    split
    · exact h2
    · exact h2
/-- a text that is there already -/
theorem dup_x {a : Addr} {D : SD} {l : List Str} {k : Str} {u : Tok} {Q : Bool → Shared → Prop} (ho : s.heap.get? a = some (sObj "set" D)) (F : TxOk P w D l) (hk : k ∈ l) (hb : l.length < scanBound)
    (h : Q false s) : wpAny (model P w) A (setAddHashed a (.str k u) (hashStr w k)) Q E s := by
  obtain ⟨es, ep, t⟩ := D
  have hsz : es.size = l.length := F.sz
  have hb0 : es.size < scanBound := by rw [hsz]; exact hb
  obtain ⟨e, he, hi⟩ := (F.mem k).mp hk
  unfold setAddHashed setAddHashedIn
  refine wpAny_holding (wpAny_bind (wpAny_setState_of ho (rfl : (sObj "set" (es, ep, t)).data = .set es ep t) F.fit ?_))
  dsimp only
  rw [byScan_of rfl hb0 F.el]
  simp only [↓reduceIte]
  unfold setAddByScan
  refine wpAny_bind (wpAny_bind (wpAny_rule (wpAny_bind (wpAny_setScan_of (knd := strKind P w) (k := k) (is_str k u) ho (rfl : (sObj "set" (es, ep, t)).data = .set es ep t) F.fit F.el ?_))))
  cases hr : List.findIdx? (fun e => (strKind P w).is k e.2) es.toList with
  | none =>
    have := List.findIdx?_eq_none_iff.mp hr e he
    rw [hi] at this
    cases this
  | some j => exact wpAny_pure (wpAny_pure h)
/-- what the loop has met: l is what is there, xs what has been met -/
def Met (P : Program) (w : World) (h : Heap) (a : Addr) (xs : List Str) : Prop := ∃ D l, h.get? a = some (sObj "set" D) ∧ TxR P w D l ∧ l.Nodup ∧ (∀ x, x ∈ l ↔ x ∈ xs) ∧ l.length ≤ xs.length
theorem Met.at {h h' : Heap} {a : Addr} {xs : List Str} (m : Met P w h a xs) (k : ∀ o, h.get? a = some o → h'.get? a = some o) : Met P w h' a xs := by
  obtain ⟨D, l, ho, r⟩ := m
  exact ⟨D, l, k _ ho, r⟩
/-- one text more -/
theorem met_add {a : Addr} {xs : List Str} {x : Str} {u : Tok} {Q : Bool → Shared → Prop} (m : Met P w s.heap a xs) (hb : xs.length + 1 < scanBound)
    (h : ∀ h' b, (∀ c o, c ≠ a → s.heap.get? c = some o → h'.get? c = some o) → Met P w h' a (xs ++ [x]) → Q b { s with heap := h' }) : wpAny (model P w) A (setAddHashed a (.str x u) (hashStr w x)) Q E s := by
  obtain ⟨D, l, ho, F, nd, hm, hl⟩ := m
  by_cases hx : x ∈ l
  · refine dup_x ho F.ok hx (by omega) ?_
    refine h s.heap false (fun c o _ e => e) ⟨D, l, ho, F, nd, fun y => ?_, by rw [List.length_append]; omega⟩
    rw [List.mem_append, List.mem_singleton, hm y]
    exact ⟨.inl, fun z => z.elim id fun e => by rw [e, ← hm x]; exact hx⟩
  · refine add_x ho F.ok hx (by omega) ?_
    refine h _ true (fun c o hc e => ?_) ⟨_, x :: l, ?_, F.add u, List.nodup_cons.mpr ⟨hx, nd⟩, fun y => ?_, by rw [List.length_append, List.length_cons]; simp; omega⟩
    · exact (Heap.get?_update_other _ _ (Ne.symm hc)).trans e
    · exact get_upd _ ho rfl
    · rw [List.mem_append, List.mem_cons, List.mem_singleton, hm y]
      exact Or.comm
/-- the loop of set(xs) -/
theorem set_update_strs {I : Addr} {fp wr : List Addr} {G : Array GenState → Array GenState → Prop} {n : Nat} {Pv : Nat → Value → Prop} {St : Nat → Shared → Prop} {R : Result → Shared → Prop}
    (W : WalksS P w A.in1 I fp wr G n Pv St) (S : Addr) (hSf : S ∉ fp) (xs : List Str) (hn : n = xs.length) (hb : xs.length + 1 < scanBound) (hval : ∀ i v, Pv i v → ∃ k t, xs[i]? = some k ∧ v = .str k t) :
    ∀ (k i : Nat) (s : Shared), n - i = k → i ≤ n → St i s → Met P w s.heap S (xs.take i) → (∀ s', Moved (S :: wr) G s s' → Met P w s'.heap S xs → R (.ok (.ret .none)) s') →
      codeAny (model P w) A (.builtin "set.update.loop" ⟨[.ref S, .ref I], []⟩) R s := by
  have out : S ∉ wr := fun h => hSf (W.sub _ h)
  have wider : ∀ b ∈ wr, b ∈ S :: wr := fun b h => List.mem_cons_of_mem _ h
  intro k
  induction k with
  | zero =>
    intro i s hk hi hst m hR
    have e : i = n := by omega
    rw [e] at hst m
    rw [List.take_of_length_le (by omega)] at m
    refine codeAny_builtin PyProof.Rows.F.entry_set_update_loop ?_
    rw [Around.under_plainId PyProof.Rows.F.plain_set_update_loop _]
    show wpAny _ A.in1 (pyNext (.ref I) >>= _) _ _ s
    refine wpAny_bind (W.done s _ _ hst fun s' hm => ?_)
    show wpAny _ A.in1 (ret Value.none) _ _ s'
    exact wpAny_pure (hR s' (hm.mono wider) (m.at fun o z => hm.heap S o out z))
  | succ k ih =>
    intro i s hk hi hst m hR
    have hlt : i < n := by omega
    refine codeAny_builtin PyProof.Rows.F.entry_set_update_loop ?_
    rw [Around.under_plainId PyProof.Rows.F.plain_set_update_loop _]
    show wpAny _ A.in1 (pyNext (.ref I) >>= _) _ _ s
    refine wpAny_bind (W.item i s _ _ hlt hst fun v s' hP hst' hm => ?_)
    obtain ⟨x, t, hx, rfl⟩ := hval i v hP
    have m1 : Met P w s'.heap S (xs.take i) := m.at fun o z => hm.heap S o out z
    show wpAny _ A.in1 (holding [Value.str x t] (setAdd S (.str x t)) >>= _) _ _ s'
    refine wpAny_bind (wpAny_holding ?_)
    unfold setAdd
    refine wpAny_holding (wpAny_bind ((strKind P w).pyHash (k := x) (is_str x t) ?_))
    refine met_add (s := { s' with toks := s'.toks + 1 }) m1 (by rw [List.length_take]; omega) fun h' b hk' m2 => ?_
    have et : xs.take i ++ [x] = xs.take (i + 1) := by
      rw [List.take_add_one, hx]
      rfl
    rw [et] at m2
    refine wpAny_pure ⟨plainId_quiet PyProof.Rows.F.plain_set_update_loop _, ih (i + 1) _ (by omega) hlt (W.frame _ s' _ _ hst' (Nat.le_succ _) fun c hc o e => ?_) m2 fun s2 hm2 m3 => ?_⟩
    · exact hk' c o (fun z => hSf (z ▸ hc)) e
    · exact hR s2 (Moved.trans W.gtrans ((hm.mono wider).then_heap (Nat.le_succ _) fun c o hc e => hk' c o (fun z => hc (by rw [z]; exact List.mem_cons_self)) e) hm2) m3
abbrev emptySet (w : World) : Obj := { cls := .type "set", dict := none, data := .set #[] 0 (.fresh 0 0 (!w.params.followText "set-order")) }
theorem met_nil {h : Heap} {a : Addr} (ho : h.get? a = some (emptySet w)) : Met P w h a [] := by
  refine ⟨(#[], 0, .fresh 0 0 (!w.params.followText "set-order")), [], ho, ⟨PySem.Froz.TxOk.nil rfl, List.Pairwise.nil, ?_⟩, List.nodup_nil, fun _ => Iff.rfl, Nat.le_refl _⟩
  show _ ∨ (!w.params.followText "set-order") = true
  cases w.params.followText "set-order"
  · exact .inr rfl
  · exact .inl rfl
set_option maxHeartbeats 3200000 in
/-- set(xs), xs a list of texts -/
theorem call_set_strs {l : Addr} {items : Array Value} (xs : List Str) {Q : Value → Shared → Prop} (hh : A.handled = none) (hl : s.heap.IsList l items) (hit : StrsAre items.toList xs) (hb : xs.length + 1 < scanBound)
    (h : ∀ (h' : Heap) (tk : Nat), Met P w h' s.heap.objs.size xs → (∀ b o, s.heap.get? b = some o → h'.get? b = some o) → Q (.ref s.heap.objs.size) { s with heap := h', toks := tk }) :
    wpAny (model P w) A (call (.type "set") [.ref l]) Q E s := by
  have hisz : items.size = xs.length := by rw [← StrsAre.len_eq hit, Array.length_toList]
  obtain ⟨c, tl, hmro⟩ := PySem.F.called_set.mro
  have hmade := PySem.F.called_set.made
  have hsub := PySem.F.called_set.sub
  refine wpAny_call (codeAny_of_tree ?_)
  show wpAny _ _ (callAny (.type "set") _) _ _ _
  refine wpAny_pure ⟨Code.quiet_builtin _ (by decide +kernel), codeAny_builtin PySem.F.entry_type_call ?_⟩
  rw [Around.under_plain (weight_type_call_type "set" [.ref l] []) rfl]
  have h1 := PySem.F.called_set.notType
  have h2 := PySem.F.called_set.canCreate
  have hct := PySem.F.typeCall_set_1 (.ref l)
  repeat (any_goals (first | assumption | wp_step))
  refine codeAny_mono (code_set_led1 (.ref l) (E := E) (Q₁ := fun obj s₁ => obj = .ref s.heap.objs.size ∧ s₁ = { s with heap := s.heap.push (emptySet w) }) ⟨rfl, rfl⟩) fun r s₁ hr => ?_
  cases r with
  | error e => exact hr
  | ok fl =>
    cases fl with
    | ret obj =>
      obtain ⟨rfl, rfl⟩ := hr
      have hS : (s.heap.push (emptySet w)).get? s.heap.objs.size = some (emptySet w) := Heap.get?_push_size _ rfl
      have hT : Shared.TypeIs { s with heap := s.heap.push (emptySet w) } (.ref s.heap.objs.size) "set" := ⟨_, hS, rfl⟩
      have hli := PySem.F.called_set.init.lookup
      have hbi := PySem.F.called_set.init.bind (.ref s.heap.objs.size)
      repeat (any_goals (first | assumption | wp_step))
      refine codeAny_mono (codeAny_call_builtin (R := wants (fun r s₂ => r = .none ∧ ∃ h' tk, s₂ = { s with heap := h', toks := tk } ∧ Met P w h' s.heap.objs.size xs ∧
          (∀ b o, s.heap.get? b = some o → h'.get? b = some o)) E) PySem.F.called_set.init.plain PySem.F.entry_set_init (check_set_init_1 hT ?_)) fun r₂ s₂ hr₂ => ?_
      · obtain ⟨ol, hol, hcl, nl, hdl⟩ := hl
        obtain ⟨ocls, odict, odata, oslots⟩ := ol
        simp only at hcl hdl
        subst hcl; subst hdl
        have hol' : (s.heap.push (emptySet w)).get? l = some { cls := .type "list", dict := odict, data := .seq items nl, slots := oslots } := Heap.get?_push_of_some _ hol
        have hsls := PySem.F.sub_list_set
        have hslf := PySem.F.sub_list_frozenset
        have hne : (Value.type "list" == Value.type "dict") = false := by decide
        have hl1 : (s.heap.push (emptySet w)).IsList l items := ⟨_, hol', rfl, nl, rfl⟩
        unfold Builtin.«set.__init__» noKeywords Builtin.Frozenset.updateFrom
        generalize hPI : pyIter = PI
        wp_walk
        subst hPI
        refine wpAny_pyIter_list hl1 ?_
        refine wpAny_bind (wpAny_runValue ?_)
        have hlS : l < s.heap.objs.size := Heap.lt_size hol
        have hh3 : A.in1.in1.in1.handled = none := by simp [hh]
        have ez : (s.heap.push (emptySet w)).objs.size = s.heap.objs.size + 1 := Heap.size_push ..
        have hneI : l ≠ (s.heap.push (emptySet w)).objs.size := by rw [ez]; exact Nat.ne_of_lt (Nat.lt_succ_of_lt hlS)
        have hSf : s.heap.objs.size ∉ [(s.heap.push (emptySet w)).objs.size, l] := by
          rw [ez]
          intro z
          rcases List.mem_cons.mp z with z | z
          · exact Nat.ne_of_lt (Nat.lt_succ_self _) z
          · exact Nat.ne_of_gt hlS (List.mem_singleton.mp z)
        have hval : ∀ (i : Nat) (v : Value), items[i]? = some v → ∃ k t, xs[i]? = some k ∧ v = .str k t := fun i v hv => by
          have hi : i < xs.length := by rw [← hisz]; exact (Array.getElem?_eq_some_iff.mp hv).1
          obtain ⟨t, e⟩ := SS.strs_at hit i v (by rw [Array.getElem?_toList]; exact hv)
          refine ⟨xs[i], t, List.getElem?_eq_getElem hi, ?_⟩
          rw [e, List.getD_eq_getElem?_getD, List.getElem?_eq_getElem hi]
          rfl
        refine set_update_strs ((Walks.list hh3 _ l hneI items).toS) s.heap.objs.size hSf xs hisz hb hval (items.size - 0) 0 _ (by omega) (Nat.zero_le _)
          ⟨⟨_, Heap.get?_push_size _ rfl, rfl, rfl⟩, (hl1.push _)⟩ ?hS0 ?hR
        case hS0 => exact met_nil (Heap.get?_push_of_some _ hS)
        case hR =>
          intro s' hm m
          obtain ⟨h', g2, d', tk', os'⟩ := s'
          have eg : g2 = s.gens := hm.gens
          have ed : d' = s.drawn := hm.drawn
          have eo : os' = s.os := hm.os
          subst eg; subst ed; subst eo
          show wpAny _ _ _ _ _ _
          refine wpAny_pure ?_
          show wpAny _ _ (ret Value.none) _ _ _
          refine wpAny_pure ⟨rfl, h', tk', rfl, m, fun b o e => ?_⟩
          have hb0 : b < s.heap.objs.size := Heap.lt_size e
          refine hm.heap b o (fun z => ?_) (Heap.get?_push_of_some _ (Heap.get?_push_of_some _ e))
          rw [ez] at z
          rcases List.mem_cons.mp z with z | z
          · exact Nat.ne_of_lt hb0 z
          · exact Nat.ne_of_lt (Nat.lt_succ_of_lt hb0) (List.mem_singleton.mp z)
      · cases r₂ with
        | error e => exact hr₂
        | ok fl₂ =>
          cases fl₂ with
          | ret r =>
            obtain ⟨rfl, h', tk, rfl, m, hk'⟩ := hr₂
            repeat (any_goals (first | assumption | wp_step))
            exact h _ _ m hk'
          | _ => exact hr₂.elim
    | _ => exact hr.elim
end
end Ss

end Text_SSet
section Text_SSet2
set_option maxHeartbeats 4000000
namespace Ss
open PySem PySem.Spec PyProof.Rows L2
open PySem.Froz (SD sObj addTx tailTx TxOk add_ok add_x is_str get_upd)
def strOf : Value → Str
  | .str k _ => k
  | _ => Str.empty
theorem str_is {P : Program} {w : World} {k : Str} {v : Value} (h : (strKind P w).is k v = true) : ∃ t, v = .str k t := by
  have h : Value.isStrOf k v = true := h
  cases v with
  | str x t =>
    have e : (x == k) = true := by simpa [Value.isStrOf] using h
    exact ⟨t, by rw [eq_of_beq e]⟩
  | _ => simp [Value.isStrOf] at h
theorem perm_few : ∀ (l bs : List Str), l.Nodup → (∀ x ∈ l, x ∈ bs) → bs.length ≤ l.length → l.Perm bs
  | [], bs, _, _, h => by
    rw [List.eq_nil_of_length_eq_zero (Nat.le_zero.mp h)]
  | a :: l, bs, nd, hm, hl => by
    obtain ⟨h1, h2⟩ := List.nodup_cons.mp nd
    obtain ⟨s, t, rfl⟩ := List.append_of_mem (hm a (List.mem_cons_self ..))
    refine ((perm_few l (s ++ t) h2 (fun x hx => ?_) ?_).cons a).trans List.perm_middle.symm
    · have := hm x (List.mem_cons_of_mem _ hx)
      rcases List.mem_append.mp this with z | z
      · exact List.mem_append_left _ z
      · rcases List.mem_cons.mp z with z | z
        · exact absurd (z ▸ hx) h1
        · exact List.mem_append_right _ z
    · rw [List.length_append, List.length_cons] at hl
      rw [List.length_append]
      rw [List.length_cons] at hl
      omega
theorem each_out : ∀ {vs : List Value}, (∀ v ∈ vs, ∃ k t, v = .str k t) → PySem.W.EachIs (fun v (b : Str) => ∃ t, v = .str b t) vs (vs.map strOf)
  | [], _ => .nil
  | v :: vs, h => by
    obtain ⟨k, t, rfl⟩ := h v (List.mem_cons_self ..)
    exact .cons ⟨t, rfl⟩ (each_out fun u hu => h u (List.mem_cons_of_mem _ hu))
theorem strs_each : ∀ {vs : List Value} {bs : List Str}, PySem.W.EachIs (fun v (b : Str) => ∃ t, v = .str b t) vs bs → StrsAre vs bs
  | _, _, .nil => .nil
  | _, _, .cons ⟨t, e⟩ r => by
    subst e
    exact .cons _ t (strs_each r)
theorem vals_strs : ∀ {vs : List Value} {bs : List Str}, StrsAre vs bs → Vals (bs.map V.str) vs
  | _, _, .nil => .nil
  | _, _, .cons k t r => .cons ⟨t, rfl⟩ (vals_strs r)
section
variable {P : Program} {w : World} {A : Around} {E : Value → Shared → Prop} {s : Shared}
theorem reads_strs {h : Heap} {a : Addr} : ∀ {vs : List Value}, (∀ v ∈ vs, ∃ k t, v = .str k t) → PySem.W.EachIs (fun v (b : Str) => ∃ as, Reads h v (.str b) as ∧ a ∉ as) vs (vs.map strOf)
  | [], _ => .nil
  | v :: vs, h => by
    obtain ⟨k, t, rfl⟩ := h v (List.mem_cons_self ..)
    exact .cons ⟨[], by first | exact .str _ _ | exact .str | exact ⟨_, rfl⟩ | (constructor <;> rfl), by simp⟩ (reads_strs fun u hu => h u (List.mem_cons_of_mem _ hu))
theorem sorted_set_strs {a : Addr} {xs : List Str} {Q : Value → Shared → Prop} (m : Met P w s.heap a xs) (hh : A.handled = none) (h64 : xs.length ≤ 1000) (hu : A.units + 64 < cLine)
    (hQ : ∀ s' p (out : Array Value) (c : Nat) (r : List Str), (∀ b o, s.heap.get? b = some o → s'.heap.get? b = some o) → s'.gens = s.gens → s'.os = s.os → s.heap.objs.size ≤ p →
      s'.heap.get? p = some (seqObj "list" out c) → StrsAre out.toList r → IsSS xs r → r.length ≤ xs.length → Q (.ref p) s') :
    wpAny (model P w) A (call (.builtin "sorted") [.ref a]) Q E s := by
  obtain ⟨⟨es, ep, t⟩, l, ho, F, nd, hm, hl⟩ := m
  have hsz : es.size = l.length := F.ok.sz
  have hb : es.size < scanBound := by rw [hsz]; unfold scanBound; omega
  refine Calls.call_function_entry kind_sorted plain_sorted entry_sorted (args_sorted1 _) ?_
  unfold Builtin.«sorted»
  refine wpAny_bind (m := checkCount "sorted" 1 1 _) (wpAny_pure ?_)
  refine wpAny_bind (collect_set (A := A.in1) hh ⟨_, ho, rfl, rfl⟩ F.ok.fit hb F.ris F.led fun s1 vs k1 hz g1 o1 pm => ?_)
  have hvl : vs.length = l.length := by rw [pm.length_eq, List.length_map, Array.length_toList]; exact hsz
  have hst : ∀ v ∈ vs, ∃ k t, v = .str k t := fun v hv => by
    obtain ⟨e, he, q⟩ := List.mem_map.mp (pm.mem_iff.mp hv)
    obtain ⟨⟨k, h1, _⟩, _⟩ := F.ok.el e he
    obtain ⟨t, z⟩ := str_is h1
    exact ⟨k, t, by rw [← q]; exact z⟩
  have pk : l.Perm (vs.map strOf) := by
    refine perm_few l _ nd (fun x hx => ?_) (by rw [List.length_map, hvl]; exact Nat.le_refl _)
    obtain ⟨e, he, q⟩ := (F.ok.mem x).mp hx
    obtain ⟨t, z⟩ := str_is q
    exact List.mem_map.mpr ⟨e.2, pm.mem_iff.mpr (List.mem_map.mpr ⟨e, he, rfl⟩), by rw [z]; rfl⟩
  refine wpAny_bind (wpAny_newList ?_ (by rw [hvl, sizeLine_eq]; omega))
  have hoL : (s1.heap.push (seqObj "list" vs.toArray 0)).get? s1.heap.objs.size = some (seqObj "list" vs.toArray 0) := Heap.get?_push_size _ rfl
  refine wpAny_bind (wpAny_holding ?_)
  refine PySem.W.list_sort_data (β := Str) (bs := vs.map strOf) (enc := PyData.str) (R := fun v (b : Str) => ∃ t, v = .str b t) hoL (each_out hst) (reads_strs hst) (PySem.W.AllAlike.of fun _ _ => rfl) (PySem.W.Sortable.others fun b => ⟨(by intro z; cases z), (by intro xs z; cases z)⟩) (by rw [List.length_map, hvl, sizeLine_eq]; omega) (fun b hb => ?_) fun out hlen hout => ?_
  · show A.in1.units + 1 + 0 < cLine
    have : A.in1.units ≤ A.units + 1 := by first | exact Nat.le_refl _ | (simp [Around.in1]; done) | (unfold Around.in1; dsimp only; omega)
    omega
  obtain ⟨c, hc⟩ := sortedHeap_at (vs := vs) (out := List.toArray out) hoL
  have hss := strs_each hout
  have pr : (List.mergeSort (vs.map strOf) (PySem.W.dataLe false PyData.str)).Perm l := (List.mergeSort_perm _ _).trans pk.symm
  refine wpAny_pure ⟨_, rfl, hQ { s1 with heap := sortedHeap (s1.heap.push (seqObj "list" vs.toArray 0)) s1.heap.objs.size vs (List.toArray out) } s1.heap.objs.size (List.toArray out) c _ (fun b u e => ?_) g1 o1 hz hc hss ⟨pr.nodup_iff.mpr nd, fun x => (pr.mem_iff).trans (hm x), ?_⟩ (by rw [pr.length_eq]; exact hl)⟩
  · have q := k1 b u e
    have hlt := Heap.lt_size q
    show (sortedHeap (s1.heap.push (seqObj "list" vs.toArray 0)) s1.heap.objs.size vs (List.toArray out)).get? b = some u
    rw [sortedHeap_old (Nat.ne_of_lt hlt) (by rw [size_push']; exact Nat.lt_succ_of_lt hlt)]
    exact Heap.get?_push_of_some _ q
  · have e : PySem.W.dataLe false PyData.str = leS := PySem.W.dataLe_str (fun b : Str => b)
    rw [e]
    exact List.pairwise_mergeSort leS_trans leS_total _
end
/-! ## sorted(set(e)) -/
section
variable {X : Cx} {a : Expr} {te : TE} {p p2 q pos : Pos}
def tSSet (K : PySem.W.Frag) (te : TE) : TE := fun σ H Q => te σ H fun x H1 => ∃ l, ∃ xs : List Str, x = .ref l ∧ SqL K H1 l (xs.map V.str) ∧ xs.length ≤ 1000 ∧ ∀ r c, IsSS xs r → r.length ≤ xs.length → H1 c = none → Q (.ref c) (upd H1 c (.lst (r.map V.str)))
theorem boot_srt : bootBuiltins "sorted" = some (.builtin "sorted") := by decide +kernel
theorem boot_st : bootBuiltins "set" = some (.type "set") := by decide +kernel
theorem pe_sset (hc : X.calm = true) (hu : X.A.units + 64 < cLine) (hg : Gl X "sorted") (hm : X.mg "sorted" = none) (hg2 : Gl X "set") (hm2 : X.mg "set" = none) (ha : PE X a te)
    (na : starEach [a] X.env = (false, eval a X.env) :: starEach [] X.env := by rfl) : PE X (.Call (.Name "sorted" p) [.Call (.Name "set" p2) [a] [] q] [] pos) (tSSet X.K te) := by
  refine ⟨fun pins s σ H Q I h => ?_⟩
  refine Call_ (ld_blt I hg hm boot_srt ?_)
  refine PyProof.Rows.callWith_builtin1 (PyProof.Rows.args_cons ?_ rfl) rfl rfl
  refine Call_ (ld_blt I hg2 hm2 boot_st ?_)
  refine PyProof.Rows.callWith_type1 (PyProof.Rows.args_cons (thn (ha.run pins s σ H _ I h) fun v s1 ⟨x, H1, I1, r1, q1⟩ => PyProof.Rows.args_nil ?_) na) na rfl
  obtain ⟨l, xs, rfl, hq, h1, q1⟩ := q1
  cases r1
  obtain ⟨its, r, pl, hz⟩ := I1.list hq
  refine call_set_strs xs (I1.ok.hd hc) pl.isList (by simpa using strsAre_of r) (by unfold scanBound; omega) fun h' tk hS hk => ?_
  refine PyProof.Rows.args_nil ?_
  have I2 : Inv X pins σ H1 { s1 with heap := h', toks := tk } := I1.kept hk
  refine sorted_set_strs hS (I1.ok.hd hc) h1 hu fun s' c out n rr k g o hp hg' hi hs hl => ?_
  have hlen : (rr.map V.str).length ≤ sizeLine := by rw [List.length_map, sizeLine_eq]; omega
  have hn : H1 c = none := I2.hok.fresh hp
  have J := I2.call (H' := upd H1 c (.lst (rr.map V.str))) (h' := s'.heap) (g' := s'.gens) (d' := s'.drawn) (t' := s'.toks) (ch := []) (Un.laid k hp hn) (I2.hok.laid k hp ⟨hlen, out.toList, n, vals_strs hi, hg'⟩) (by rw [g]; exact I2.bare) (fun _ z => nomatch z)
  have e : s' = { s1 with heap := s'.heap, gens := s'.gens, drawn := s'.drawn, toks := s'.toks } := by
    cases s'
    cases s1
    cases o
    rfl
  rw [e]
  exact ⟨.ref c, _, J, rfl, q1 rr c hs hl hn⟩
end
end Ss

end Text_SSet2
section Text_P20
set_option maxHeartbeats 4000000
namespace Pr
open PySem PySem.Spec PyProof.Rows L2
open C8 (Cal Mak Met pe_c pe_mk pe_mt pe_mt0)
local macro_rules | `(tactic| walk_at "nrm") => `(tactic| (simp only [args, setAll, List.set_cons_zero, List.set_cons_succ, List.map_cons, List.map_nil, List.length_cons, List.length_nil, List.replicate_succ, List.replicate_zero, List.cons_append, List.nil_append, Nat.reduceAdd, Nat.reduceSub]; try rfl))
/-! ## sorted(set(e)), split, join, index, stores, the box laid open -/
section
variable {X : Cx} {e b o : Expr} {δ : Sls} {K : Sls → Dt → Prop} {p p2 q pos apos np tpos : Pos} {x : Str}
theorem w_sset (hu : X.A.units + 64 < cLine) (hm : X.mg "sorted" = none) (hm2 : X.mg "set" = none) (h : EK X e δ fun δ1 d => ∃ xs : List Str, d = .lst (xs.map Dt.str) ∧ xs.length ≤ 1000 ∧ ∀ r, Ss.IsSS xs r → r.length ≤ xs.length → K δ1 (.lst (r.map Dt.str)))
    (hc : X.calm = true := by rfl) (hg : Gl X "sorted" := by rfl) (hg2 : Gl X "set" := by rfl) (na : starEach [e] X.env = (false, eval e X.env) :: starEach [] X.env := by rfl) : EK X (.Call (.Name "sorted" p) [.Call (.Name "set" p2) [e] [] q] [] pos) δ K :=
  ek_of (Ss.pe_sset hc hu hg hm hg2 hm2 ek_any na) fun σ H Q hq => by
    obtain ⟨S, g, q⟩ := hq
    refine te_seq g h fun v H1 d δ1 t1 g1 r1 h1 => ?_
    obtain ⟨xs, rfl, hl, k⟩ := h1
    obtain ⟨a, vs, rfl, hs, ha, r⟩ := rep_lst.mp r1
    rw [Reps.strs.mp r] at ha
    refine ⟨a, xs, rfl, .inl (.inl ha), hl, fun rr c ir hrl hc => ?_⟩
    exact q _ _ _ δ1 (t1.trans (Ex.new hc).stp) (g1.ex (Ex.new hc)) (rep_lst.mpr ⟨c, _, rfl, not_S g1 hc, upd_same, Reps.strs.mpr rfl⟩) (k rr ir hrl)
theorem w_split (h : EK X o δ fun δ1 d1 => ∃ a : Str, d1 = .str a ∧ EK X e δ1 fun δ2 d2 => ∃ c : Str, d2 = .str c ∧ (c.length == 0) = false ∧ a.length ≤ 1000 ∧ K δ2 (.lst ((Txt.split a c).map Dt.str)))
    (hs : starEach [e] X.env = [(false, eval e X.env)] := by rfl) (hbase : attributeBase o "split" X.env (eval o X.env) = eval o X.env := by rfl) (hline : (apos.endLine == pos.line) = true := by rfl) : EK X (.Call (.Attribute o "split" apos) [e] [] pos) δ K :=
  ek_of (pe_split ek_any ek_any hs hbase hline) fun σ H Q hq => by
    obtain ⟨S, g, q⟩ := hq
    refine te_seq g h fun v1 H1 d1 δ1 t1 g1 r1 h1 => ?_
    obtain ⟨a, rfl, h1⟩ := h1
    rw [rep_str.mp r1]
    refine ⟨⟨a, rfl⟩, te_seq g1 h1 fun v2 H2 d2 δ2 t2 g2 r2 h2 => ?_⟩
    obtain ⟨c, rfl, h0, hl, k⟩ := h2
    rw [rep_str.mp r2]
    refine ⟨a, c, rfl, rfl, h0, by rw [sizeLine_eq]; omega, fun l hl => ?_⟩
    exact q _ _ _ δ2 ((t1.trans t2).trans (Ex.new hl).stp) (g2.ex (Ex.new hl)) (rep_lst.mpr ⟨l, _, rfl, not_S g2 hl, upd_same, Reps.strs.mpr rfl⟩) k
theorem w_join (h : EK X o δ fun δ1 d1 => ∃ a : Str, d1 = .str a ∧ EK X e δ1 fun δ2 d2 => ∃ ys : List Str, d2 = .lst (ys.map Dt.str) ∧ (ys.map (·.length)).sum + ys.length * a.length ≤ 16777216 ∧ K δ2 (.str (Txt.join a ys)))
    (hs : starEach [e] X.env = [(false, eval e X.env)] := by rfl) (hbase : attributeBase o "join" X.env (eval o X.env) = eval o X.env := by rfl) (hline : (apos.endLine == pos.line) = true := by rfl) : EK X (.Call (.Attribute o "join" apos) [e] [] pos) δ K :=
  ek_of (pe_join ek_any ek_any hs hbase hline) fun σ H Q hq => by
    obtain ⟨S, g, q⟩ := hq
    refine te_seq g h fun v1 H1 d1 δ1 t1 g1 r1 h1 => ?_
    obtain ⟨a, rfl, h1⟩ := h1
    rw [rep_str.mp r1]
    refine ⟨⟨a, rfl⟩, te_seq g1 h1 fun v2 H2 d2 δ2 t2 g2 r2 h2 => ?_⟩
    obtain ⟨ys, rfl, hl, k⟩ := h2
    obtain ⟨l, vs, rfl, hs, hv, r⟩ := rep_lst.mp r2
    rw [Reps.strs.mp r] at hv
    exact ⟨a, l, ys, rfl, rfl, .inl (.inl (.inl hv)), hl, q _ _ _ δ2 (t1.trans t2) g2 (rep_str.mpr rfl) k⟩
/-- x.index(e), x a list of whole numbers -/
theorem w_indexI {y : Str} (i : Nat) (ns : List Int) (hδ : δ[i]? = some (.v (.lst (ns.map Dt.int)))) (h : EK X e δ fun δ1 d => ∃ (z : Int) (j : Nat), δ1[i]? = some (.v (.lst (ns.map Dt.int))) ∧ d = .int z ∧ ns[j]? = some z ∧ (∀ m : Nat, m < j → ns[m]? ≠ some z) ∧ K δ1 (.int (j : Nat))) (hN : X.N[i]? = some y := by rfl)
    (hv : Vis X.env.scope y := by first | exact Or.inl rfl | exact Or.inr (Or.inl rfl) | exact Or.inr (Or.inr rfl)) (hd : (y == ("__debug__" : Str)) = false := by decide) (hcd : (y == ("__classdict__" : Str)) = false := by decide)
    (hbase : attributeBase (.Name y np) "index" X.env (eval (.Name y np) X.env) = eval (.Name y np) X.env := by rfl)
    (hfew : ((backTo pos (starEach [e] X.env)).all (fun x => !x.1) && (backToKw pos (keywordEach [] X.env)).all (fun x => x.1.isSome) && decide ([e].length + ([] : List Keyword).length + (if ([] : List Keyword).isEmpty then 0 else 1) < 30)) = true := by rfl)
    (hline : (apos.endLine == pos.line) = true := by rfl) (hs : starEach [e] X.env = (false, eval e X.env) :: starEach [] X.env := by rfl) (hplain : (backTo pos (starEach [] X.env)).any (·.1) = false := by rfl) : EK X (.Call (.Attribute (.Name y np) "index" apos) [e] [] pos) δ K :=
  ek_of (pe_bm PySem.F.plainAttrs_list PySem.F.slot_list_index PySem.F.type_list_index mt_index (pe_var (i := i) hN hv hd hcd) (pa_cons ek_any pa_nil hs) hbase hfew hline hs hplain) fun σ H Q hq => by
    obtain ⟨S, g, q⟩ := hq
    obtain ⟨o, ho, v, rfl, hr⟩ := g.ok i _ hδ
    obtain ⟨a, vs, rfl, hS, ha, r⟩ := rep_lst.mp hr
    refine ⟨.ref a, ho, .inl ⟨rfl, _, .inl (.inl ha)⟩, te_seq g h fun u H1 d δ1 t1 g1 r1 h1 => ?_⟩
    obtain ⟨z, j, hδ1, rfl, hj, hm, k⟩ := h1
    obtain ⟨o1, ho1, v1, rfl, hr1⟩ := g1.ok i _ hδ1
    rw [ho] at ho1
    cases ho1
    obtain ⟨a1, vs1, e1, hS1, ha1, rr1⟩ := rep_lst.mp hr1
    cases e1
    rw [Reps.ints.mp rr1] at ha1
    rw [rep_int.mp r1]
    refine ⟨a, ns.map V.int, .int z, j, .int z, rfl, rfl, .inl (.inl ha1), rfl, ?_, by rw [List.getElem?_map, hj]; rfl, ?_, fun m z' hlt hz => ?_, q _ H1 _ δ1 t1 g1 (rep_int.mpr rfl) k⟩
    · rw [List.all_eq_true]
      intro w hw
      obtain ⟨n, _, rfl⟩ := List.mem_map.mp hw
      rfl
    · show (z == z) = true
      exact beq_self_eq_true z
    · rw [List.getElem?_map] at hz
      cases hn : ns[m]? with
      | none => rw [hn] at hz; cases hz
      | some n =>
        rw [hn] at hz
        cases hz
        show (n == z) = false
        exact beq_eq_false_iff_ne.mpr fun e => hm m hlt (by rw [hn, e])
end
section
variable {Γ : Gm} {X : Cx} {δ : Sls} {P : Pst} {pos np tpos : Pos} {e b : Expr} {x : Str} {ss : List Stmt} {S : Addr → Prop} {H : Hp} {σ : L2.St}
/-- x[b] = e, x a list of our own -/
theorem s_putO (i : Nat) (h : EK X e δ fun δ1 d => ∃ p ds0, δ1[i]? = some (.own p ds0) ∧ EK X b δ1 fun δ2 d2 => ∃ ds z j, δ2[i]? = some (.own p ds) ∧ d2 = .int z ∧ ixN ds.length z = some j ∧ P.nx (δ2.set i (.own p (ds.set j d))))
    (hN : X.N[i]? = some x := by rfl) (hv : Vis X.env.scope x := by first | exact Or.inl rfl | exact Or.inr (Or.inl rfl) | exact Or.inr (Or.inr rfl)) (hd : (x == ("__debug__" : Str)) = false := by decide) (hcd : (x == ("__classdict__" : Str)) = false := by decide)
    (ha : ∀ v, assign (.Subscript (.Name x np) b tpos) X.env v = (do
      let ov ← holding [v] (eval (.Name x np) X.env)
      let iv ← holding [v, ov] (eval b X.env)
      standAt tpos
      holding [v, ov, iv] (setItem ov iv v)
      release [v, ov, iv] []) := by intro _; rfl)
    (hs : swapsWithSole [.Subscript (.Name x np) b tpos] e pos.line X.env = pure false := by rfl) (hw : swappedStores [.Subscript (.Name x np) b tpos] e X.env = pure none := by rfl)
    (h1 : (assignEach [.Subscript (.Name x np) b tpos] X.env).map (·.2) = [assign (.Subscript (.Name x np) b tpos) X.env] := by rfl) : SK1 X Γ (.Assign [.Subscript (.Name x np) b tpos] e pos) δ P :=
  sk1_of (ps_asg ek_any (pg_sub (pe_var (i := i) hN hv hd hcd) ek_any set_list ha) hs hw h1) fun D σ H hq => by
    obtain ⟨S, g, st, k1, k2, k3, k4⟩ := hq
    refine te_seq g h fun v H1 d δ1 t1 g1 r1 z1 => ?_
    obtain ⟨p, ds0, hδ1, z1⟩ := z1
    obtain ⟨o1, ho1, e1, _⟩ := g1.ok i _ hδ1
    subst e1
    refine ⟨.ref p, ho1, te_seq g1 z1 fun u H2 d2 δ2 t2 g2 r2 z2 => ?_⟩
    obtain ⟨ds, z, j, hδ2, rfl, hj, hK⟩ := z2
    obtain ⟨o2, ho2, e2, hS2, vs2, hv2, hr2⟩ := g2.ok i _ hδ2
    refine ⟨p, vs2, z, j, rfl, rep_int.mp r2, hv2, by rw [hr2.length]; exact hj, ?_⟩
    exact k1 S σ _ _ (g2.owned hδ2 (hr2.set (r1.mv (t2.mv g1)))) (((st.stp t1).stp t2).own (mem_adrs_of hδ2 (by simp [Sl.adr])) (adrs_put hδ2 rfl)) hK
theorem Gd.reslot {i : Nat} {e e' : Sl} (g : Gd S H σ δ) (h : δ[i]? = some e) (ad : e'.adr = e.adr) (ho : ∀ o, σ[i]? = some o → SlOk S H e o → SlOk S H e' o) : Gd S H σ (δ.set i e') := by
  have hi : i < δ.length := (List.getElem?_eq_some_iff.mp h).1
  refine ⟨by rw [List.length_set, g.len], fun j y hy => ?_, g.live, by rw [adrs_put h ad]; exact g.nd⟩
  by_cases hj : i = j
  · subst hj
    rw [List.getElem?_set_self hi] at hy
    cases hy
    obtain ⟨o, h1, h2⟩ := g.ok i _ h
    exact ⟨o, h1, ho o h1 h2⟩
  · rw [List.getElem?_set_ne hj] at hy
    exact g.ok j y hy
/-- the box laid open -/
theorem s_open (i : Nat) {p : Addr} {n : Nat} (hδ : δ[i]? = some (.box p n)) (h : ∀ a b c : Int, 0 ≤ a → 0 ≤ b → b < 4611686018427387904 → 0 ≤ c → c ≤ n → SK X Γ ss (δ.set i (.own p [.int a, .int b, .int c])) P) : SK X Γ ss δ P := by
  refine ⟨fun pins s σ H D I hq => ?_⟩
  obtain ⟨S, g, st, k⟩ := hq
  obtain ⟨o, ho, e, hS, a, b, c, hH, x1, x2, x3, x4, x5⟩ := g.ok i _ hδ
  refine (h a b c x1 x2 x3 x4 x5).run pins s σ H D I ⟨S, g.reslot hδ rfl fun o _ z => ⟨z.1, z.2.1, _, hH, Reps.cons (rep_int.mpr rfl) (Reps.cons (rep_int.mpr rfl) (Reps.cons (rep_int.mpr rfl) Reps.nil))⟩, st.adr (adrs_put hδ rfl), k⟩
/-- return e, the box closed -/
theorem s_retBox (i : Nat) (h : EK X e δ fun δ1 d => ∃ (p : Addr) (a b c : Int) (m : Nat), δ1[i]? = some (.own p [.int a, .int b, .int c]) ∧ (0 ≤ a ∧ 0 ≤ b ∧ b < 4611686018427387904 ∧ 0 ≤ c ∧ c ≤ m) ∧ P.rt (δ1.set i (.box p m)) d) : SK1 X Γ (.Return (some e) pos) δ P := sk1_of (ps_ret ek_any) fun D σ H hq => by
  obtain ⟨S, g, st, k1, k2, k3, k4⟩ := hq
  refine te_seq g h fun v H1 d δ1 t1 g1 r1 h1 => ?_
  obtain ⟨p, a, b, c, m, hδ, ⟨x1, x2, x3, x4, x5⟩, hk⟩ := h1
  refine k2 S σ v H1 _ d (g1.reslot hδ (e' := .box p m) rfl fun o _ z => ?_) ((st.stp t1).adr (adrs_put hδ rfl)) ((st.stp t1).back r1) hk
  obtain ⟨z1, z2, vs, z3, z4⟩ := z
  obtain ⟨v1, r', e1, w1, z4⟩ := reps_cons.mp z4
  obtain ⟨v2, v3, e2, w2, w3⟩ := reps2 z4
  subst e1 e2
  rw [rep_int.mp w1, rep_int.mp w2, rep_int.mp w3] at z3
  exact ⟨z1, z2, a, b, c, z3, x1, x2, x3, x4, x5⟩
end
end Pr

end Text_P20
section Text_P21
set_option maxHeartbeats 4000000
namespace Pr
open PySem PySem.Spec PyProof.Rows L2
open C8 (Cal Mak Met pe_c pe_mk pe_mt pe_mt0)
local macro_rules | `(tactic| walk_at "nrm") => `(tactic| (simp only [args, setAll, List.set_cons_zero, List.set_cons_succ, List.map_cons, List.map_nil, List.length_cons, List.length_nil, List.replicate_succ, List.replicate_zero, List.cons_append, List.nil_append, Nat.reduceAdd, Nat.reduceSub]; try rfl))
/-! ## a module's tuple of texts; the texts in order -/
/-- a written tuple of the module -/
def TupK (K : PySem.W.Frag) (a : Addr) (xs : List V) : Prop := ∃ (o : Obj) (its : Array Value) (n : Nat), K.lookup a = some o ∧ o.cls = .type "tuple" ∧ o.data = .seq its n ∧ its.size ≤ sizeLine ∧ Vals xs its.toList
section
variable {X : Cx} {a : Expr} {δ : Sls} {KB : Sls → Bool → Prop} {pos np : Pos} {x : Str}
theorem t_inG (ws : List Str) (hm : ∃ c, X.mg x = some (.ref c) ∧ TupK X.K c (ws.map V.str)) (h : EK X a δ fun δ1 d => ∃ w, d = .str w ∧ KB δ1 (decide (w ∈ ws))) (hg : Gl X x := by rfl) (hd : (x == ("__debug__" : Str)) = false := by decide)
    (hb : behindInMarks .In (.Name x np) = false := by first | exact nomark _ | with_unfolding_all rfl) : TK X (.Compare a [.In] [.Name x np] pos) δ KB := by
  obtain ⟨c, hm, hk⟩ := hm
  refine tk_of (pt_cmpR op_in_seq ek_any (pe_glob (v := .ref c) hg hm rfl hd) hb) fun σ H Q hq => ?_
  obtain ⟨S, g, q⟩ := hq
  refine te_seq g h fun v1 H1 d1 δ1 t1 g1 r1 h1 => ?_
  obtain ⟨w, rfl, k⟩ := h1
  rw [rep_str.mp r1]
  exact ⟨c, _, rfl, .inr (.inr hk), rfl, flatS, by rw [if_neg (by decide), inVS]; exact ⟨_, rfl, q _ H1 δ1 t1 g1 k⟩⟩
end
/-- the texts of xs in order, each once -/
instance : Nonempty (List Str) := ⟨[]⟩
noncomputable def ordS (xs : List Str) : List Str := Classical.epsilon (Ss.IsSS xs)
theorem ordS_is {xs r : List Str} (h : Ss.IsSS xs r) : r = ordS xs := h.one (Classical.epsilon_spec (p := Ss.IsSS xs) ⟨r, h⟩)
theorem ordS_ok {xs r : List Str} (h : Ss.IsSS xs r) : Ss.IsSS xs (ordS xs) := by rw [← ordS_is h]; exact h
end Pr

end Text_P21
section Text_P22
set_option maxHeartbeats 4000000
namespace Pr
open PySem PySem.Spec PyProof.Rows L2
open C8 (Cal Mak Met pe_c pe_mk pe_mt pe_mt0)
local macro_rules | `(tactic| walk_at "nrm") => `(tactic| (simp only [args, setAll, List.set_cons_zero, List.set_cons_succ, List.map_cons, List.map_nil, List.length_cons, List.length_nil, List.replicate_succ, List.replicate_zero, List.cons_append, List.nil_append, Nat.reduceAdd, Nat.reduceSub]; try rfl))
/-! ## comprehensions that show something of each item -/
section
variable {X : Cx} {elt tg iter : Expr} {ifs : List Expr} {scope : Scope} {pos : Pos} {δ : Sls} {K : Sls → Dt → Prop}
theorem gk_eq {J : Nat → Prop} {d d' : Dt} {KG : Sls → Prop} (e : d = d') (h : GK X J tg d' δ KG) : GK X J tg d δ KG := by
  rw [e]
  exact h
theorem lc_mapP {α : Type} {vs : List Nat} {δ1 : Sls} {ds : List Dt} (xs : List α) (en : α → Dt) (f : α → Bool) (gg : α → Dt) (R : α → Prop) (hd0 : ds = xs.map en) (hl : xs.length ≤ 1000) (hv : ∀ i ∈ vs, ∀ e, δ1[i]? = some e → e.adr = [])
    (h : ∀ x ∈ xs, Blk X scope fun Y => GK Y (· ∈ vs) tg (en x) (wipeE δ1 vs) fun δ3 => Blk X scope fun Y => TsK Y ifs δ3 fun δ4 b => b = f x ∧ if b = true then Blk X scope fun Y => EK Y elt δ4 fun δ5 d' => merge vs δ1 δ5 = δ1 ∧ d' = gg x ∧ R x else merge vs δ1 δ4 = δ1)
    (k : (∀ x ∈ xs, f x = true → R x) → K δ1 (.lst ((xs.filter f).map gg))) : LcK X tg elt ifs scope vs K δ1 ds := by
  subst hd0
  refine ⟨by rw [List.length_map]; exact hl, hv, fun i δ acc => (δ = δ1 ∧ acc = ((xs.take i).filter f).map gg) ∧ ∀ x ∈ xs.take i, f x = true → R x, ⟨⟨rfl, by simp⟩, by simp⟩, fun i d δ2 acc hd hI => ?_, fun δ2 acc hI => ?_⟩
  · obtain ⟨⟨e1, e2⟩, hR⟩ := hI
    subst e1
    subst e2
    rw [List.getElem?_map] at hd
    cases hx : xs[i]? with
    | none => rw [hx] at hd; cases hd
    | some x =>
      rw [hx] at hd
      cases hd
      have hm : x ∈ xs := List.mem_of_getElem? hx
      have ht : xs.take (i + 1) = xs.take i ++ [x] := by
        rw [List.take_add_one, hx]
        rfl
      intro s H C cl fp
      refine ⟨fun pins s' σ H' v u Q I r hq => (h x hm s H C cl fp).run pins s' σ H' v u Q I r ?_⟩
      obtain ⟨S, g, rr, q⟩ := hq
      refine ⟨S, g, rr, fun σ' δ' g' a' j' k' => q σ' δ' g' a' j' ?_⟩
      intro s H C cl fp
      refine ⟨fun pins s' σ H' Q I hq => (k' s H C cl fp).run pins s' σ H' Q I ?_⟩
      obtain ⟨S, g, q⟩ := hq
      refine ⟨S, g, fun b H' δ4 t4 g4 k4 => q b H' δ4 t4 g4 ?_⟩
      obtain ⟨e4, k4⟩ := k4
      cases b with
      | true =>
        intro s H C cl fp
        have k4' : Blk X scope fun Y => EK Y elt δ4 fun δ5 d' => merge vs δ2 δ5 = δ2 ∧ d' = gg x ∧ R x := k4
        refine EK.imp (k4' s H C cl fp) fun δ5 d' h5 => ?_
        obtain ⟨e5, rfl, hr⟩ := h5
        refine ⟨⟨e5, ?_⟩, fun y hy hf => ?_⟩
        · rw [ht, List.filter_append, List.map_append]
          simp [← e4]
        · rw [ht] at hy
          rcases List.mem_append.mp hy with z | z
          · exact hR y z hf
          · rw [List.mem_singleton.mp z]
            exact hr
      | false =>
        refine ⟨⟨k4, ?_⟩, fun y hy hf => ?_⟩
        · rw [ht, List.filter_append, List.map_append]
          simp [← e4]
        · rw [ht] at hy
          rcases List.mem_append.mp hy with z | z
          · exact hR y z hf
          · rw [List.mem_singleton.mp z, ← e4] at hf
            cases hf
  · obtain ⟨⟨rfl, rfl⟩, hR⟩ := hI
    rw [List.length_map, List.take_length] at hR ⊢
    exact k hR
end
end Pr

end Text_P22
section Text_P23
set_option maxHeartbeats 4000000
namespace Pr
open PySem PySem.Spec PyProof.Rows L2
open C8 (Cal Mak Met pe_c pe_mk pe_mt pe_mt0)
local macro_rules | `(tactic| walk_at "nrm") => `(tactic| (simp only [args, setAll, List.set_cons_zero, List.set_cons_succ, List.map_cons, List.map_nil, List.length_cons, List.length_nil, List.replicate_succ, List.replicate_zero, List.cons_append, List.nil_append, Nat.reduceAdd, Nat.reduceSub]; try rfl))
/-! ## a statement with what it leaves told apart -/
section
variable {Γ : Gm} {X : Cx} {δ : Sls} {P : Pst} {s : Stmt} {ss : List Stmt}
theorem s_consW (I : Sls → Prop) (h : SK1 X Γ s δ { nx := I, rt := P.rt, bk := P.bk, ct := P.ct }) (k : ∀ δ1, I δ1 → SK X Γ ss δ1 P) : SK X Γ (s :: ss) δ P := sk_of (pss_cons sk1_any sk_any) fun D σ H hq => by
  obtain ⟨S, g, st, k1, k2, k3, k4⟩ := hq
  exact ⟨Γ, δ, _, h, S, g, st, fun S1 σ1 H1 δ1 g1 st1 z => ⟨Γ, δ1, P, k δ1 z, S1, g1, st1, k1, k2, k3, k4⟩, k2, k3, k4⟩
end
/-! behind a turn of a comprehension the outer slots are as they were -/
theorem merge_set {vs : List Nat} {δ δ' : Sls} {i : Nat} {x : Sl} (h : i ∈ vs) : merge vs δ (δ'.set i x) = merge vs δ δ' := by
  apply List.ext_getElem?
  intro j
  rw [merge_get, merge_get]
  by_cases e : i = j
  · subst e
    by_cases hl : i < δ'.length
    · rw [List.getElem?_set_self hl, List.getElem?_eq_getElem hl]
      show some (if i ∈ vs then _ else _) = some (if i ∈ vs then _ else _)
      rw [if_pos h, if_pos h]
    · rw [List.getElem?_eq_none (by rw [List.length_set]; omega), List.getElem?_eq_none (by omega)]
  · rw [List.getElem?_set_ne e]
theorem merge_wipe {vs : List Nat} {δ : Sls} : merge vs δ (wipeE δ vs) = δ := by
  apply List.ext_getElem?
  intro j
  rw [merge_get, wipeE_get]
  by_cases h : j ∈ vs
  · by_cases hl : j < δ.length
    · rw [if_pos ⟨h, hl⟩, List.getElem?_eq_getElem hl]
      show some (if j ∈ vs then δ.getD j .any else _) = _
      rw [if_pos h, List.getD_eq_getElem?_getD, List.getElem?_eq_getElem hl]
      rfl
    · rw [if_neg (fun z => hl z.2), List.getElem?_eq_none (by omega)]
      rfl
  · rw [if_neg (fun z => h z.1)]
    cases δ[j]? with
    | none => rfl
    | some e =>
      show some (if j ∈ vs then _ else e) = _
      rw [if_neg h]
theorem m1 {vs : List Nat} {δ : Sls} {i : Nat} {x : Sl} (hi : i ∈ vs := by decide) : merge vs δ ((wipeE δ vs).set i x) = δ := (merge_set hi).trans merge_wipe
theorem m2 {vs : List Nat} {δ : Sls} {i j : Nat} {x y : Sl} (hi : i ∈ vs := by decide) (hj : j ∈ vs := by decide) : merge vs δ (((wipeE δ vs).set i x).set j y) = δ := (merge_set hj).trans (m1 hi)
end Pr

end Text_P23
section Text_D1
set_option maxHeartbeats 4000000
namespace Pr
open PySem PySem.Spec PyProof.Rows L2
open C8 (Cal Mak Met pe_c pe_mk pe_mt pe_mt0)
section
variable {P : Program} {w : World} {K : PySem.W.Frag} {mg : Str → Option Value} {base : Heap}
/-! ## palettes -/
abbrev nColourRow : List Str := ["palette", "colour", "row"]
theorem c_colour_row (T : Txt K mg) : Cal P w K mg base 1 "colour_row" (spP (fun a : Pal × Str => [dPal a.1, .str a.2]) (fun a => a.1.has a.2) fun a d => d = dCol (a.1.rowD a.2)) [] := by
  refine T.d_colour_row.pure (N := nColourRow) ⟨rfl, rfl, rfl, by decide +kernel, rfl, by decide +kernel, by decide +kernel⟩ (fun _ => rfl) ?_
  rintro f cdv A outer s H E hr Γ ⟨p, c⟩ hB hp
  have nd : nColourRow.Nodup := by decide +kernel
  refine s_cons (s_for (i_tup (w_ix (w_var 0 rfl (w_int (xc_tup rfl ⟨_, rfl, ⟨fun i δ => (∃ z, δ = [.v (dPal p), .v (.str c), z] ∧ z.adr = []) ∧ ∀ r ∈ p.cs.take i, decide (r.nm = c) = false, ?_, fun Γ i d δ hd hI => ?_, fun δ hI => ?_⟩⟩))))))
  · exact ⟨⟨_, rfl, rfl⟩, by simp⟩
  · obtain ⟨⟨z, rfl, hz⟩, hI⟩ := hI
    rw [List.getElem?_map] at hd
    cases hc : p.cs[i]? with
    | none => rw [hc] at hd; cases hd
    | some r =>
      rw [hc] at hd
      cases hd
      refine g_name 2 ?_ trivial rfl hz
      refine s_one (s_if (t_cmp (w_ix (w_var 2 rfl (w_int (xc_tup rfl (w_var 1 rfl (oc_eqS (KT.mk ?_)))))))))
      cases h : decide (r.nm = c) with
      | true =>
        refine s_one (s_ret (w_var 2 rfl ?_))
        have e : p.row c = some r := find_at hc h hI
        show dCol r = dCol (p.rowD c)
        unfold Pal.rowD
        rw [e]
        rfl
      | false => exact s_nil ⟨⟨_, rfl, rfl⟩, take_succ_all hc hI h⟩
  · obtain ⟨_, hI⟩ := hI
    rw [List.length_map, List.take_length] at hI
    have e : p.row c = none := List.find?_eq_none.mpr fun x hx => by rw [hI x hx]; exact Bool.false_ne_true
    have hp' : (p.row c).isSome = true := hp
    rw [e] at hp'
    cases hp'
abbrev nWashFor : List Str := ["palette", "ahead", "behind", "one", "other", "hours"]
theorem c_wash_for (T : Txt K mg) : Cal P w K mg base 2 "wash_for" (spP (fun a : Pal × Str × Str => [dPal a.1, .str a.2.1, .str a.2.2]) (fun a => a.1.has a.2.1 ∧ a.1.has a.2.2) fun a d => d = .int (a.1.washOf a.2.1 a.2.2)) [] := by
  refine T.d_wash_for.pure (N := nWashFor) ⟨rfl, rfl, rfl, by decide +kernel, rfl, by decide +kernel, by decide +kernel⟩ (fun _ => rfl) ?_
  rintro f cdv A outer s H E hr Γ ⟨p, x, y⟩ hB ⟨hx, hy⟩
  have nd : nWashFor.Nodup := by decide +kernel
  refine s_cons (s_if (t_cmp (w_var 1 rfl (w_non (oc_notN (KT.mk ?_))))))
  refine s_one (s_expr (w_callF (c_colour_row T) hr (by decide) (a_cons (w_var 0 rfl (a_cons (w_var 1 rfl (a_nil ⟨(p, x), rfl, hx, ?_⟩)))))))
  refine s_cons (s_expr (w_callF (c_colour_row T) hr (by decide) (a_cons (w_var 0 rfl (a_cons (w_var 2 rfl (a_nil ⟨(p, y), rfl, hy, ?_⟩)))))))
  refine s_cons (s_for (i_tup (w_ix (w_var 0 rfl (w_int (xc_tup rfl ⟨_, rfl, ⟨fun i δ => (∃ z1 z2 z3, δ = [.v (dPal p), .v (.str x), .v (.str y), z1, z2, z3] ∧ z1.adr = [] ∧ z2.adr = [] ∧ z3.adr = []) ∧ ∀ r ∈ p.ws.take i, (decide (r.one = x) && decide (r.other = y)) = false, ?_, fun Γ i d δ hd hI => ?_, fun δ hI => ?_⟩⟩))))))
  · exact ⟨⟨_, _, _, rfl, rfl, rfl, rfl⟩, by simp⟩
  · obtain ⟨⟨z1, z2, z3, rfl, h1, h2, h3⟩, hI⟩ := hI
    rw [List.getElem?_map] at hd
    cases hc : p.ws[i]? with
    | none => rw [hc] at hd; cases hd
    | some r =>
      rw [hc] at hd
      cases hd
      refine g_tup (gs_cons (g_name 3 (gs_cons (g_name 4 (gs_cons (g_name 5 (gs_nil ?_) trivial rfl h3)) trivial rfl h2)) trivial rfl h1))
      refine s_one (s_if (t_w (p_and (t_cmp (w_var 3 rfl (w_var 1 rfl (oc_eqS (KT.mk ?_))))))))
      cases ha : decide (r.one = x) with
      | false => exact s_nil ⟨⟨_, _, _, rfl, rfl, rfl, rfl⟩, take_succ_all hc hI (by rw [ha]; rfl)⟩
      | true =>
        refine p_and1 (t_cmp (w_var 4 rfl (w_var 2 rfl (oc_eqS (KT.mk ?_)))))
        cases hb : decide (r.other = y) with
        | false => exact s_nil ⟨⟨_, _, _, rfl, rfl, rfl, rfl⟩, take_succ_all hc hI (by rw [ha, hb]; rfl)⟩
        | true =>
          refine s_one (s_ret (w_var 5 rfl ?_))
          show Dt.int r.hours = .int (p.washOf x y)
          unfold Pal.washOf
          rw [find_at hc (by rw [ha, hb]; rfl) hI]
          rfl
  · obtain ⟨⟨z1, z2, z3, rfl, h1, h2, h3⟩, hI⟩ := hI
    refine s_one (s_ret (w_int ?_))
    rw [List.length_map, List.take_length] at hI
    show Dt.int 0 = .int (p.washOf x y)
    unfold Pal.washOf
    rw [List.find?_eq_none.mpr fun x hx => by rw [hI x hx]; exact Bool.false_ne_true]
    rfl
abbrev nReadyAt : List Str := ["palette", "colour", "at", "name", "charge", "melt", "gathers"]
theorem c_ready_at (T : Txt K mg) : Cal P w K mg base 2 "ready_at" (spP (fun a : Pal × Str × Int => [dPal a.1, .str a.2.1, .int a.2.2]) (fun a => a.1.has a.2.1) fun a d => d = .int (a.1.ready a.2.1 a.2.2)) [] := by
  refine T.d_ready_at.pure (N := nReadyAt) ⟨rfl, rfl, rfl, by decide +kernel, rfl, by decide +kernel, by decide +kernel⟩ (fun _ => rfl) ?_
  rintro f cdv A outer s H E hr Γ ⟨p, c, i⟩ hB hp
  have nd : nReadyAt.Nodup := by decide +kernel
  refine s_cons (s_asg (w_callF (c_colour_row T) hr (by decide) (a_cons (w_var 0 rfl (a_cons (w_var 1 rfl (a_nil ⟨(p, c), rfl, hp, g_tup (gs_cons (g_name 3 (gs_cons (g_name 4 (gs_cons (g_name 5 (gs_cons (g_name 6 (gs_nil ?_)))))))))⟩)))))))
  exact s_one (s_ret (w_bin (w_bin (w_var 2 rfl (w_var 4 rfl (oc_add (w_var 5 rfl (oc_add rfl))))))))
end
end Pr

end Text_D1
section Text_D2
set_option maxHeartbeats 4000000
namespace Pr
open PySem PySem.Spec PyProof.Rows L2
open C8 (Cal Mak Met pe_c pe_mk pe_mt pe_mt0)
section
variable {P : Program} {w : World} {K : PySem.W.Frag} {mg : Str → Option Value} {base : Heap}
/-! ## turns -/
theorem atI_nat {α : Type} {xs : List α} {i : Nat} {x : α} (h : xs[i]? = some x) : atI xs (i : Int) = some x := by
  have hi := (List.getElem?_eq_some_iff.mp h).1
  unfold atI ixN
  rw [if_pos (by omega), if_pos (by omega)]
  simpa using h
theorem atI_map {α β : Type} {xs : List α} {en : α → β} {i : Nat} {x : α} (h : xs[i]? = some x) : atI (xs.map en) (i : Int) = some (en x) := atI_nat (by rw [List.getElem?_map, h]; rfl)
abbrev nIsHour : List Str := ["thing"]
theorem c_is_hour (T : Txt K mg) : Cal P w K mg base 1 "is_hour" (spP (fun a : Int => [.int a]) (fun a => 0 ≤ a ∧ a ≤ 1000000) fun a d => d = (fun _ => .bl true) a) [] := by
  refine T.d_is_hour.pure (N := nIsHour) ⟨rfl, rfl, rfl, by decide +kernel, rfl, by decide +kernel, by decide +kernel⟩ (fun _ => rfl) ?_
  rintro f cdv A outer s H E hr Γ thing hB ⟨h1, h2⟩
  have nd : nIsHour.Nodup := by decide +kernel
  refine s_one <| s_ret <| w_and <| w_callB T.b_isinstance (by decide +kernel) <| a_cons <| w_var 0 rfl <| a_cons <| w_ty (T := "int") T.b_int (by decide +kernel) <| a_nil <| cc_isi rfl rfl <| ex rfl <| brT <| w_and <| w_not <| w_callB T.b_isinstance (by decide +kernel) <| a_cons <| w_var 0 rfl <| a_cons <| w_ty (T := "bool") T.b_bool (by decide +kernel) <| a_nil <| cc_isi rfl rfl <| ex rfl <| ex rfl <| brT <| w_and1 <| w_chain <| w_int <| w_var 0 rfl <| oc_le <| ex rfl <| br (fun h => w_gi T.g_LAST_HOUR <| oc_le <| ?_) (fun h => ?_)
  · rw [decide_eq_true h2]
  · exact absurd h1 (of_decide_eq_false h)
abbrev nIsTurn : List Str := ["palette", "thing", "at", "colour", "begin", "end", "one", "row"]
theorem c_is_turn (T : Txt K mg) : Cal P w K mg base 2 "is_turn" (spP (fun a : Pal × Turn => [dPal a.1, dTurn a.2]) (fun a => (a.1.cs.length ≤ 1000 ∧ a.1.has a.2.col) ∧ 0 ≤ a.2.at_ ∧ a.2.at_ < a.2.bgn ∧ a.2.bgn < a.2.fin ∧ a.2.fin ≤ 1000000) fun a d => d = (fun _ => .bl true) a) [] := by
  refine T.d_is_turn.pure (N := nIsTurn) ⟨rfl, rfl, rfl, by decide +kernel, rfl, by decide +kernel, by decide +kernel⟩ (fun _ => rfl) ?_
  rintro f cdv A outer s H E hr Γ ⟨p, t⟩ hB ⟨⟨hl, hh⟩, h1, h2, h3, h4⟩
  have nd : nIsTurn.Nodup := by decide +kernel
  refine s_cons <| s_if <| t_w <| p_or <| t_not <| t_val <| w_callB T.b_isinstance (by decide +kernel) <| a_cons <| w_var 1 rfl <| a_cons <| w_ty (T := "tuple") T.b_tuple (by decide +kernel) <| a_nil <| cc_isi rfl rfl <| KT.mk <| nb <| brT <| p_or <| t_cmp <| w_callB T.b_len (by decide +kernel) <| a_cons <| w_var 1 rfl <| a_nil <| cc_lenT <| w_int <| oc_neI <| KT.mk <| brF <| p_or1 <| t_not <| t_val <| w_callB T.b_isinstance (by decide +kernel) <| a_cons <| w_ix <| w_var 1 rfl <| w_int <| xc_tup rfl <| a_cons <| w_ty (T := "str") T.b_str (by decide +kernel) <| a_nil <| cc_isi rfl rfl <| KT.mk <| nb <| brT <| s_nil ?_
  refine s_cons <| s_asg <| w_var 1 rfl <| g_tup <| gs_cons <| g_name 2 <| gs_cons <| g_name 3 <| gs_cons <| g_name 4 <| gs_cons <| g_name 5 <| gs_nil <| ?_
  refine s_cons <| s_if <| t_w <| p_or <| t_not <| t_val <| w_callB (id := "all") T.b_all (by decide +kernel) <| a_cons <| w_lc (own := [("one", 6)]) <| i_tup <| w_tup <| a_cons <| w_var 2 rfl <| a_cons <| w_var 4 rfl <| a_cons <| w_var 5 rfl <| a_nil <| And.intro (by simp) <| ex rfl <|
    lc_map [t.at_, t.bgn, t.fin] .int (fun _ => true) (fun _ => .bl true) rfl (by simp) (lvC lvN) (fun x hx _ _ _ _ _ => g_name 6 <| fun _ _ _ _ _ => ts_nil <| And.intro rfl <| brT <| fun _ _ _ _ _ => w_callF (c_is_hour T) hr (by decide) <| a_cons <| w_var 6 rfl <| a_nil <| Exists.intro x <| And.intro rfl <| And.intro ?_ <| ⟨rfl, rfl⟩) <| a_nil <| cc_all (bs := [true, true, true]) <| KT.mk <| nb <| brT <| p_or1 <| t_not <| t_chain <| w_var 2 rfl <| w_var 4 rfl <| oc_lt <| ex rfl <| br (fun h => w_var 5 rfl <| oc_lt <| KT.mk <| nb <| br (fun h => s_nil ?_) (fun h => ?_)) (fun h => ?_)
  · simp only [List.mem_cons, List.not_mem_nil, or_false] at hx
    have h1 : 0 ≤ t.at_ := h1
    have h2 : t.at_ < t.bgn := h2
    have h3 : t.bgn < t.fin := h3
    have h4 : t.fin ≤ 1000000 := h4
    rcases hx with rfl | rfl | rfl <;> exact ⟨by omega, by omega⟩
  · refine s_one <| s_ret <| w_cmp <| w_var 3 rfl <| w_lc (own := [("row", 7)]) <| i_tup <| w_ix <| w_var 0 rfl <| w_int <| xc_tup rfl <| ex rfl <| lc_map p.cs dCol (fun _ => true) (fun c => .str c.nm) rfl hl (lvC lvN) (fun x hx _ _ _ _ _ => g_name 7 <| fun _ _ _ _ _ => ts_nil <| And.intro rfl <| brT <| fun _ _ _ _ _ => w_ix <| w_var 7 rfl <| w_int <| xc_tup rfl <| ⟨rfl, rfl⟩) ?_
    have e : (p.cs.filter fun _ => true).map (fun c => Dt.str c.nm) = (p.cs.map (·.nm)).map Dt.str := by rw [fT]; exact mapmap
    rw [e]
    refine oc_inSL ?_
    obtain ⟨_, m, en⟩ := Pal.row_some hh
    rw [decide_eq_true (List.mem_map.mpr ⟨_, m, en⟩)]
  · exact absurd h3 (of_decide_eq_false h)
  · exact absurd h2 (of_decide_eq_false h)
abbrev nIsTurns : List Str := ["palette", "thing", "one", "other"]
theorem c_is_turns (T : Txt K mg) : Cal P w K mg base 3 "is_turns" (spP (fun a : Pal × List Turn => [dPal a.1, dTurns a.2]) (fun a => a.1.cs.length ≤ 1000 ∧ a.2.length ≤ 30 ∧ (∀ t ∈ a.2, a.1.has t.col ∧ 0 ≤ t.at_ ∧ t.at_ < t.bgn ∧ t.bgn < t.fin ∧ t.fin ≤ 1000000) ∧ ∀ i t u, a.2[i]? = some t → a.2[i + 1]? = some u → t.at_ < u.at_) fun a d => d = (fun _ => .bl true) a) [] := by
  refine T.d_is_turns.pure (N := nIsTurns) ⟨rfl, rfl, rfl, by decide +kernel, rfl, by decide +kernel, by decide +kernel⟩ (fun _ => rfl) ?_
  rintro f cdv A outer s H E hr Γ ⟨p, ts⟩ hB ⟨h0, h1, h2, h3⟩
  have nd : nIsTurns.Nodup := by decide +kernel
  dsimp only at h0 h1 h2 h3
  refine s_cons <| s_if <| t_w <| p_or <| t_not <| t_val <| w_callB T.b_isinstance (by decide +kernel) <| a_cons <| w_var 1 rfl <| a_cons <| w_ty (T := "list") T.b_list (by decide +kernel) <| a_nil <| cc_isi rfl rfl <| KT.mk <| nb <| brT <| p_or <| t_cmp <| w_callB T.b_len (by decide +kernel) <| a_cons <| w_var 1 rfl <| a_nil <| cc_lenL <| w_gi T.g_MOST_TURNS <| oc_gt <| KT.mk <| br (fun h => ?_) (fun h => p_or1 <| t_not <| t_val <| w_callB (id := "all") T.b_all (by decide +kernel) <| a_cons <| w_lc (own := [("one", 2)]) <| i_lst <| w_var 1 rfl <| ex rfl <|
    lc_map ts dTurn (fun _ => true) (fun _ => .bl true) rfl (by omega) (lvC lvN) (fun x hx _ _ _ _ _ => g_name 2 <| fun _ _ _ _ _ => ts_nil <| And.intro rfl <| brT <| fun _ _ _ _ _ => w_callF (c_is_turn T) hr (by decide) <| a_cons <| w_var 0 rfl <| a_cons <| w_var 2 rfl <| a_nil <| Exists.intro (p, x) <| And.intro rfl <| And.intro ⟨⟨h0, (h2 x hx).1⟩, (h2 x hx).2⟩ <| ⟨rfl, rfl⟩) ?_)
  · have h : 30 < ((ts.map dTurn).length : Int) := of_decide_eq_true h
    rw [List.length_map] at h
    omega
  have e : (ts.filter fun _ => true).map (fun _ => Dt.bl true) = (ts.map fun _ => true).map Dt.bl := by rw [fT]; exact mapmap
  rw [e]
  refine a_nil <| cc_all <| KT.mk <| nb ?_
  rw [all_id fun _ _ => rfl]
  refine s_nil ?_
  refine s_one <| s_ret <| w_callB (id := "all") T.b_all (by decide +kernel) <| a_cons <| w_lc (own := [("one", 2), ("other", 3)]) <| i_zip T.b_zip <| w_var 1 rfl <| w_slice <| w_var 1 rfl <| o_some <| w_int <| ex rfl <| o_none <| sc_lst <| Exists.intro _ <| ex rfl <| And.intro rfl <|
    lc_map (ts.zip (ts.drop 1)) (fun x => .tup [dTurn x.1, dTurn x.2]) (fun _ => true) (fun x => .bl (decide (x.1.at_ < x.2.at_))) ?_ (by rw [List.length_zip]; omega) (lvC (lvC lvN)) (fun x hx _ _ _ _ _ => g_tup <| gs_cons <| g_name 2 <| gs_cons <| g_name 3 <| gs_nil <| fun _ _ _ _ _ => ts_nil <| And.intro rfl <| brT <| fun _ _ _ _ _ => w_cmp <| w_ix <| w_var 2 rfl <| w_int <| xc_tup rfl <| w_ix <| w_var 3 rfl <| w_int <| xc_tup rfl <| oc_lt <| ⟨rfl, rfl⟩) ?_
  · show List.zipWith _ (ts.map dTurn) (cutD (ts.map dTurn) (some 1) none) = _
    rw [cutD_from1, ← List.map_drop]
    exact zipW_map
  · have e : ((ts.zip (ts.drop 1)).filter fun _ => true).map (fun x => Dt.bl (decide (x.1.at_ < x.2.at_))) = ((ts.zip (ts.drop 1)).map fun x => decide (x.1.at_ < x.2.at_)).map Dt.bl := by rw [fT]; exact mapmap
    rw [e]
    refine a_nil <| cc_all ?_
    rw [all_id fun x hx => ?_]
    obtain ⟨i, e1, e2⟩ := zip_at hx
    rw [List.getElem?_drop, Nat.add_comm] at e2
    exact decide_eq_true (h3 i _ _ e1 e2)
end
end Pr

end Text_D2
section Text_D3
set_option maxHeartbeats 4000000
namespace Pr
open PySem PySem.Spec PyProof.Rows L2
open C8 (Cal Mak Met pe_c pe_mk pe_mt pe_mt0)
section
variable {P : Program} {w : World} {K : PySem.W.Frag} {mg : Str → Option Value} {base : Heap}
/-! ## faults, words -/
abbrev nStepFault : List Str := ["palette", "ahead", "turn", "over", "wash"]
theorem c_step_fault (T : Txt K mg) : Cal P w K mg base 3 "step_fault" (spP (fun a : Pal × Turn × Turn => [dPal a.1, dTurn a.2.1, dTurn a.2.2]) (fun a => (a.1.has a.2.1.col ∧ a.1.has a.2.2.col) ∧ 0 ≤ a.1.washOf a.2.1.col a.2.2.col ∧ a.2.1.fin + a.1.washOf a.2.1.col a.2.2.col ≤ a.2.2.at_) fun a d => d = (fun _ => .non) a) [] := by
  refine T.d_step_fault.pure (N := nStepFault) ⟨rfl, rfl, rfl, by decide +kernel, rfl, by decide +kernel, by decide +kernel⟩ (fun _ => rfl) ?_
  rintro f cdv A outer s H E hr Γ ⟨p, t, u⟩ hB ⟨hh, h1, h2⟩
  have nd : nStepFault.Nodup := by decide +kernel
  dsimp only at hh h1 h2
  dsimp only
  refine s_cons <| s_set 3 <| w_bin <| w_ix <| w_var 1 rfl <| w_int <| xc_tup rfl <| w_ix <| w_var 2 rfl <| w_int <| xc_tup rfl <| oc_sub <| And.intro ⟨_, rfl, rfl⟩ ?_
  refine s_cons <| s_if <| t_cmp <| w_var 3 rfl <| w_int <| oc_gt <| KT.mk <| br (fun h => ?_) (fun h => s_nil ?_)
  · exact absurd (of_decide_eq_true h) (by omega)
  refine s_cons <| s_set 4 <| w_callF (c_wash_for T) hr (by decide) <| a_cons <| w_var 0 rfl <| a_cons <| w_ix <| w_var 1 rfl <| w_int <| xc_tup rfl <| a_cons <| w_ix <| w_var 2 rfl <| w_int <| xc_tup rfl <| a_nil <| Exists.intro (p, t.col, u.col) <| And.intro rfl <| And.intro hh <| And.intro ⟨_, rfl, rfl⟩ ?_
  refine s_cons <| s_if <| t_cmp <| w_var 4 rfl <| w_non <| oc_isN <| KT.mk <| brF <| s_nil ?_
  refine s_one <| s_ret <| w_if <| t_cmp <| w_bin <| w_var 4 rfl <| w_var 3 rfl <| oc_add <| w_int <| oc_gt <| KT.mk <| br (fun h => ?_) (fun h => w_non <| rfl)
  have h := of_decide_eq_true h
  dsimp only at h
  omega
abbrev nTurnFault : List Str := ["palette", "turns", "number", "at", "colour", "begin", "end", "found", "early"]
theorem c_turn_fault (T : Txt K mg) : Cal P w K mg base 4 "turn_fault" (spP (fun a : Pal × List Turn × Nat => [dPal a.1, dTurns a.2.1, .int a.2.2]) (fun a => FL a.1 a.2.1 ∧ a.2.2 < a.2.1.length) fun a d => d = (fun _ => .non) a) [] := by
  refine T.d_turn_fault.pure (N := nTurnFault) ⟨rfl, rfl, rfl, by decide +kernel, rfl, by decide +kernel, by decide +kernel⟩ (fun _ => rfl) ?_
  rintro f cdv A outer s H E hr Γ ⟨p, ts, i⟩ hB ⟨fl, hi⟩
  have nd : nTurnFault.Nodup := by decide +kernel
  dsimp only at fl hi
  dsimp only
  have ei : ts[i]? = some ts[i] := List.getElem?_eq_getElem hi
  have ok := fl.ok _ (List.getElem_mem hi)
  refine s_cons <| s_asg <| w_ix <| w_var 1 rfl <| w_var 2 rfl <| xc_lst (atI_map ei) <| g_tup <| gs_cons <| g_name 3 <| gs_cons <| g_name 4 <| gs_cons <| g_name 5 <| gs_cons <| g_name 6 <| gs_nil <| ?_
  refine s_cons <| s_set 7 <| w_if <| t_cmp <| w_var 2 rfl <| w_int <| oc_gt <| KT.mk <| br (fun h => ?_) (fun h => w_non <| And.intro ⟨_, rfl, rfl⟩ ?_)
  case' refine_1 =>
    have h0 : (0 : Int) < (i : Int) := of_decide_eq_true h
    have em : ts[i - 1]? = some (ts[i - 1]'(by omega)) := List.getElem?_eq_getElem (by omega)
    have en : (i : Int) - 1 = ((i - 1 : Nat) : Int) := by omega
    have ad := fl.adj (i - 1) _ _ em (by rw [show i - 1 + 1 = i by omega]; exact ei)
    refine w_callF (c_step_fault T) hr (by decide) <| a_cons <| w_var 0 rfl <| a_cons <| w_ix <| w_var 1 rfl <| w_bin <| w_var 2 rfl <| w_int <| oc_sub <| xc_lst (by rw [en]; exact atI_map em) <| a_cons <| w_ix <| w_var 1 rfl <| w_var 2 rfl <| xc_lst (atI_map ei) <| a_nil <| Exists.intro (p, _, _) <| And.intro rfl <| And.intro ⟨⟨(fl.ok _ (List.mem_of_getElem? em)).2.2.2.2, ok.2.2.2.2⟩, ad⟩ <| And.intro ⟨_, rfl, rfl⟩ ?_
  all_goals
    refine s_cons <| s_if <| t_cmp <| w_var 7 rfl <| w_non <| oc_notN <| KT.mk <| nb <| brT <| s_nil ?_
    refine s_cons <| s_set 8 <| w_bin <| w_callF (c_ready_at T) hr (by decide) <| a_cons <| w_var 0 rfl <| a_cons <| w_var 4 rfl <| a_cons <| w_var 3 rfl <| a_nil <| Exists.intro (p, ts[i].col, ts[i].at_) <| And.intro rfl <| And.intro ok.2.2.2.2 <| w_var 5 rfl <| oc_sub <| And.intro ⟨_, rfl, rfl⟩ ?_
    refine s_one <| s_ret <| w_if <| t_cmp <| w_var 8 rfl <| w_int <| oc_gt <| KT.mk <| br (fun h => ?_) (fun h => w_non <| rfl)
    have h := of_decide_eq_true h
    have := ok.2.1
    dsimp only at h
    omega
abbrev nFaultOf : List Str := ["palette", "turns", "number", "found"]
theorem c_fault_of (T : Txt K mg) : Cal P w K mg base 5 "fault_of" (spP (fun a : Pal × List Turn => [dPal a.1, dTurns a.2]) (fun a => FL a.1 a.2 ∧ a.2.length ≤ 1000) fun a d => d = (fun _ => .non) a) [] := by
  refine T.d_fault_of.pure (N := nFaultOf) ⟨rfl, rfl, rfl, by decide +kernel, rfl, by decide +kernel, by decide +kernel⟩ (fun _ => rfl) ?_
  rintro f cdv A outer s H E hr Γ ⟨p, ts⟩ hB ⟨fl, hl⟩
  have nd : nFaultOf.Nodup := by decide +kernel
  dsimp only at fl hl
  dsimp only
  refine s_cons <| s_for <| i_rng1 T.b_range <| w_callB (id := "len") T.b_len (by decide +kernel) <| a_cons <| w_var 1 rfl <| a_nil <| cc_lenL <| ex rfl <| And.intro (by rw [List.length_map]; exact hl) <| ⟨fun i δ => ∃ z1 z2, δ = [.v (dPal p), .v (dTurns ts), z1, z2] ∧ z1.adr = [] ∧ z2.adr = [], ⟨_, _, rfl, rfl, rfl⟩, fun Γ i d δ hd hI => ?_, fun δ hI => ?_⟩
  · obtain ⟨z1, z2, rfl, h1, h2⟩ := hI
    rw [List.length_map, List.getElem?_map] at hd
    have hi : i < ts.length := by
      cases e : (List.range ts.length)[i]? with
      | none => rw [e] at hd; cases hd
      | some j => simpa using (List.getElem?_eq_some_iff.mp e).1
    rw [List.getElem?_range hi] at hd
    cases hd
    refine g_name 2 ?_ trivial rfl h1
    refine s_cons <| s_set 3 <| w_callF (c_turn_fault T) hr (by decide) <| a_cons <| w_var 0 rfl <| a_cons <| w_var 1 rfl <| a_cons <| w_var 2 rfl <| a_nil <| Exists.intro (p, ts, i) <| And.intro rfl <| And.intro ⟨fl, hi⟩ <| And.intro ⟨_, rfl, h2⟩ ?_
    exact s_one <| s_if <| t_cmp <| w_var 3 rfl <| w_non <| oc_notN <| KT.mk <| nb <| brT <| s_nil ⟨_, _, rfl, rfl, rfl⟩
  · obtain ⟨z1, z2, rfl, h1, h2⟩ := hI
    exact s_one <| s_ret <| w_non <| rfl
abbrev nWordEnds : List Str := ["palette", "turn", "wash", "at", "colour", "begin", "end", "charged", "melted"]
theorem c_word_ends (T : Txt K mg) : Cal P w K mg base 3 "word_ends" (spP (fun a : Pal × Turn × Int => [dPal a.1, dTurn a.2.1, .int a.2.2]) (fun a => a.1.has a.2.1.col) fun a d => d = (fun a : Pal × Turn × Int => .lst ((wordEnds a.1 a.2.1 a.2.2).map dWE)) a) [] := by
  refine T.d_word_ends.pure (N := nWordEnds) ⟨rfl, rfl, rfl, by decide +kernel, rfl, by decide +kernel, by decide +kernel⟩ (fun _ => rfl) ?_
  rintro f cdv A outer s H E hr Γ ⟨p, t, x⟩ hB hp
  have nd : nWordEnds.Nodup := by decide +kernel
  dsimp only
  refine s_cons <| s_asg <| w_var 1 rfl <| g_tup <| gs_cons <| g_name 3 <| gs_cons <| g_name 4 <| gs_cons <| g_name 5 <| gs_cons <| g_name 6 <| gs_nil <| ?_
  refine s_cons <| s_set 7 <| w_bin <| w_var 3 rfl <| w_ix <| w_callF (c_colour_row T) hr (by decide) <| a_cons <| w_var 0 rfl <| a_cons <| w_var 4 rfl <| a_nil <| Exists.intro (p, t.col) <| And.intro rfl <| And.intro hp <| w_int <| xc_tup rfl <| oc_add <| And.intro ⟨_, rfl, rfl⟩ ?_
  refine s_cons <| s_set 8 <| w_callF (c_ready_at T) hr (by decide) <| a_cons <| w_var 0 rfl <| a_cons <| w_var 4 rfl <| a_cons <| w_var 3 rfl <| a_nil <| Exists.intro (p, t.col, t.at_) <| And.intro rfl <| And.intro hp <| And.intro ⟨_, rfl, rfl⟩ ?_
  exact s_one <| s_ret <| w_lst <| a_cons <| w_tup <| a_cons <| w_str <| a_cons <| w_var 7 rfl <| a_nil <| And.intro (by simp) <| a_cons <| w_tup <| a_cons <| w_str <| a_cons <| w_var 8 rfl <| a_nil <| And.intro (by simp) <| a_cons <| w_tup <| a_cons <| w_str <| a_cons <| w_var 5 rfl <| a_nil <| And.intro (by simp) <| a_cons <| w_tup <| a_cons <| w_str <| a_cons <| w_var 6 rfl <| a_nil <| And.intro (by simp) <| a_cons <| w_tup <| a_cons <| w_str <| a_cons <| w_bin <| w_var 6 rfl <| w_var 2 rfl <| oc_add <| a_nil <| And.intro (by simp) <| a_nil <| And.intro (by simp) <| rfl
abbrev nWordBy : List Str := ["palette", "turn", "wash", "hour", "word", "until"]
theorem c_word_by (T : Txt K mg) : Cal P w K mg base 4 "word_by" (spP (fun a : Pal × Turn × Int × Int => [dPal a.1, dTurn a.2.1, .int a.2.2.1, .int a.2.2.2]) (fun a => a.1.has a.2.1.col) fun a d => d = (fun a : Pal × Turn × Int × Int => .str (wordBy a.1 a.2.1 a.2.2.1 a.2.2.2)) a) [] := by
  refine T.d_word_by.pure (N := nWordBy) ⟨rfl, rfl, rfl, by decide +kernel, rfl, by decide +kernel, by decide +kernel⟩ (fun _ => rfl) ?_
  rintro f cdv A outer s H E hr Γ ⟨p, t, x, hour⟩ hB hp
  have nd : nWordBy.Nodup := by decide +kernel
  dsimp only
  refine s_cons <| s_for <| i_lst <| w_callF (c_word_ends T) hr (by decide) <| a_cons <| w_var 0 rfl <| a_cons <| w_var 1 rfl <| a_cons <| w_var 2 rfl <| a_nil <| Exists.intro (p, t, x) <| And.intro rfl <| And.intro hp <| ex rfl <| ⟨fun i δ => (∃ z1 z2, δ = [.v (dPal p), .v (dTurn t), .v (.int x), .v (.int hour), z1, z2] ∧ z1.adr = [] ∧ z2.adr = []) ∧ ∀ r ∈ (wordEnds p t x).take i, decide (hour < r.2) = false, ⟨⟨_, _, rfl, rfl, rfl⟩, by simp⟩, fun Γ i d δ hd hI => ?_, fun δ hI => ?_⟩
  · obtain ⟨⟨z1, z2, rfl, h1, h2⟩, hI⟩ := hI
    rw [List.getElem?_map] at hd
    cases hc : (wordEnds p t x)[i]? with
    | none => rw [hc] at hd; cases hd
    | some r =>
      rw [hc] at hd
      cases hd
      refine g_tup <| gs_cons <| g_name 4 (gs_cons <| g_name 5 (gs_nil <| ?_) trivial rfl h2) trivial rfl h1
      refine s_one <| s_if <| t_cmp <| w_var 3 rfl <| w_var 5 rfl <| oc_lt <| KT.mk <| br (fun h => ?_) (fun h => s_nil ⟨⟨_, _, rfl, rfl, rfl⟩, take_succ_all hc hI h⟩)
      refine s_one <| s_ret <| w_var 4 rfl <| ?_
      show Dt.str r.1 = .str (wordBy p t x hour)
      unfold wordBy
      rw [find_at hc h hI]
      rfl
  · obtain ⟨⟨z1, z2, rfl, h1, h2⟩, hI⟩ := hI
    refine s_one <| s_ret <| w_gs T.g_OUT <| ?_
    rw [List.length_map, List.take_length] at hI
    show Dt.str "out" = .str (wordBy p t x hour)
    unfold wordBy
    rw [List.find?_eq_none.mpr fun x hx => by rw [hI x hx]; exact Bool.false_ne_true]
    rfl
abbrev nWashBehindTurns : List Str := ["palette", "turns", "number"]
def washBehindT (p : Pal) (ts : List Turn) (i : Nat) : Int := if i + 1 = ts.length then 0 else p.washOf (ts.getD i default).col (ts.getD (i + 1) default).col
theorem c_wash_behind_turns (T : Txt K mg) : Cal P w K mg base 3 "wash_behind_turns" (spP (fun a : Pal × List Turn × Nat => [dPal a.1, dTurns a.2.1, .int a.2.2]) (fun a => (∀ t ∈ a.2.1, a.1.has t.col) ∧ a.2.2 < a.2.1.length) fun a d => d = (fun a : Pal × List Turn × Nat => .int (washBehindT a.1 a.2.1 a.2.2)) a) [] := by
  refine T.d_wash_behind_turns.pure (N := nWashBehindTurns) ⟨rfl, rfl, rfl, by decide +kernel, rfl, by decide +kernel, by decide +kernel⟩ (fun _ => rfl) ?_
  rintro f cdv A outer s H E hr Γ ⟨p, ts, i⟩ hB ⟨hh, hi⟩
  have nd : nWashBehindTurns.Nodup := by decide +kernel
  dsimp only at hh hi
  dsimp only
  refine s_cons <| s_if <| t_cmp <| w_bin <| w_var 2 rfl <| w_int <| oc_add <| w_callB (id := "len") T.b_len (by decide +kernel) <| a_cons <| w_var 1 rfl <| a_nil <| cc_lenL <| oc_eqI <| KT.mk <| br (fun h => ?_) (fun h => s_nil ?_)
  · refine s_one <| s_ret <| w_int <| ?_
    have h := of_decide_eq_true h
    rw [List.length_map] at h
    show Dt.int 0 = .int (washBehindT p ts i)
    rw [washBehindT, if_pos (by omega)]
  · have h := of_decide_eq_false h
    rw [List.length_map] at h
    have ei : ts[i]? = some ts[i] := List.getElem?_eq_getElem hi
    have ej : ts[i + 1]? = some (ts[i + 1]'(by omega)) := List.getElem?_eq_getElem (by omega)
    refine s_one <| s_ret <| w_callF (c_wash_for T) hr (by decide) <| a_cons <| w_var 0 rfl <| a_cons <| w_ix <| w_ix <| w_var 1 rfl <| w_var 2 rfl <| xc_lst (atI_map ei) <| w_int <| xc_tup rfl <| a_cons <| w_ix <| w_ix <| w_var 1 rfl <| w_bin <| w_var 2 rfl <| w_int <| oc_add <| xc_lst (atI_map ej) <| w_int <| xc_tup rfl <| a_nil <| Exists.intro (p, _, _) <| And.intro rfl <| And.intro ⟨hh _ (List.mem_of_getElem? ei), hh _ (List.mem_of_getElem? ej)⟩ <| ?_
    show Dt.int (p.washOf _ _) = .int (washBehindT p ts i)
    rw [washBehindT, if_neg (by omega), List.getD_eq_getElem?_getD, List.getD_eq_getElem?_getD, ei, ej]
    rfl
end
end Pr

end Text_D3
section Text_D4
set_option maxHeartbeats 4000000
namespace Pr
open PySem PySem.Spec PyProof.Rows L2
open C8 (Cal Mak Met pe_c pe_mk pe_mt pe_mt0)
section
variable {P : Program} {w : World} {K : PySem.W.Frag} {mg : Str → Option Value} {base : Heap}
/-! ## the last turn filled, states, moved turns -/
def IsLast (ts : List Turn) (hour : Int) (i : Nat) : Prop := (∃ t, ts[i]? = some t ∧ t.at_ ≤ hour) ∧ ∀ j u, ts[j]? = some u → u.at_ ≤ hour → j ≤ i
abbrev nLastFilled : List Str := ["turns", "hour", "number", "turn"]
theorem c_last_filled_turns (T : Txt K mg) : Cal P w K mg base 1 "last_filled_turns" (spP (fun a : List Turn × Int => [dTurns a.1, .int a.2]) (fun a => a.1.length ≤ 1000) fun a d => (d = .non ∧ ∀ t ∈ a.1, a.2 < t.at_) ∨ ∃ i : Nat, d = .int i ∧ IsLast a.1 a.2 i) [] := by
  refine T.d_last_filled_turns.pure (N := nLastFilled) ⟨rfl, rfl, rfl, by decide +kernel, rfl, by decide +kernel, by decide +kernel⟩ (fun _ => rfl) ?_
  rintro f cdv A outer s H E hr Γ ⟨ts, hour⟩ hB hl
  have nd : nLastFilled.Nodup := by decide +kernel
  dsimp only at hl ⊢
  refine s_one <| s_ret <| w_maxDef T.b_max hr.units <| w_lc (own := [("number", 2), ("turn", 3)]) <| i_enum T.b_enumerate <| w_var 0 rfl <| ex rfl <|
    lc_map ts.zipIdx (fun x => .tup [.int (x.2 : Nat), dTurn x.1]) (fun x => decide (x.1.at_ ≤ hour)) (fun x => .int (x.2 : Nat)) (enum_map dTurn ts) (by rw [List.length_zipIdx]; exact hl) (lvC (lvC lvN)) (fun x hx _ _ _ _ _ => g_tup <| gs_cons <| g_name 2 <| gs_cons <| g_name 3 <| gs_nil <| fun _ _ _ _ _ => ts_one <| t_cmp <| w_ix <| w_var 3 rfl <| w_int <| xc_tup rfl <| w_var 1 rfl <| oc_le <| KT.mk <| And.intro rfl <| br (fun h => fun _ _ _ _ _ => w_var 2 rfl <| ⟨rfl, rfl⟩) (fun h => rfl)) <| w_non ?_
  have e : (ts.zipIdx.filter fun x => decide (x.1.at_ ≤ hour)).map (fun x => Dt.int (x.2 : Nat)) = ((ts.zipIdx.filter fun x => decide (x.1.at_ ≤ hour)).map fun x => ((x.2 : Nat) : Int)).map Dt.int := mapmap
  rw [e]
  have mem : ∀ y : Int, y ∈ ((ts.zipIdx.filter fun x => decide (x.1.at_ ≤ hour)).map fun x => ((x.2 : Nat) : Int)) ↔ ∃ (i : Nat) (t : Turn), y = i ∧ ts[i]? = some t ∧ t.at_ ≤ hour := fun y => by
    simp only [List.mem_map, List.mem_filter, decide_eq_true_eq, Prod.exists, List.mem_zipIdx_iff_getElem?]
    exact ⟨fun ⟨t, i, ⟨h1, h2⟩, h3⟩ => ⟨i, t, h3.symm, h1, h2⟩, fun ⟨i, t, h3, h1, h2⟩ => ⟨t, i, ⟨h1, h2⟩, h3.symm⟩⟩
  refine maxDI (fun e => .inl ⟨rfl, fun t ht => ?_⟩) fun m hm hge => ?_
  · obtain ⟨i, hi⟩ := List.getElem?_of_mem ht
    refine Int.lt_of_not_ge fun hle => ?_
    have := (mem i).mpr ⟨i, t, rfl, hi, hle⟩
    rw [e] at this
    cases this
  · obtain ⟨i, t, rfl, h1, h2⟩ := (mem m).mp hm
    exact .inr ⟨i, rfl, ⟨t, h1, h2⟩, fun j u hj hu => Int.ofNat_le.mp (hge _ ((mem j).mpr ⟨j, u, rfl, hj, hu⟩))⟩
abbrev nStateAt : List Str := ["palette", "turns", "hour", "number"]
def StateT (p : Pal) (ts : List Turn) (hour : Int) (d : Dt) : Prop := (d = .tup [.str "out", .non] ∧ ∀ t ∈ ts, hour < t.at_) ∨ ∃ (i : Nat) (t : Turn), d = .tup [.str (wordBy p t (washBehindT p ts i) hour), .int i] ∧ ts[i]? = some t ∧ IsLast ts hour i
theorem c_state_at (T : Txt K mg) : Cal P w K mg base 5 "state_at" (spP (fun a : Pal × List Turn × Int => [dPal a.1, dTurns a.2.1, .int a.2.2]) (fun a => a.2.1.length ≤ 1000 ∧ ∀ t ∈ a.2.1, a.1.has t.col) fun a d => StateT a.1 a.2.1 a.2.2 d) [] := by
  refine T.d_state_at.pure (N := nStateAt) ⟨rfl, rfl, rfl, by decide +kernel, rfl, by decide +kernel, by decide +kernel⟩ (fun _ => rfl) ?_
  rintro f cdv A outer s H E hr Γ ⟨p, ts, hour⟩ hB ⟨hl, hh⟩
  have nd : nStateAt.Nodup := by decide +kernel
  dsimp only at hl hh ⊢
  refine s_cons <| s_set 3 <| w_call (c_last_filled_turns T) hr (by decide) <| a_cons <| w_var 1 rfl <| a_cons <| w_var 2 rfl <| a_nil <| Exists.intro (ts, hour) <| And.intro rfl <| And.intro hl <| fun d hd => And.intro ⟨_, rfl, rfl⟩ ?_
  rcases hd with ⟨rfl, hd⟩ | ⟨i, rfl, hd⟩
  · refine s_cons <| s_if <| t_cmp <| w_var 3 rfl <| w_non <| oc_isN <| KT.mk <| brT <| ?_
    exact s_one <| s_ret <| w_tup <| a_cons <| w_gs T.g_OUT <| a_cons <| w_non <| a_nil <| And.intro (by simp) <| .inl ⟨rfl, hd⟩
  · obtain ⟨⟨t, hi, ht⟩, hj⟩ := _root_.id hd
    dsimp only at hi
    have hm := List.mem_of_getElem? hi
    have hlt : i < ts.length := (List.getElem?_eq_some_iff.mp hi).1
    refine s_cons <| s_if <| t_cmp <| w_var 3 rfl <| w_non <| oc_isN <| KT.mk <| brF <| s_nil ?_
    exact s_one <| s_ret <| w_tup <| a_cons <| w_callF (c_word_by T) hr (by decide) <| a_cons <| w_var 0 rfl <| a_cons <| w_ix <| w_var 1 rfl <| w_var 3 rfl <| xc_lst (atI_map hi) <| a_cons <| w_callF (c_wash_behind_turns T) hr (by decide) <| a_cons <| w_var 0 rfl <| a_cons <| w_var 1 rfl <| a_cons <| w_var 3 rfl <| a_nil <| Exists.intro (p, ts, i) <| And.intro rfl <| And.intro ⟨hh, hlt⟩ <| a_cons <| w_var 2 rfl <| a_nil <| Exists.intro (p, t, washBehindT p ts i, hour) <| And.intro rfl <| And.intro (hh t hm) <| a_cons <| w_var 3 rfl <| a_nil <| And.intro (by simp) <| .inr ⟨i, t, rfl, hi, hd⟩
abbrev nFirstBehind : List Str := ["turns", "hour", "turn"]
theorem c_first_behind (T : Txt K mg) : Cal P w K mg base 1 "first_behind" (spP (fun a : List Turn × Int => [dTurns a.1, .int a.2]) (fun a => a.1.length ≤ 1000) fun a d => d = (fun a : List Turn × Int => .int (firstBehind a.1 a.2)) a) [] := by
  refine T.d_first_behind.pure (N := nFirstBehind) ⟨rfl, rfl, rfl, by decide +kernel, rfl, by decide +kernel, by decide +kernel⟩ (fun _ => rfl) ?_
  rintro f cdv A outer s H E hr Γ ⟨ts, hour⟩ hB hl
  have nd : nFirstBehind.Nodup := by decide +kernel
  dsimp only at hl ⊢
  refine s_one <| s_ret <| w_callB (id := "len") T.b_len (by decide +kernel) <| a_cons <| w_lc (own := [("turn", 2)]) <| i_lst <| w_var 0 rfl <| ex rfl <| lc_map ts dTurn (fun t => decide (t.at_ ≤ hour)) dTurn rfl hl (lvC lvN) (fun x hx _ _ _ _ _ => g_name 2 <| fun _ _ _ _ _ => ts_one <| t_cmp <| w_ix <| w_var 2 rfl <| w_int <| xc_tup rfl <| w_var 1 rfl <| oc_le <| KT.mk <| And.intro rfl <| br (fun h => fun _ _ _ _ _ => w_var 2 rfl <| ⟨rfl, rfl⟩) (fun h => rfl)) <| a_nil <| cc_lenL <| ?_
  rw [List.length_map]
  rfl
abbrev nMovedTurn : List Str := ["palette", "turn", "free", "at", "colour", "begin", "end", "fill", "work"]
theorem c_moved_turn (T : Txt K mg) : Cal P w K mg base 3 "moved_turn" (spP (fun a : Pal × Turn × Int => [dPal a.1, dTurn a.2.1, .int a.2.2]) (fun a => a.1.has a.2.1.col) fun a d => d = (fun a : Pal × Turn × Int => dTurn (movedTurn a.1 a.2.1 a.2.2)) a) [] := by
  refine T.d_moved_turn.pure (N := nMovedTurn) ⟨rfl, rfl, rfl, by decide +kernel, rfl, by decide +kernel, by decide +kernel⟩ (fun _ => rfl) ?_
  rintro f cdv A outer s H E hr Γ ⟨p, t, free⟩ hB hp
  have nd : nMovedTurn.Nodup := by decide +kernel
  dsimp only at hp ⊢
  refine s_cons <| s_asg <| w_var 1 rfl <| g_tup <| gs_cons <| g_name 3 <| gs_cons <| g_name 4 <| gs_cons <| g_name 5 <| gs_cons <| g_name 6 <| gs_nil <| ?_
  refine s_cons <| s_set 7 <| w_callB (id := "max") T.b_max (by decide +kernel) <| a_cons <| w_var 3 rfl <| a_cons <| w_var 2 rfl <| a_nil <| cc_max2 <| And.intro ⟨_, rfl, rfl⟩ ?_
  refine s_cons <| s_set 8 <| w_callB (id := "max") T.b_max (by decide +kernel) <| a_cons <| w_var 5 rfl <| a_cons <| w_callF (c_ready_at T) hr (by decide) <| a_cons <| w_var 0 rfl <| a_cons <| w_var 4 rfl <| a_cons <| w_var 7 rfl <| a_nil <| Exists.intro (p, t.col, if free > t.at_ then free else t.at_) <| And.intro rfl <| And.intro hp <| a_nil <| cc_max2 <| And.intro ⟨_, rfl, rfl⟩ ?_
  exact s_one <| s_ret <| w_tup <| a_cons <| w_var 7 rfl <| a_cons <| w_var 4 rfl <| a_cons <| w_var 8 rfl <| a_cons <| w_bin <| w_bin <| w_var 8 rfl <| w_var 6 rfl <| oc_add <| w_var 5 rfl <| oc_sub <| a_nil <| And.intro (by simp) <| rfl
theorem atI_last {α : Type} {xs : List α} {x : α} : atI (xs ++ [x]) (-1) = some x := by
  unfold atI ixN
  rw [if_neg (by decide), if_pos (by rw [List.length_append]; simp; omega)]
  have e : (-1 + ((xs ++ [x]).length : Int)).toNat = xs.length := by rw [List.length_append]; simp; omega
  show (xs ++ [x])[(-1 + ((xs ++ [x]).length : Int)).toNat]? = some x
  rw [e]
  simp
/-- the turns moved so far, and the hour free ahead of the next -/
theorem later_snoc (p : Pal) : ∀ (ts : List Turn) (t : Turn) (free : Int), ∃ f, laterTurns p (ts ++ [t]) free = laterTurns p ts free ++ [movedTurn p t f] ∧ (ts = [] → f = free) ∧ ∀ (l : List Turn) (u : Turn), laterTurns p ts free = l ++ [u] → f = u.fin + p.washOf u.col t.col
  | [], t, free => ⟨free, rfl, fun _ => rfl, fun l u h => by cases l <;> cases h⟩
  | [a], t, free => by
    refine ⟨(movedTurn p a free).fin + p.washOf (movedTurn p a free).col t.col, rfl, (fun h => by cases h), fun l u h => ?_⟩
    have h' : [movedTurn p a free] = l ++ [u] := h
    cases l with
    | nil => cases h'; rfl
    | cons b l =>
      injection h' with _ h'
      cases l <;> cases h'
  | a :: b :: r, t, free => by
    obtain ⟨f, h1, h2, h3⟩ := later_snoc p (b :: r) t ((movedTurn p a free).fin + p.washOf (movedTurn p a free).col b.col)
    refine ⟨f, ?_, (fun h => by cases h), fun l u h => ?_⟩
    · show movedTurn p a free :: laterTurns p ((b :: r) ++ [t]) _ = _
      rw [h1]
      rfl
    · have h' : movedTurn p a free :: laterTurns p (b :: r) ((movedTurn p a free).fin + p.washOf (movedTurn p a free).col b.col) = l ++ [u] := h
      cases l with
      | nil =>
        injection h' with _ h'
        cases r <;> cases h'
      | cons c l =>
        injection h' with _ h'
        exact h3 l u h'
abbrev nLaterTurns : List Str := ["palette", "rest", "free", "found", "turn"]
theorem c_later_turns (T : Txt K mg) : Cal P w K mg base 4 "later_turns" (spP (fun a : Pal × List Turn × Int => [dPal a.1, dTurns a.2.1, .int a.2.2]) (fun a => a.2.1.length ≤ 1000 ∧ ∀ t ∈ a.2.1, a.1.has t.col) fun a d => d = (fun a : Pal × List Turn × Int => dTurns (laterTurns a.1 a.2.1 a.2.2)) a) [] := by
  refine T.d_later_turns.pure (N := nLaterTurns) ⟨rfl, rfl, rfl, by decide +kernel, rfl, by decide +kernel, by decide +kernel⟩ (fun _ => rfl) ?_
  rintro f cdv A outer s H E hr Γ ⟨p, ts, free⟩ hB ⟨hl, hh⟩
  have nd : nLaterTurns.Nodup := by decide +kernel
  dsimp only at hl hh ⊢
  refine s_cons <| s_new 3 fun a => ?_
  refine s_cons <| s_for <| i_lst <| w_var 1 rfl <| ex rfl <| ⟨fun i δ => ∃ fr z, δ = [.v (dPal p), .v (dTurns ts), .v (.int fr), .own a ((laterTurns p (ts.take i) free).map dTurn), z] ∧ z.adr = [] ∧ (i = 0 → fr = free), ⟨_, _, rfl, rfl, fun _ => rfl⟩, fun Γ i d δ hd hI => ?_, fun δ hI => ?_⟩
  · obtain ⟨fr, z, rfl, hz, h0⟩ := hI
    rw [List.getElem?_map] at hd
    cases hc : ts[i]? with
    | none => rw [hc] at hd; cases hd
    | some t =>
      rw [hc] at hd
      cases hd
      have hlt : i < ts.length := (List.getElem?_eq_some_iff.mp hc).1
      have hm := List.mem_of_getElem? hc
      have ht : ts.take (i + 1) = ts.take i ++ [t] := by rw [List.take_add_one, hc]; rfl
      obtain ⟨g, g1, g2, g3⟩ := later_snoc p (ts.take i) t free
      have hlen : ∀ (ts : List Turn) (free : Int), (laterTurns p ts free).length = ts.length := by
        intro ts
        induction ts with
        | nil => intro _; rfl
        | cons x r ih =>
          intro free
          cases r with
          | nil => rfl
          | cons y r => exact congrArg (· + 1) (ih _)
      refine g_name 4 ?_ trivial rfl hz
      refine s_cons <| s_if <| t_cmp <| w_lenO 3 rfl T.b_len (by decide +kernel) <| w_int <| oc_gt <| KT.mk <| br (fun h => ?_) (fun h => s_nil ?_)
      · have h := of_decide_eq_true h
        rw [List.length_map, hlen, List.length_take] at h
        obtain ⟨l, u, hu⟩ : ∃ l u, laterTurns p (ts.take i) free = l ++ [u] := by
          rcases List.eq_nil_or_concat (laterTurns p (ts.take i) free) with e | ⟨l, u, e⟩
          · have := congrArg List.length e
            rw [hlen, List.length_take, List.length_nil] at this
            omega
          · exact ⟨l, u, by rw [e, List.concat_eq_append]⟩
        have hg := g3 l u hu
        have hcol : p.has u.col := by
          have hcols : ∀ (ts : List Turn) (free : Int), (∀ t ∈ ts, p.has t.col) → ∀ u ∈ laterTurns p ts free, p.has u.col := by
            intro ts
            induction ts with
            | nil => intro _ _ u hu; cases hu
            | cons x r ih =>
              intro free hx u hu
              cases r with
              | nil =>
                rw [List.mem_singleton.mp (show u ∈ [movedTurn p x free] from hu)]
                exact hx x (by simp)
              | cons y r =>
                rcases List.mem_cons.mp (show u ∈ movedTurn p x free :: laterTurns p (y :: r) ((movedTurn p x free).fin + p.washOf (movedTurn p x free).col y.col) from hu) with e | hu'
                · rw [e]
                  exact hx x (by simp)
                · exact ih _ (fun t ht => hx t (List.mem_cons_of_mem _ ht)) u hu'
          exact hcols _ _ (fun t ht => hh t (List.mem_of_mem_take ht)) u (by rw [hu]; simp)
        rw [hu, List.map_append, List.map_singleton]
        refine s_one <| s_set 2 <| w_bin <| w_ix <| w_ixO 3 rfl <| w_un <| w_int <| uc_neg <| ⟨_, _, -1, _, rfl, rfl, atI_last, ?_⟩
        refine w_int <| xc_tup rfl <| w_callF (c_wash_for T) hr (by decide) <| a_cons <| w_var 0 rfl <| a_cons <| w_ix <| w_ixO 3 rfl <| w_un <| w_int <| uc_neg <| ⟨_, _, -1, _, rfl, rfl, atI_last, ?_⟩
        refine w_int <| xc_tup rfl <| a_cons <| w_ix <| w_var 4 rfl <| w_int <| xc_tup rfl <| a_nil <| Exists.intro (p, u.col, t.col) <| And.intro rfl <| And.intro ⟨hcol, hh t hm⟩ <| oc_add <| And.intro ⟨_, rfl, rfl⟩ ?_
        refine s_one <| s_app 3 <| w_callF (c_moved_turn T) hr (by decide) <| a_cons <| w_var 0 rfl <| a_cons <| w_var 4 rfl <| a_cons <| w_var 2 rfl <| a_nil <| Exists.intro (p, t, _) <| And.intro rfl <| And.intro (hh t hm) <| ⟨_, _, rfl, ?_, ?_⟩
        · rw [← List.map_singleton (f := dTurn), ← List.map_append, ← hu, List.length_map, hlen, List.length_take]
          omega
        · refine ⟨g, .v (dTurn t), ?_, rfl, fun e => by omega⟩
          rw [ht, g1, hu, hg, List.map_append, List.map_append]
          rfl
      · have h := of_decide_eq_false h
        rw [List.length_map, hlen, List.length_take] at h
        have hi0 : i = 0 := by omega
        subst hi0
        rw [h0 rfl]
        refine s_one <| s_app 3 <| w_callF (c_moved_turn T) hr (by decide) <| a_cons <| w_var 0 rfl <| a_cons <| w_var 4 rfl <| a_cons <| w_var 2 rfl <| a_nil <| Exists.intro (p, t, free) <| And.intro rfl <| And.intro (hh t hm) <| ⟨_, _, rfl, ?_, ?_⟩
        · rw [List.length_map, hlen, List.length_take]
          omega
        · refine ⟨free, .v (dTurn t), ?_, rfl, fun _ => rfl⟩
          rw [ht, g1, g2 rfl, List.map_append]
          rfl
  · obtain ⟨fr, z, rfl, hz, h0⟩ := hI
    rw [List.length_map, List.take_length]
    refine s_freeze 3 rfl (by rw [hB]; intro q hq; cases hq) ?_
    exact s_one <| s_ret <| w_var 3 rfl <| rfl
end
end Pr

end Text_D4
section Text_D5
set_option maxHeartbeats 4000000
namespace Pr
open PySem PySem.Spec PyProof.Rows L2
open C8 (Cal Mak Met pe_c pe_mk pe_mt pe_mt0)
section
variable {P : Program} {w : World} {K : PySem.W.Frag} {mg : Str → Option Value} {base : Heap}
/-! ## what a break leaves -/
theorem eqv_turn (t u : Turn) : PyData.eqv (dTurn t).py (dTurn u).py = decide (t = u) := by
  obtain ⟨a, b, c, d⟩ := t
  obtain ⟨a', b', c', d'⟩ := u
  simp only [dTurn, Dt.py, pys, PyData.eqv, PyData.eqvAll, Bool.and_true]
  rw [Bool.eq_iff_iff]
  simp only [Bool.and_eq_true, beq_iff_eq, decide_eq_true_eq, Turn.mk.injEq]
theorem later_len (p : Pal) : ∀ (ts : List Turn) (free : Int), (laterTurns p ts free).length = ts.length
  | [], _ => rfl
  | [_], _ => rfl
  | _ :: y :: r, _ => congrArg (· + 1) (later_len p (y :: r) _)
theorem later_cols (p : Pal) : ∀ (ts : List Turn) (free : Int) (u : Turn), u ∈ laterTurns p ts free → ∃ t ∈ ts, u.col = t.col
  | [], _, u, h => by cases h
  | [t], free, u, h => by
    rw [List.mem_singleton.mp (show u ∈ [movedTurn p t free] from h)]
    exact ⟨t, by simp, rfl⟩
  | t :: y :: r, free, u, h => by
    rcases List.mem_cons.mp (show u ∈ movedTurn p t free :: laterTurns p (y :: r) ((movedTurn p t free).fin + p.washOf (movedTurn p t free).col y.col) from h) with e | h
    · rw [e]
      exact ⟨t, by simp, rfl⟩
    · obtain ⟨v, hv, e⟩ := later_cols p (y :: r) _ u h
      exact ⟨v, List.mem_cons_of_mem _ hv, e⟩
theorem shaped_turn {t : Turn} (h : PyData.strOk t.col = true) : SeqAt.shaped (dTurn t).py = true := by
  unfold SeqAt.shaped
  simp [dTurn, Dt.py, pys, PyData.canLay0, PyData.canLayAll0, h, PyData.depth, PyData.depthAll]
abbrev nBroken : List Str := ["palette", "turns", "hour", "warm", "begin", "ended", "turn", "lost", "rest", "behind", "moved", "number", "other"]
theorem c_broken (T : Txt K mg) : Cal P w K mg base 5 "broken" (spP (fun a : Pal × List Turn × Int × Int => [dPal a.1, dTurns a.2.1, .int a.2.2.1, .int a.2.2.2]) (fun a => a.2.1.length ≤ 1000 ∧ ∀ t ∈ a.2.1, a.1.has t.col ∧ PyData.strOk t.col = true) fun a d => d = (fun a : Pal × List Turn × Int × Int => dBrk (brokenF a.1 a.2.1 a.2.2.1 a.2.2.2)) a) [] := by
  refine T.d_broken.pure (N := nBroken) ⟨rfl, rfl, rfl, by decide +kernel, rfl, by decide +kernel, by decide +kernel⟩ (fun _ => rfl) ?_
  rintro f cdv A outer s H E hr Γ ⟨p, ts, hour, warm⟩ hB ⟨hl, hh⟩
  have nd : nBroken.Nodup := by decide +kernel
  dsimp only at hl hh ⊢
  have hfb : firstBehind ts hour ≤ ts.length := List.length_filter_le _ _
  refine s_cons <| s_set 4 <| w_callF (c_first_behind T) hr (by decide) <| a_cons <| w_var 1 rfl <| a_cons <| w_var 2 rfl <| a_nil <| Exists.intro (ts, hour) <| And.intro rfl <| And.intro hl <| And.intro ⟨_, rfl, rfl⟩ ?_
  refine s_cons <| s_setLc (own := [("turn", 6)]) 5 <| i_lst <| w_var 1 rfl <| ex rfl <| lc_map ts dTurn (fun t => decide (t.fin ≤ hour)) dTurn rfl hl (lvC lvN) (fun x hx _ _ _ _ _ => g_name 6 <| fun _ _ _ _ _ => ts_one <| t_cmp <| w_ix <| w_var 6 rfl <| w_int <| xc_tup rfl <| w_var 2 rfl <| oc_le <| KT.mk <| And.intro rfl <| br (fun h => fun _ _ _ _ _ => w_var 6 rfl <| ⟨rfl, rfl⟩) (fun h => rfl)) <| And.intro ⟨_, rfl, rfl⟩ ?_
  have hen : (List.map dTurn (List.filter (fun t => decide (t.fin ≤ hour)) ts)).length = (ended ts hour).length := by rw [List.length_map]; rfl
  refine s_cons <| s_set 7 <| w_if <| t_cmp <| w_callB (id := "len") T.b_len (by decide +kernel) <| a_cons <| w_var 5 rfl <| a_nil <| cc_lenL <| w_var 4 rfl <| oc_lt <| KT.mk <| br (fun h => w_callB (id := "len") T.b_len (by decide +kernel) <| a_cons <| w_var 5 rfl <| a_nil <| cc_lenL <| And.intro ⟨_, rfl, rfl⟩ ?_) (fun h => w_non <| And.intro ⟨_, rfl, rfl⟩ ?_)
  all_goals
    refine s_cons <| s_set 8 <| w_slice <| w_var 1 rfl <| o_some <| w_var 4 rfl <| ex rfl <| o_none <| sc_lst <| And.intro ⟨_, rfl, rfl⟩ ?_
    rw [cut_from (Int.natCast_nonneg _), Int.toNat_natCast, ← List.map_drop]
    refine s_cons <| s_set 9 <| w_callF (c_later_turns T) hr (by decide) <| a_cons <| w_var 0 rfl <| a_cons <| w_var 8 rfl <| a_cons <| w_bin <| w_var 2 rfl <| w_var 3 rfl <| oc_add <| a_nil <| Exists.intro (p, ts.drop (firstBehind ts hour), hour + warm) <| And.intro rfl <| And.intro ⟨by simp; omega, fun t ht => (hh t (List.mem_of_mem_drop ht)).1⟩ <| And.intro ⟨_, rfl, rfl⟩ ?_
    refine s_cons <| s_new 10 fun a => ?_
    refine s_cons <| s_for <| i_enumZip 4 T.b_enumerate T.b_zip <| w_var 8 rfl <| w_var 9 rfl <| ⟨_, _, _, rfl, rfl, by rw [List.length_map, List.length_map, later_len], rfl, Int.natCast_nonneg _, by show ((firstBehind ts hour : Nat) : Int) ≤ 1000; omega, ?_⟩
    refine ⟨fun i δ => ∃ z6 z11 z12, δ = [.v (dPal p), .v (dTurns ts), .v (.int hour), .v (.int warm), .v (.int (firstBehind ts hour)), .v (dTurns (ended ts hour)), z6, .v (dOpt (brokenF p ts hour warm).lost), .v (dTurns (ts.drop (firstBehind ts hour))), .v (dTurns (brokenF p ts hour warm).behind), .own a (((((ts.drop (firstBehind ts hour)).zip (brokenF p ts hour warm).behind).zipIdx.take i).filter fun x => !decide (x.1.1 = x.1.2)).map fun x => Dt.int ((firstBehind ts hour : Int) + (x.2 : Nat))), z11, z12] ∧ z6.adr = [] ∧ z11.adr = [] ∧ z12.adr = [], ?_, fun Γ i d δ hd hI => ?_, fun δ hI => ?_⟩
    · refine ⟨.any, .any, .any, ?_, rfl, rfl, rfl⟩
      have e : (brokenF p ts hour warm).lost = if (ended ts hour).length < firstBehind ts hour then some ((ended ts hour).length : Int) else none := rfl
      have hd : ((List.map dTurn (List.filter (fun t => decide (t.fin ≤ hour)) ts)).length : Int) < (firstBehind ts hour : Nat) ↔ (ended ts hour).length < firstBehind ts hour := by rw [hen]; omega
      first
        | (have h : ((List.map dTurn (List.filter (fun t => decide (t.fin ≤ hour)) ts)).length : Int) < (firstBehind ts hour : Nat) := of_decide_eq_true h
           rw [e, if_pos (hd.mp h), ← hen]
           rfl)
        | (have h : ¬ ((List.map dTurn (List.filter (fun t => decide (t.fin ≤ hour)) ts)).length : Int) < (firstBehind ts hour : Nat) := of_decide_eq_false h
           rw [e, if_neg fun z => h (hd.mpr z)]
           rfl)
    · obtain ⟨z6, z11, z12, rfl, h6, h11, h12⟩ := hI
      rw [zip_map, List.zipIdx_map, List.map_map, List.getElem?_map] at hd
      cases hc : ((ts.drop (firstBehind ts hour)).zip (laterTurns p (ts.drop (firstBehind ts hour)) (hour + warm))).zipIdx[i]? with
      | none => rw [hc] at hd; cases hd
      | some r =>
        rw [hc] at hd
        cases hd
        obtain ⟨⟨t, u⟩, j⟩ := r
        have hzl : i < ((ts.drop (firstBehind ts hour)).zip (laterTurns p (ts.drop (firstBehind ts hour)) (hour + warm))).length := by
          have := (List.getElem?_eq_some_iff.mp hc).1
          rwa [List.length_zipIdx] at this
        have hm : (t, u) ∈ (ts.drop (firstBehind ts hour)).zip (laterTurns p (ts.drop (firstBehind ts hour)) (hour + warm)) := by
          rw [List.getElem?_zipIdx] at hc
          cases hq : ((ts.drop (firstBehind ts hour)).zip (laterTurns p (ts.drop (firstBehind ts hour)) (hour + warm)))[i]? with
          | none => rw [hq] at hc; cases hc
          | some q =>
            rw [hq] at hc
            have : q = (t, u) := by
              have := Option.some.inj hc
              exact congrArg Prod.fst this
            rw [← this]
            exact List.mem_of_getElem? hq
        obtain ⟨m1, m2⟩ := List.of_mem_zip hm
        have s1 : PyData.strOk t.col = true := (hh t (List.mem_of_mem_drop m1)).2
        obtain ⟨t', m3, e3⟩ := later_cols p _ _ u m2
        have s2 : PyData.strOk u.col = true := by rw [e3]; exact (hh t' (List.mem_of_mem_drop m3)).2
        have hl2 : ((ts.drop (firstBehind ts hour)).zip (laterTurns p (ts.drop (firstBehind ts hour)) (hour + warm))).length ≤ 1000 := by
          rw [List.length_zip, later_len, List.length_drop]
          omega
        refine g_tup <| gs_cons <| g_name 11 (gs_cons <| g_tup <| gs_cons <| g_name 6 (gs_cons <| g_name 12 (gs_nil <| gs_nil <| ?_) trivial rfl h12) trivial rfl h6) trivial rfl h11
        refine s_one <| s_if <| t_cmp <| w_var 6 rfl <| w_var 12 rfl <| oc_neD hr.units rfl rfl (shaped_turn s1) (shaped_turn s2) <| KT.mk <| br (fun h => ?_) (fun h => s_nil ?_)
        · have h : (!PyData.eqv (dTurn t).py (dTurn u).py) = _ := h
          rw [eqv_turn] at h
          refine s_one <| s_app 10 <| w_var 11 rfl <| ⟨_, _, rfl, ?_, ⟨.v (dTurn t), .v (.int ((firstBehind ts hour : Int) + (j : Nat))), .v (dTurn u), ?_, rfl, rfl, rfl⟩⟩
          · rw [List.length_map]
            refine Nat.lt_of_le_of_lt (List.length_filter_le _ _) ?_
            rw [List.length_take, List.length_zipIdx]
            omega
          · have e := take_succ_filter (f := fun x : (Turn × Turn) × Nat => !decide (x.1.1 = x.1.2)) hc
            rw [if_pos h] at e
            rw [show (brokenF p ts hour warm).behind = laterTurns p (ts.drop (firstBehind ts hour)) (hour + warm) from rfl, e, List.map_append]
            rfl
        · have h : (!PyData.eqv (dTurn t).py (dTurn u).py) = _ := h
          rw [eqv_turn] at h
          refine ⟨.v (dTurn t), .v (.int ((firstBehind ts hour : Int) + (j : Nat))), .v (dTurn u), ?_, rfl, rfl, rfl⟩
          have e := take_succ_filter (f := fun x : (Turn × Turn) × Nat => !decide (x.1.1 = x.1.2)) hc
          rw [if_neg (by rw [h]; exact Bool.false_ne_true), List.append_nil] at e
          rw [show (brokenF p ts hour warm).behind = laterTurns p (ts.drop (firstBehind ts hour)) (hour + warm) from rfl, e]
          rfl
    · obtain ⟨z6, z11, z12, rfl, h6, h11, h12⟩ := hI
      refine s_freeze 10 rfl (by rw [hB]; intro q hq; cases hq) ?_
      refine s_one <| s_ret <| w_tup <| a_cons <| w_var 5 rfl <| a_cons <| w_var 7 rfl <| a_cons <| w_var 9 rfl <| a_cons <| w_var 10 rfl <| a_nil <| And.intro (by simp) <| ?_
      rw [zip_map, List.zipIdx_map, List.map_map, List.length_map]
      show Dt.tup [dTurns (ended ts hour), dOpt (brokenF p ts hour warm).lost, dTurns (brokenF p ts hour warm).behind, .lst (List.map _ (List.filter _ (List.take (((ts.drop (firstBehind ts hour)).zip (brokenF p ts hour warm).behind).zipIdx.length) _)))] = dBrk _
      rw [List.take_length]
      unfold dBrk
      rw [show (brokenF p ts hour warm).moved = movedFrom (firstBehind ts hour) (ts.drop (firstBehind ts hour)) (brokenF p ts hour warm).behind from rfl]
      unfold movedFrom
      rw [List.map_map]
      rfl
end
end Pr

end Text_D5
section Text_D6
set_option maxHeartbeats 4000000
namespace Pr
open PySem PySem.Spec PyProof.Rows L2
open C8 (Cal Mak Met pe_c pe_mk pe_mt pe_mt0)
section
variable {P : Program} {w : World} {K : PySem.W.Frag} {mg : Str → Option Value} {base : Heap}
/-! ## alike -/
abbrev nSameKind : List Str := ["thing", "due", "one", "other"]
theorem c_same_kind (T : Txt K mg) (n : Nat) : Cal P w K mg base (n + 1) "same_kind" (spP (fun a : Dt => [a, a]) (fun a => Dt.okN n a = true) fun a d => d = (fun _ => .bl true) a) [] := by
  refine T.d_same_kind.pure (N := nSameKind) ⟨rfl, rfl, rfl, by decide +kernel, rfl, by decide +kernel, by decide +kernel⟩ (fun _ => rfl) ?_
  rintro f cdv A outer s H E hr Γ d hB hp
  have nd : nSameKind.Nodup := by decide +kernel
  cases d with
  | non =>
    refine s_cons <| s_if <| t_val <| w_callB (id := "isinstance") T.b_isinstance (by decide +kernel) <| a_cons <| w_var 1 rfl <| a_cons <| w_tup <| a_cons <| w_ty (T := "list") T.b_list (by decide +kernel) <| a_cons <| w_ty (T := "tuple") T.b_tuple (by decide +kernel) <| a_nil <| And.intro (by simp) <| a_nil <| cc_isi2 rfl rfl <| KT.mk <| brF <| s_nil ?_
    refine s_cons <| s_if <| t_w <| p_or <| t_cmp <| w_var 1 rfl <| w_non <| oc_isN <| KT.mk <| brT <| brT ?_
    exact s_one <| s_ret <| w_and <| w_cmp <| w_cmp <| w_var 0 rfl <| w_non <| oc_isN <| w_cmp <| w_var 1 rfl <| w_non <| oc_isN <| oc_eqB <| ex rfl <| brT <| w_and <| w_cmp <| w_callB (id := "isinstance") T.b_isinstance (by decide +kernel) <| a_cons <| w_var 0 rfl <| a_cons <| w_ty (T := "str") T.b_str (by decide +kernel) <| a_nil <| cc_isi rfl rfl <| w_callB (id := "isinstance") T.b_isinstance (by decide +kernel) <| a_cons <| w_var 1 rfl <| a_cons <| w_ty (T := "str") T.b_str (by decide +kernel) <| a_nil <| cc_isi rfl rfl <| oc_eqB <| ex rfl <| brT <| w_and1 <| w_cmp <| w_var 0 rfl <| w_var 1 rfl <| oc_eq (v1 := .non) (v2 := .non) rfl rfl rfl rfl
  | bl b => cases n <;> cases hp
  | ty b => cases n <;> cases hp
  | ins C ns xs => cases n <;> cases hp
  | int i =>
    refine s_cons <| s_if <| t_val <| w_callB (id := "isinstance") T.b_isinstance (by decide +kernel) <| a_cons <| w_var 1 rfl <| a_cons <| w_tup <| a_cons <| w_ty (T := "list") T.b_list (by decide +kernel) <| a_cons <| w_ty (T := "tuple") T.b_tuple (by decide +kernel) <| a_nil <| And.intro (by simp) <| a_nil <| cc_isi2 rfl rfl <| KT.mk <| brF <| s_nil ?_
    refine s_cons <| s_if <| t_w <| p_or <| t_cmp <| w_var 1 rfl <| w_non <| oc_isN <| KT.mk <| brF <| p_or1 <| t_val <| w_callB (id := "isinstance") T.b_isinstance (by decide +kernel) <| a_cons <| w_var 1 rfl <| a_cons <| w_ty (T := "str") T.b_str (by decide +kernel) <| a_nil <| cc_isi rfl rfl <| KT.mk <| brF <| s_nil ?_
    refine s_one <| s_ret <| w_and <| w_callB (id := "isinstance") T.b_isinstance (by decide +kernel) <| a_cons <| w_var 0 rfl <| a_cons <| w_ty (T := "int") T.b_int (by decide +kernel) <| a_nil <| cc_isi rfl rfl <| ex rfl <| brT <| w_and <| w_not <| w_callB (id := "isinstance") T.b_isinstance (by decide +kernel) <| a_cons <| w_var 0 rfl <| a_cons <| w_ty (T := "bool") T.b_bool (by decide +kernel) <| a_nil <| cc_isi rfl rfl <| ex rfl <| ex rfl <| brT <| w_and1 <| w_cmp <| w_var 0 rfl <| w_var 1 rfl <| oc_eqI ?_
    rw [decide_eq_true rfl]
  | str x =>
    refine s_cons <| s_if <| t_val <| w_callB (id := "isinstance") T.b_isinstance (by decide +kernel) <| a_cons <| w_var 1 rfl <| a_cons <| w_tup <| a_cons <| w_ty (T := "list") T.b_list (by decide +kernel) <| a_cons <| w_ty (T := "tuple") T.b_tuple (by decide +kernel) <| a_nil <| And.intro (by simp) <| a_nil <| cc_isi2 rfl rfl <| KT.mk <| brF <| s_nil ?_
    refine s_cons <| s_if <| t_w <| p_or <| t_cmp <| w_var 1 rfl <| w_non <| oc_isN <| KT.mk <| brF <| p_or1 <| t_val <| w_callB (id := "isinstance") T.b_isinstance (by decide +kernel) <| a_cons <| w_var 1 rfl <| a_cons <| w_ty (T := "str") T.b_str (by decide +kernel) <| a_nil <| cc_isi rfl rfl <| KT.mk <| brT ?_
    refine s_one <| s_ret <| w_and <| w_cmp <| w_cmp <| w_var 0 rfl <| w_non <| oc_isN <| w_cmp <| w_var 1 rfl <| w_non <| oc_isN <| oc_eqB <| ex rfl <| brT <| w_and <| w_cmp <| w_callB (id := "isinstance") T.b_isinstance (by decide +kernel) <| a_cons <| w_var 0 rfl <| a_cons <| w_ty (T := "str") T.b_str (by decide +kernel) <| a_nil <| cc_isi rfl rfl <| w_callB (id := "isinstance") T.b_isinstance (by decide +kernel) <| a_cons <| w_var 1 rfl <| a_cons <| w_ty (T := "str") T.b_str (by decide +kernel) <| a_nil <| cc_isi rfl rfl <| oc_eqB <| ex rfl <| brT <| w_and1 <| w_cmp <| w_var 0 rfl <| w_var 1 rfl <| oc_eqS ?_
    rw [decide_eq_true rfl]
  | lst ds =>
    cases n with
    | zero => cases hp
    | succ n =>
      have hp : (decide (ds.length ≤ 1000) && ds.all (Dt.okN n)) = true := hp
      rw [Bool.and_eq_true] at hp
      have hl := of_decide_eq_true hp.1
      have ha := List.all_eq_true.mp hp.2
      refine s_cons <| s_if <| t_val <| w_callB (id := "isinstance") T.b_isinstance (by decide +kernel) <| a_cons <| w_var 1 rfl <| a_cons <| w_tup <| a_cons <| w_ty (T := "list") T.b_list (by decide +kernel) <| a_cons <| w_ty (T := "tuple") T.b_tuple (by decide +kernel) <| a_nil <| And.intro (by simp) <| a_nil <| cc_isi2 rfl rfl <| KT.mk <| brT ?_
      refine s_cons <| s_if <| t_w <| p_or <| t_not <| t_val <| w_callB (id := "isinstance") T.b_isinstance (by decide +kernel) <| a_cons <| w_var 0 rfl <| a_cons <| w_tup <| a_cons <| w_ty (T := "list") T.b_list (by decide +kernel) <| a_cons <| w_ty (T := "tuple") T.b_tuple (by decide +kernel) <| a_nil <| And.intro (by simp) <| a_nil <| cc_isi2 rfl rfl <| KT.mk <| nb <| brT <| p_or1 <| t_cmp <| w_callB (id := "isinstance") T.b_isinstance (by decide +kernel) <| a_cons <| w_var 0 rfl <| a_cons <| w_ty (T := "list") T.b_list (by decide +kernel) <| a_nil <| cc_isi rfl rfl <| w_callB (id := "isinstance") T.b_isinstance (by decide +kernel) <| a_cons <| w_var 1 rfl <| a_cons <| w_ty (T := "list") T.b_list (by decide +kernel) <| a_nil <| cc_isi rfl rfl <| oc_neB <| KT.mk <| brF <| s_nil ?_
      refine s_one <| s_ret <| w_and <| w_cmp <| w_callB (id := "len") T.b_len (by decide +kernel) <| a_cons <| w_var 0 rfl <| a_nil <| cc_lenL <| w_callB (id := "len") T.b_len (by decide +kernel) <| a_cons <| w_var 1 rfl <| a_nil <| cc_lenL <| oc_eqI <| ex rfl <| br (fun h => w_and1 <| w_callB (id := "all") T.b_all (by decide +kernel) <| a_cons <| w_lc (own := [("one", 2), ("other", 3)]) <| i_zip T.b_zip <| w_var 0 rfl <| w_var 1 rfl <| ⟨ds, ds, rfl, rfl, lc_map ds (fun x => .tup [x, x]) (fun _ => true) (fun _ => .bl true) (zipW_self ds) hl (lvC (lvC lvN)) (fun x hx _ _ _ _ _ => g_tup <| gs_cons <| g_name 2 <| gs_cons <| g_name 3 <| gs_nil <| fun _ _ _ _ _ => ts_nil <| And.intro rfl <| brT <| fun _ _ _ _ _ => w_callF (c_same_kind T n) hr (by omega) <| a_cons <| w_var 2 rfl <| a_cons <| w_var 3 rfl <| a_nil <| Exists.intro x <| And.intro rfl <| And.intro (ha x hx) <| ⟨rfl, rfl⟩) ?_⟩) (fun h => ?_)
      · rw [fT, mapmap (f := fun _ : Dt => true) (g := Dt.bl)]
        refine a_nil <| cc_all ?_
        rw [all_id fun _ _ => rfl]
      · exact absurd rfl (of_decide_eq_false h)
  | tup ds =>
    cases n with
    | zero => cases hp
    | succ n =>
      have hp : (decide (ds.length ≤ 1000) && ds.all (Dt.okN n)) = true := hp
      rw [Bool.and_eq_true] at hp
      have hl := of_decide_eq_true hp.1
      have ha := List.all_eq_true.mp hp.2
      refine s_cons <| s_if <| t_val <| w_callB (id := "isinstance") T.b_isinstance (by decide +kernel) <| a_cons <| w_var 1 rfl <| a_cons <| w_tup <| a_cons <| w_ty (T := "list") T.b_list (by decide +kernel) <| a_cons <| w_ty (T := "tuple") T.b_tuple (by decide +kernel) <| a_nil <| And.intro (by simp) <| a_nil <| cc_isi2 rfl rfl <| KT.mk <| brT ?_
      refine s_cons <| s_if <| t_w <| p_or <| t_not <| t_val <| w_callB (id := "isinstance") T.b_isinstance (by decide +kernel) <| a_cons <| w_var 0 rfl <| a_cons <| w_tup <| a_cons <| w_ty (T := "list") T.b_list (by decide +kernel) <| a_cons <| w_ty (T := "tuple") T.b_tuple (by decide +kernel) <| a_nil <| And.intro (by simp) <| a_nil <| cc_isi2 rfl rfl <| KT.mk <| nb <| brT <| p_or1 <| t_cmp <| w_callB (id := "isinstance") T.b_isinstance (by decide +kernel) <| a_cons <| w_var 0 rfl <| a_cons <| w_ty (T := "list") T.b_list (by decide +kernel) <| a_nil <| cc_isi rfl rfl <| w_callB (id := "isinstance") T.b_isinstance (by decide +kernel) <| a_cons <| w_var 1 rfl <| a_cons <| w_ty (T := "list") T.b_list (by decide +kernel) <| a_nil <| cc_isi rfl rfl <| oc_neB <| KT.mk <| brF <| s_nil ?_
      refine s_one <| s_ret <| w_and <| w_cmp <| w_callB (id := "len") T.b_len (by decide +kernel) <| a_cons <| w_var 0 rfl <| a_nil <| cc_lenT <| w_callB (id := "len") T.b_len (by decide +kernel) <| a_cons <| w_var 1 rfl <| a_nil <| cc_lenT <| oc_eqI <| ex rfl <| br (fun h => w_and1 <| w_callB (id := "all") T.b_all (by decide +kernel) <| a_cons <| w_lc (own := [("one", 2), ("other", 3)]) <| i_zipT T.b_zip <| w_var 0 rfl <| w_var 1 rfl <| ⟨ds, ds, rfl, rfl, lc_map ds (fun x => .tup [x, x]) (fun _ => true) (fun _ => .bl true) (zipW_self ds) hl (lvC (lvC lvN)) (fun x hx _ _ _ _ _ => g_tup <| gs_cons <| g_name 2 <| gs_cons <| g_name 3 <| gs_nil <| fun _ _ _ _ _ => ts_nil <| And.intro rfl <| brT <| fun _ _ _ _ _ => w_callF (c_same_kind T n) hr (by omega) <| a_cons <| w_var 2 rfl <| a_cons <| w_var 3 rfl <| a_nil <| Exists.intro x <| And.intro rfl <| And.intro (ha x hx) <| ⟨rfl, rfl⟩) ?_⟩) (fun h => ?_)
      · rw [fT, mapmap (f := fun _ : Dt => true) (g := Dt.bl)]
        refine a_nil <| cc_all ?_
        rw [all_id fun _ _ => rfl]
      · exact absurd rfl (of_decide_eq_false h)
end
end Pr

end Text_D6
section Text_D7
set_option maxHeartbeats 4000000
namespace Pr
open PySem PySem.Spec PyProof.Rows L2
open C8 (Cal Mak Met pe_c pe_mk pe_mt pe_mt0)
section
variable {P : Program} {w : World} {K : PySem.W.Frag} {mg : Str → Option Value} {base : Heap}
/-! ## alike, in the law -/
abbrev nLawSame : List Str := ["_law_found", "_law_due", "_law_one", "_law_other"]
theorem c_law_same (T : Txt K mg) (n : Nat) : Cal P w K mg base (n + 1) "_law_same" (spP (fun a : Dt => [a, a]) (fun a => Dt.okN n a = true) fun a d => d = (fun _ => .bl true) a) [] := by
  refine T.d_law_same.pure (N := nLawSame) ⟨rfl, rfl, rfl, by decide +kernel, rfl, by decide +kernel, by decide +kernel⟩ (fun _ => rfl) ?_
  rintro f cdv A outer s H E hr Γ d hB hp
  have nd : nLawSame.Nodup := by decide +kernel
  cases d with
  | bl b => cases n <;> cases hp
  | ty b => cases n <;> cases hp
  | ins C ns xs => cases n <;> cases hp
  | non =>
    refine s_cons <| s_if <| t_val <| w_callB (id := "isinstance") T.b_isinstance (by decide +kernel) <| a_cons <| w_var 1 rfl <| a_cons <| w_tup <| a_cons <| w_ty (T := "list") T.b_list (by decide +kernel) <| a_cons <| w_ty (T := "tuple") T.b_tuple (by decide +kernel) <| a_nil <| And.intro (by simp) <| a_nil <| cc_isi2 rfl rfl <| KT.mk <| brF <| s_nil ?_
    refine s_cons <| s_if <| t_w <| p_or <| t_cmp <| w_var 1 rfl <| w_non <| oc_isN <| KT.mk <| brT <| brT ?_
    refine s_one <| s_ret <| w_and <| w_cmp <| w_var 0 rfl <| w_var 1 rfl <| oc_eq (v1 := .non) (v2 := .non) rfl rfl rfl <| ex rfl <| brT <| w_and <| w_cmp <| w_callB (id := "isinstance") T.b_isinstance (by decide +kernel) <| a_cons <| w_var 0 rfl <| a_cons <| w_ty (T := "bool") T.b_bool (by decide +kernel) <| a_nil <| cc_isi rfl rfl <| w_callB (id := "isinstance") T.b_isinstance (by decide +kernel) <| a_cons <| w_var 1 rfl <| a_cons <| w_ty (T := "bool") T.b_bool (by decide +kernel) <| a_nil <| cc_isi rfl rfl <| oc_eqB <| ex rfl <| brT <| w_and1 <| w_cmp <| w_cmp <| w_var 0 rfl <| w_non <| oc_isN <| w_cmp <| w_var 1 rfl <| w_non <| oc_isN <| oc_eqB rfl
  | str x =>
    refine s_cons <| s_if <| t_val <| w_callB (id := "isinstance") T.b_isinstance (by decide +kernel) <| a_cons <| w_var 1 rfl <| a_cons <| w_tup <| a_cons <| w_ty (T := "list") T.b_list (by decide +kernel) <| a_cons <| w_ty (T := "tuple") T.b_tuple (by decide +kernel) <| a_nil <| And.intro (by simp) <| a_nil <| cc_isi2 rfl rfl <| KT.mk <| brF <| s_nil ?_
    refine s_cons <| s_if <| t_w <| p_or <| t_cmp <| w_var 1 rfl <| w_non <| oc_isN <| KT.mk <| brF <| p_or1 <| t_val <| w_callB (id := "isinstance") T.b_isinstance (by decide +kernel) <| a_cons <| w_var 1 rfl <| a_cons <| w_tup <| a_cons <| w_ty (T := "bool") T.b_bool (by decide +kernel) <| a_cons <| w_ty (T := "str") T.b_str (by decide +kernel) <| a_nil <| And.intro (by simp) <| a_nil <| cc_isi2 rfl rfl <| KT.mk <| brT ?_
    refine s_one <| s_ret <| w_and <| w_cmp <| w_var 0 rfl <| w_var 1 rfl <| oc_eqS <| ex rfl <| br (fun h => w_and <| w_cmp <| w_callB (id := "isinstance") T.b_isinstance (by decide +kernel) <| a_cons <| w_var 0 rfl <| a_cons <| w_ty (T := "bool") T.b_bool (by decide +kernel) <| a_nil <| cc_isi rfl rfl <| w_callB (id := "isinstance") T.b_isinstance (by decide +kernel) <| a_cons <| w_var 1 rfl <| a_cons <| w_ty (T := "bool") T.b_bool (by decide +kernel) <| a_nil <| cc_isi rfl rfl <| oc_eqB <| ex rfl <| brT <| w_and1 <| w_cmp <| w_cmp <| w_var 0 rfl <| w_non <| oc_isN <| w_cmp <| w_var 1 rfl <| w_non <| oc_isN <| oc_eqB rfl) (fun h => ?_)
    exact absurd rfl (of_decide_eq_false h)
  | int i =>
    refine s_cons <| s_if <| t_val <| w_callB (id := "isinstance") T.b_isinstance (by decide +kernel) <| a_cons <| w_var 1 rfl <| a_cons <| w_tup <| a_cons <| w_ty (T := "list") T.b_list (by decide +kernel) <| a_cons <| w_ty (T := "tuple") T.b_tuple (by decide +kernel) <| a_nil <| And.intro (by simp) <| a_nil <| cc_isi2 rfl rfl <| KT.mk <| brF <| s_nil ?_
    refine s_cons <| s_if <| t_w <| p_or <| t_cmp <| w_var 1 rfl <| w_non <| oc_isN <| KT.mk <| brF <| p_or1 <| t_val <| w_callB (id := "isinstance") T.b_isinstance (by decide +kernel) <| a_cons <| w_var 1 rfl <| a_cons <| w_tup <| a_cons <| w_ty (T := "bool") T.b_bool (by decide +kernel) <| a_cons <| w_ty (T := "str") T.b_str (by decide +kernel) <| a_nil <| And.intro (by simp) <| a_nil <| cc_isi2 rfl rfl <| KT.mk <| brF <| s_nil ?_
    refine s_one <| s_ret <| w_and <| w_callB (id := "isinstance") T.b_isinstance (by decide +kernel) <| a_cons <| w_var 0 rfl <| a_cons <| w_ty (T := "int") T.b_int (by decide +kernel) <| a_nil <| cc_isi rfl rfl <| ex rfl <| brT <| w_and <| w_not <| w_callB (id := "isinstance") T.b_isinstance (by decide +kernel) <| a_cons <| w_var 0 rfl <| a_cons <| w_ty (T := "bool") T.b_bool (by decide +kernel) <| a_nil <| cc_isi rfl rfl <| ex rfl <| ex rfl <| brT <| w_and1 <| w_cmp <| w_var 0 rfl <| w_var 1 rfl <| oc_eqI ?_
    rw [decide_eq_true rfl]
  | lst ds =>
    cases n with
    | zero => cases hp
    | succ n =>
      have hp : (decide (ds.length ≤ 1000) && ds.all (Dt.okN n)) = true := hp
      rw [Bool.and_eq_true] at hp
      have hl := of_decide_eq_true hp.1
      have ha := List.all_eq_true.mp hp.2
      refine s_cons <| s_if <| t_val <| w_callB (id := "isinstance") T.b_isinstance (by decide +kernel) <| a_cons <| w_var 1 rfl <| a_cons <| w_tup <| a_cons <| w_ty (T := "list") T.b_list (by decide +kernel) <| a_cons <| w_ty (T := "tuple") T.b_tuple (by decide +kernel) <| a_nil <| And.intro (by simp) <| a_nil <| cc_isi2 rfl rfl <| KT.mk <| brT ?_
      refine s_cons <| s_if <| t_w <| p_or <| t_cmp <| w_callB (id := "isinstance") T.b_isinstance (by decide +kernel) <| a_cons <| w_var 0 rfl <| a_cons <| w_ty (T := "list") T.b_list (by decide +kernel) <| a_nil <| cc_isi rfl rfl <| w_callB (id := "isinstance") T.b_isinstance (by decide +kernel) <| a_cons <| w_var 1 rfl <| a_cons <| w_ty (T := "list") T.b_list (by decide +kernel) <| a_nil <| cc_isi rfl rfl <| oc_neB <| KT.mk <| brF <| p_or1 <| t_cmp <| w_callB (id := "isinstance") T.b_isinstance (by decide +kernel) <| a_cons <| w_var 0 rfl <| a_cons <| w_ty (T := "tuple") T.b_tuple (by decide +kernel) <| a_nil <| cc_isi rfl rfl <| w_callB (id := "isinstance") T.b_isinstance (by decide +kernel) <| a_cons <| w_var 1 rfl <| a_cons <| w_ty (T := "tuple") T.b_tuple (by decide +kernel) <| a_nil <| cc_isi rfl rfl <| oc_neB <| KT.mk <| brF <| s_nil ?_
      refine s_one <| s_ret <| w_and <| w_cmp <| w_callB (id := "len") T.b_len (by decide +kernel) <| a_cons <| w_var 0 rfl <| a_nil <| cc_lenL <| w_callB (id := "len") T.b_len (by decide +kernel) <| a_cons <| w_var 1 rfl <| a_nil <| cc_lenL <| oc_eqI <| ex rfl <| br (fun h => w_and1 <| w_callB (id := "all") T.b_all (by decide +kernel) <| a_cons <| w_lc (own := [("_law_one", 2), ("_law_other", 3)]) <| i_zip T.b_zip <| w_var 0 rfl <| w_var 1 rfl <| ⟨ds, ds, rfl, rfl, lc_map ds (fun x => .tup [x, x]) (fun _ => true) (fun _ => .bl true) (zipW_self ds) hl (lvC (lvC lvN)) (fun x hx _ _ _ _ _ => g_tup <| gs_cons <| g_name 2 <| gs_cons <| g_name 3 <| gs_nil <| fun _ _ _ _ _ => ts_nil <| And.intro rfl <| brT <| fun _ _ _ _ _ => w_callF (c_law_same T n) hr (by omega) <| a_cons <| w_var 2 rfl <| a_cons <| w_var 3 rfl <| a_nil <| Exists.intro x <| And.intro rfl <| And.intro (ha x hx) <| ⟨rfl, rfl⟩) ?_⟩) (fun h => ?_)
      · rw [fT, mapmap (f := fun _ : Dt => true) (g := Dt.bl)]
        refine a_nil <| cc_all ?_
        rw [all_id fun _ _ => rfl]
      · exact absurd rfl (of_decide_eq_false h)
  | tup ds =>
    cases n with
    | zero => cases hp
    | succ n =>
      have hp : (decide (ds.length ≤ 1000) && ds.all (Dt.okN n)) = true := hp
      rw [Bool.and_eq_true] at hp
      have hl := of_decide_eq_true hp.1
      have ha := List.all_eq_true.mp hp.2
      refine s_cons <| s_if <| t_val <| w_callB (id := "isinstance") T.b_isinstance (by decide +kernel) <| a_cons <| w_var 1 rfl <| a_cons <| w_tup <| a_cons <| w_ty (T := "list") T.b_list (by decide +kernel) <| a_cons <| w_ty (T := "tuple") T.b_tuple (by decide +kernel) <| a_nil <| And.intro (by simp) <| a_nil <| cc_isi2 rfl rfl <| KT.mk <| brT ?_
      refine s_cons <| s_if <| t_w <| p_or <| t_cmp <| w_callB (id := "isinstance") T.b_isinstance (by decide +kernel) <| a_cons <| w_var 0 rfl <| a_cons <| w_ty (T := "list") T.b_list (by decide +kernel) <| a_nil <| cc_isi rfl rfl <| w_callB (id := "isinstance") T.b_isinstance (by decide +kernel) <| a_cons <| w_var 1 rfl <| a_cons <| w_ty (T := "list") T.b_list (by decide +kernel) <| a_nil <| cc_isi rfl rfl <| oc_neB <| KT.mk <| brF <| p_or1 <| t_cmp <| w_callB (id := "isinstance") T.b_isinstance (by decide +kernel) <| a_cons <| w_var 0 rfl <| a_cons <| w_ty (T := "tuple") T.b_tuple (by decide +kernel) <| a_nil <| cc_isi rfl rfl <| w_callB (id := "isinstance") T.b_isinstance (by decide +kernel) <| a_cons <| w_var 1 rfl <| a_cons <| w_ty (T := "tuple") T.b_tuple (by decide +kernel) <| a_nil <| cc_isi rfl rfl <| oc_neB <| KT.mk <| brF <| s_nil ?_
      refine s_one <| s_ret <| w_and <| w_cmp <| w_callB (id := "len") T.b_len (by decide +kernel) <| a_cons <| w_var 0 rfl <| a_nil <| cc_lenT <| w_callB (id := "len") T.b_len (by decide +kernel) <| a_cons <| w_var 1 rfl <| a_nil <| cc_lenT <| oc_eqI <| ex rfl <| br (fun h => w_and1 <| w_callB (id := "all") T.b_all (by decide +kernel) <| a_cons <| w_lc (own := [("_law_one", 2), ("_law_other", 3)]) <| i_zipT T.b_zip <| w_var 0 rfl <| w_var 1 rfl <| ⟨ds, ds, rfl, rfl, lc_map ds (fun x => .tup [x, x]) (fun _ => true) (fun _ => .bl true) (zipW_self ds) hl (lvC (lvC lvN)) (fun x hx _ _ _ _ _ => g_tup <| gs_cons <| g_name 2 <| gs_cons <| g_name 3 <| gs_nil <| fun _ _ _ _ _ => ts_nil <| And.intro rfl <| brT <| fun _ _ _ _ _ => w_callF (c_law_same T n) hr (by omega) <| a_cons <| w_var 2 rfl <| a_cons <| w_var 3 rfl <| a_nil <| Exists.intro x <| And.intro rfl <| And.intro (ha x hx) <| ⟨rfl, rfl⟩) ?_⟩) (fun h => ?_)
      · rw [fT, mapmap (f := fun _ : Dt => true) (g := Dt.bl)]
        refine a_nil <| cc_all ?_
        rw [all_id fun _ _ => rfl]
      · exact absurd rfl (of_decide_eq_false h)
/-! ## shows_broken, last_warm -/
theorem okN_turns {ts : List Turn} (h : ts.length ≤ 1000) (n : Nat) : Dt.okN (n + 2) (dTurns ts) = true := by
  show (decide ((ts.map dTurn).length ≤ 1000) && (ts.map dTurn).all (Dt.okN (n + 1))) = true
  rw [List.length_map, decide_eq_true h, Bool.true_and, List.all_eq_true]
  intro d hd
  obtain ⟨t, _, rfl⟩ := List.mem_map.mp hd
  cases n <;> rfl
theorem okN_brk {p : Pal} {ts : List Turn} {hour warm : Int} (h : ts.length ≤ 1000) : Dt.okN 3 (dBrk (brokenF p ts hour warm)) = true := by
  have e1 : ((brokenF p ts hour warm).ended).length ≤ 1000 := Nat.le_trans (List.length_filter_le _ _) h
  have e2 : ((brokenF p ts hour warm).behind).length ≤ 1000 := by
    show (laterTurns p _ _).length ≤ 1000
    rw [later_len, List.length_drop]
    omega
  have e3 : ((brokenF p ts hour warm).moved).length ≤ 1000 := by
    show (movedFrom _ _ _).length ≤ 1000
    unfold movedFrom
    rw [List.length_map]
    refine Nat.le_trans (List.length_filter_le _ _) ?_
    rw [List.length_zipIdx, List.length_zip, List.length_drop]
    omega
  show (decide (4 ≤ 1000) && (Dt.okN 2 (dTurns _) && (Dt.okN 2 (dOpt _) && (Dt.okN 2 (dTurns _) && (Dt.okN 2 (.lst _) && true))))) = true
  rw [okN_turns e1 0, okN_turns e2 0]
  have e4 : ∀ o, Dt.okN 2 (dOpt o) = true := fun o => by cases o <;> rfl
  rw [e4]
  have e5 : Dt.okN 2 (.lst ((brokenF p ts hour warm).moved.map Dt.int)) = true := by
    show (decide (_ ≤ 1000) && List.all _ _) = true
    rw [List.length_map, decide_eq_true e3, Bool.true_and, List.all_eq_true]
    intro d hd
    obtain ⟨t, _, rfl⟩ := List.mem_map.mp hd
    rfl
  rw [e5]
  rfl
abbrev nShowsBroken : List Str := ["palette", "turns", "hour", "warm", "thing"]
theorem c_shows_broken (T : Txt K mg) : Cal P w K mg base 6 "shows_broken" (spP (fun a : Pal × List Turn × Int × Int => [dPal a.1, dTurns a.2.1, .int a.2.2.1, .int a.2.2.2, dBrk (brokenF a.1 a.2.1 a.2.2.1 a.2.2.2)]) (fun a => a.2.1.length ≤ 1000 ∧ ∀ t ∈ a.2.1, a.1.has t.col ∧ PyData.strOk t.col = true) fun a d => d = (fun _ => .bl true) a) [] := by
  refine T.d_shows_broken.pure (N := nShowsBroken) ⟨rfl, rfl, rfl, by decide +kernel, rfl, by decide +kernel, by decide +kernel⟩ (fun _ => rfl) ?_
  rintro f cdv A outer s H E hr Γ ⟨p, ts, hour, warm⟩ hB hp
  have nd : nShowsBroken.Nodup := by decide +kernel
  dsimp only at hp ⊢
  exact s_one <| s_ret <| w_callF (c_same_kind T 3) hr (by decide) <| a_cons <| w_var 4 rfl <| a_cons <| w_callF (c_broken T) hr (by decide) <| a_cons <| w_var 0 rfl <| a_cons <| w_var 1 rfl <| a_cons <| w_var 2 rfl <| a_cons <| w_var 3 rfl <| a_nil <| Exists.intro (p, ts, hour, warm) <| And.intro rfl <| And.intro hp <| a_nil <| Exists.intro (dBrk (brokenF p ts hour warm)) <| And.intro rfl <| And.intro (okN_brk hp.1) <| rfl
abbrev nLastWarm : List Str := ["palette", "turns", "hour", "number", "begin", "slack", "one"]
theorem c_last_warm (T : Txt K mg) : Cal P w K mg base 2 "last_warm" (spP (fun a : Pal × List Turn × Int => [dPal a.1, dTurns a.2.1, .int a.2.2, .int (firstBehind a.2.1 a.2.2)]) (fun a => a.2.1.length ≤ 1000 ∧ firstBehind a.2.1 a.2.2 < a.2.1.length) fun a d => d = (fun a : Pal × List Turn × Int => .int ((a.2.1.getD (firstBehind a.2.1 a.2.2) default).at_ - a.2.2)) a) [] := by
  refine T.d_last_warm.pure (N := nLastWarm) ⟨rfl, rfl, rfl, by decide +kernel, rfl, by decide +kernel, by decide +kernel⟩ (fun _ => rfl) ?_
  rintro f cdv A outer s H E hr Γ ⟨p, ts, hour⟩ hB ⟨hl, hi⟩
  have nd : nLastWarm.Nodup := by decide +kernel
  dsimp only at hl hi ⊢
  refine s_cons <| s_set 4 <| w_callF (c_first_behind T) hr (by decide) <| a_cons <| w_var 1 rfl <| a_cons <| w_var 2 rfl <| a_nil <| Exists.intro (ts, hour) <| And.intro rfl <| And.intro hl <| And.intro ⟨_, rfl, rfl⟩ ?_
  refine s_cons <| s_set 5 <| w_callB (id := "sum") T.b_sum (by decide +kernel) <| a_cons <| w_lc (own := [("one", 6)]) <| i_rng2 T.b_range <| w_var 4 rfl <| w_var 3 rfl <| ⟨(firstBehind ts hour : Int), (firstBehind ts hour : Int), rfl, rfl, ⟨by omega, by omega, by omega, by omega⟩, ?_⟩
  rw [Int.sub_self]
  refine lc_map ([] : List Nat) (fun _ => .non) (fun _ => true) (fun _ => .int 0) rfl (by simp) (lvC lvN) (fun x hx => by cases hx) <| a_nil <| cc_sum (ns := []) <| And.intro ⟨_, rfl, rfl⟩ ?_
  have ei : ts[firstBehind ts hour]? = some ts[firstBehind ts hour] := List.getElem?_eq_getElem hi
  refine s_one <| s_ret <| w_bin <| w_bin <| w_ix <| w_ix <| w_var 1 rfl <| w_var 4 rfl <| xc_lst (atI_map ei) <| w_int <| xc_tup rfl <| w_var 2 rfl <| oc_sub <| w_var 5 rfl <| oc_add <| ?_
  show Dt.int _ = Dt.int _
  rw [List.getD_eq_getElem?_getD, ei]
  show Dt.int (ts[firstBehind ts hour].at_ - hour + 0) = Dt.int (ts[firstBehind ts hour].at_ - hour)
  rw [Int.add_zero]
end
end Pr

end Text_D7
section Text_D8
set_option maxHeartbeats 4000000
namespace Pr
open PySem PySem.Spec PyProof.Rows L2
open C8 (Cal Mak Met pe_c pe_mk pe_mt pe_mt0)
local macro_rules | `(tactic| walk_at "nrm") => `(tactic| (simp only [args, setAll, List.set_cons_zero, List.set_cons_succ, List.map_cons, List.map_nil, List.length_cons, List.length_nil, List.replicate_succ, List.replicate_zero, List.cons_append, List.nil_append, Nat.reduceAdd, Nat.reduceSub]; try rfl))
section
variable {P : Program} {w : World} {K : PySem.W.Frag} {mg : Str → Option Value} {base : Heap}
/-! ## the round's steps -/
theorem xc_key {X : Cx} {δ : Sls} {K : Sls → Dt → Prop} (b : Bool) {r : RowT} (k : K δ (.str (r.key b))) : XC X δ (dRow r) (.int (if b then 1 else 0)) K := by
  cases b with
  | true => exact xc_tup rfl k
  | false => exact xc_tup rfl k
theorem atI0_filter {α : Type} {l : List α} {f : α → Bool} {g : α → Dt} {x : α} (h : l.find? f = some x) : atI ((l.filter f).map g) 0 = some (g x) := by
  have e : ((l.filter f).map g)[0]? = some (g x) := by
    rw [List.getElem?_map]
    have := List.head?_filter (p := f) (l := l)
    rw [h, List.head?_eq_getElem?] at this
    rw [this]
    rfl
  exact atI_nat (i := 0) e
abbrev nNextAlike : List Str := ["rows", "number", "part", "turned", "further", "other"]
theorem c_next_alike (T : Txt K mg) : Cal P w K mg base 1 "next_alike" (spP (fun a : List RowT × Nat × Bool => [dRows a.1, .int a.2.1, .int (if a.2.2 then 1 else 0)]) (fun a => a.1.length ≤ 999 ∧ a.2.1 < a.1.length) fun a d => d = (fun a : List RowT × Nat × Bool => .int (nextAlike a.1 a.2.1 a.2.2 : Nat)) a) [] := by
  refine T.d_next_alike.pure (N := nNextAlike) ⟨rfl, rfl, rfl, by decide +kernel, rfl, by decide +kernel, by decide +kernel⟩ (fun _ => rfl) ?_
  rintro f cdv A outer s H E hr Γ ⟨rs, i, b⟩ hB ⟨hl, hi⟩
  have nd : nNextAlike.Nodup := by decide +kernel
  dsimp only at hl hi ⊢
  refine s_cons <| s_setLc (own := [("further", 4)]) 3 <| i_rng2 T.b_range <| w_int <| w_bin <| w_callB (id := "len") T.b_len (by decide +kernel) <| a_cons <| w_var 0 rfl <| a_nil <| cc_lenL <| w_int <| oc_add <| ⟨1, _, rfl, rfl, ⟨by decide, by decide, by rw [List.length_map]; omega, by omega⟩, ?_⟩
  rw [List.length_map]
  have e1 : ((rs.length : Int) + 1 - 1).toNat = rs.length := by omega
  rw [e1]
  refine lc_map (List.range rs.length) (fun k => .int (1 + (k : Nat))) (fun _ => true) (fun k => .int (((i + (k + 1)) % rs.length : Nat) : Int)) rfl (by rw [List.length_range]; omega) (lvC lvN) (fun k hk _ _ _ _ _ => g_name 4 <| fun _ _ _ _ _ => ts_nil <| And.intro rfl <| brT <| fun _ _ _ _ _ => w_bin <| w_bin <| w_var 1 rfl <| w_var 4 rfl <| oc_add <| w_callB (id := "len") T.b_len (by decide +kernel) <| a_cons <| w_var 0 rfl <| a_nil <| cc_lenL <| oc_mod ?_ <| ⟨rfl, ?_⟩) <| And.intro ⟨_, rfl, rfl⟩ ?_
  · rw [List.length_map]; omega
  · rw [List.length_map]
    congr 1
    rw [Int.natCast_emod]
    congr 1
    omega
  have e2 : ((List.range rs.length).filter fun _ => true).map (fun k => Dt.int (((i + (k + 1)) % rs.length : Nat) : Int)) = (turned rs.length i).map fun j => Dt.int (j : Nat) := by
    rw [fT]
    unfold turned
    rw [List.map_map]
    rfl
  rw [e2]
  obtain ⟨n1, n2, n3⟩ := next_some b hi
  have hmem : ∀ j ∈ turned rs.length i, rs[j]? = some (rowAt rs j) := fun j hj => rowAt_get (mem_turned hj)
  refine s_one <| s_ret <| w_ix <| w_lc (own := [("other", 5)]) <| i_lst <| w_var 3 rfl <| ex rfl <| lc_map (turned rs.length i) (fun j => .int (j : Nat)) (fun j => decide ((rowAt rs j).key b = (rowAt rs i).key b)) (fun j => .int (j : Nat)) rfl (by unfold turned; rw [List.length_map, List.length_range]; omega) (lvC lvN) (fun x hx _ _ _ _ _ => g_name 5 <| fun _ _ _ _ _ => ts_one <| t_cmp <| w_ix <| w_ix <| w_var 0 rfl <| w_var 5 rfl <| xc_lst (atI_map (hmem x hx)) <| w_var 2 rfl <| xc_key b <| w_ix <| w_ix <| w_var 0 rfl <| w_var 1 rfl <| xc_lst (atI_map (rowAt_get hi)) <| w_var 2 rfl <| xc_key b <| oc_eqS <| KT.mk <| And.intro rfl <| br (fun h => fun _ _ _ _ _ => w_var 5 rfl <| ⟨rfl, rfl⟩) (fun h => rfl)) <| w_int <| xc_lst (atI0_filter n1) <| rfl
abbrev nCrossing : List Str := ["number", "other"]
theorem c_crossing (T : Txt K mg) : Cal P w K mg base 1 "crossing" (spP (fun a : Nat × Nat => [.int a.1, .int a.2]) (fun a => True) fun a d => d = (fun a : Nat × Nat => .int (cross a.1 a.2)) a) [] := by
  refine T.d_crossing.pure (N := nCrossing) ⟨rfl, rfl, rfl, by decide +kernel, rfl, by decide +kernel, by decide +kernel⟩ (fun _ => rfl) ?_
  rintro f cdv A outer s H E hr Γ ⟨i, j⟩ hB hp
  have nd : nCrossing.Nodup := by decide +kernel
  dsimp only at hp ⊢
  refine s_one <| s_ret <| w_callTy T.b_int (by decide +kernel) <| a_cons <| w_cmp <| w_var 1 rfl <| w_var 0 rfl <| oc_le <| a_nil <| cc_intB <| ?_
  show Dt.int (if decide ((j : Int) ≤ (i : Int)) = true then 1 else 0) = .int (cross i j)
  unfold cross
  congr 1
  by_cases h : j ≤ i
  · rw [if_pos h, if_pos (decide_eq_true (by omega))]
  · rw [if_neg h, if_neg (by rw [decide_eq_true_eq]; omega)]
abbrev nWashBehindR : List Str := ["palette", "rows", "number", "colour", "follower", "hours"]
theorem c_wash_behind_rounds (T : Txt K mg) : Cal P w K mg base 3 "wash_behind_rounds" (spP (fun a : Pal × List RowT × Nat => [dPal a.1, dRows a.2.1, .int a.2.2]) (fun a => a.2.1.length ≤ 999 ∧ a.2.2 < a.2.1.length ∧ ∀ r ∈ a.2.1, a.1.has r.col) fun a d => d = (fun a : Pal × List RowT × Nat => .int (washBehindR a.1 a.2.1 a.2.2)) a) [] := by
  refine T.d_wash_behind_rounds.pure (N := nWashBehindR) ⟨rfl, rfl, rfl, by decide +kernel, rfl, by decide +kernel, by decide +kernel⟩ (fun _ => rfl) ?_
  rintro f cdv A outer s H E hr Γ ⟨p, rs, i⟩ hB ⟨hl, hi, hh⟩
  have nd : nWashBehindR.Nodup := by decide +kernel
  dsimp only at hl hi hh ⊢
  obtain ⟨n1, n2, n3⟩ := next_some false hi
  refine s_cons <| s_par2 3 4 <| ao_v <| w_ix <| w_ix <| w_var 1 rfl <| w_var 2 rfl <| xc_lst (atI_map (rowAt_get hi)) <| w_int <| xc_tup rfl <| ao_v <| w_ix <| w_ix <| w_var 1 rfl <| w_callF (c_next_alike T) hr (by decide) <| a_cons <| w_var 1 rfl <| a_cons <| w_var 2 rfl <| a_cons <| w_gi T.g_POT <| a_nil <| Exists.intro (rs, i, false) <| And.intro rfl <| And.intro ⟨hl, hi⟩ <| xc_lst (atI_map (rowAt_get n2)) <| w_int <| xc_tup rfl <| ao_nil <| ⟨⟨⟨_, rfl, rfl⟩, ⟨_, rfl, rfl⟩, trivial⟩, ?_⟩
  refine s_cons <| s_set 5 <| w_callF (c_wash_for T) hr (by decide) <| a_cons <| w_var 0 rfl <| a_cons <| w_var 3 rfl <| a_cons <| w_var 4 rfl <| a_nil <| Exists.intro (p, _, _) <| And.intro rfl <| And.intro ⟨hh _ (List.mem_of_getElem? (rowAt_get hi)), hh _ (List.mem_of_getElem? (rowAt_get n2))⟩ <| And.intro ⟨_, rfl, rfl⟩ ?_
  refine s_cons <| s_if <| t_cmp <| w_var 5 rfl <| w_non <| oc_isN <| KT.mk <| brF <| s_nil ?_
  exact s_one <| s_ret <| w_var 5 rfl <| rfl
abbrev nRowSteps : List Str := ["palette", "rows", "number", "pot", "team", "colour", "hours", "name", "charge", "melt", "gathers", "fill", "work", "wash", "behind", "found", "mate", "filled"]
theorem c_row_steps (T : Txt K mg) : Cal P w K mg base 4 "row_steps" (spP (fun a : Pal × List RowT × Nat => [dPal a.1, dRows a.2.1, .int a.2.2]) (fun a => a.2.1.length ≤ 999 ∧ a.2.2 < a.2.1.length ∧ ∀ r ∈ a.2.1, a.1.has r.col) fun a d => d = (fun a : Pal × List RowT × Nat => dSteps (stepsRow a.1 a.2.1 a.2.2)) a) [] := by
  refine T.d_row_steps.pure (N := nRowSteps) ⟨rfl, rfl, rfl, by decide +kernel, rfl, by decide +kernel, by decide +kernel⟩ (fun _ => rfl) ?_
  rintro f cdv A outer s H E hr Γ ⟨p, rs, i⟩ hB ⟨hl, hi, hh⟩
  have nd : nRowSteps.Nodup := by decide +kernel
  dsimp only at hl hi hh ⊢
  have hc := hh _ (List.mem_of_getElem? (rowAt_get hi))
  obtain ⟨n1, n2, n3⟩ := next_some false hi
  obtain ⟨t1, t2, t3⟩ := next_some true hi
  refine SK.norm (by unfold nRowSteps; walk_at "nrm") ?_
  refine s_cons <| s_asg <| w_ix <| w_var 1 rfl <| w_var 2 rfl <| xc_lst (atI_map (rowAt_get hi)) <| g_tup <| gs_cons <| g_name 3 <| gs_cons <| g_name 4 <| gs_cons <| g_name 5 <| gs_cons <| g_name 6 <| gs_nil <| SK.norm (by walk_at "nrm") ?_
  refine s_cons <| s_asg <| w_callF (c_colour_row T) hr (by decide) <| a_cons <| w_var 0 rfl <| a_cons <| w_var 5 rfl <| a_nil <| Exists.intro (p, (rowAt rs i).col) <| And.intro rfl <| And.intro hc <| g_tup <| gs_cons <| g_name 7 <| gs_cons <| g_name 8 <| gs_cons <| g_name 9 <| gs_cons <| g_name 10 <| gs_nil <| SK.norm (by walk_at "nrm") ?_
  refine s_cons <| s_par2 11 12 <| ao_v <| w_bin <| w_int <| w_var 2 rfl <| oc_mul (.inl (by decide)) <| ao_v <| w_bin <| w_bin <| w_int <| w_var 2 rfl <| oc_mul (.inl (by decide)) <| w_int <| oc_add <| ao_nil <| ⟨⟨⟨_, rfl, rfl⟩, ⟨_, rfl, rfl⟩, trivial⟩, SK.norm (by walk_at "nrm") ?_⟩
  refine s_cons <| s_set 13 <| w_callF (c_wash_behind_rounds T) hr (by decide) <| a_cons <| w_var 0 rfl <| a_cons <| w_var 1 rfl <| a_cons <| w_var 2 rfl <| a_nil <| Exists.intro (p, rs, i) <| And.intro rfl <| And.intro ⟨hl, hi, hh⟩ <| And.intro ⟨_, rfl, rfl⟩ (SK.norm (by walk_at "nrm") ?_)
  have eb : (((i : Nat) : Int) + 1) % (rs.length : Int) = (((i + 1) % rs.length : Nat) : Int) := by rw [Int.natCast_emod]; rfl
  refine s_cons <| s_set 14 <| w_bin <| w_bin <| w_var 2 rfl <| w_int <| oc_add <| w_callB (id := "len") T.b_len (by decide +kernel) <| a_cons <| w_var 1 rfl <| a_nil <| cc_lenM <| oc_modE (by omega) eb <| And.intro ⟨_, rfl, rfl⟩ (SK.norm (by walk_at "nrm") ?_)
  refine s_cons <| s_newL 15 <| a_cons <| w_tup <| a_cons <| w_var 11 rfl <| a_cons <| w_bin <| w_int <| w_var 14 rfl <| oc_mul (.inl (by decide)) <| a_cons <| w_var 8 rfl <| a_cons <| w_callF (c_crossing T) hr (by decide) <| a_cons <| w_var 2 rfl <| a_cons <| w_var 14 rfl <| a_nil <| Exists.intro (i, (i + 1) % rs.length) <| And.intro rfl <| And.intro trivial <| a_nil <| And.intro (by simp) <| a_cons <| w_tup <| a_cons <| w_var 11 rfl <| a_cons <| w_var 12 rfl <| a_cons <| w_bin <| w_var 8 rfl <| w_var 9 rfl <| oc_add <| a_cons <| w_int <| a_nil <| And.intro (by simp) <| a_nil <| And.intro (by simp) <| And.intro ⟨_, rfl, rfl⟩ fun q => SK.norm (by walk_at "nrm") ?_
  refine s_cons <| s_par2 16 17 <| ao_v <| w_callF (c_next_alike T) hr (by decide) <| a_cons <| w_var 1 rfl <| a_cons <| w_var 2 rfl <| a_cons <| w_gi T.g_TEAM <| a_nil <| Exists.intro (rs, i, true) <| And.intro rfl <| And.intro ⟨hl, hi⟩ <| ao_v <| w_callF (c_next_alike T) hr (by decide) <| a_cons <| w_var 1 rfl <| a_cons <| w_var 2 rfl <| a_cons <| w_gi T.g_POT <| a_nil <| Exists.intro (rs, i, false) <| And.intro rfl <| And.intro ⟨hl, hi⟩ <| ao_nil <| ⟨⟨⟨_, rfl, rfl⟩, ⟨_, rfl, rfl⟩, trivial⟩, SK.norm (by walk_at "nrm") ?_⟩
  refine s_cons <| s_app 15 <| w_tup <| a_cons <| w_var 12 rfl <| a_cons <| w_bin <| w_bin <| w_int <| w_var 16 rfl <| oc_mul (.inl (by decide)) <| w_int <| oc_add <| a_cons <| w_var 6 rfl <| a_cons <| w_callF (c_crossing T) hr (by decide) <| a_cons <| w_var 2 rfl <| a_cons <| w_var 16 rfl <| a_nil <| Exists.intro (i, nextAlike rs i true) <| And.intro rfl <| And.intro trivial <| a_nil <| And.intro (by simp) <| ⟨_, _, rfl, by simp, SK.norm (by walk_at "nrm") ?_⟩
  refine s_cons <| s_app 15 <| w_tup <| a_cons <| w_var 12 rfl <| a_cons <| w_bin <| w_int <| w_var 17 rfl <| oc_mul (.inl (by decide)) <| a_cons <| w_bin <| w_var 6 rfl <| w_var 13 rfl <| oc_add <| a_cons <| w_callF (c_crossing T) hr (by decide) <| a_cons <| w_var 2 rfl <| a_cons <| w_var 17 rfl <| a_nil <| Exists.intro (i, nextAlike rs i false) <| And.intro rfl <| And.intro trivial <| a_nil <| And.intro (by simp) <| ⟨_, _, rfl, by simp, SK.norm (by walk_at "nrm") ?_⟩
  refine s_freeze 15 rfl (by rw [hB]; intro q hq; cases hq) ?_
  exact s_one <| s_ret <| w_var 15 rfl <| rfl
end
end Pr

end Text_D8
section Text_D9
set_option maxHeartbeats 4000000
namespace Pr
open PySem PySem.Spec PyProof.Rows L2
open C8 (Cal Mak Met pe_c pe_mk pe_mt pe_mt0)
local macro_rules | `(tactic| walk_at "nrm") => `(tactic| (simp only [args, setAll, List.set_cons_zero, List.set_cons_succ, List.map_cons, List.map_nil, List.length_cons, List.length_nil, List.replicate_succ, List.replicate_zero, List.cons_append, List.nil_append, Nat.reduceAdd, Nat.reduceSub]; try rfl))
section
variable {P : Program} {w : World} {K : PySem.W.Frag} {mg : Str → Option Value} {base : Heap}
theorem shaped_ints (ns : List Int) : SeqAt.shaped (Dt.lst (ns.map Dt.int)).py = true := by
  have h1 : ∀ ns : List Int, PyData.canLayAll0 (pys (ns.map Dt.int)) = true := by
    intro ns
    induction ns with
    | nil => rfl
    | cons n ns ih =>
      show (PyData.canLay0 (.int n) && PyData.canLayAll0 (pys (ns.map Dt.int))) = true
      rw [ih]
      rfl
  have h2 : ∀ ns : List Int, PyData.depthAll (pys (ns.map Dt.int)) = 0 := by
    intro ns
    induction ns with
    | nil => rfl
    | cons n ns ih =>
      show max (PyData.depth (.int n)) (PyData.depthAll (pys (ns.map Dt.int))) = 0
      rw [ih]
      rfl
  show ((PyData.canLay0 (.list (pys (ns.map Dt.int)))) && decide (PyData.depth (.list (pys (ns.map Dt.int))) ≤ 64)) = true
  simp only [PyData.canLay0, PyData.depth, h1, h2]
  decide
abbrev nStepsOf : List Str := ["palette", "rows", "number"]
theorem c_steps_of (T : Txt K mg) : Cal P w K mg base 5 "steps_of" (spP (fun a : Pal × List RowT => [dPal a.1, dRows a.2]) (fun a => a.2.length ≤ 200 ∧ a.2 ≠ [] ∧ ∀ r ∈ a.2, a.1.has r.col) fun a d => d = (fun a : Pal × List RowT => dSteps (stepsOf a.1 a.2)) a) [] := by
  refine T.d_steps_of.pure (N := nStepsOf) ⟨rfl, rfl, rfl, by decide +kernel, rfl, by decide +kernel, by decide +kernel⟩ (fun _ => rfl) ?_
  rintro f cdv A outer s H E hr Γ ⟨p, rs⟩ hB ⟨hl, hne, hh⟩
  have nd : nStepsOf.Nodup := by decide +kernel
  dsimp only at hl hne hh ⊢
  refine s_one <| s_ret <| w_sumL T.b_sum <| w_lc (own := [("number", 2)]) <| i_rng1 T.b_range <| w_callB (id := "len") T.b_len (by decide +kernel) <| a_cons <| w_var 1 rfl <| a_nil <| cc_lenM <| ex rfl <| And.intro (by omega) <| lc_map (List.range rs.length) (fun i => .int (i : Nat)) (fun _ => true) (fun i => dSteps (stepsRow p rs i)) rfl (by rw [List.length_range]; omega) (lvC lvN) (fun i hi _ _ _ _ _ => g_name 2 <| fun _ _ _ _ _ => ts_nil <| And.intro rfl <| brT <| fun _ _ _ _ _ => w_callF (c_row_steps T) hr (by decide) <| a_cons <| w_var 0 rfl <| a_cons <| w_var 1 rfl <| a_cons <| w_var 2 rfl <| a_nil <| Exists.intro (p, rs, i) <| And.intro rfl <| And.intro ⟨by show rs.length ≤ 999; omega, List.mem_range.mp hi, hh⟩ <| ⟨rfl, rfl⟩) <| w_lst <| a_nil <| And.intro (by simp) <| ⟨(List.range rs.length).map fun i => (stepsRow p rs i).map dStep, ?_, rfl, ?_, ?_, ?_⟩
  · rw [fT, List.map_map]
    rfl
  · intro z
    have := congrArg List.length z
    rw [List.length_map, List.length_range] at this
    exact hne (List.eq_nil_of_length_eq_zero this)
  · have : ∀ l : List Nat, (l.map fun i => (stepsRow p rs i).map dStep).flatten.length = 4 * l.length := by
      intro l
      induction l with
      | nil => rfl
      | cons a l ih =>
        rw [List.map_cons, List.flatten_cons, List.length_append, ih, List.length_map]
        show 4 + 4 * l.length = 4 * (l.length + 1)
        omega
    rw [this, List.length_range]
    omega
  · show Dt.lst _ = dSteps (stepsOf p rs)
    unfold dSteps stepsOf
    rw [List.map_flatten, List.map_map]
    rfl
abbrev nRingSums : List Str := ["steps", "ring", "number"]
theorem c_ring_sums (T : Txt K mg) : Cal P w K mg base 1 "ring_sums" (spP (fun a : List StepT × List Nat => [dSteps a.1, .lst (a.2.map fun i => .int (i : Nat))]) (fun a => a.2.length ≤ 1000 ∧ ∀ i ∈ a.2, i < a.1.length) fun a d => d = (fun a : List StepT × List Nat => .tup [.int (ringSum a.1 (·.hours) a.2), .int (ringSum a.1 (·.over) a.2)]) a) [] := by
  refine T.d_ring_sums.pure (N := nRingSums) ⟨rfl, rfl, rfl, by decide +kernel, rfl, by decide +kernel, by decide +kernel⟩ (fun _ => rfl) ?_
  rintro f cdv A outer s H E hr Γ ⟨ss, ring⟩ hB ⟨hl, hi⟩
  have nd : nRingSums.Nodup := by decide +kernel
  dsimp only at hl hi ⊢
  have at' : ∀ i ∈ ring, ss[i]? = some (ss.getD i ⟨0, 0, 0, 0⟩) := fun i h => by rw [List.getD_eq_getElem?_getD, List.getElem?_eq_getElem (hi i h)]; rfl
  refine s_one <| s_ret <| w_tup <| a_cons <| w_callB (id := "sum") T.b_sum (by decide +kernel) <| a_cons <| w_lc (own := [("number", 2)]) <| i_lst <| w_var 1 rfl <| ex rfl <| lc_map ring (fun i => .int (i : Nat)) (fun _ => true) (fun i => .int (ss.getD i ⟨0, 0, 0, 0⟩).hours) rfl hl (lvC lvN) (fun x hx _ _ _ _ _ => g_name 2 <| fun _ _ _ _ _ => ts_nil <| And.intro rfl <| brT <| fun _ _ _ _ _ => w_ix <| w_ix <| w_var 0 rfl <| w_var 2 rfl <| xc_lst (atI_map (at' x hx)) <| w_int <| xc_tup rfl <| ⟨rfl, rfl⟩) <| ?_
  rw [fT, mapmap (f := fun i : Nat => (ss.getD i ⟨0, 0, 0, 0⟩).hours) (g := Dt.int)]
  refine a_nil <| cc_sum <| a_cons <| w_callB (id := "sum") T.b_sum (by decide +kernel) <| a_cons <| w_lc (own := [("number", 2)]) <| i_lst <| w_var 1 rfl <| ex rfl <| lc_map ring (fun i => .int (i : Nat)) (fun _ => true) (fun i => .int (ss.getD i ⟨0, 0, 0, 0⟩).over) rfl hl (lvC lvN) (fun x hx _ _ _ _ _ => g_name 2 <| fun _ _ _ _ _ => ts_nil <| And.intro rfl <| brT <| fun _ _ _ _ _ => w_ix <| w_ix <| w_var 0 rfl <| w_var 2 rfl <| xc_lst (atI_map (at' x hx)) <| w_int <| xc_tup rfl <| ⟨rfl, rfl⟩) <| ?_
  rw [fT, mapmap (f := fun i : Nat => (ss.getD i ⟨0, 0, 0, 0⟩).over) (g := Dt.int)]
  exact a_nil <| cc_sum <| a_nil <| And.intro (by simp) <| rfl
abbrev nRowsByPot : List Str := ["rows", "pot", "found", "number", "row"]
theorem c_rows_by_pot (T : Txt K mg) : Cal P w K mg base 1 "rows_by_pot" (spP (fun a : List RowT × Str => [dRows a.1, .str a.2]) (fun a => a.1.length ≤ 1000 ∧ ∃ r ∈ a.1, r.pot = a.2) fun a d => d = (fun a : List RowT × Str => .lst ((byPot a.1 a.2).map fun i => .int (i : Nat))) a) [] := by
  refine T.d_rows_by_pot.pure (N := nRowsByPot) ⟨rfl, rfl, rfl, by decide +kernel, rfl, by decide +kernel, by decide +kernel⟩ (fun _ => rfl) ?_
  rintro f cdv A outer s H E hr Γ ⟨rs, pot⟩ hB ⟨hl, r, hr1, hr2⟩
  have nd : nRowsByPot.Nodup := by decide +kernel
  dsimp only at hl hr1 hr2 ⊢
  refine s_cons <| s_setLc (own := [("number", 3), ("row", 4)]) 2 <| i_enum T.b_enumerate <| w_var 0 rfl <| ex rfl <| lc_map rs.zipIdx (fun x => .tup [.int (x.2 : Nat), dRow x.1]) (fun x => decide (x.1.pot = pot)) (fun x => .int (x.2 : Nat)) (enum_map dRow rs) (by rw [List.length_zipIdx]; exact hl) (lvC (lvC lvN)) (fun x hx _ _ _ _ _ => g_tup <| gs_cons <| g_name 3 <| gs_cons <| g_name 4 <| gs_nil <| fun _ _ _ _ _ => ts_one <| t_cmp <| w_ix <| w_var 4 rfl <| w_int <| xc_tup rfl <| w_var 1 rfl <| oc_eqS <| KT.mk <| And.intro rfl <| br (fun h => fun _ _ _ _ _ => w_var 3 rfl <| ⟨rfl, rfl⟩) (fun h => rfl)) <| And.intro ⟨_, rfl, rfl⟩ ?_
  have e : (rs.zipIdx.filter fun x => decide (x.1.pot = pot)).map (fun x => Dt.int (x.2 : Nat)) = ((byPot rs pot).map fun i : Nat => ((i : Nat) : Int)).map Dt.int := by
    unfold byPot
    rw [List.map_map, List.map_map]
    rfl
  rw [e]
  obtain ⟨i, hi⟩ := List.getElem?_of_mem hr1
  have hlt : i < rs.length := (List.getElem?_eq_some_iff.mp hi).1
  rw [rowAt_get hlt] at hi
  have hm : i ∈ byPot rs pot := mem_byPot.mpr ⟨hlt, by rw [Option.some.inj hi]; exact hr2⟩
  refine s_cons <| s_if <| t_cmp <| w_var 2 rfl <| w_lst <| a_nil <| And.intro (by simp) <| oc_eqD hr.units ?_ rfl (shaped_ints _) rfl <| KT.mk ?_
  · show plains _ = true
    rw [plains_all]
    intro d hd
    obtain ⟨n, _, rfl⟩ := List.mem_map.mp hd
    rfl
  cases hb : byPot rs pot with
  | nil => rw [hb] at hm; cases hm
  | cons j js =>
    refine brF <| s_nil ?_
    refine s_one <| s_ret <| w_var 2 rfl ?_
    show Dt.lst (List.map Dt.int (List.map (fun i : Nat => ((i : Nat) : Int)) (j :: js))) = Dt.lst _
    rw [List.map_map]
    rfl
end
end Pr

end Text_D9
section Text_D10
set_option maxHeartbeats 4000000
namespace Pr
open PySem PySem.Spec PyProof.Rows L2
open C8 (Cal Mak Met pe_c pe_mk pe_mt pe_mt0)
local macro_rules | `(tactic| walk_at "nrm") => `(tactic| (simp only [args, setAll, List.set_cons_zero, List.set_cons_succ, List.map_cons, List.map_nil, List.length_cons, List.length_nil, List.replicate_succ, List.replicate_zero, List.cons_append, List.nil_append, Nat.reduceAdd, Nat.reduceSub]; try rfl))
section
variable {P : Program} {w : World} {K : PySem.W.Frag} {mg : Str → Option Value} {base : Heap}
/-! ## timetables -/
structure TxT (K : PySem.W.Frag) (mg : Str → Option Value) (C : Addr) : Prop where
  cls : Cls K C
  n_rows : NoAttr K C "row_times"
  n_len : NoAttr K C "length"
  at_ : mg "Timetable" = some (.ref C)
  init : ∃ (f : Addr) (fd : FuncData), Mk K C f ∧ (Fun K "__init__" "Timetable.__init__" (inClass (topS 45) 0) f fd ∨ ∃ dvs, FunD K "__init__" "Timetable.__init__" (defArgs (inClass (topS 45) 0)) (defBody (inClass (topS 45) 0)) (defScope (inClass (topS 45) 0)) dvs [] f fd) ∧ Binds K fd ["self", "times", "length"] []
  pair : ∃ (f : Addr) (fd : FuncData), Meth K C "pair" f ∧ FunD K "pair" "Timetable.pair" (defArgs (inClass (topS 45) 1)) (defBody (inClass (topS 45) 1)) (defScope (inClass (topS 45) 1)) [.int 0] [] f fd
variable {C : Addr}
abbrev nTInit : List Str := ["self", "times", "length", "fill", "work"]
theorem c_table (T : TxT K mg C) : Mak P w K mg base 1 "Timetable" C (spI C (fun a : TT => [dTimes a.times, .int a.len]) (fun a => a.times.length ≤ 1000) fun a fls => fls = ([("row_times", .v (dTimes a.times)), ("length", .v (.int a.len))] : List (Str × Fl))) [] := by
  obtain ⟨f, fd, M, F, b⟩ := T.init
  refine ⟨f, fd, _, [], M, (init_rule (N := nTInit) F ⟨rfl, rfl, rfl, by decide +kernel, rfl, by decide +kernel, by decide +kernel⟩ (fun _ => rfl) ?_ : FnOk P w K mg base CX0 (0 + 1) f fd ["self", "times", "length"] _), T.at_, b, .nil⟩
  rintro f cdv A outer s H E hr Γ p ⟨ts, l⟩ hB hp
  have nd : nTInit.Nodup := by decide +kernel
  dsimp only at hp ⊢
  refine s_cons <| s_attV 0 T.cls T.n_rows <| w_lc (own := [("fill", 3), ("work", 4)]) <| i_lst <| w_var 1 rfl <| ex rfl <| lc_map ts dPair (fun _ => true) dPair rfl hp (lvC (lvC lvN)) (fun x hx _ _ _ _ _ => g_tup <| gs_cons <| g_name 3 <| gs_cons <| g_name 4 <| gs_nil <| fun _ _ _ _ _ => ts_nil <| And.intro rfl <| brT <| fun _ _ _ _ _ => w_tup <| a_cons <| w_var 3 rfl <| a_cons <| w_var 4 rfl <| a_nil <| And.intro (by simp) <| ⟨rfl, rfl⟩) <| ⟨p, [], rfl, rfl, by decide, SK.norm (by walk_at "nrm") ?_⟩
  rw [fT]
  refine s_one <| s_attV 0 T.cls T.n_len <| w_var 2 rfl <| ⟨p, _, rfl, rfl, by show 1 < 999; decide, _, rfl, ?_⟩
  rfl
theorem pair_binds (T : TxT K mg C) : ∃ (f : Addr) (fd : FuncData), Meth K C "pair" f ∧ FunD K "pair" "Timetable.pair" (defArgs (inClass (topS 45) 1)) (defBody (inClass (topS 45) 1)) (defScope (inClass (topS 45) 1)) [.int 0] [] f fd ∧ (∃ ds, Vals [.int 0] ds ∧ Binds K fd ["self", "number", "often"] ds) ∧ KBn K fd ["self", "number", "often"] 2 ["often"] (fun us ws => us ++ ws) (fun us ws => us ++ ws) := by
  obtain ⟨f, fd, me, F⟩ := T.pair
  refine ⟨f, fd, me, F, ?_, ?_⟩
  · exact F.binds1 2 0 (by decide) rfl fun T kV doc pm an cdv ct us its h1 h2 => match us, its, h1, h2 with | [_, _], [_], _, _ => ⟨_, rfl, rfl⟩
  · obtain ⟨its, h⟩ := F.kbindsD (ps := ["self", "number", "often"]) 2 ["often"] (fun us _ ws => us ++ ws) (by decide) (fun r1 _ r3 => r1.append r3) fun T kV doc pm an cdv ct us its ws h1 h2 h3 => match us, its, ws, h1, h2, h3 with | [_, _], [_], [_], _, _, _ => ⟨_, rfl, rfl⟩
    exact h
abbrev nPair : List Str := ["self", "number", "often", "fill", "work"]
def tsAt (ts : List (Int × Int)) (n : Nat) : Int × Int := ts.getD n (0, 0)
theorem tsAt_get {ts : List (Int × Int)} {n : Nat} (h : n < ts.length) : ts[n]? = some (tsAt ts n) := by
  unfold tsAt
  rw [List.getD_eq_getElem?_getD, List.getElem?_eq_getElem h]
  rfl
def pairOf (t : TT) (n : Nat) (o : Int) : Int × Int := ((tsAt t.times n).1 + o * t.len, (tsAt t.times n).2 + o * t.len)
theorem f_pair (T : TxT K mg C) {f : Addr} {fd : FuncData} (F : FunD K "pair" "Timetable.pair" (defArgs (inClass (topS 45) 1)) (defBody (inClass (topS 45) 1)) (defScope (inClass (topS 45) 1)) [.int 0] [] f fd) : FnOk P w K mg base CX0 1 f fd ["self", "number", "often"] (spP (fun a : TT × Nat × Int => [dTT C a.1, .int a.2.1, .int a.2.2]) (fun a => a.2.1 < a.1.times.length ∧ 0 ≤ a.2.2 ∧ a.2.2 ≤ 1000000000) fun a d => d = .tup [.int (pairOf a.1 a.2.1 a.2.2).1, .int (pairOf a.1 a.2.1 a.2.2).2]) := by
  refine pure_rule (k := 0) (N := nPair) (.inr ⟨_, F⟩) ⟨rfl, rfl, rfl, by decide +kernel, rfl, by decide +kernel, by decide +kernel⟩ (fun _ => rfl) ?_
  rintro f cdv A outer s H E hr Γ ⟨⟨ts, l⟩, n, o⟩ hB ⟨hp, ho1, ho2⟩
  have nd : nPair.Nodup := by decide +kernel
  dsimp only at hp ho1 ho2 ⊢
  refine s_cons <| s_asg <| w_ix <| w_att <| w_var 0 rfl <| ⟨C, _, _, _, rfl, T.cls, T.n_rows, rfl, w_var 1 rfl <| xc_lst (atI_map (tsAt_get hp)) <| g_tup <| gs_cons <| g_name 3 <| gs_cons <| g_name 4 <| gs_nil <| SK.norm (by walk_at "nrm") ?_⟩
  exact s_one <| s_ret <| w_tup <| a_cons <| w_bin <| w_var 3 rfl <| w_bin <| w_var 2 rfl <| w_att <| w_var 0 rfl <| ⟨C, _, _, _, rfl, T.cls, T.n_len, rfl, oc_mul (.inl ⟨by omega, by omega⟩) <| oc_add <| a_cons <| w_bin <| w_var 4 rfl <| w_bin <| w_var 2 rfl <| w_att <| w_var 0 rfl <| ⟨C, _, _, _, rfl, T.cls, T.n_len, rfl, oc_mul (.inl ⟨by omega, by omega⟩) <| oc_add <| a_nil <| And.intro (by simp) <| rfl⟩⟩
theorem c_pair (T : TxT K mg C) : Met P w K mg base 1 C "pair" (spP (fun a : TT × Nat × Int => [dTT C a.1, .int a.2.1, .int a.2.2]) (fun a => a.2.1 < a.1.times.length ∧ 0 ≤ a.2.2 ∧ a.2.2 ≤ 1000000000) fun a d => d = .tup [.int (pairOf a.1 a.2.1 a.2.2).1, .int (pairOf a.1 a.2.1 a.2.2).2]) [.int 0] := by
  obtain ⟨f, fd, me, F, ⟨ds, hv, hb⟩, _⟩ := pair_binds T
  exact ⟨f, fd, _, ds, T.cls, me, f_pair T F, hb, hv⟩
theorem c_pairK (T : TxT K mg C) : MetK P w K mg base 1 C "pair" (spP (fun a : TT × Nat × Int => [dTT C a.1, .int a.2.1, .int a.2.2]) (fun a => a.2.1 < a.1.times.length ∧ 0 ≤ a.2.2 ∧ a.2.2 ≤ 1000000000) fun a d => d = .tup [.int (pairOf a.1 a.2.1 a.2.2).1, .int (pairOf a.1 a.2.1 a.2.2).2]) 2 ["often"] := by
  obtain ⟨f, fd, me, F, _, hk⟩ := pair_binds T
  exact ⟨f, fd, _, T.cls, me, f_pair T F, hk⟩
end
end Pr

end Text_D10
section Text_D16
set_option maxHeartbeats 4000000
namespace Pr
open PySem PySem.Spec PyProof.Rows L2
open C8 (Cal Mak Met pe_c pe_mk pe_mt pe_mt0)
local macro_rules | `(tactic| walk_at "nrm") => `(tactic| (simp only [args, setAll, List.set_cons_zero, List.set_cons_succ, List.map_cons, List.map_nil, List.length_cons, List.length_nil, List.replicate_succ, List.replicate_zero, List.cons_append, List.nil_append, Nat.reduceAdd, Nat.reduceSub]; try rfl))
section
variable {P : Program} {w : World} {K : PySem.W.Frag} {mg : Str → Option Value} {base : Heap}
variable {C CT : Addr}
/-! ## the round's turns -/
def turnIn (rs : List RowT) (t : TT) (n : Nat) (o : Int) : Turn := ⟨(pairOf t n o).1, (rowAt rs n).col, (pairOf t n o).2, (pairOf t n o).2 + (rowAt rs n).hours⟩
abbrev nTurnIn : List Str := ["rows", "timetable", "number", "often", "fill", "work"]
theorem c_turn_in (T : Txt K mg) (T1 : TxT K mg CT) : Cal P w K mg base 2 "turn_in" (spP (fun a : List RowT × TT × Nat × Int => [dRows a.1, dTT CT a.2.1, .int (a.2.2.1 : Nat), .int a.2.2.2]) (fun a => a.2.2.1 < a.1.length ∧ a.2.2.1 < a.2.1.times.length ∧ 0 ≤ a.2.2.2 ∧ a.2.2.2 ≤ 1000000000) fun a d => d = (fun a : List RowT × TT × Nat × Int => dTurn (turnIn a.1 a.2.1 a.2.2.1 a.2.2.2)) a) [] := by
  refine T.d_turn_in.pure (N := nTurnIn) ⟨rfl, rfl, rfl, by decide +kernel, rfl, by decide +kernel, by decide +kernel⟩ (fun _ => rfl) ?_
  rintro f cdv A outer s H E hr Γ ⟨rs, t, n, o⟩ hB ⟨h1, h2, h3, h4⟩
  have nd : nTurnIn.Nodup := by decide +kernel
  dsimp only at h1 h2 h3 h4 ⊢
  refine s_cons <| s_asg <| w_mtK (c_pairK T1) hr (by decide) <| w_var 1 rfl <| ⟨nTT, _, rfl, by decide, a_cons <| w_var 2 rfl <| a_nil <| ⟨rfl, w_var 3 rfl <| ⟨(t, n, o), rfl, ⟨h2, h3, h4⟩, ?_⟩⟩⟩
  rintro d rfl
  refine g_tup <| gs_cons <| g_name 4 <| gs_cons <| g_name 5 <| gs_nil <| SK.norm (by walk_at "nrm") ?_
  exact s_one <| s_ret <| w_tup <| a_cons <| w_var 4 rfl <| a_cons <| w_ix <| w_ix <| w_var 0 rfl <| w_var 2 rfl <| xc_lst (atI_map (rowAt_get h1)) <| w_int <| xc_tup rfl <| a_cons <| w_var 5 rfl <| a_cons <| w_bin <| w_var 5 rfl <| w_ix <| w_ix <| w_var 0 rfl <| w_var 2 rfl <| xc_lst (atI_map (rowAt_get h1)) <| w_int <| xc_tup rfl <| oc_add <| a_nil <| And.intro (by simp) <| rfl
def fillAt (t : TT) (n : Nat) : Int := (tsAt t.times n).1
def oftAt (t : TT) (hour : Int) (n : Nat) : Int := (hour - fillAt t n) / t.len
def lastF (t : TT) (hour : Int) (nums : List Nat) : List Tr := (nums.filter fun n => decide (fillAt t n ≤ hour)).map fun n => (fillAt t n + oftAt t hour n * t.len, ((n : Nat) : Int), oftAt t hour n)
def LastR (t : TT) (nums : List Nat) (hour : Int) (d : Dt) : Prop :=
  (d = .non ∧ ∀ n ∈ nums, hour < fillAt t n) ∨ ∃ n, n ∈ nums ∧ fillAt t n ≤ hour ∧ d = .tup [.int (fillAt t n + oftAt t hour n * t.len), .int (n : Nat), .int (oftAt t hour n)] ∧ ∀ m ∈ nums, fillAt t m ≤ hour → fillAt t m + oftAt t hour m * t.len ≤ fillAt t n + oftAt t hour n * t.len
structure LastP (t : TT) (nums : List Nat) (hour : Int) : Prop where
  few : nums.length ≤ 900
  inn : ∀ n ∈ nums, n < t.times.length
  l1 : 1 ≤ t.len
  l2 : t.len ≤ 2000
  h2 : hour ≤ 100000000
  f1 : ∀ n ∈ nums, 0 ≤ fillAt t n
abbrev nLastR : List Str := ["timetable", "numbers", "hour", "found", "number", "fill", "often"]
theorem c_last_filled_rounding (T : Txt K mg) (T1 : TxT K mg CT) : Cal P w K mg base 2 "last_filled_rounding" (spP (fun a : TT × List Nat × Int => [dTT CT a.1, .lst (a.2.1.map fun n => .int (n : Nat)), .int a.2.2]) (fun a => LastP a.1 a.2.1 a.2.2) fun a d => LastR a.1 a.2.1 a.2.2 d) [] := by
  refine T.d_last_filled_rounding.pure (N := nLastR) ⟨rfl, rfl, rfl, by decide +kernel, rfl, by decide +kernel, by decide +kernel⟩ (fun _ => rfl) ?_
  rintro f cdv A outer s H E hr Γ ⟨t, nums, hour⟩ hB hp
  have nd : nLastR.Nodup := by decide +kernel
  dsimp only at hp ⊢
  have few := hp.few
  refine s_cons <| s_new 3 fun p => SK.norm (by walk_at "nrm") ?_
  refine s_cons <| s_for <| i_lst <| w_var 1 rfl <| ex rfl <| ⟨fun i δ => ∃ e4 e5 e6, e4.adr = [] ∧ e5.adr = [] ∧ e6.adr = [] ∧ δ = [.v (dTT CT t), .v (.lst (nums.map fun n => .int (n : Nat))), .v (.int hour), .own p ((lastF t hour (nums.take i)).map dTr), e4, e5, e6], ⟨_, _, _, rfl, rfl, rfl, rfl⟩, fun Γ i d δ hd hI => ?_, fun δ hI => ?_⟩
  · obtain ⟨e4, e5, e6, a4, a5, a6, rfl⟩ := hI
    rw [List.getElem?_map] at hd
    cases hn : nums[i]? with
    | none => rw [hn] at hd; cases hd
    | some n =>
      rw [hn] at hd
      cases hd
      have hm : n ∈ nums := List.mem_of_getElem? hn
      have hlt := hp.inn n hm
      have htk : nums.take (i + 1) = nums.take i ++ [n] := by
        rw [List.take_add_one, hn]
        rfl
      have hil : (lastF t hour (nums.take i)).length < 1000 := by
        unfold lastF
        rw [List.length_map]
        have h1 := List.length_filter_le (fun n => decide (fillAt t n ≤ hour)) (nums.take i)
        have h2 : (nums.take i).length ≤ nums.length := by rw [List.length_take]; omega
        omega
      have ef : (pairOf t n 0).1 = fillAt t n := by
        unfold pairOf fillAt
        simp
      have f1 := hp.f1 n hm
      have l1 := hp.l1
      have l2 := hp.l2
      have h2 := hp.h2
      refine g_name (e := e4) (he := a4) 4 <| SK.norm (by walk_at "nrm") ?_
      refine s_cons <| s_set 5 <| w_ix <| w_mt (c_pair T1) (dds := [.int 0]) (fun _ _ => Reps.cons (rep_int.mpr rfl) Reps.nil) hr (by decide) <| w_var 0 rfl <| ⟨nTT, _, rfl, by decide, a_cons <| w_var 4 rfl <| a_nil <| ⟨(t, n, 0), rfl, ⟨hlt, Int.le_refl 0, by show (0 : Int) ≤ 1000000000; decide⟩, ?_⟩⟩
      rintro d rfl
      refine w_int <| xc_tup (d := .int (fillAt t n)) (by rw [← ef]; rfl) <| And.intro ⟨_, rfl, a5⟩ (SK.norm (by walk_at "nrm") ?_)
      refine s_one <| s_if <| t_cmp <| w_var 5 rfl <| w_var 2 rfl <| oc_le <| KT.mk <| br (fun h => ?_) (fun h => s_nil ?_)
      · have ho1 : 0 ≤ oftAt t hour n := Int.ediv_nonneg (by have := of_decide_eq_true h; omega) (by omega)
        have ho2 : oftAt t hour n ≤ 100000000 := by
          have : oftAt t hour n ≤ hour - fillAt t n := Int.ediv_le_self _ (by have := of_decide_eq_true h; omega)
          omega
        have eo : (hour - fillAt t n).fdiv t.len = oftAt t hour n := Int.fdiv_eq_ediv_of_nonneg _ (by omega)
        refine s_cons <| s_set 6 <| w_bin <| w_bin <| w_var 2 rfl <| w_var 5 rfl <| oc_sub <| w_att <| w_var 0 rfl <| ⟨CT, _, _, _, rfl, T1.cls, T1.n_len, rfl, oc_fdiv ⟨by omega, by omega⟩ <| And.intro ⟨_, rfl, a6⟩ (SK.norm (by walk_at "nrm") ?_)⟩
        refine SK.norm (by show _ = [Sl.v (dTT CT t), .v (.lst (nums.map fun n => .int (n : Nat))), .v (.int hour), .own p ((lastF t hour (nums.take i)).map dTr), .v (.int (n : Nat)), .v (.int (fillAt t n)), .v (.int (oftAt t hour n))]; rw [← eo]) ?_
        refine s_one <| s_app 3 <| w_tup <| a_cons <| w_bin <| w_var 5 rfl <| w_bin <| w_var 6 rfl <| w_att <| w_var 0 rfl <| ⟨CT, _, _, _, rfl, T1.cls, T1.n_len, rfl, oc_mul (.inl ⟨by omega, by omega⟩) <| oc_add <| a_cons <| w_var 4 rfl <| a_cons <| w_var 6 rfl <| a_nil <| And.intro (by simp) <| ⟨p, _, rfl, by rw [List.length_map]; exact hil, .v (.int (n : Nat)), .v (.int (fillAt t n)), .v (.int (oftAt t hour n)), rfl, rfl, rfl, ?_⟩⟩
        · rw [htk]
          have : lastF t hour (nums.take i ++ [n]) = lastF t hour (nums.take i) ++ [(fillAt t n + oftAt t hour n * t.len, ((n : Nat) : Int), oftAt t hour n)] := by
            unfold lastF
            rw [List.filter_append, List.map_append]
            congr 1
            rw [List.filter_cons, if_pos h]
            rfl
          rw [this, List.map_append]
          rfl
      · refine ⟨.v (.int (n : Nat)), .v (.int (fillAt t n)), e6, rfl, rfl, a6, ?_⟩
        rw [htk]
        have : lastF t hour (nums.take i ++ [n]) = lastF t hour (nums.take i) := by
          unfold lastF
          rw [List.filter_append, List.filter_cons, if_neg (by rw [h]; decide)]
          simp
        rw [this]
  · obtain ⟨e4, e5, e6, a4, a5, a6, rfl⟩ := hI
    rw [List.length_map, List.take_length]
    refine s_freeze 3 rfl (by rw [hB]; intro q h; cases h) <| SK.norm (by walk_at "nrm") ?_
    refine s_one <| s_ret <| w_maxDef T.b_max hr.units <| w_var 3 rfl <| w_non <| maxD3 (fun e => .inl ⟨rfl, fun n hn => ?_⟩) fun m hm hge => .inr ?_
    · refine Int.lt_of_not_ge fun hle => ?_
      have : (fillAt t n + oftAt t hour n * t.len, ((n : Nat) : Int), oftAt t hour n) ∈ lastF t hour nums := List.mem_map.mpr ⟨n, List.mem_filter.mpr ⟨hn, decide_eq_true hle⟩, rfl⟩
      rw [e] at this
      cases this
    · unfold lastF at hm
      obtain ⟨n, hn, rfl⟩ := List.mem_map.mp hm
      obtain ⟨h1, h2⟩ := List.mem_filter.mp hn
      refine ⟨n, h1, of_decide_eq_true h2, rfl, fun k hk hle => ?_⟩
      exact hge _ (List.mem_map.mpr ⟨k, List.mem_filter.mpr ⟨hk, decide_eq_true hle⟩, rfl⟩)
end
end Pr

end Text_D16
section Text_D17
set_option maxHeartbeats 4000000
namespace Pr
open PySem PySem.Spec PyProof.Rows L2
open C8 (Cal Mak Met pe_c pe_mk pe_mt pe_mt0)
local macro_rules | `(tactic| walk_at "nrm") => `(tactic| (simp only [args, setAll, List.set_cons_zero, List.set_cons_succ, List.map_cons, List.map_nil, List.length_cons, List.length_nil, List.replicate_succ, List.replicate_zero, List.cons_append, List.nil_append, Nat.reduceAdd, Nat.reduceSub]; try rfl))
section
variable {P : Program} {w : World} {K : PySem.W.Frag} {mg : Str → Option Value} {base : Heap}
variable {C CT : Addr}
structure TOk (p : Pal) (rs : List RowT) (t : TT) : Prop where
  b : RBd p rs
  len : t.times.length = rs.length
  l1 : 1 ≤ t.len
  l2 : t.len ≤ 2000
  f : ∀ n, 0 ≤ fillAt t n ∧ fillAt t n ≤ 60000
def turnsOf (rs : List RowT) (t : TT) (pot : Str) (often : Nat) : List Turn := ((List.range often).map fun o => (byPot rs pot).map fun n => turnIn rs t n (o : Nat)).flatten
theorem byPot_len {rs : List RowT} {pot : Str} : (byPot rs pot).length ≤ rs.length := by
  unfold byPot
  rw [List.length_map]
  have := List.length_filter_le (fun x => decide (x.1.pot = pot)) rs.zipIdx
  rw [List.length_zipIdx] at this
  exact this
theorem flat_len {α β : Type} {f : α → List β} {k : Nat} : ∀ l : List α, (∀ x ∈ l, (f x).length ≤ k) → ((l.map f).flatten).length ≤ k * l.length
  | [], _ => Nat.zero_le _
  | a :: l, h => by
    have ih := flat_len l fun x hx => h x (List.mem_cons_of_mem _ hx)
    have := h a (List.mem_cons_self ..)
    rw [List.map_cons, List.flatten_cons, List.length_append, List.length_cons, Nat.mul_succ]
    omega
abbrev nTurnsOf : List Str := ["palette", "rows", "timetable", "pot", "often", "found", "numbers", "turn", "number"]
theorem c_turns_of (T : Txt K mg) (T1 : TxT K mg CT) : Cal P w K mg base 3 "turns_of" (spP (fun a : Pal × List RowT × TT × Str × Nat => [dPal a.1, dRows a.2.1, dTT CT a.2.2.1, .str a.2.2.2.1, .int (a.2.2.2.2 : Nat)]) (fun a => TOk a.1 a.2.1 a.2.2.1 ∧ (∃ r ∈ a.2.1, r.pot = a.2.2.2.1) ∧ a.2.2.2.2 ≤ 50) fun a d => d = (fun a : Pal × List RowT × TT × Str × Nat => dTurns (turnsOf a.2.1 a.2.2.1 a.2.2.2.1 a.2.2.2.2)) a) [] := by
  refine T.d_turns_of.pure (N := nTurnsOf) ⟨rfl, rfl, rfl, by decide +kernel, rfl, by decide +kernel, by decide +kernel⟩ (fun _ => rfl) ?_
  rintro f cdv A outer s H E hr Γ ⟨p, rs, t, pot, often⟩ hB ⟨ok, hpot, ho⟩
  have nd : nTurnsOf.Nodup := by decide +kernel
  dsimp only at ok hpot ho ⊢
  have rlen := ok.b.len
  have blen := byPot_len (rs := rs) (pot := pot)
  refine s_cons <| s_new 5 fun q => SK.norm (by walk_at "nrm") ?_
  refine s_cons <| s_set 6 <| w_callF (c_rows_by_pot T) hr (by decide) <| a_cons <| w_var 1 rfl <| a_cons <| w_var 3 rfl <| a_nil <| Exists.intro (rs, pot) <| And.intro rfl <| And.intro ⟨by show rs.length ≤ 1000; omega, hpot⟩ <| And.intro ⟨_, rfl, rfl⟩ (SK.norm (by walk_at "nrm") ?_)
  refine s_cons <| s_for <| i_rng1 T.b_range <| w_var 4 rfl <| ⟨often, rfl, by omega, ⟨fun i δ => ∃ e7 e8, i ≤ often ∧ e7.adr = [] ∧ e8.adr = [] ∧ δ = [.v (dPal p), .v (dRows rs), .v (dTT CT t), .v (.str pot), .v (.int (often : Nat)), .own q ((turnsOf rs t pot i).map dTurn), .v (.lst ((byPot rs pot).map fun i => .int (i : Nat))), e7, e8], ⟨_, _, Nat.zero_le _, rfl, rfl, rfl⟩, fun Γ i d δ hd hI => ?_, fun δ hI => ?_⟩⟩
  · obtain ⟨e7, e8, hi, a7, a8, rfl⟩ := hI
    have hlt : i < often := by
      have := (List.getElem?_eq_some_iff.mp hd).1
      simpa using this
    have ed : d = .int (i : Nat) := by
      rw [List.getElem?_map, List.getElem?_range hlt] at hd
      exact (Option.some.inj hd).symm
    subst ed
    have e1 : turnsOf rs t pot (i + 1) = turnsOf rs t pot i ++ (byPot rs pot).map fun n => turnIn rs t n (i : Nat) := by
      unfold turnsOf
      rw [List.range_succ, List.map_append, List.flatten_append]
      simp
    have hl : (turnsOf rs t pot i).length ≤ 12 * i := by
      unfold turnsOf
      have := flat_len (f := fun o : Nat => (byPot rs pot).map fun n => turnIn rs t n (o : Nat)) (k := 12) (List.range i) fun x _ => by rw [List.length_map]; omega
      rw [List.length_range] at this
      exact this
    refine g_name (e := e7) (he := a7) 7 <| SK.norm (by walk_at "nrm") ?_
    refine s_one <| s_ext 5 <| w_lc (own := [("number", 8)]) <| i_lst <| w_var 6 rfl <| ex rfl <| lc_map (byPot rs pot) (fun n => .int (n : Nat)) (fun _ => true) (fun n => dTurn (turnIn rs t n (i : Nat))) rfl (by omega) (lvC lvN rfl a8) (fun n hn _ _ _ _ _ => g_name 8 <| fun _ _ _ _ _ => ts_nil <| And.intro rfl <| brT <| fun _ _ _ _ _ => w_callF (c_turn_in T T1) hr (by decide) <| a_cons <| w_var 1 rfl <| a_cons <| w_var 2 rfl <| a_cons <| w_var 8 rfl <| a_cons <| w_var 7 rfl <| a_nil <| Exists.intro (rs, t, n, ((i : Nat) : Int)) <| And.intro rfl <| And.intro ⟨(mem_byPot.mp hn).1, by show n < t.times.length; rw [ok.len]; exact (mem_byPot.mp hn).1, by show (0 : Int) ≤ (i : Int); omega, by show ((i : Nat) : Int) ≤ 1000000000; omega⟩ <| ⟨rfl, rfl⟩) <| ⟨q, _, _, rfl, rfl, ?_, .v (.int (i : Nat)), e8, hlt, rfl, a8, ?_⟩
    · rw [List.length_map, fT, List.length_map]
      omega
    · rw [e1, fT, List.map_append, List.map_map]
      rfl
  · obtain ⟨e7, e8, hi, a7, a8, rfl⟩ := hI
    rw [List.length_map, List.length_range]
    refine s_freeze 5 rfl (by rw [hB]; intro q h; cases h) <| SK.norm (by walk_at "nrm") ?_
    exact s_one <| s_ret <| w_var 5 rfl <| rfl
def RStateR (p : Pal) (rs : List RowT) (t : TT) (pot : Str) (hour : Int) (d : Dt) : Prop :=
  (d = .tup [.str "out", .non, .non] ∧ ∀ n ∈ byPot rs pot, hour < fillAt t n) ∨ ∃ n, n ∈ byPot rs pot ∧ fillAt t n ≤ hour ∧ d = .tup [.str (wordBy p (turnIn rs t n (oftAt t hour n)) (washBehindR p rs n) hour), .int (n : Nat), .int (oftAt t hour n)] ∧ ∀ m ∈ byPot rs pot, fillAt t m ≤ hour → fillAt t m + oftAt t hour m * t.len ≤ fillAt t n + oftAt t hour n * t.len
abbrev nRState : List Str := ["palette", "rows", "timetable", "pot", "hour", "last", "at", "number", "often", "wash"]
theorem c_round_state (T : Txt K mg) (T1 : TxT K mg CT) : Cal P w K mg base 5 "round_state" (spP (fun a : Pal × List RowT × TT × Str × Int => [dPal a.1, dRows a.2.1, dTT CT a.2.2.1, .str a.2.2.2.1, .int a.2.2.2.2]) (fun a => TOk a.1 a.2.1 a.2.2.1 ∧ (∃ r ∈ a.2.1, r.pot = a.2.2.2.1) ∧ a.2.2.2.2 ≤ 100000000) fun a d => RStateR a.1 a.2.1 a.2.2.1 a.2.2.2.1 a.2.2.2.2 d) [] := by
  refine T.d_round_state.pure (N := nRState) ⟨rfl, rfl, rfl, by decide +kernel, rfl, by decide +kernel, by decide +kernel⟩ (fun _ => rfl) ?_
  rintro f cdv A outer s H E hr Γ ⟨p, rs, t, pot, hour⟩ hB ⟨ok, hpot, hh⟩
  have nd : nRState.Nodup := by decide +kernel
  dsimp only at ok hpot hh ⊢
  have rlen := ok.b.len
  have blen := byPot_len (rs := rs) (pot := pot)
  have lp : LastP t (byPot rs pot) hour := ⟨by omega, fun n hn => by rw [ok.len]; exact (mem_byPot.mp hn).1, ok.l1, ok.l2, hh, fun n _ => (ok.f n).1⟩
  refine s_cons <| s_set 5 <| w_call (c_last_filled_rounding T T1) hr (by decide) <| a_cons <| w_var 2 rfl <| a_cons <| w_callF (c_rows_by_pot T) hr (by decide) <| a_cons <| w_var 1 rfl <| a_cons <| w_var 3 rfl <| a_nil <| Exists.intro (rs, pot) <| And.intro rfl <| And.intro ⟨by show rs.length ≤ 1000; omega, hpot⟩ <| a_cons <| w_var 4 rfl <| a_nil <| Exists.intro (t, byPot rs pot, hour) <| And.intro rfl <| And.intro lp ?_
  rintro d (⟨rfl, hout⟩ | ⟨n, hn, hle, rfl, hmax⟩)
  · refine And.intro ⟨_, rfl, rfl⟩ (SK.norm (by walk_at "nrm") ?_)
    refine s_cons <| s_if <| t_cmp <| w_var 5 rfl <| w_non <| oc_isN <| KT.mk <| brT <| s_one <| s_ret <| w_tup <| a_cons <| w_str <| a_cons <| w_non <| a_cons <| w_non <| a_nil <| And.intro (by simp) <| .inl ⟨rfl, hout⟩
  · have hn : n ∈ byPot rs pot := hn
    have hle : fillAt t n ≤ hour := hle
    have hlt := (mem_byPot.mp hn).1
    have f1 := (ok.f n).1
    have l1 := ok.l1
    have ho1 : 0 ≤ oftAt t hour n := Int.ediv_nonneg (by omega) (by omega)
    have ho2 : oftAt t hour n ≤ 100000000 := by
      have : oftAt t hour n ≤ hour - fillAt t n := Int.ediv_le_self _ (by omega)
      omega
    have hc : p.has (rowAt rs n).col := ok.b.has _ (rowAt_mem hlt)
    refine And.intro ⟨_, rfl, rfl⟩ (SK.norm (by walk_at "nrm") ?_)
    refine s_cons <| s_if <| t_cmp <| w_var 5 rfl <| w_non <| oc_isN <| KT.mk <| brF <| s_nil ?_
    refine s_cons <| s_asg <| w_var 5 rfl <| g_tup <| gs_cons <| g_name 6 <| gs_cons <| g_name 7 <| gs_cons <| g_name 8 <| gs_nil <| SK.norm (by walk_at "nrm") ?_
    refine s_cons <| s_set 9 <| w_callF (c_wash_behind_rounds T) hr (by decide) <| a_cons <| w_var 0 rfl <| a_cons <| w_var 1 rfl <| a_cons <| w_var 7 rfl <| a_nil <| Exists.intro (p, rs, n) <| And.intro rfl <| And.intro ⟨by show rs.length ≤ 999; omega, hlt, ok.b.has⟩ <| And.intro ⟨_, rfl, rfl⟩ (SK.norm (by walk_at "nrm") ?_)
    exact s_one <| s_ret <| w_tup <| a_cons <| w_callF (c_word_by T) hr (by decide) <| a_cons <| w_var 0 rfl <| a_cons <| w_callF (c_turn_in T T1) hr (by decide) <| a_cons <| w_var 1 rfl <| a_cons <| w_var 2 rfl <| a_cons <| w_var 7 rfl <| a_cons <| w_var 8 rfl <| a_nil <| Exists.intro (rs, t, n, oftAt t hour n) <| And.intro rfl <| And.intro ⟨hlt, by show n < t.times.length; rw [ok.len]; exact hlt, ho1, by show oftAt t hour n ≤ 1000000000; omega⟩ <| a_cons <| w_var 9 rfl <| a_cons <| w_var 4 rfl <| a_nil <| Exists.intro (p, turnIn rs t n (oftAt t hour n), washBehindR p rs n, hour) <| And.intro rfl <| And.intro hc <| a_cons <| w_var 7 rfl <| a_cons <| w_var 8 rfl <| a_nil <| And.intro (by simp) <| .inr ⟨n, hn, hle, rfl, hmax⟩
end
end Pr

end Text_D17
section Text_D18
set_option maxHeartbeats 4000000
namespace Pr
open PySem PySem.Spec PyProof.Rows L2
open C8 (Cal Mak Met pe_c pe_mk pe_mt pe_mt0)
local macro_rules | `(tactic| walk_at "nrm") => `(tactic| (simp only [args, setAll, List.set_cons_zero, List.set_cons_succ, List.map_cons, List.map_nil, List.length_cons, List.length_nil, List.replicate_succ, List.replicate_zero, List.cons_append, List.nil_append, Nat.reduceAdd, Nat.reduceSub]; try rfl))
section
variable {P : Program} {w : World} {K : PySem.W.Frag} {mg : Str → Option Value} {base : Heap}
theorem flat_get {α : Type} {k : Nat} (hk : 0 < k) {f : Nat → List α} (hf : ∀ o, (f o).length = k) : ∀ (m j : Nat), j < m * k → (((List.range m).map f).flatten)[j]? = (f (j / k))[j % k]?
  | 0, j, h => by simp at h
  | m + 1, j, h => by
    have hl : (((List.range m).map f).flatten).length = m * k := by
      have : ∀ l : List Nat, ((l.map f).flatten).length = l.length * k := fun l => by
        induction l with
        | nil => simp
        | cons a l ih => rw [List.map_cons, List.flatten_cons, List.length_append, ih, hf, List.length_cons, Nat.succ_mul]; omega
      rw [this, List.length_range]
    rw [List.range_succ, List.map_append, List.flatten_append]
    by_cases hj : j < m * k
    · rw [List.getElem?_append_left (by rw [hl]; exact hj)]
      exact flat_get hk hf m j hj
    · rw [List.getElem?_append_right (by rw [hl]; omega), hl]
      rw [Nat.succ_mul] at h
      have e1 : j / k = m := by
        refine Nat.div_eq_of_lt_le (by omega) ?_
        rw [Nat.succ_mul]
        exact h
      have e2 : j % k = j - m * k := by
        have := Nat.div_add_mod j k
        rw [e1, Nat.mul_comm] at this
        omega
      rw [e1, e2]
      simp
def tblOf (s : Stg) (r : Nat) (L : Int) : TT := ⟨(List.range r).map fun i => (hAt s (2 * i), hAt s (2 * i + 1)), L⟩
theorem tsAt_of {s : Stg} {r n : Nat} {L : Int} (h : n < r) : tsAt (tblOf s r L).times n = (hAt s (2 * n), hAt s (2 * n + 1)) := by
  unfold tsAt tblOf
  rw [List.getD_eq_getElem?_getD, List.getElem?_map, List.getElem?_range h]
  rfl
theorem tok_of {p : Pal} {rs : List RowT} {s : Stg} {L : Int} (b : RBd p rs) (h : Holds (stepsOf p rs) L s (stepsOf p rs).length) (hv : ∀ v, 0 ≤ hAt s v ∧ hAt s v ≤ 60000) (hL : L ≤ 2000) : TOk p rs (tblOf s rs.length L) := by
  refine ⟨b, by unfold tblOf; rw [List.length_map, List.length_range], length_pos b h, hL, fun n => ?_⟩
  unfold fillAt
  by_cases hn : n < rs.length
  · rw [tsAt_of hn]
    exact hv _
  · unfold tsAt tblOf
    rw [List.getD_eq_getElem?_getD, List.getElem?_eq_none (by rw [List.length_map, List.length_range]; omega)]
    exact ⟨by decide, by decide⟩
theorem turnsOf_get {rs : List RowT} {t : TT} {pot : Str} {often j : Nat} (hk : 0 < (byPot rs pot).length) (hj : j < often * (byPot rs pot).length) : ∃ n, (byPot rs pot)[j % (byPot rs pot).length]? = some n ∧ (turnsOf rs t pot often)[j]? = some (turnIn rs t n (j / (byPot rs pot).length : Nat)) := by
  have hm : j % (byPot rs pot).length < (byPot rs pot).length := Nat.mod_lt _ hk
  refine ⟨(byPot rs pot)[j % (byPot rs pot).length], List.getElem?_eq_getElem hm, ?_⟩
  unfold turnsOf
  rw [flat_get hk (fun o => by rw [List.length_map]) often j hj, List.getElem?_map, List.getElem?_eq_getElem hm]
  rfl
theorem turnsOf_len {rs : List RowT} {t : TT} {pot : Str} {often : Nat} : (turnsOf rs t pot often).length = often * (byPot rs pot).length := by
  unfold turnsOf
  have : ∀ l : List Nat, ((l.map fun o => (byPot rs pot).map fun n => turnIn rs t n (o : Nat)).flatten).length = l.length * (byPot rs pot).length := fun l => by
    induction l with
    | nil => simp
    | cons a l ih => rw [List.map_cons, List.flatten_cons, List.length_append, ih, List.length_map, List.length_cons, Nat.succ_mul]; omega
  rw [this, List.length_range]
theorem FL_turnsOf {p : Pal} {rs : List RowT} {s : Stg} {L : Int} {pot : Str} {often : Nat} (b : RBd p rs) (h : Holds (stepsOf p rs) L s (stepsOf p rs).length) (hv : ∀ v, 0 ≤ hAt s v ∧ hAt s v ≤ 60000) (hk : 0 < (byPot rs pot).length) : FL p (turnsOf rs (tblOf s rs.length L) pot often) := by
  have hL := length_pos b h
  constructor
  · intro t ht
    obtain ⟨j, hj⟩ := List.getElem?_of_mem ht
    have hlt := (List.getElem?_eq_some_iff.mp hj).1
    rw [turnsOf_len] at hlt
    obtain ⟨n, h1, h2⟩ := turnsOf_get (t := tblOf s rs.length L) hk hlt
    rw [h2] at hj
    have e := Option.some.inj hj
    subst e
    have hn := (mem_byPot.mp (List.mem_of_getElem? h1)).1
    have hb := hold_b h hn
    have mem := rowAt_mem hn
    obtain ⟨c1, c2⟩ := b.ch _ mem
    obtain ⟨m1, m2⟩ := b.ml _ mem
    obtain ⟨r1, r2⟩ := b.hr _ mem
    have v1 := (hv (2 * n)).1
    have oL : 0 ≤ ((j / (byPot rs pot).length : Nat) : Int) * L := Int.mul_nonneg (Int.natCast_nonneg _) (by omega)
    refine ⟨?_, ?_, ?_, ?_, b.has _ mem⟩
    · show 0 ≤ (tsAt (tblOf s rs.length L).times n).1 + ((j / (byPot rs pot).length : Nat) : Int) * L
      rw [tsAt_of hn]
      dsimp only
      omega
    · show (tsAt (tblOf s rs.length L).times n).1 + ((j / (byPot rs pot).length : Nat) : Int) * L + p.charge (rowAt rs n).col + p.melt (rowAt rs n).col ≤ (tsAt (tblOf s rs.length L).times n).2 + ((j / (byPot rs pot).length : Nat) : Int) * L
      rw [tsAt_of hn]
      dsimp only
      omega
    · show (tsAt (tblOf s rs.length L).times n).1 + ((j / (byPot rs pot).length : Nat) : Int) * L < (tsAt (tblOf s rs.length L).times n).2 + ((j / (byPot rs pot).length : Nat) : Int) * L
      rw [tsAt_of hn]
      dsimp only
      omega
    · show (pairOf (tblOf s rs.length L) n (j / (byPot rs pot).length : Nat)).2 < (pairOf (tblOf s rs.length L) n (j / (byPot rs pot).length : Nat)).2 + (rowAt rs n).hours
      omega
  · intro j t u ht hu
    have hlt := (List.getElem?_eq_some_iff.mp ht).1
    have hlu := (List.getElem?_eq_some_iff.mp hu).1
    rw [turnsOf_len] at hlt hlu
    obtain ⟨n, h1, h2⟩ := turnsOf_get (t := tblOf s rs.length L) hk hlt
    obtain ⟨m, k1, k2⟩ := turnsOf_get (t := tblOf s rs.length L) hk hlu
    rw [h2] at ht
    rw [k2] at hu
    have e1 := Option.some.inj ht
    have e2 := Option.some.inj hu
    subst e1
    subst e2
    have hn := (mem_byPot.mp (List.mem_of_getElem? h1)).1
    have hm := (mem_byPot.mp (List.mem_of_getElem? k1)).1
    have hd := hold_d h hn
    refine ⟨(b.ws _ _).1, ?_⟩
    show (tsAt (tblOf s rs.length L).times n).2 + ((j / (byPot rs pot).length : Nat) : Int) * L + (rowAt rs n).hours + p.washOf (rowAt rs n).col (rowAt rs m).col ≤ (tsAt (tblOf s rs.length L).times m).1 + (((j + 1) / (byPot rs pot).length : Nat) : Int) * L
    rw [tsAt_of hn, tsAt_of hm]
    dsimp only
    have dm := Nat.div_add_mod j (byPot rs pot).length
    have hmod := Nat.mod_lt j hk
    by_cases hq : j % (byPot rs pot).length + 1 < (byPot rs pot).length
    · have e3 : (j + 1) / (byPot rs pot).length = j / (byPot rs pot).length := by
        refine Nat.div_eq_of_lt_le ?_ ?_
        · rw [Nat.mul_comm]
          omega
        · rw [Nat.succ_mul, Nat.mul_comm]
          omega
      have e4 : (j + 1) % (byPot rs pot).length = j % (byPot rs pot).length + 1 := by
        have := Nat.div_add_mod (j + 1) (byPot rs pot).length
        rw [e3] at this
        omega
      rw [e4] at k1
      obtain ⟨x1, x2⟩ := next_in h1 k1
      unfold washBehindR at hd
      rw [x1, x2] at hd
      rw [e3]
      omega
    · have e3 : (j + 1) / (byPot rs pot).length = j / (byPot rs pot).length + 1 := by
        refine Nat.div_eq_of_lt_le ?_ ?_
        · rw [Nat.succ_mul, Nat.mul_comm]
          omega
        · rw [Nat.succ_mul, Nat.succ_mul, Nat.mul_comm]
          omega
      have e4 : (j + 1) % (byPot rs pot).length = 0 := by
        have := Nat.div_add_mod (j + 1) (byPot rs pot).length
        rw [e3, Nat.mul_succ] at this
        omega
      rw [e4] at k1
      rw [show j % (byPot rs pot).length = (byPot rs pot).length - 1 by omega] at h1
      obtain ⟨x1, x2⟩ := next_over h1 k1
      unfold washBehindR at hd
      rw [x1, x2] at hd
      rw [e3, show ((j / (byPot rs pot).length + 1 : Nat) : Int) = ((j / (byPot rs pot).length : Nat) : Int) + 1 by omega, Int.add_mul]
      omega
end
end Pr

end Text_D18
section Text_D19
set_option maxHeartbeats 4000000
namespace Pr
open PySem PySem.Spec PyProof.Rows L2
open C8 (Cal Mak Met pe_c pe_mk pe_mt pe_mt0)
local macro_rules | `(tactic| walk_at "nrm") => `(tactic| (simp only [args, setAll, List.set_cons_zero, List.set_cons_succ, List.map_cons, List.map_nil, List.length_cons, List.length_nil, List.replicate_succ, List.replicate_zero, List.cons_append, List.nil_append, Nat.reduceAdd, Nat.reduceSub]; try rfl))
section
variable {P : Program} {w : World} {K : PySem.W.Frag} {mg : Str → Option Value} {base : Heap}
/-! ## a pot's state in the round and in its turns -/
theorem FL.before {p : Pal} {ts : List Turn} (h : FL p ts) : ∀ (d i : Nat) (t u : Turn), ts[i]? = some t → ts[i + d + 1]? = some u → t.fin ≤ u.at_
  | 0, i, t, u, h1, h2 => by
    have := h.adj i t u h1 h2
    omega
  | d + 1, i, t, u, h1, h2 => by
    have hlt := (List.getElem?_eq_some_iff.mp h2).1
    have hv : ts[i + d + 1]? = some ts[i + d + 1] := List.getElem?_eq_getElem (by omega)
    have a := h.before d i t _ h1 hv
    have b := h.adj (i + d + 1) _ u hv h2
    have c := h.ok _ (List.mem_of_getElem? hv)
    obtain ⟨_, _, c1, c2, _⟩ := c
    omega
theorem turnsOf_at {rs : List RowT} {t : TT} {pot : Str} {often q n o : Nat} (hq : (byPot rs pot)[q]? = some n) (ho : o < often) : (turnsOf rs t pot often)[o * (byPot rs pot).length + q]? = some (turnIn rs t n (o : Nat)) := by
  have hlt := (List.getElem?_eq_some_iff.mp hq).1
  have hk : 0 < (byPot rs pot).length := by omega
  have e1 : (o * (byPot rs pot).length + q) / (byPot rs pot).length = o := by
    refine Nat.div_eq_of_lt_le (by omega) ?_
    rw [Nat.succ_mul]
    omega
  have e2 : (o * (byPot rs pot).length + q) % (byPot rs pot).length = q := by
    rw [Nat.add_comm, Nat.add_mul_mod_self_right, Nat.mod_eq_of_lt hlt]
  have hj : o * (byPot rs pot).length + q < often * (byPot rs pot).length := by
    have : (o + 1) * (byPot rs pot).length ≤ often * (byPot rs pot).length := Nat.mul_le_mul_right _ ho
    rw [Nat.succ_mul] at this
    omega
  obtain ⟨m, h1, h2⟩ := turnsOf_get (t := t) hk hj
  rw [e2, hq] at h1
  rw [e1] at h2
  cases h1
  exact h2
theorem word_wash {p : Pal} {t : Turn} {w1 w2 hour : Int} (h : hour < t.fin) : wordBy p t w1 hour = wordBy p t w2 hour := by
  unfold wordBy wordEnds
  simp only [List.find?_cons]
  split
  · rfl
  · split
    · rfl
    · split
      · rfl
      · rw [decide_eq_true h]
section
variable {p : Pal} {rs : List RowT} {s : Stg} {L : Int} {pot : Str} {often : Nat} {hour : Int}
theorem state_same (b : RBd p rs) (h : Holds (stepsOf p rs) L s (stepsOf p rs).length) (hv : ∀ v, 0 ≤ hAt s v ∧ hAt s v ≤ 60000) (hk : 0 < (byPot rs pot).length) (ho : 0 < often) {tl : Turn} (hl : (turnsOf rs (tblOf s rs.length L) pot often)[often * (byPot rs pot).length - 1]? = some tl) (hh : hour < tl.fin) {d d' : Dt} (hd : StateT p (turnsOf rs (tblOf s rs.length L) pot often) hour d) (hd' : RStateR p rs (tblOf s rs.length L) pot hour d') :
    (d = .tup [.str "out", .non] ∧ d' = .tup [.str "out", .non, .non]) ∨ ∃ (w : Str) (n o q : Nat), (byPot rs pot)[q]? = some n ∧ d = .tup [.str w, .int ((o * (byPot rs pot).length + q : Nat) : Int)] ∧ d' = .tup [.str w, .int (n : Nat), .int (o : Nat)] := by
  have hL := length_pos b h
  have fl := FL_turnsOf (pot := pot) (often := often) b h hv hk
  have fl2 := FL_turnsOf (pot := pot) (often := often + 1) b h hv hk
  have at_eq : ∀ n o, (turnIn rs (tblOf s rs.length L) n o).at_ = fillAt (tblOf s rs.length L) n + o * L := fun _ _ => rfl
  have eL : (tblOf s rs.length L).len = L := rfl
  have inv : ∀ (i : Nat) (t : Turn), (turnsOf rs (tblOf s rs.length L) pot often)[i]? = some t → ∃ q n o, (byPot rs pot)[q]? = some n ∧ i = o * (byPot rs pot).length + q ∧ o < often ∧ t = turnIn rs (tblOf s rs.length L) n (o : Nat) := fun i t hi => by
    have hlt := (List.getElem?_eq_some_iff.mp hi).1
    rw [turnsOf_len] at hlt
    obtain ⟨n, h1, h2⟩ := turnsOf_get (t := tblOf s rs.length L) hk hlt
    rw [h2] at hi
    exact ⟨_, n, _, h1, by rw [Nat.mul_comm]; exact (Nat.div_add_mod _ _).symm, Nat.div_lt_of_lt_mul (by rw [Nat.mul_comm]; exact hlt), (Option.some.inj hi).symm⟩
  rcases hd' with ⟨rfl, hout⟩ | ⟨n, hn, hle, rfl, hmax⟩
  · rcases hd with ⟨rfl, _⟩ | ⟨i, t, rfl, hi, ⟨u, hu, hua⟩, _⟩
    · exact .inl ⟨rfl, rfl⟩
    · obtain ⟨q, n, o, h1, _, _, rfl⟩ := inv i u hu
      have := hout n (List.mem_of_getElem? h1)
      rw [at_eq] at hua
      have : 0 ≤ ((o : Nat) : Int) * L := Int.mul_nonneg (Int.natCast_nonneg _) (by omega)
      omega
  · obtain ⟨q, hq⟩ := List.getElem?_of_mem hn
    have o0 : 0 ≤ oftAt (tblOf s rs.length L) hour n := Int.ediv_nonneg (by omega) (by rw [eL]; omega)
    obtain ⟨o, eo⟩ := Int.eq_ofNat_of_zero_le o0
    rw [eL] at hmax
    have le_h : fillAt (tblOf s rs.length L) n + oftAt (tblOf s rs.length L) hour n * L ≤ hour := by
      have : (hour - fillAt (tblOf s rs.length L) n) / L * L ≤ hour - fillAt (tblOf s rs.length L) n := Int.ediv_mul_le _ (by omega)
      have e : oftAt (tblOf s rs.length L) hour n = (hour - fillAt (tblOf s rs.length L) n) / L := rfl
      rw [← e] at this
      omega
    rw [eo] at le_h hmax ⊢
    have hlt : o < often := by
      refine Nat.lt_of_not_ge fun hge => ?_
      have h1 : (turnsOf rs (tblOf s rs.length L) pot (often + 1))[often * (byPot rs pot).length - 1]? = some tl := by
        obtain ⟨q', n', o', g1, g2, g3, g4⟩ := inv _ _ hl
        rw [g2, turnsOf_at g1 (by omega), g4]
      have h2 := turnsOf_at (t := tblOf s rs.length L) (often := often + 1) hq (Nat.lt_succ_self often)
      have hp : 0 < often * (byPot rs pot).length := Nat.mul_pos ho hk
      have := fl2.before q _ _ _ h1 (by rw [show often * (byPot rs pot).length - 1 + q + 1 = often * (byPot rs pot).length + q by omega]; exact h2)
      rw [at_eq] at this
      have m : ((often : Nat) : Int) * L ≤ ((o : Nat) : Int) * L := Int.mul_le_mul_of_nonneg_right (by omega) (by omega)
      omega
    have hj := turnsOf_at (t := tblOf s rs.length L) hq hlt
    rcases hd with ⟨_, hall⟩ | ⟨i, t, rfl, hi, ⟨u, hu, hua⟩, hlast⟩
    · have := hall _ (List.mem_of_getElem? hj)
      rw [at_eq] at this
      omega
    · rw [hi] at hu
      cases hu
      have hji := hlast _ _ hj (by rw [at_eq]; exact le_h)
      obtain ⟨q', n', o', g1, g2, g3, g4⟩ := inv i t hi
      have m0 : 0 ≤ ((o' : Nat) : Int) * L := Int.mul_nonneg (Int.natCast_nonneg _) (by omega)
      have hua2 : fillAt (tblOf s rs.length L) n' + ((o' : Nat) : Int) * L ≤ hour := by rw [g4, at_eq] at hua; exact hua
      have hm := hmax n' (List.mem_of_getElem? g1) (by omega)
      have ole : ((o' : Nat) : Int) ≤ oftAt (tblOf s rs.length L) hour n' := Int.le_ediv_of_mul_le (by rw [eL]; omega) (by rw [eL]; omega)
      have m1 : ((o' : Nat) : Int) * L ≤ oftAt (tblOf s rs.length L) hour n' * L := Int.mul_le_mul_of_nonneg_right ole (by omega)
      have hij : i = o * (byPot rs pot).length + q := by
        rcases Nat.lt_or_ge (o * (byPot rs pot).length + q) i with z | z
        · have := fl.before (i - (o * (byPot rs pot).length + q) - 1) _ _ _ hj (by rw [show o * (byPot rs pot).length + q + (i - (o * (byPot rs pot).length + q) - 1) + 1 = i by omega]; exact hi)
          obtain ⟨_, _, c1, c2, _⟩ := fl.ok _ (List.mem_of_getElem? hj)
          rw [at_eq] at c1
          rw [g4, at_eq] at this
          omega
        · omega
      rw [hij] at hi ⊢
      rw [hj] at hi
      have et := Option.some.inj hi
      rw [← et]
      refine .inr ⟨_, n, o, q, hq, rfl, ?_⟩
      have ew : wordBy p (turnIn rs (tblOf s rs.length L) n (o : Nat)) (washBehindR p rs n) hour = wordBy p (turnIn rs (tblOf s rs.length L) n (o : Nat)) (washBehindT p (turnsOf rs (tblOf s rs.length L) pot often) (o * (byPot rs pot).length + q)) hour := by
        by_cases hend : o * (byPot rs pot).length + q + 1 = (turnsOf rs (tblOf s rs.length L) pot often).length
        · refine word_wash ?_
          rw [turnsOf_len] at hend
          rw [show often * (byPot rs pot).length - 1 = o * (byPot rs pot).length + q by omega, hj] at hl
          have := Option.some.inj hl
          rw [this]
          exact hh
        · have hjl := (List.getElem?_eq_some_iff.mp hj).1
          have hnx : (turnsOf rs (tblOf s rs.length L) pot often)[o * (byPot rs pot).length + q + 1]? = some (turnsOf rs (tblOf s rs.length L) pot often)[o * (byPot rs pot).length + q + 1] := List.getElem?_eq_getElem (by omega)
          obtain ⟨q2, n2, o2, x1, x2, x3, x4⟩ := inv _ _ hnx
          have hql := (List.getElem?_eq_some_iff.mp hq).1
          have hq2l := (List.getElem?_eq_some_iff.mp x1).1
          have hna : nextAlike rs n false = n2 := by
            by_cases hqq : q + 1 < (byPot rs pot).length
            · have e2 : q2 = q + 1 := by
                have a1 : (o * (byPot rs pot).length + q + 1) % (byPot rs pot).length = q + 1 := by rw [Nat.add_assoc, Nat.add_comm, Nat.add_mul_mod_self_right, Nat.mod_eq_of_lt hqq]
                have a2 : (o2 * (byPot rs pot).length + q2) % (byPot rs pot).length = q2 := by rw [Nat.add_comm, Nat.add_mul_mod_self_right, Nat.mod_eq_of_lt hq2l]
                rw [x2, a2] at a1
                exact a1
              rw [e2] at x1
              exact (next_in hq x1).1
            · have e2 : q2 = 0 := by
                have a1 : (o * (byPot rs pot).length + q + 1) % (byPot rs pot).length = 0 := by
                  rw [show o * (byPot rs pot).length + q + 1 = (o + 1) * (byPot rs pot).length by rw [Nat.succ_mul]; omega, Nat.mul_mod_left]
                have a2 : (o2 * (byPot rs pot).length + q2) % (byPot rs pot).length = q2 := by rw [Nat.add_comm, Nat.add_mul_mod_self_right, Nat.mod_eq_of_lt hq2l]
                rw [x2, a2] at a1
                exact a1
              rw [e2] at x1
              exact (next_over (by rw [show (byPot rs pot).length - 1 = q by omega]; exact hq) x1).1
          have : washBehindT p (turnsOf rs (tblOf s rs.length L) pot often) (o * (byPot rs pot).length + q) = washBehindR p rs n := by
            unfold washBehindT washBehindR
            rw [if_neg hend, List.getD_eq_getElem?_getD, List.getD_eq_getElem?_getD, hj, hnx, x4, hna]
            rfl
          rw [this]
      rw [ew]
end
end
end Pr

end Text_D19
section Text_D20
set_option maxHeartbeats 4000000
namespace Pr
open PySem PySem.Spec PyProof.Rows L2
open C8 (Cal Mak Met pe_c pe_mk pe_mt pe_mt0)
local macro_rules | `(tactic| walk_at "nrm") => `(tactic| (simp only [args, setAll, List.set_cons_zero, List.set_cons_succ, List.map_cons, List.map_nil, List.length_cons, List.length_nil, List.replicate_succ, List.replicate_zero, List.cons_append, List.nil_append, Nat.reduceAdd, Nat.reduceSub]; try rfl))
section
variable {P : Program} {w : World} {K : PySem.W.Frag} {mg : Str → Option Value} {base : Heap}
/-! ## a pot's state in the round is one only -/
section
variable {p : Pal} {rs : List RowT} {s : Stg} {L : Int} {pot : Str} {hour : Int}
theorem rstate_one (b : RBd p rs) (h : Holds (stepsOf p rs) L s (stepsOf p rs).length) (hv : ∀ v, 0 ≤ hAt s v ∧ hAt s v ≤ 60000) {d1 d2 : Dt} (hd1 : RStateR p rs (tblOf s rs.length L) pot hour d1) (hd2 : RStateR p rs (tblOf s rs.length L) pot hour d2) : d1 = d2 := by
  have hL := length_pos b h
  have at_eq : ∀ n o, (turnIn rs (tblOf s rs.length L) n o).at_ = fillAt (tblOf s rs.length L) n + o * L := fun _ _ => rfl
  have eL : (tblOf s rs.length L).len = L := rfl
  rcases hd1 with ⟨rfl, h1⟩ | ⟨n1, m1, l1, rfl, x1⟩
  · rcases hd2 with ⟨rfl, h2⟩ | ⟨n2, m2, l2, rfl, x2⟩
    · rfl
    · have := h1 n2 m2
      omega
  · rcases hd2 with ⟨rfl, h2⟩ | ⟨n2, m2, l2, rfl, x2⟩
    · have := h2 n1 m1
      omega
    · by_cases e : n1 = n2
      · rw [e]
      · exfalso
        have a1 := x1 n2 m2 l2
        have a2 := x2 n1 m1 l1
        rw [eL] at a1 a2
        have z1 : 0 ≤ oftAt (tblOf s rs.length L) hour n1 := Int.ediv_nonneg (by omega) (by rw [eL]; omega)
        have z2 : 0 ≤ oftAt (tblOf s rs.length L) hour n2 := Int.ediv_nonneg (by omega) (by rw [eL]; omega)
        obtain ⟨o1, e1⟩ := Int.eq_ofNat_of_zero_le z1
        obtain ⟨o2, e2⟩ := Int.eq_ofNat_of_zero_le z2
        rw [e1, e2] at a1 a2
        obtain ⟨q1, g1⟩ := List.getElem?_of_mem m1
        obtain ⟨q2, g2⟩ := List.getElem?_of_mem m2
        have k1 := (List.getElem?_eq_some_iff.mp g1).1
        have k2 := (List.getElem?_eq_some_iff.mp g2).1
        have fl := FL_turnsOf (pot := pot) (often := o1 + o2 + 1) b h hv (by omega)
        have t1 := turnsOf_at (t := tblOf s rs.length L) (often := o1 + o2 + 1) g1 (o := o1) (by omega)
        have t2 := turnsOf_at (t := tblOf s rs.length L) (often := o1 + o2 + 1) g2 (o := o2) (by omega)
        have c1 := fl.ok _ (List.mem_of_getElem? t1)
        have c2 := fl.ok _ (List.mem_of_getElem? t2)
        obtain ⟨_, _, c11, c12, _⟩ := c1
        obtain ⟨_, _, c21, c22, _⟩ := c2
        rw [at_eq] at c11 c21
        rcases Nat.lt_trichotomy (o1 * (byPot rs pot).length + q1) (o2 * (byPot rs pot).length + q2) with z | z | z
        · have := fl.before (o2 * (byPot rs pot).length + q2 - (o1 * (byPot rs pot).length + q1) - 1) _ _ _ t1 (by rw [show o1 * (byPot rs pot).length + q1 + (o2 * (byPot rs pot).length + q2 - (o1 * (byPot rs pot).length + q1) - 1) + 1 = o2 * (byPot rs pot).length + q2 by omega]; exact t2)
          rw [at_eq] at this
          omega
        · have b1 : (o1 * (byPot rs pot).length + q1) % (byPot rs pot).length = q1 := by rw [Nat.add_comm, Nat.add_mul_mod_self_right, Nat.mod_eq_of_lt k1]
          have b2 : (o2 * (byPot rs pot).length + q2) % (byPot rs pot).length = q2 := by rw [Nat.add_comm, Nat.add_mul_mod_self_right, Nat.mod_eq_of_lt k2]
          rw [z, b2] at b1
          rw [b1, g1] at g2
          exact e (Option.some.inj g2)
        · have := fl.before (o1 * (byPot rs pot).length + q1 - (o2 * (byPot rs pot).length + q2) - 1) _ _ _ t2 (by rw [show o2 * (byPot rs pot).length + q2 + (o1 * (byPot rs pot).length + q1 - (o2 * (byPot rs pot).length + q2) - 1) + 1 = o1 * (byPot rs pot).length + q1 by omega]; exact t1)
          rw [at_eq] at this
          omega

instance : Nonempty Dt := ⟨.non⟩
noncomputable def rsD (p : Pal) (rs : List RowT) (t : TT) (pot : Str) (hour : Int) : Dt := Classical.epsilon (RStateR p rs t pot hour)
theorem rsD_eq (b : RBd p rs) (h : Holds (stepsOf p rs) L s (stepsOf p rs).length) (hv : ∀ v, 0 ≤ hAt s v ∧ hAt s v ≤ 60000) {d : Dt} (hd : RStateR p rs (tblOf s rs.length L) pot hour d) : d = rsD p rs (tblOf s rs.length L) pot hour :=
  rstate_one b h hv hd (Classical.epsilon_spec (p := RStateR p rs (tblOf s rs.length L) pot hour) ⟨d, hd⟩)
end
end
end Pr

end Text_D20
section Text_D21
set_option maxHeartbeats 4000000
namespace Pr
open PySem PySem.Spec PyProof.Rows L2
open C8 (Cal Mak Met pe_c pe_mk pe_mt pe_mt0)
local macro_rules | `(tactic| walk_at "nrm") => `(tactic| (simp only [args, setAll, List.set_cons_zero, List.set_cons_succ, List.map_cons, List.map_nil, List.length_cons, List.length_nil, List.replicate_succ, List.replicate_zero, List.cons_append, List.nil_append, Nat.reduceAdd, Nat.reduceSub]; try rfl))
section
variable {P : Program} {w : World} {K : PySem.W.Frag} {mg : Str → Option Value} {base : Heap}
/-! ## the law's own going over a break: one turn more -/
theorem fb_snoc {l : List Turn} {t : Turn} {hour : Int} : firstBehind (l ++ [t]) hour = firstBehind l hour + if t.at_ ≤ hour then 1 else 0 := by
  unfold firstBehind
  rw [List.filter_append, List.length_append]
  by_cases h : t.at_ ≤ hour
  · rw [if_pos h, List.filter_cons, if_pos (decide_eq_true h)]
    rfl
  · rw [if_neg h, List.filter_cons, if_neg (by rw [decide_eq_false h]; decide)]
    rfl
theorem ended_snoc {l : List Turn} {t : Turn} {hour : Int} : ended (l ++ [t]) hour = ended l hour ++ if t.fin ≤ hour then [t] else [] := by
  unfold ended
  rw [List.filter_append]
  by_cases h : t.fin ≤ hour
  · rw [if_pos h, List.filter_cons, if_pos (decide_eq_true h)]
    rfl
  · rw [if_neg h, List.filter_cons, if_neg (by rw [decide_eq_false h]; decide)]
    rfl
theorem fb_le (l : List Turn) (hour : Int) : firstBehind l hour ≤ l.length := List.length_filter_le _ _
theorem fb_all {l : List Turn} {hour : Int} (h : ∀ t ∈ l, t.at_ ≤ hour) : firstBehind l hour = l.length := by
  unfold firstBehind
  rw [List.filter_eq_self.mpr fun t ht => decide_eq_true (h t ht)]
theorem ended_all {l : List Turn} {hour : Int} (h : ∀ t ∈ l, t.fin ≤ hour) : ended l hour = l := List.filter_eq_self.mpr fun t ht => decide_eq_true (h t ht)
theorem movedFrom_snoc {n : Nat} {r s : List Turn} {t u : Turn} (hl : r.length = s.length) : movedFrom n (r ++ [t]) (s ++ [u]) = movedFrom n r s ++ if t = u then [] else [((n + r.length : Nat) : Int)] := by
  unfold movedFrom
  rw [List.zip_append hl, List.zipIdx_append, List.filter_append, List.map_append]
  congr 1
  have e : (r.zip s).length = r.length := by rw [List.length_zip, hl, Nat.min_self]
  show List.map _ (List.filter _ [((t, u), 0 + (r.zip s).length)]) = _
  rw [e]
  by_cases h : t = u
  · rw [if_pos h, List.filter_cons, if_neg (by simp [h])]
    rfl
  · rw [if_neg h, List.filter_cons, if_pos (by simp [h])]
    simp
/-- the break of one turn more -/
theorem FL.init {p : Pal} {l : List Turn} {t : Turn} (h : FL p (l ++ [t])) : FL p l := by
  refine ⟨fun u hu => h.ok u (List.mem_append_left _ hu), fun i a c h1 h2 => h.adj i a c ?_ ?_⟩
  · rw [List.getElem?_append_left (List.getElem?_eq_some_iff.mp h1).1]
    exact h1
  · rw [List.getElem?_append_left (List.getElem?_eq_some_iff.mp h2).1]
    exact h2
theorem FL.befS {p : Pal} {ts : List Turn} (h : FL p ts) : ∀ (d i : Nat) (t u : Turn), ts[i]? = some t → ts[i + d + 1]? = some u → t.fin ≤ u.at_
  | 0, i, t, u, h1, h2 => by
    have := h.adj i t u h1 h2
    omega
  | d + 1, i, t, u, h1, h2 => by
    have hlt := (List.getElem?_eq_some_iff.mp h2).1
    have hv : ts[i + d + 1]? = some ts[i + d + 1] := List.getElem?_eq_getElem (by omega)
    have a := h.befS d i t _ h1 hv
    have b := h.adj (i + d + 1) _ u hv h2
    obtain ⟨_, _, c1, c2, _⟩ := h.ok _ (List.mem_of_getElem? hv)
    omega
theorem FL.lastS {p : Pal} {l : List Turn} {t : Turn} (h : FL p (l ++ [t])) : ∀ u ∈ l, u.fin ≤ t.at_ := fun u hu => by
  obtain ⟨i, hi⟩ := List.getElem?_of_mem hu
  have hlt := (List.getElem?_eq_some_iff.mp hi).1
  refine h.befS (l.length - i - 1) i u t ?_ ?_
  · rw [List.getElem?_append_left hlt]
    exact hi
  · rw [show i + (l.length - i - 1) + 1 = l.length by omega, List.getElem?_append_right (Nat.le_refl _), Nat.sub_self]
    rfl
theorem brk_ended {p : Pal} {l : List Turn} {t : Turn} {hour warm : Int} (h : FL p (l ++ [t])) (hf : t.fin ≤ hour) : brokenF p (l ++ [t]) hour warm = ⟨(brokenF p l hour warm).ended ++ [t], (brokenF p l hour warm).lost, (brokenF p l hour warm).behind, (brokenF p l hour warm).moved⟩ ∧ (brokenF p l hour warm).behind = [] := by
  obtain ⟨_, _, o1, o2, _⟩ := h.ok t (List.mem_append_right _ (List.mem_singleton.mpr rfl))
  have all : ∀ u ∈ l, u.at_ ≤ hour ∧ u.fin ≤ hour := fun u hu => by
    have a := h.lastS u hu
    obtain ⟨_, _, b1, b2, _⟩ := h.ok u (List.mem_append_left _ hu)
    exact ⟨by omega, by omega⟩
  have e1 : firstBehind l hour = l.length := fb_all fun u hu => (all u hu).1
  have e2 : ended l hour = l := ended_all fun u hu => (all u hu).2
  have e3 : firstBehind (l ++ [t]) hour = (l ++ [t]).length := by rw [fb_snoc, e1, if_pos (by omega), List.length_append]; rfl
  have e4 : ended (l ++ [t]) hour = l ++ [t] := by rw [ended_snoc, e2, if_pos hf]
  unfold brokenF
  dsimp only
  rw [e1, e2, e3, e4, List.drop_length, List.drop_length, if_neg (Nat.lt_irrefl _), if_neg (Nat.lt_irrefl _)]
  exact ⟨rfl, rfl⟩
theorem brk_lost {p : Pal} {l : List Turn} {t : Turn} {hour warm : Int} (h : FL p (l ++ [t])) (hf : hour < t.fin) (ha : t.at_ ≤ hour) : brokenF p (l ++ [t]) hour warm = ⟨(brokenF p l hour warm).ended, some (l.length : Int), (brokenF p l hour warm).behind, (brokenF p l hour warm).moved⟩ ∧ (brokenF p l hour warm).behind = [] := by
  have all : ∀ u ∈ l, u.at_ ≤ hour ∧ u.fin ≤ hour := fun u hu => by
    have a := h.lastS u hu
    obtain ⟨_, _, b1, b2, _⟩ := h.ok u (List.mem_append_left _ hu)
    exact ⟨by omega, by omega⟩
  have e1 : firstBehind l hour = l.length := fb_all fun u hu => (all u hu).1
  have e2 : ended l hour = l := ended_all fun u hu => (all u hu).2
  have e3 : firstBehind (l ++ [t]) hour = (l ++ [t]).length := by rw [fb_snoc, e1, if_pos ha, List.length_append]; rfl
  have e4 : ended (l ++ [t]) hour = l := by rw [ended_snoc, e2, if_neg (by omega), List.append_nil]
  unfold brokenF
  dsimp only
  rw [e1, e2, e3, e4, List.drop_length, List.drop_length, if_pos (by rw [List.length_append]; exact Nat.lt_succ_self _)]
  exact ⟨rfl, rfl⟩
theorem later_len2 (p : Pal) : ∀ (ts : List Turn) (free : Int), (laterTurns p ts free).length = ts.length
  | [], _ => rfl
  | [a], _ => rfl
  | a :: b :: r, free => by
    show (laterTurns p (b :: r) _).length + 1 = _
    rw [later_len2 p (b :: r)]
    rfl
theorem brk_later {p : Pal} {l : List Turn} {t : Turn} {hour warm : Int} (h : FL p (l ++ [t])) (ha : hour < t.at_) : ∃ f, ((brokenF p l hour warm).behind = [] → f = hour + warm) ∧ (∀ m u, (brokenF p l hour warm).behind = m ++ [u] → f = u.fin + p.washOf u.col t.col) ∧
    brokenF p (l ++ [t]) hour warm = ⟨(brokenF p l hour warm).ended, (brokenF p l hour warm).lost, (brokenF p l hour warm).behind ++ [movedTurn p t f], (brokenF p l hour warm).moved ++ if t = movedTurn p t f then [] else [(l.length : Int)]⟩ := by
  obtain ⟨_, _, o1, o2, _⟩ := h.ok t (List.mem_append_right _ (List.mem_singleton.mpr rfl))
  obtain ⟨f, h1, h2, h3⟩ := later_snoc p (l.drop (firstBehind l hour)) t (hour + warm)
  have hle := fb_le l hour
  have e3 : firstBehind (l ++ [t]) hour = firstBehind l hour := by rw [fb_snoc, if_neg (by omega)]; rfl
  have e4 : ended (l ++ [t]) hour = ended l hour := by rw [ended_snoc, if_neg (by omega), List.append_nil]
  have e5 : (l ++ [t]).drop (firstBehind l hour) = l.drop (firstBehind l hour) ++ [t] := List.drop_append_of_le_length hle
  refine ⟨f, fun e => h2 ?_, fun m u e => h3 m u e, ?_⟩
  · have : (laterTurns p (l.drop (firstBehind l hour)) (hour + warm)).length = 0 := by rw [show laterTurns p (l.drop (firstBehind l hour)) (hour + warm) = [] from e]; rfl
    rw [later_len2] at this
    exact List.eq_nil_of_length_eq_zero this
  · unfold brokenF
    dsimp only
    rw [e3, e4, e5, h1, movedFrom_snoc (later_len2 p _ _).symm, List.length_drop]
    rw [show firstBehind l hour + (l.length - firstBehind l hour) = l.length by omega]
end
end Pr

end Text_D21
section Text_D22
set_option maxHeartbeats 4000000
namespace Pr
open PySem PySem.Spec PyProof.Rows L2
open C8 (Cal Mak Met pe_c pe_mk pe_mt pe_mt0)
local macro_rules | `(tactic| walk_at "nrm") => `(tactic| (simp only [args, setAll, List.set_cons_zero, List.set_cons_succ, List.map_cons, List.map_nil, List.length_cons, List.length_nil, List.replicate_succ, List.replicate_zero, List.cons_append, List.nil_append, Nat.reduceAdd, Nat.reduceSub]; try rfl))
section
variable {P : Program} {w : World} {K : PySem.W.Frag} {mg : Str → Option Value} {base : Heap}
/-! ## the law's own reading of the palette -/
theorem atI0_filter2 {α : Type} {l : List α} {f : α → Bool} {g : α → Dt} {x : α} (h : l.find? f = some x) : atI ((l.filter f).map g) 0 = some (g x) := by
  have e : ((l.filter f).map g)[0]? = some (g x) := by
    rw [List.getElem?_map]
    have := List.head?_filter (p := f) (l := l)
    rw [h, List.head?_eq_getElem?] at this
    rw [this]
    rfl
  exact atI_nat (i := 0) e
abbrev nLawHours : List Str := ["_law_palette_here", "_law_colour", "_law_row"]
theorem c_law_hours (T : Txt K mg) : Cal P w K mg base 1 "_law_hours" (spP (fun a : Pal × Str => [dPal a.1, .str a.2]) (fun a => a.1.has a.2 ∧ a.1.cs.length ≤ 1000) fun a d => d = (fun a : Pal × Str => .tup [.int (a.1.charge a.2), .int (a.1.melt a.2)]) a) [] := by
  refine T.d_law_hours.pure (N := nLawHours) ⟨rfl, rfl, rfl, by decide +kernel, rfl, by decide +kernel, by decide +kernel⟩ (fun _ => rfl) ?_
  rintro f cdv A outer s H E hr Γ ⟨p, c⟩ hB ⟨hp, hl⟩
  have nd : nLawHours.Nodup := by decide +kernel
  dsimp only at hp hl ⊢
  have hf : p.cs.find? (fun r => decide (r.nm = c)) = some (p.rowD c) := (Pal.row_some hp).1
  refine s_one <| s_ret <| w_ix <| w_lc (own := [("_law_row", 2)]) <| i_tup <| w_ix <| w_var 0 rfl <| w_int <| xc_tup rfl <| ex rfl <| lc_map p.cs dCol (fun r => decide (r.nm = c)) (fun r => .tup [.int r.charge, .int r.melt]) rfl hl (lvC lvN) (fun x hx _ _ _ _ _ => g_name 2 <| fun _ _ _ _ _ => ts_one <| t_cmp <| w_ix <| w_var 2 rfl <| w_int <| xc_tup rfl <| w_var 1 rfl <| oc_eqS <| KT.mk <| And.intro rfl <| br (fun h => fun _ _ _ _ _ => w_slice <| w_var 2 rfl <| o_some <| w_int <| ex rfl <| o_some <| w_int <| ex rfl <| sc_tup <| ⟨rfl, rfl⟩) (fun h => rfl)) <| w_int <| xc_lst (atI0_filter2 hf) <| rfl
theorem eqv_two (a b c d : Str) : PyData.eqv (Dt.tup [.str a, .str b]).py (Dt.tup [.str c, .str d]).py = (decide (a = c) && decide (b = d)) := by
  show ((a == c) && ((b == d) && true)) = _
  rw [Bool.and_true]
  have e : ∀ x y : Str, (x == y) = decide (x = y) := fun x y => by
    by_cases h : x = y
    · rw [decide_eq_true h, h, beq_self_eq_true]
    · rw [decide_eq_false h]
      exact beq_eq_false_iff_ne.mpr h
  rw [e, e]
theorem sum_one {l : List Wsh} {f : Wsh → Bool} (h : (l.filter f).length ≤ 1) : ((l.filter f).map (·.hours)).sum = ((l.find? f).map (·.hours)).getD 0 := by
  have hh := List.head?_filter (p := f) (l := l)
  rw [← hh]
  cases e : l.filter f with
  | nil => rfl
  | cons a r =>
    rw [e] at h
    cases r with
    | nil => simp
    | cons b r => simp at h
/-- names that can be laid out, pairs that stand once -/
structure PalOk (p : Pal) : Prop where
  cl : p.cs.length ≤ 1000
  wl : p.ws.length ≤ 1000
  cn : ∀ c ∈ p.cs, PyData.strOk c.nm = true
  wn : ∀ r ∈ p.ws, PyData.strOk r.one = true ∧ PyData.strOk r.other = true
  one : ∀ a b, (p.ws.filter fun r => decide (r.one = a) && decide (r.other = b)).length ≤ 1
theorem shaped_two {a b : Str} (h1 : PyData.strOk a = true) (h2 : PyData.strOk b = true) : SeqAt.shaped (Dt.tup [.str a, .str b]).py = true := by
  unfold SeqAt.shaped
  simp [Dt.py, pys, PyData.canLay0, PyData.canLayAll0, h1, h2, PyData.depth, PyData.depthAll]
theorem mapmap2 {α β γ : Type} {l : List α} {f : α → β} {g : β → γ} : l.map (fun x => g (f x)) = (l.map f).map g := by rw [List.map_map]; rfl
abbrev nLawWash : List Str := ["_law_palette_here", "_law_ahead", "_law_behind", "_law_row"]
theorem c_law_wash (T : Txt K mg) : Cal P w K mg base 1 "_law_wash" (spP (fun a : Pal × Str × Str => [dPal a.1, .str a.2.1, .str a.2.2]) (fun a => PalOk a.1 ∧ PyData.strOk a.2.1 = true ∧ PyData.strOk a.2.2 = true) fun a d => d = (fun a : Pal × Str × Str => .int (a.1.washOf a.2.1 a.2.2)) a) [] := by
  refine T.d_law_wash.pure (N := nLawWash) ⟨rfl, rfl, rfl, by decide +kernel, rfl, by decide +kernel, by decide +kernel⟩ (fun _ => rfl) ?_
  rintro f cdv A outer s H E hr Γ ⟨p, a, b⟩ hB ⟨ok, ha, hb⟩
  have nd : nLawWash.Nodup := by decide +kernel
  dsimp only at ok ha hb ⊢
  refine s_one <| s_ret <| w_callB (id := "sum") T.b_sum (by decide +kernel) <| a_cons <| w_lc (own := [("_law_row", 3)]) <| i_tup <| w_ix <| w_var 0 rfl <| w_int <| xc_tup rfl <| ex rfl <| lc_map p.ws dWsh (fun r => decide (r.one = a) && decide (r.other = b)) (fun r => .int r.hours) rfl ok.wl (lvC lvN) (fun x hx _ _ _ _ _ => g_name 3 <| fun _ _ _ _ _ => ts_one <| t_cmp <| w_slice <| w_var 3 rfl <| o_none <| o_some <| w_int <| ex rfl <| sc_tup <| w_tup <| a_cons <| w_var 1 rfl <| a_cons <| w_var 2 rfl <| a_nil <| And.intro (by simp) <| oc_eqD hr.units rfl rfl (shaped_two (ok.wn x hx).1 (ok.wn x hx).2) (shaped_two ha hb) <| KT.mk <| And.intro (eqv_two _ _ _ _) <| br (fun h => fun _ _ _ _ _ => w_ix <| w_var 3 rfl <| w_int <| xc_tup rfl <| ⟨rfl, rfl⟩) (fun h => rfl)) <| ?_
  rw [mapmap2 (f := fun r : Wsh => r.hours) (g := Dt.int)]
  exact a_nil <| cc_sum <| congrArg Dt.int (sum_one (ok.one a b))
end
end Pr

end Text_D22
section Text_D23
set_option maxHeartbeats 4000000
namespace Pr
open PySem PySem.Spec PyProof.Rows L2
open C8 (Cal Mak Met pe_c pe_mk pe_mt pe_mt0)
local macro_rules | `(tactic| walk_at "nrm") => `(tactic| (simp only [args, setAll, List.set_cons_zero, List.set_cons_succ, List.map_cons, List.map_nil, List.length_cons, List.length_nil, List.replicate_succ, List.replicate_zero, List.cons_append, List.nil_append, Nat.reduceAdd, Nat.reduceSub]; try rfl))
section
variable {P : Program} {w : World} {K : PySem.W.Frag} {mg : Str → Option Value} {base : Heap}
/-! ## the law's own break -/
theorem FL.take {p : Pal} {ts : List Turn} (h : FL p ts) (n : Nat) : FL p (ts.take n) := by
  refine ⟨fun u hu => h.ok u (List.mem_of_mem_take hu), fun i a c h1 h2 => h.adj i a c ?_ ?_⟩
  · rw [List.getElem?_take] at h1
    split at h1
    · exact h1
    · cases h1
  · rw [List.getElem?_take] at h2
    split at h2
    · exact h2
    · cases h2
theorem plains_turns : ∀ ts : List Turn, plains (ts.map dTurn) = true
  | [] => rfl
  | t :: ts => by
    rw [List.map_cons, plains, plains_turns ts]
    rfl
theorem canLay_turns : ∀ ts : List Turn, (∀ t ∈ ts, PyData.strOk t.col = true) → PyData.canLayAll0 (pys (ts.map dTurn)) = true
  | [], _ => rfl
  | t :: ts, h => by
    have h0 := h t (List.mem_cons_self ..)
    rw [List.map_cons, pys, PyData.canLayAll0, canLay_turns ts fun u hu => h u (List.mem_cons_of_mem _ hu)]
    simp [dTurn, Dt.py, pys, PyData.canLay0, PyData.canLayAll0, h0]
theorem depth_turns : ∀ ts : List Turn, PyData.depthAll (pys (ts.map dTurn)) ≤ 1
  | [] => by simp [pys, PyData.depthAll]
  | t :: ts => by
    have ih := depth_turns ts
    rw [List.map_cons, pys, PyData.depthAll]
    simp [dTurn, Dt.py, pys, PyData.depth, PyData.depthAll]
    omega
theorem shaped_turns {ts : List Turn} (h : ∀ t ∈ ts, PyData.strOk t.col = true) (hl : ts.length ≤ 1000) : SeqAt.shaped (dTurns ts).py = true := by
  have h1 := canLay_turns ts h
  have h2 := depth_turns ts
  unfold SeqAt.shaped
  simp [dTurns, Dt.py, PyData.canLay0, PyData.depth, h1]
  omega
section
variable {X : Cx} {tg : Expr} {ts : List Expr} {is : List Nat} {pos : Pos} {x : Str}
theorem gn_nil : PGs X [] (gNames []) := pgs_nil
theorem gn_cons (i : Nat) (h : PGs X ts (gNames is)) (hN : X.N.Nodup := by assumption) (hi : X.N[i]? = some x := by rfl) (hx : Loc X.env.scope x := by first | exact Or.inl rfl | exact Or.inr rfl) (hf : X.fn x = true ∨ X.env.scope.names.lookup x = some .local := by first | exact .inl rfl | exact .inr rfl)
    (hs : (assignEach (.Name x pos :: ts) X.env).map (·.2) = assign (.Name x pos) X.env :: (assignEach ts X.env).map (·.2) := by rfl) : PGs X (.Name x pos :: ts) (gNames (i :: is)) := pgs_cons (pg_name hN hi hx hf) h hs
end
theorem eqv_nil (ds : List Dt) : PyData.eqv (Dt.lst ds).py (Dt.lst []).py = ds.isEmpty := by
  cases ds with
  | nil => rfl
  | cons d ds => rfl
theorem enum_at {ts : List Turn} {i : Nat} {d : Dt} (h : ((ts.map dTurn).mapIdx fun i d => Dt.tup [.int (i : Nat), d])[i]? = some d) : ∃ t, ts[i]? = some t ∧ d = .tup [.int (i : Nat), dTurn t] := by
  rw [List.getElem?_mapIdx, List.getElem?_map] at h
  cases e : ts[i]? with
  | none => rw [e] at h; cases h
  | some t =>
    rw [e] at h
    exact ⟨t, rfl, (Option.some.inj h).symm⟩
theorem brk_len {p : Pal} {ts : List Turn} {hour warm : Int} : (brokenF p ts hour warm).ended.length ≤ ts.length ∧ (brokenF p ts hour warm).behind.length ≤ ts.length ∧ (brokenF p ts hour warm).moved.length ≤ ts.length := by
  refine ⟨List.length_filter_le _ _, ?_, ?_⟩
  · show (laterTurns p _ _).length ≤ _
    rw [later_len2, List.length_drop]
    omega
  · show (movedFrom _ _ _).length ≤ _
    unfold movedFrom
    rw [List.length_map]
    refine Nat.le_trans (List.length_filter_le _ _) ?_
    rw [List.length_zipIdx, List.length_zip, List.length_drop]
    omega
theorem brk_cols {p : Pal} {ts : List Turn} {hour warm : Int} {u : Turn} (h : u ∈ (brokenF p ts hour warm).behind) : ∃ t ∈ ts, u.col = t.col := by
  obtain ⟨t, ht, e⟩ := later_cols p _ _ u h
  exact ⟨t, List.mem_of_mem_drop ht, e⟩
abbrev nLawBroken : List Str := ["_law_palette_here", "_law_turns", "_law_hour", "_law_warm", "_law_ended", "_law_lost", "_law_behind", "_law_moved", "_law_free", "_law_number", "_law_at", "_law_colour", "_law_begin", "_law_end", "_law_charge", "_law_melt", "_law_fill", "_law_work"]
theorem c_law_broken (T : Txt K mg) : Cal P w K mg base 2 "_law_broken" (spP (fun a : Pal × List Turn × Int × Int => [dPal a.1, dTurns a.2.1, .int a.2.2.1, .int a.2.2.2]) (fun a => PalOk a.1 ∧ FL a.1 a.2.1 ∧ a.2.1.length ≤ 900 ∧ ∀ t ∈ a.2.1, PyData.strOk t.col = true) fun a d => d = (fun a : Pal × List Turn × Int × Int => dBrk (brokenF a.1 a.2.1 a.2.2.1 a.2.2.2)) a) [] := by
  refine T.d_law_broken.pure (N := nLawBroken) ⟨rfl, rfl, rfl, by decide +kernel, rfl, by decide +kernel, by decide +kernel⟩ (fun _ => rfl) ?_
  rintro f cdv A outer s H E hr Γ ⟨p, ts, hour, warm⟩ hB ⟨ok, fl, hl, hs⟩
  have nd : nLawBroken.Nodup := by decide +kernel
  dsimp only at ok fl hl hs ⊢
  refine s_cons <| s_parG [4, 5, 6, 7, 8] (ao_new fun q4 => ao_v <| w_non <| ao_new fun q6 => ao_new fun q7 => ao_v <| w_bin <| w_var 2 rfl <| w_var 3 rfl <| oc_add <| ao_nil <| ⟨⟨⟨_, rfl, rfl⟩, ⟨_, rfl, rfl⟩, ⟨_, rfl, rfl⟩, ⟨_, rfl, rfl⟩, ⟨_, rfl, rfl⟩, trivial⟩, SK.norm (by walk_at "nrm") ?_⟩) (gn_cons 4 <| gn_cons 5 <| gn_cons 6 <| gn_cons 7 <| gn_cons 8 <| gn_nil)
  refine s_cons <| s_for <| i_enum T.b_enumerate <| w_var 1 rfl <| ex rfl <| ⟨fun i δ => ∃ fr z9 z10 z11 z12 z13 z14 z15 z16 z17, δ = [.v (dPal p), .v (dTurns ts), .v (.int hour), .v (.int warm), .own q4 ((brokenF p (ts.take i) hour warm).ended.map dTurn), .v (dOpt (brokenF p (ts.take i) hour warm).lost), .own q6 ((brokenF p (ts.take i) hour warm).behind.map dTurn), .own q7 ((brokenF p (ts.take i) hour warm).moved.map Dt.int), .v (.int fr), z9, z10, z11, z12, z13, z14, z15, z16, z17] ∧
      z9.adr = [] ∧ z10.adr = [] ∧ z11.adr = [] ∧ z12.adr = [] ∧ z13.adr = [] ∧ z14.adr = [] ∧ z15.adr = [] ∧ z16.adr = [] ∧ z17.adr = [] ∧ ((brokenF p (ts.take i) hour warm).behind = [] → fr = hour + warm), ?_, fun Γ i d δ hd hI => ?_, fun δ hI => ?_⟩
  · exact ⟨_, _, _, _, _, _, _, _, _, _, rfl, rfl, rfl, rfl, rfl, rfl, rfl, rfl, rfl, rfl, fun _ => rfl⟩
  · obtain ⟨fr, z9, z10, z11, z12, z13, z14, z15, z16, z17, rfl, a9, a10, a11, a12, a13, a14, a15, a16, a17, hfr⟩ := hI
    obtain ⟨t, hc, rfl⟩ := enum_at hd
    have hlt : i < ts.length := (List.getElem?_eq_some_iff.mp hc).1
    have hm := List.mem_of_getElem? hc
    have ht : ts.take (i + 1) = ts.take i ++ [t] := by rw [List.take_add_one, hc]; rfl
    have flt : FL p (ts.take i ++ [t]) := by rw [← ht]; exact fl.take _
    have til : (ts.take i).length = i := by rw [List.length_take]; omega
    have hcol := (fl.ok t hm).2.2.2.2
    have hso := hs t hm
    obtain ⟨l1, l2, l3⟩ := brk_len (p := p) (ts := ts.take i) (hour := hour) (warm := warm)
    rw [til] at l1 l2 l3
    refine g_tup <| gs_cons <| g_name (e := z9) (he := a9) 9 <| gs_cons <| g_tup <| gs_cons <| g_name (e := z10) (he := a10) 10 <| gs_cons <| g_name (e := z11) (he := a11) 11 <| gs_cons <| g_name (e := z12) (he := a12) 12 <| gs_cons <| g_name (e := z13) (he := a13) 13 <| gs_nil <| gs_nil <| SK.norm (by walk_at "nrm") ?_
    refine s_cons <| s_asg <| w_callF (c_law_hours T) hr (by decide) <| a_cons <| w_var 0 rfl <| a_cons <| w_var 11 rfl <| a_nil <| Exists.intro (p, t.col) <| And.intro rfl <| And.intro ⟨hcol, ok.cl⟩ <| g_tup <| gs_cons <| g_name (e := z14) (he := a14) 14 <| gs_cons <| g_name (e := z15) (he := a15) 15 <| gs_nil <| SK.norm (by walk_at "nrm") ?_
    refine s_one <| s_if <| t_cmp <| w_var 13 rfl <| w_var 2 rfl <| oc_le <| KT.mk <| br (fun h => ?_) (fun h => ?_)
    · have h := of_decide_eq_true h
      obtain ⟨e1, e2⟩ := brk_ended (warm := warm) flt h
      refine s_one <| s_app 4 <| w_ix <| w_var 1 rfl <| w_var 9 rfl <| xc_lst (atI_map hc) <| ⟨_, _, rfl, by rw [List.length_map]; omega, fr, .v (.int (i : Nat)), .v (.int t.at_), .v (.str t.col), .v (.int t.bgn), .v (.int t.fin), .v (.int (p.charge t.col)), .v (.int (p.melt t.col)), z16, z17, ?_, rfl, rfl, rfl, rfl, rfl, rfl, rfl, a16, a17, fun _ => hfr e2⟩
      rw [ht, e1, List.map_append]
      rfl
    · have h := of_decide_eq_false h
      refine s_one <| s_if <| t_cmp <| w_var 10 rfl <| w_var 2 rfl <| oc_le <| KT.mk <| br (fun h2 => ?_) (fun h2 => ?_)
      · have h2 := of_decide_eq_true h2
        obtain ⟨e1, e2⟩ := brk_lost (warm := warm) flt (Int.lt_of_not_ge h) h2
        refine s_one <| s_set 5 <| w_var 9 rfl <| And.intro ⟨_, rfl, rfl⟩ ⟨fr, .v (.int (i : Nat)), .v (.int t.at_), .v (.str t.col), .v (.int t.bgn), .v (.int t.fin), .v (.int (p.charge t.col)), .v (.int (p.melt t.col)), z16, z17, ?_, rfl, rfl, rfl, rfl, rfl, rfl, rfl, a16, a17, fun _ => hfr e2⟩
        rw [ht, e1, til]
        rfl
      · have h2 := of_decide_eq_false h2
        obtain ⟨ff, f1, f2, f3⟩ := brk_later (warm := warm) flt (Int.lt_of_not_ge h2)
        have sob : ∀ u ∈ (brokenF p (ts.take i) hour warm).behind, PyData.strOk u.col = true := fun u hu => by
          obtain ⟨v, hv, e⟩ := brk_cols hu
          rw [e]
          exact hs v (List.mem_of_mem_take hv)
        refine s_cons <| s_if <| t_neO 6 hr.units rfl (by show plains _ = true; exact plains_turns _) (shaped_turns sob (by omega)) <| w_lst <| a_nil <| And.intro (by simp) <| ⟨rfl, by decide +kernel, rfl, ?_⟩
        rw [eqv_nil, List.isEmpty_map]
        rcases List.eq_nil_or_concat (brokenF p (ts.take i) hour warm).behind with eb | ⟨m, u, eb⟩
        case' inl =>
          rw [eb]
          have efr : ff = fr := (f1 eb).trans (hfr eb).symm
          subst efr
          refine brF <| s_nil ?_
        case' inr =>
          rw [List.concat_eq_append] at eb
          rw [eb]
          have hub : u ∈ (brokenF p (ts.take i) hour warm).behind := by rw [eb]; simp
          rw [show (m ++ [u]).isEmpty = false by cases m <;> rfl]
          refine brT <| s_one <| s_set 8 <| w_bin <| w_ix <| w_ixO 6 rfl <| w_un <| w_int <| uc_neg <| ⟨_, _, -1, _, rfl, rfl, by rw [List.map_append]; exact atI_last, ?_⟩
          refine w_int <| xc_tup rfl <| w_callF (c_law_wash T) hr (by decide) <| a_cons <| w_var 0 rfl <| a_cons <| w_ix <| w_ixO 6 rfl <| w_un <| w_int <| uc_neg <| ⟨_, _, -1, _, rfl, rfl, by rw [List.map_append]; exact atI_last, ?_⟩
          refine w_int <| xc_tup rfl <| a_cons <| w_var 11 rfl <| a_nil <| Exists.intro (p, u.col, t.col) <| And.intro rfl <| And.intro ⟨ok, sob u hub, hso⟩ <| oc_add <| And.intro ⟨_, rfl, rfl⟩ (SK.norm (by walk_at "nrm") ?_)
          rw [← f2 m u eb, ← eb]
        all_goals
          refine SK.norm (δ' := [.v (dPal p), .v (dTurns ts), .v (.int hour), .v (.int warm), .own q4 ((brokenF p (ts.take i) hour warm).ended.map dTurn), .v (dOpt (brokenF p (ts.take i) hour warm).lost), .own q6 ((brokenF p (ts.take i) hour warm).behind.map dTurn), .own q7 ((brokenF p (ts.take i) hour warm).moved.map Dt.int), .v (.int ff), .v (.int (i : Nat)), .v (.int t.at_), .v (.str t.col), .v (.int t.bgn), .v (.int t.fin), .v (.int (p.charge t.col)), .v (.int (p.melt t.col)), z16, z17]) (by first | rfl | (rw [eb]; done) | (rw [eb]; rfl)) ?_
          refine s_cons <| s_set 16 <| w_callB (id := "max") T.b_max (by decide +kernel) <| a_cons <| w_var 10 rfl <| a_cons <| w_var 8 rfl <| a_nil <| cc_max2 <| And.intro ⟨_, rfl, a16⟩ (SK.norm (by walk_at "nrm") ?_)
          refine s_cons <| s_set 17 <| w_callB (id := "max") T.b_max (by decide +kernel) <| a_cons <| w_var 12 rfl <| a_cons <| w_bin <| w_bin <| w_var 16 rfl <| w_var 14 rfl <| oc_add <| w_var 15 rfl <| oc_add <| a_nil <| cc_max2 <| And.intro ⟨_, rfl, a17⟩ (SK.norm (by walk_at "nrm") ?_)
          refine s_cons <| s_app 6 <| w_tup <| a_cons <| w_var 16 rfl <| a_cons <| w_var 11 rfl <| a_cons <| w_var 17 rfl <| a_cons <| w_bin <| w_bin <| w_var 17 rfl <| w_var 13 rfl <| oc_add <| w_var 12 rfl <| oc_sub <| a_nil <| And.intro (by simp) <| ⟨_, _, rfl, by rw [List.length_map]; omega, SK.norm (by walk_at "nrm") ?_⟩
          refine s_one <| s_if <| t_cmp <| w_ixO 6 rfl <| w_un <| w_int <| uc_neg <| ⟨_, _, -1, _, rfl, rfl, atI_last, ?_⟩
          refine w_ix <| w_var 1 rfl <| w_var 9 rfl <| xc_lst (atI_map hc) <| oc_neD hr.units rfl rfl (shaped_turn (t := movedTurn p t ff) hso) (shaped_turn hso) <| KT.mk <| br (fun h3 => ?_) (fun h3 => ?_)
          · have h3 : (!PyData.eqv (dTurn (movedTurn p t ff)).py (dTurn t).py) = true := h3
            rw [eqv_turn, Bool.not_eq_true', decide_eq_false_iff_not] at h3
            rw [if_neg (fun z => h3 z.symm), til] at f3
            refine s_one <| s_app 7 <| w_var 9 rfl <| ⟨_, _, rfl, by rw [List.length_map]; omega, ff, .v (.int (i : Nat)), .v (.int t.at_), .v (.str t.col), .v (.int t.bgn), .v (.int t.fin), .v (.int (p.charge t.col)), .v (.int (p.melt t.col)), .v (.int (movedTurn p t ff).at_), .v (.int (movedTurn p t ff).bgn), ?_, rfl, rfl, rfl, rfl, rfl, rfl, rfl, rfl, rfl, fun z => ?_⟩
            · rw [ht, f3, List.map_append, List.map_append]
              rfl
            · rw [ht, f3] at z
              exact absurd z (by simp)
          · have h3 : (!PyData.eqv (dTurn (movedTurn p t ff)).py (dTurn t).py) = false := h3
            rw [eqv_turn, Bool.not_eq_false', decide_eq_true_iff] at h3
            rw [if_pos h3.symm, List.append_nil] at f3
            refine s_nil ⟨ff, .v (.int (i : Nat)), .v (.int t.at_), .v (.str t.col), .v (.int t.bgn), .v (.int t.fin), .v (.int (p.charge t.col)), .v (.int (p.melt t.col)), .v (.int (movedTurn p t ff).at_), .v (.int (movedTurn p t ff).bgn), ?_, rfl, rfl, rfl, rfl, rfl, rfl, rfl, rfl, rfl, fun z => ?_⟩
            · rw [ht, f3, List.map_append]
              rfl
            · rw [ht, f3] at z
              exact absurd z (by simp)
  · obtain ⟨fr, z9, z10, z11, z12, z13, z14, z15, z16, z17, rfl, a9, a10, a11, a12, a13, a14, a15, a16, a17, hfr⟩ := hI
    rw [List.length_mapIdx, List.length_map, List.take_length]
    refine s_freeze 4 rfl (by rw [hB]; intro q h; cases h) <| SK.norm (by walk_at "nrm") ?_
    refine s_freeze 6 rfl (by rw [hB]; intro q h; cases h) <| SK.norm (by walk_at "nrm") ?_
    refine s_freeze 7 rfl (by rw [hB]; intro q h; cases h) <| SK.norm (by walk_at "nrm") ?_
    exact s_one <| s_ret <| w_tup <| a_cons <| w_var 4 rfl <| a_cons <| w_var 5 rfl <| a_cons <| w_var 6 rfl <| a_cons <| w_var 7 rfl <| a_nil <| And.intro (by simp) <| rfl
end
end Pr

end Text_D23
section Text_D24
set_option maxHeartbeats 4000000
namespace Pr
open PySem PySem.Spec PyProof.Rows L2
open C8 (Cal Mak Met pe_c pe_mk pe_mt pe_mt0)
local macro_rules | `(tactic| walk_at "nrm") => `(tactic| (simp only [args, setAll, List.set_cons_zero, List.set_cons_succ, List.map_cons, List.map_nil, List.length_cons, List.length_nil, List.replicate_succ, List.replicate_zero, List.cons_append, List.nil_append, Nat.reduceAdd, Nat.reduceSub]; try rfl))
section
variable {P : Program} {w : World} {K : PySem.W.Frag} {mg : Str → Option Value} {base : Heap}
/-! ## a draw -/
theorem pow5 (i : Int) : i ^ (5 : Int).toNat = i ^ 5 := rfl
abbrev nLawTake : List Str := ["_law_box_here", "_law_many", "_law_found", "_law_once"]
theorem c_law_take (T : Txt K mg) : Cal P w K mg base 1 "_law_take" (spB (fun a : Int => [.int a]) 1 (fun a => 1 ≤ a ∧ a ≤ 100000) fun a d => ∃ r : Int, d = .int r ∧ 0 ≤ r ∧ r < a) [] := by
  refine T.d_law_take.boxed (N := nLawTake) ⟨rfl, rfl, rfl, by decide +kernel, rfl, by decide +kernel, by decide +kernel⟩ (fun _ => rfl) ?_
  rintro f cdv A outer s H E hr Γ p n m hB hn ⟨h1, h2⟩
  have nd : nLawTake.Nodup := by decide +kernel
  refine SK.norm (δ' := [.box p n, .v (.int m), .any, .any]) rfl ?_
  refine s_open 0 rfl fun a b c ha hb hb2 hc hc2 => SK.norm (δ' := [.own p [.int a, .int b, .int c], .v (.int m), .any, .any]) rfl ?_
  refine s_cons <| s_if <| t_cmp <| w_ixO 0 rfl <| w_int <| ⟨_, _, 0, _, rfl, rfl, rfl, ?_⟩
  refine w_int <| oc_gt <| KT.mk <| br (fun h => ?_) (fun h => s_nil ?_)
  · refine s_cons <| s_set 2 <| w_bin <| w_ixO 0 rfl <| w_int <| ⟨_, _, 0, _, rfl, rfl, rfl, ?_⟩
    refine w_var 1 rfl <| oc_mod (by omega) <| And.intro ⟨_, rfl, rfl⟩ (SK.norm (by walk_at "nrm") ?_)
    refine s_cons <| s_putO 0 <| w_bin <| w_ixO 0 rfl <| w_int <| ⟨_, _, 0, _, rfl, rfl, rfl, ?_⟩
    refine w_var 1 rfl <| oc_fdiv ⟨by omega, by omega⟩ <| ⟨_, _, rfl, w_int <| ⟨_, 0, 0, rfl, rfl, rfl, SK.norm (by walk_at "nrm") ?_⟩⟩
    refine s_one <| s_retBox 0 <| w_var 2 rfl <| ⟨p, a.fdiv m, b, c, n, rfl, ⟨?_, hb, hb2, hc, hc2⟩, ⟨n, by omega, rfl⟩, _, rfl, ?_, ?_⟩
    · exact Int.fdiv_nonneg ha (by omega)
    · exact Int.emod_nonneg _ (by omega)
    · exact Int.emod_lt_of_pos _ (by omega)
  · have hcn : c ≤ 1000000 := by omega
    refine s_cons <| s_putO 0 <| w_bin <| w_ixO 0 rfl <| w_int <| ⟨_, _, 2, _, rfl, rfl, rfl, ?_⟩
    refine w_int <| oc_add <| ⟨_, _, rfl, w_int <| ⟨_, 2, 2, rfl, rfl, rfl, SK.norm (by walk_at "nrm") ?_⟩⟩
    refine s_cons <| s_set 3 <| w_bin <| w_bin <| w_bin <| w_ixO 0 rfl <| w_int <| ⟨_, _, 1, _, rfl, rfl, rfl, ?_⟩
    refine w_bin <| w_int <| w_ixO 0 rfl <| w_int <| ⟨_, _, 2, _, rfl, rfl, rfl, ?_⟩
    refine oc_mul (.inl (by decide)) <| oc_add <| w_int <| oc_pow ⟨by decide, by decide, ?_⟩ <| w_int <| oc_mod (by decide) <| And.intro ⟨_, rfl, rfl⟩ (SK.norm (by walk_at "nrm") ?_)
    · omega
    have o1 : 0 ≤ (b + 39373 * (c + 1)) ^ (5 : Int).toNat % 2147483647 := Int.emod_nonneg _ (by decide)
    have o2 : (b + 39373 * (c + 1)) ^ (5 : Int).toNat % 2147483647 < 2147483647 := Int.emod_lt_of_pos _ (by decide)
    generalize (b + 39373 * (c + 1)) ^ (5 : Int).toNat % 2147483647 = once at o1 o2 ⊢
    refine s_one <| s_retBox 0 <| w_bin <| w_bin <| w_bin <| w_bin <| w_bin <| w_var 3 rfl <| w_bin <| w_bin <| w_var 3 rfl <| w_int <| oc_mod (by decide) <| w_int <| oc_add <| oc_mul (.inl ⟨by omega, by omega⟩) <| w_bin <| w_ixO 0 rfl <| w_int <| ⟨_, _, 2, _, rfl, rfl, rfl, ?_⟩
    refine w_int <| oc_mul (.inr (by decide)) <| oc_add <| w_int <| oc_mod (by decide) <| w_int <| oc_fdiv ⟨by decide, by decide⟩ <| w_var 1 rfl <| oc_mod (by omega) <| ⟨p, a, b, c + 1, n + 1, rfl, ⟨ha, hb, hb2, by omega, by omega⟩, ⟨n + 1, by omega, rfl⟩, _, rfl, ?_, ?_⟩
    · exact Int.emod_nonneg _ (by omega)
    · exact Int.emod_lt_of_pos _ (by omega)
end
end Pr

end Text_D24
section Text_D25
set_option maxHeartbeats 4000000
namespace Pr
open PySem PySem.Spec PyProof.Rows L2
open C8 (Cal Mak Met pe_c pe_mk pe_mt pe_mt0)
local macro_rules | `(tactic| walk_at "nrm") => `(tactic| (simp only [args, setAll, List.set_cons_zero, List.set_cons_succ, List.map_cons, List.map_nil, List.length_cons, List.length_nil, List.replicate_succ, List.replicate_zero, List.cons_append, List.nil_append, Nat.reduceAdd, Nat.reduceSub]; try rfl))
section
variable {P : Program} {w : World} {K : PySem.W.Frag} {mg : Str → Option Value} {base : Heap}
/-! ## names drawn -/
theorem atI_rep_map {α β : Type} {f : α → β} {xs : List α} {r : Int} {x : α} (h : atI xs r = some x) : atI (xs.map f) r = some (f x) := by
  unfold atI at h ⊢
  rw [List.length_map]
  cases e : ixN xs.length r with
  | none => rw [e] at h; cases h
  | some j =>
    rw [e] at h
    show (xs.map f)[j]? = _
    rw [List.getElem?_map, show xs[j]? = some x from h]
    rfl
theorem sum_le {ys : List Str} {k : Nat} (h : ∀ y ∈ ys, y.length ≤ k) : (ys.map (·.length)).sum ≤ ys.length * k := by
  induction ys with
  | nil => exact Nat.zero_le _
  | cons y ys ih =>
    have a := h y (List.mem_cons_self ..)
    have b := ih fun z hz => h z (List.mem_cons_of_mem _ hz)
    rw [List.map_cons, List.sum_cons, List.length_cons, Nat.succ_mul]
    omega
theorem rng_lt {n i : Nat} {d : Dt} (h : ((List.range n).map fun i => Dt.int (i : Nat))[i]? = some d) : i < n ∧ d = .int (i : Nat) := by
  have hlt : i < n := by
    have := (List.getElem?_eq_some_iff.mp h).1
    simpa using this
  refine ⟨hlt, ?_⟩
  rw [List.getElem?_map, List.getElem?_range hlt] at h
  exact (Option.some.inj h).symm
theorem map_str_app (ys : List Str) (x : Str) : (ys ++ [x]).map Dt.str = ys.map Dt.str ++ [.str x] := by rw [List.map_append]; rfl
theorem cut_w (f m : Nat) : cutD (cutD (wds.map Dt.str ++ wds.map Dt.str) (some (f : Int)) none) none (some (m : Int)) = (wd3 f m).map Dt.str := by
  rw [cut_from (Int.natCast_nonneg _), cut_to (Int.natCast_nonneg _), Int.toNat_natCast, Int.toNat_natCast, ← List.map_append, ← List.map_drop, ← List.map_take]
  rfl
abbrev nLawNames : List Str := ["_law_box_here", "_law_many", "_law_letters", "_law_first", "_law_way", "_law_step", "_law_words", "_law_k", "_law_head", "_law_turn", "_law_tail", "_law_longer", "_law_found", "_law_value", "_law_name"]
def Names (m : Nat) (d : Dt) : Prop := ∃ xs : List Str, d = .lst (xs.map Dt.str) ∧ xs.length = m ∧ xs.Nodup ∧ ∀ x ∈ xs, Lw x 8
theorem c_law_names (T : Txt K mg) : Cal P w K mg base 2 "_law_names" (spB (fun a : Nat => [.int a]) 11 (fun a => 1 ≤ a ∧ a ≤ 3) Names) [] := by
  refine T.d_law_names.boxed (N := nLawNames) ⟨rfl, rfl, rfl, by decide +kernel, rfl, by decide +kernel, by decide +kernel⟩ (fun _ => rfl) ?_
  rintro f cdv A outer s H E hr Γ p n many hB hn ⟨h1, h2⟩
  have nd : nLawNames.Nodup := by decide +kernel
  refine SK.norm (δ' := [.box p n, .v (.int many), .any, .any, .any, .any, .any, .any, .any, .any, .any, .any, .any, .any, .any]) rfl ?_
  refine s_cons <| s_parG [2, 3, 4] (hg := gn_cons 2 <| gn_cons 3 <| gn_cons 4 <| gn_nil) <| ao_v <| w_str <| ao_v <| w_cB 0 (c_law_take T) hr (by decide) <| a_cons <| w_int <| a_nil <| ⟨p, n, 676, rfl, by omega, rfl, ⟨by decide, by decide⟩, ?_⟩
  rintro _ ⟨first, rfl, f1, f2⟩
  refine ao_v <| w_cB 0 (c_law_take T) hr (by decide) <| a_cons <| w_int <| a_nil <| ⟨p, n + 1, 5, rfl, by omega, rfl, ⟨by decide, by decide⟩, ?_⟩
  rintro _ ⟨way, rfl, w1, w2⟩
  refine ao_nil <| ⟨⟨⟨_, rfl, rfl⟩, ⟨_, rfl, rfl⟩, ⟨_, rfl, rfl⟩, trivial⟩, SK.norm (δ' := [.box p (n + 2), .v (.int many), .v (.str abc), .v (.int first), .v (.int way), .any, .any, .any, .any, .any, .any, .any, .any, .any, .any]) rfl ?_⟩
  refine s_cons <| s_set 5 <| w_ix <| w_lst <| a_cons <| w_int <| a_cons <| w_int <| a_cons <| w_int <| a_cons <| w_int <| a_cons <| w_int <| a_cons <| w_int <| a_nil <| And.intro (by simp) <| w_cB 0 (c_law_take T) hr (by decide) <| a_cons <| w_int <| a_nil <| ⟨p, n + 2, 6, rfl, by omega, rfl, ⟨by decide, by decide⟩, ?_⟩
  rintro _ ⟨r, rfl, r1, r2⟩
  obtain ⟨step, hs0, hs1⟩ := pick [(1 : Int), 3, 5, 7, 25, 675] r1 r2
  have hs : StepOk step := by simpa [StepOk] using hs0
  refine xc_lst (d := .int step) (by
    have := atI_rep_map (f := Dt.int) hs1
    exact this) <| And.intro ⟨_, rfl, rfl⟩ (SK.norm (δ' := [.box p (n + 3), .v (.int many), .v (.str abc), .v (.int first), .v (.int way), .v (.int step), .any, .any, .any, .any, .any, .any, .any, .any, .any]) rfl ?_)
  refine s_cons <| s_if <| t_cmp <| w_var 4 rfl <| w_int <| oc_eqI <| KT.mk <| br (fun h => ?_) (fun h => s_nil ?_)
  · refine s_cons <| s_set 6 <| w_split <| w_str <| ⟨_, rfl, w_str <| ⟨_, rfl, by decide +kernel, by decide +kernel, And.intro ⟨_, rfl, rfl⟩ (SK.norm (δ' := [.box p (n + 3), .v (.int many), .v (.str abc), .v (.int first), .v (.int way), .v (.int step), .v (.lst (wds.map Dt.str)), .any, .any, .any, .any, .any, .any, .any, .any]) rfl ?_)⟩⟩
    have hf : (0 : Int) ≤ first % 12 ∧ first % 12 < 12 := ⟨Int.emod_nonneg _ (by decide), Int.emod_lt_of_pos _ (by decide)⟩
    refine s_one <| s_ret <| w_slice <| w_slice <| w_bin <| w_var 6 rfl <| w_var 6 rfl <| oc_cat (by rw [List.length_map, wds_len]; decide) <| o_some <| w_bin <| w_var 3 rfl <| w_int <| oc_mod (by decide) <| ex rfl <| o_none <| sc_lst <| o_none <| o_some <| w_var 1 rfl <| ex rfl <| sc_lst <| ⟨⟨n + 3, by omega, rfl⟩, ?_⟩
    have e : first % 12 = ((first % 12).toNat : Int) := (Int.toNat_of_nonneg hf.1).symm
    rw [e, cut_w]
    obtain ⟨k1, k2, k3⟩ := wd3_ok (f := (first % 12).toNat) (m := many) (by omega) h2
    exact ⟨_, rfl, k2, k1, k3⟩
  refine s_cons <| s_if <| t_cmp <| w_var 4 rfl <| w_int <| oc_eqI <| KT.mk <| br (fun h => ?_) (fun h => s_nil ?_)
  · refine s_one <| s_ret <| w_lc (own := [("_law_k", 7)]) <| i_rng1 T.b_range <| w_var 1 rfl <| ⟨many, rfl, by omega, ?_⟩
    refine lc_map (List.range many) (fun k => .int (k : Nat)) (fun _ => true) (fun k => .str (nm1 first step k)) rfl (by rw [List.length_range]; omega) (lvC lvN) (fun k hk _ _ _ _ _ => g_name 7 <| fun _ _ _ _ _ => ts_nil <| And.intro rfl <| brT <| fun _ _ _ _ _ => w_ix <| w_var 2 rfl <| w_bin <| w_bin <| w_var 3 rfl <| w_bin <| w_var 5 rfl <| w_var 7 rfl <| oc_mul (.inr ⟨by omega, by have := List.mem_range.mp hk; omega⟩) <| oc_add <| w_int <| oc_mod (by decide) <| xc_str (by rw [abc_len]; decide) (abc_at (Int.emod_nonneg _ (by decide)) (Int.emod_lt_of_pos _ (by decide))) <| ⟨rfl, rfl⟩) <| ⟨⟨n + 3, by omega, rfl⟩, (List.range many).map (nm1 first step), ?_, by rw [List.length_map, List.length_range], nm1_nodup hs h2, fun x hx => ?_⟩
    · rw [fT, List.map_map]
      rfl
    · obtain ⟨k, _, rfl⟩ := List.mem_map.mp hx
      exact (nm1_lw first step k).mono (by decide)
  -- heads and tails
  refine s_cons <| s_set 8 <| w_join <| w_str <| ⟨_, rfl, w_lc (own := [("_law_turn", 9)]) <| i_rng1 T.b_range <| w_cB 0 (c_law_take T) hr (by decide) <| a_cons <| w_int <| a_nil <| ⟨p, n + 3, 4, rfl, by omega, rfl, ⟨by decide, by decide⟩, ?_⟩⟩
  rintro _ ⟨r, rfl, r1, r2⟩
  refine ⟨r.toNat, by rw [Int.toNat_of_nonneg r1], by omega, by rw [List.length_map, List.length_range]; omega, lvC lvN, fun i δ acc => ∃ (ys : List Str) (m : Nat), acc = ys.map Dt.str ∧ ys.length = i ∧ (∀ y ∈ ys, Lw y 1) ∧ m ≤ n + 4 + i ∧ δ = [.box p m, .v (.int many), .v (.str abc), .v (.int first), .v (.int way), .v (.int step), .any, .any, .any, .any, .any, .any, .any, .any, .any], ⟨[], n + 4, rfl, rfl, (fun y hy => by cases hy), by omega, rfl⟩, fun i d δ2 acc hd hI => ?_, fun δ2 acc hI => ?_⟩
  · obtain ⟨ys, m, rfl, hl, hy, hm, rfl⟩ := hI
    obtain ⟨hi, rfl⟩ := rng_lt hd
    refine fun _ _ _ _ _ => g_name 9 <| fun _ _ _ _ _ => ts_nil <| brT <| fun _ _ _ _ _ => w_ix <| w_var 2 rfl <| w_cB 0 (c_law_take T) hr (by decide) <| a_cons <| w_int <| a_nil <| ⟨p, m, 26, rfl, by omega, rfl, ⟨by decide, by decide⟩, ?_⟩
    rintro _ ⟨z, rfl, z1, z2⟩
    refine xc_str (by rw [abc_len]; decide) (abc_at z1 z2) ⟨ys ++ [ltr z], m + 1, (map_str_app _ _).symm, by rw [List.length_append, hl]; rfl, fun y hy' => ?_, by omega, rfl⟩
    rcases List.mem_append.mp hy' with q | q
    · exact hy y q
    · rw [List.mem_singleton.mp q]
      exact Lw.ltr z1 z2
  obtain ⟨ys, m, rfl, hl, hy, hm, rfl⟩ := hI
  rw [List.length_map, List.length_range] at hl hm
  have lwh := Lw.join hy
  rw [hl] at lwh
  have lwh := lwh.mono (show r.toNat ≤ 3 by omega)
  refine ⟨ys, rfl, ?_, And.intro ⟨_, rfl, rfl⟩ ?_⟩
  · have : (ys.map (·.length)).sum ≤ ys.length * 1 := sum_le fun y hy' => (hy y hy').2
    show _ + _ * 0 ≤ _
    omega
  refine SK.norm (δ' := [.box p m, .v (.int many), .v (.str abc), .v (.int first), .v (.int way), .v (.int step), .any, .any, .v (.str (Txt.join Str.empty ys)), .any, .any, .any, .any, .any, .any]) rfl ?_
  generalize Txt.join Str.empty ys = hd0 at lwh ⊢
  refine s_cons <| s_set 10 <| w_join <| w_str <| ⟨_, rfl, w_lc (own := [("_law_turn", 9)]) <| i_rng1 T.b_range <| w_cB 0 (c_law_take T) hr (by decide) <| a_cons <| w_int <| a_nil <| ⟨p, m, 3, rfl, by omega, rfl, ⟨by decide, by decide⟩, ?_⟩⟩
  rintro _ ⟨q, rfl, q1, q2⟩
  refine ⟨q.toNat, by rw [Int.toNat_of_nonneg q1], by omega, by rw [List.length_map, List.length_range]; omega, lvC lvN, fun i δ acc => ∃ (ys : List Str) (m2 : Nat), acc = ys.map Dt.str ∧ ys.length = i ∧ (∀ y ∈ ys, Lw y 1) ∧ m2 ≤ m + 1 + i ∧ δ = [.box p m2, .v (.int many), .v (.str abc), .v (.int first), .v (.int way), .v (.int step), .any, .any, .v (.str hd0), .any, .any, .any, .any, .any, .any], ⟨[], m + 1, rfl, rfl, (fun y hy => by cases hy), by omega, rfl⟩, fun i d δ2 acc hd hI => ?_, fun δ2 acc hI => ?_⟩
  · obtain ⟨ys, m2, rfl, hl, hy, hm2, rfl⟩ := hI
    obtain ⟨hi, rfl⟩ := rng_lt hd
    refine fun _ _ _ _ _ => g_name 9 <| fun _ _ _ _ _ => ts_nil <| brT <| fun _ _ _ _ _ => w_ix <| w_var 2 rfl <| w_cB 0 (c_law_take T) hr (by decide) <| a_cons <| w_int <| a_nil <| ⟨p, m2, 26, rfl, by omega, rfl, ⟨by decide, by decide⟩, ?_⟩
    rintro _ ⟨z, rfl, z1, z2⟩
    refine xc_str (by rw [abc_len]; decide) (abc_at z1 z2) ⟨ys ++ [ltr z], m2 + 1, (map_str_app _ _).symm, by rw [List.length_append, hl]; rfl, fun y hy' => ?_, by omega, rfl⟩
    rcases List.mem_append.mp hy' with q | q
    · exact hy y q
    · rw [List.mem_singleton.mp q]
      exact Lw.ltr z1 z2
  obtain ⟨ys, m2, rfl, hl, hy, hm2, rfl⟩ := hI
  rw [List.length_map, List.length_range] at hl hm2
  have lwt := Lw.join hy
  rw [hl] at lwt
  have lwt := lwt.mono (show q.toNat ≤ 2 by omega)
  refine ⟨ys, rfl, ?_, And.intro ⟨_, rfl, rfl⟩ ?_⟩
  · have : (ys.map (·.length)).sum ≤ ys.length * 1 := sum_le fun y hy' => (hy y hy').2
    show _ + _ * 0 ≤ _
    omega
  refine SK.norm (δ' := [.box p m2, .v (.int many), .v (.str abc), .v (.int first), .v (.int way), .v (.int step), .any, .any, .v (.str hd0), .any, .v (.str (Txt.join Str.empty ys)), .any, .any, .any, .any]) rfl ?_
  generalize Txt.join Str.empty ys = tl0 at lwt ⊢
  refine s_cons <| s_par2 11 12 <| ao_v <| w_cB 0 (c_law_take T) hr (by decide) <| a_cons <| w_int <| a_nil <| ⟨p, m2, 2, rfl, by omega, rfl, ⟨by decide, by decide⟩, ?_⟩
  rintro _ ⟨longer, rfl, l1, l2⟩
  refine ao_new fun q0 => ao_nil <| ⟨⟨⟨_, rfl, rfl⟩, ⟨_, rfl, rfl⟩, trivial⟩, SK.norm (δ' := [.box p (m2 + 1), .v (.int many), .v (.str abc), .v (.int first), .v (.int way), .v (.int step), .any, .any, .v (.str hd0), .any, .v (.str tl0), .v (.int longer), .own q0 [], .any, .any]) rfl ?_⟩
  refine s_cons <| s_for <| i_rng1 T.b_range <| w_var 1 rfl <| ⟨many, rfl, by omega, ⟨fun i δ => ∃ z7 z13 z14, z7.adr = [] ∧ z13.adr = [] ∧ z14.adr = [] ∧ δ = [.box p (m2 + 1), .v (.int many), .v (.str abc), .v (.int first), .v (.int way), .v (.int step), .any, z7, .v (.str hd0), .any, .v (.str tl0), .v (.int longer), .own q0 (((List.range i).map (nms hd0 tl0 first step longer)).map Dt.str), z13, z14], ⟨_, _, _, rfl, rfl, rfl, rfl⟩, fun Γ i d δ hd hI => ?_, fun δ hI => ?_⟩⟩
  · obtain ⟨z7, z13, z14, a7, a13, a14, rfl⟩ := hI
    obtain ⟨hi, rfl⟩ := rng_lt hd
    have v1 : 0 ≤ (first + step * (i : Int)) % 676 := Int.emod_nonneg _ (by decide)
    have v2 : (first + step * (i : Int)) % 676 < 676 := Int.emod_lt_of_pos _ (by decide)
    have ev : ((first + step * (i : Int)) % 676).fdiv 26 = (first + step * (i : Int)) % 676 / 26 := Int.fdiv_eq_ediv_of_nonneg _ (by decide)
    have lreg := nmReg_lw lwh lwt first step i
    have lh := lwh.2
    have lt := lwt.2
    refine g_name (e := z7) (he := a7) 7 <| SK.norm (by walk_at "nrm") ?_
    refine s_cons <| s_set 13 <| w_bin <| w_bin <| w_var 3 rfl <| w_bin <| w_var 5 rfl <| w_var 7 rfl <| oc_mul (.inr ⟨by omega, by omega⟩) <| oc_add <| w_int <| oc_mod (by decide) <| And.intro ⟨_, rfl, a13⟩ (SK.norm (by walk_at "nrm") ?_)
    refine s_cons <| s_set 14 <| w_bin <| w_bin <| w_bin <| w_var 8 rfl <| w_ix <| w_var 2 rfl <| w_bin <| w_var 13 rfl <| w_int <| oc_fdiv ⟨by decide, by decide⟩ <| xc_str (by rw [abc_len]; decide) (abc_at (by omega) (by omega)) <| oc_adds (by show _ + 1 ≤ _; omega) <| w_ix <| w_var 2 rfl <| w_bin <| w_var 13 rfl <| w_int <| oc_mod (by decide) <| xc_str (by rw [abc_len]; decide) (abc_at (by omega) (by omega)) <| oc_adds (by rw [app_len]; show _ + 1 + 1 ≤ _; omega) <| w_var 10 rfl <| oc_adds (by rw [app_len, app_len]; show _ + 1 + 1 + _ ≤ _; omega) <| And.intro ⟨_, rfl, a14⟩ ?_
    refine SK.norm (δ' := [.box p (m2 + 1), .v (.int many), .v (.str abc), .v (.int first), .v (.int way), .v (.int step), .any, .v (.int (i : Nat)), .v (.str hd0), .any, .v (.str tl0), .v (.int longer), .own q0 (((List.range i).map (nms hd0 tl0 first step longer)).map Dt.str), .v (.int ((first + step * (i : Int)) % 676)), .v (.str (nmReg hd0 tl0 first step i))]) rfl ?_
    have app : ((List.range (i + 1)).map (nms hd0 tl0 first step longer)).map Dt.str = ((List.range i).map (nms hd0 tl0 first step longer)).map Dt.str ++ [.str (nms hd0 tl0 first step longer i)] := by
      rw [List.range_succ, List.map_append, List.map_append]
      rfl
    have hlen : (((List.range i).map (nms hd0 tl0 first step longer)).map Dt.str).length < 1000 := by
      rw [List.length_map, List.length_map, List.length_range]
      omega
    refine s_cons <| s_if <| t_w <| p_and <| t_cmp <| w_var 11 rfl <| w_int <| oc_eqI <| KT.mk <| br (fun h3 => p_and1 <| t_cmp <| w_bin <| w_var 7 rfl <| w_int <| oc_mod (by decide) <| w_int <| oc_eqI <| KT.mk <| br (fun h4 => ?_) (fun h4 => s_nil ?_)) (fun h3 => brF <| s_nil ?_)
    · have h3 := of_decide_eq_true h3
      have h4 := of_decide_eq_true h4
      obtain ⟨j, rfl⟩ : ∃ j, i = j + 1 := ⟨i - 1, by omega⟩
      have hj : nms hd0 tl0 first step longer j = nmReg hd0 tl0 first step j := by
        unfold nms
        rw [if_neg (by omega)]
      have lj := (nmReg_lw lwh lwt first step j).2
      have appj : ((List.range (j + 1)).map (nms hd0 tl0 first step longer)).map Dt.str = ((List.range j).map (nms hd0 tl0 first step longer)).map Dt.str ++ [.str (nmReg hd0 tl0 first step j)] := by
        rw [List.range_succ, List.map_append, List.map_append, ← hj]
        rfl
      refine s_one <| s_set 14 <| w_bin <| w_ixO 12 rfl <| w_un <| w_int <| uc_neg <| ⟨_, _, -1, _, rfl, rfl, by rw [appj]; exact atI_last, ?_⟩
      refine w_ix <| w_var 2 rfl <| w_bin <| w_bin <| w_var 3 rfl <| w_var 7 rfl <| oc_add <| w_int <| oc_mod (by decide) <| xc_str (by rw [abc_len]; decide) (abc_at (Int.emod_nonneg _ (by decide)) (Int.emod_lt_of_pos _ (by decide))) <| oc_adds (by show _ + 1 ≤ _; omega) <| And.intro ⟨_, rfl, rfl⟩ (SK.norm (by walk_at "nrm") ?_)
      refine s_one <| s_app 12 <| w_var 14 rfl <| ⟨_, _, rfl, hlen, ⟨.v (.int ((j + 1 : Nat) : Int)), .v (.int ((first + step * ((j + 1 : Nat) : Int)) % 676)), .v (.str (nms hd0 tl0 first step longer (j + 1))), rfl, rfl, rfl, ?_⟩⟩
      have en : nms hd0 tl0 first step longer (j + 1) = nmReg hd0 tl0 first step j ++ ltr ((first + ((j + 1 : Nat) : Int)) % 26) := by
        unfold nms
        rw [if_pos ⟨h3, by omega⟩]
        rfl
      rw [app, en]
      rfl
    all_goals
      have en : nms hd0 tl0 first step longer i = nmReg hd0 tl0 first step i := by
        unfold nms
        rw [if_neg]
        intro z
        first
          | exact absurd z.1 (of_decide_eq_false h3)
          | (have h4 := of_decide_eq_false h4; omega)
      refine s_one <| s_app 12 <| w_var 14 rfl <| ⟨_, _, rfl, hlen, ⟨.v (.int (i : Nat)), .v (.int ((first + step * (i : Int)) % 676)), .v (.str (nmReg hd0 tl0 first step i)), rfl, rfl, rfl, ?_⟩⟩
      rw [app, en]
      rfl
  · obtain ⟨z7, z13, z14, a7, a13, a14, rfl⟩ := hI
    rw [List.length_map, List.length_range]
    refine s_freeze 12 rfl (by rw [hB]; intro q hq; exact ⟨0, _, by decide, rfl, hq⟩) <| SK.norm (by walk_at "nrm") ?_
    refine s_one <| s_ret <| w_var 12 rfl <| ⟨⟨m2 + 1, by omega, rfl⟩, _, rfl, by rw [List.length_map, List.length_range], nms_nodup hs h2, fun x hx => ?_⟩
    obtain ⟨k, _, rfl⟩ := List.mem_map.mp hx
    exact nms_lw lwh lwt first step longer k
end
end Pr

end Text_D25
section Text_D26
set_option maxHeartbeats 4000000
namespace Pr
open PySem PySem.Spec PyProof.Rows L2
open C8 (Cal Mak Met pe_c pe_mk pe_mt pe_mt0)
local macro_rules | `(tactic| walk_at "nrm") => `(tactic| (simp only [args, setAll, List.set_cons_zero, List.set_cons_succ, List.map_cons, List.map_nil, List.length_cons, List.length_nil, List.replicate_succ, List.replicate_zero, List.cons_append, List.nil_append, Nat.reduceAdd, Nat.reduceSub]; try rfl))
section
variable {P : Program} {w : World} {K : PySem.W.Frag} {mg : Str → Option Value} {base : Heap}
/-! ## a palette drawn -/
structure PalG (p : Pal) : Prop where
  c1 : 1 ≤ p.cs.length
  c3 : p.cs.length ≤ 3
  w9 : p.ws.length ≤ 9
  col : ∀ c ∈ p.cs, Lw c.nm 8 ∧ (1 ≤ c.charge ∧ c.charge ≤ 4) ∧ (0 ≤ c.melt ∧ c.melt ≤ 39) ∧ 1 ≤ c.gathers ∧ c.gathers ≤ 9
  wsh : ∀ r ∈ p.ws, Lw r.one 8 ∧ Lw r.other 8 ∧ 0 ≤ r.hours ∧ r.hours ≤ 39
  pw : p.ws.Pairwise fun a b => ¬ (a.one = b.one ∧ a.other = b.other)
theorem few_of_pw {l : List Wsh} {x y : Str} (h : l.Pairwise fun a b => ¬ (a.one = b.one ∧ a.other = b.other)) : (l.filter fun r => decide (r.one = x) && decide (r.other = y)).length ≤ 1 := by
  have h2 := h.filter (fun r => decide (r.one = x) && decide (r.other = y))
  generalize hl : l.filter (fun r => decide (r.one = x) && decide (r.other = y)) = l2 at h2 ⊢
  have hm : ∀ r ∈ l2, r.one = x ∧ r.other = y := fun r hr => by
    rw [← hl] at hr
    have := (List.mem_filter.mp hr).2
    rw [Bool.and_eq_true] at this
    exact ⟨of_decide_eq_true this.1, of_decide_eq_true this.2⟩
  match l2, h2, hm with
  | [], _, _ => exact Nat.zero_le _
  | [a], _, _ => exact Nat.le_refl _
  | a :: b :: r, h2, hm =>
    have ha := hm a (by simp)
    have hb := hm b (by simp)
    exact absurd ⟨ha.1.trans hb.1.symm, ha.2.trans hb.2.symm⟩ ((List.pairwise_cons.mp h2).1 b (by simp))
theorem PalG.ok {p : Pal} (h : PalG p) : PalOk p := by
  have := h.c3
  have := h.w9
  exact ⟨by omega, by omega, fun c hc => (h.col c hc).1.ok, fun r hr => ⟨(h.wsh r hr).1.ok, (h.wsh r hr).2.1.ok⟩, fun a b => few_of_pw h.pw⟩
theorem PalG.has {p : Pal} (h : PalG p) {c : Col} (hc : c ∈ p.cs) : p.has c.nm := by
  unfold Pal.has Pal.row
  rw [List.find?_isSome]
  exact ⟨c, hc, decide_eq_true rfl⟩
theorem PalG.ch {p : Pal} (h : PalG p) {c : Str} (hc : p.has c) : (1 ≤ p.charge c ∧ p.charge c ≤ 4) ∧ (0 ≤ p.melt c ∧ p.melt c ≤ 39) := by
  obtain ⟨_, h2, _⟩ := Pal.row_some hc
  have := h.col _ h2
  exact ⟨this.2.1, this.2.2.1⟩
theorem PalG.ws {p : Pal} (h : PalG p) (a b : Str) : 0 ≤ p.washOf a b ∧ p.washOf a b ≤ 39 := by
  unfold Pal.washOf
  cases e : p.ws.find? fun r => decide (r.one = a) && decide (r.other = b) with
  | none => exact ⟨by decide, by decide⟩
  | some r => exact (h.wsh r (List.mem_of_find?_eq_some e)).2.2
theorem perm_back {α : Type} {f : α → Dt} {g : Dt → α} (hg : ∀ x, g (f x) = x) {l : List α} {ds' : List Dt} (h : ds'.Perm (l.map f)) : ∃ l' : List α, l'.Perm l ∧ ds' = l'.map f := by
  refine ⟨ds'.map g, ?_, ?_⟩
  · have := h.map g
    rw [List.map_map] at this
    have e : l.map (g ∘ f) = l := by
      have := List.map_congr_left (f := g ∘ f) (g := fun x => x) (l := l) fun x _ => hg x
      rw [this]
      exact List.map_id' l
    rw [e] at this
    exact this
  · rw [List.map_map]
    have e : ds'.map (f ∘ g) = ds' := by
      have := List.map_congr_left (f := f ∘ g) (g := fun x => x) (l := ds') fun d hd => by
        obtain ⟨x, _, rfl⟩ := List.mem_map.mp (h.mem_iff.mp hd)
        show f (g (f x)) = f x
        rw [hg]
      rw [this]
      exact List.map_id' ds'
    exact e.symm
def unS : Dt → Str
  | .str x => x
  | _ => Str.empty
def unI : Dt → Int
  | .int x => x
  | _ => 0
def unCol : Dt → Col
  | .tup [a, b, c, d] => ⟨unS a, unI b, unI c, unI d⟩
  | _ => default
def unWsh : Dt → Wsh
  | .tup [a, b, c] => ⟨unS a, unS b, unI c⟩
  | _ => ⟨Str.empty, Str.empty, 0⟩
theorem at_str {xs : List Str} {i : Nat} {d : Dt} (h : (xs.map Dt.str)[i]? = some d) : ∃ x, xs[i]? = some x ∧ d = .str x := by
  rw [List.getElem?_map] at h
  cases e : xs[i]? with
  | none => rw [e] at h; cases h
  | some x =>
    rw [e] at h
    exact ⟨x, rfl, (Option.some.inj h).symm⟩
theorem str_once {xs : List Str} (h : xs.Nodup) {i j : Nat} {x : Str} (hi : xs[i]? = some x) (hj : xs[j]? = some x) : i = j := by
  have li := (List.getElem?_eq_some_iff.mp hi).1
  exact (List.getElem?_inj li h).mp (hi.trans hj.symm)
def WFrom (xs : List Str) (k : Nat) (ws : List Wsh) : Prop := ws.length ≤ k ∧ (∀ r ∈ ws, (Lw r.one 8 ∧ Lw r.other 8 ∧ 0 ≤ r.hours ∧ r.hours ≤ 39) ∧ ∃ k', k' < k ∧ xs[k' / xs.length]? = some r.one ∧ xs[k' % xs.length]? = some r.other) ∧ ws.Pairwise fun a b => ¬ (a.one = b.one ∧ a.other = b.other)
theorem WFrom.more {xs : List Str} {k : Nat} {ws : List Wsh} (h : WFrom xs k ws) : WFrom xs (k + 1) ws := by
  refine ⟨by have := h.1; omega, fun r hr => ?_, h.2.2⟩
  obtain ⟨a, k', b, c⟩ := h.2.1 r hr
  exact ⟨a, k', by omega, c⟩
theorem WFrom.app {xs : List Str} {k : Nat} {ws : List Wsh} (h : WFrom xs k ws) (nd : xs.Nodup) {r : Wsh} (hr : Lw r.one 8 ∧ Lw r.other 8 ∧ 0 ≤ r.hours ∧ r.hours ≤ 39) (h1 : xs[k / xs.length]? = some r.one) (h2 : xs[k % xs.length]? = some r.other) : WFrom xs (k + 1) (ws ++ [r]) := by
  refine ⟨by rw [List.length_append]; have := h.1; show _ + 1 ≤ _; omega, fun q hq => ?_, ?_⟩
  · rcases List.mem_append.mp hq with z | z
    · exact h.more.2.1 q z
    · rw [List.mem_singleton.mp z]
      exact ⟨hr, k, Nat.lt_succ_self k, h1, h2⟩
  · rw [List.pairwise_append]
    refine ⟨h.2.2, List.pairwise_singleton _ _, fun a ha b hb => ?_⟩
    rw [List.mem_singleton.mp hb]
    rintro ⟨e1, e2⟩
    obtain ⟨_, k', hk, c1, c2⟩ := h.2.1 a ha
    rw [e1] at c1
    rw [e2] at c2
    have d1 := str_once nd c1 h1
    have d2 := str_once nd c2 h2
    have := Nat.div_add_mod k' xs.length
    have := Nat.div_add_mod k xs.length
    rw [d1, d2] at *
    omega
abbrev nLawPalette : List Str := ["_law_box_here", "_law_most", "_law_names_here", "_law_colours", "_law_washes", "_law_name", "_law_charge", "_law_melt", "_law_k", "_law_pair"]
theorem c_law_palette (T : Txt K mg) : Cal P w K mg base 3 "_law_palette" (spB (fun a : Nat => [.int a]) 63 (fun a => 1 ≤ a ∧ a ≤ 3) fun _ d => ∃ p : Pal, d = dPal p ∧ PalG p) [] := by
  refine T.d_law_palette.boxed (N := nLawPalette) ⟨rfl, rfl, rfl, by decide +kernel, rfl, by decide +kernel, by decide +kernel⟩ (fun _ => rfl) ?_
  rintro f cdv A outer s H E hr Γ p n most hB hn ⟨h1, h2⟩
  have nd : nLawPalette.Nodup := by decide +kernel
  refine SK.norm (δ' := [.box p n, .v (.int most), .any, .any, .any, .any, .any, .any, .any, .any]) rfl ?_
  refine s_cons <| s_par3 2 3 4 <| ao_v <| w_cB 0 (c_law_names T) hr (by decide) <| a_cons <| w_bin <| w_int <| w_cB 0 (c_law_take T) hr (by decide) <| a_cons <| w_var 1 rfl <| a_nil <| ⟨p, n, (most : Int), rfl, by omega, rfl, ⟨by omega, by omega⟩, ?_⟩
  rintro _ ⟨many, rfl, m1, m2⟩
  refine oc_add <| a_nil <| ⟨p, n + 1, (1 + many).toNat, rfl, by omega, by rw [Int.toNat_of_nonneg (by omega)], ⟨by omega, by omega⟩, ?_⟩
  rintro _ ⟨xs, rfl, xl, xnd, xlw⟩
  have x1 : 1 ≤ xs.length := by omega
  have x3 : xs.length ≤ 3 := by omega
  clear xl
  refine ao_new fun q3 => ao_new fun q4 => ao_nil <| ⟨⟨⟨_, rfl, rfl⟩, ⟨_, rfl, rfl⟩, ⟨_, rfl, rfl⟩, trivial⟩, SK.norm (δ' := [.box p (n + 12), .v (.int most), .v (.lst (xs.map Dt.str)), .own q3 [], .own q4 [], .any, .any, .any, .any, .any]) rfl ?_⟩
  refine s_cons <| s_for <| i_lst <| w_var 2 rfl <| ex rfl <| ⟨fun i δ => ∃ (m : Nat) (cs : List Col) (z5 z6 z7 : Sl), m ≤ n + 12 + 5 * i ∧ cs.length = i ∧ (∀ c ∈ cs, Lw c.nm 8 ∧ (1 ≤ c.charge ∧ c.charge ≤ 4) ∧ (0 ≤ c.melt ∧ c.melt ≤ 39) ∧ 1 ≤ c.gathers ∧ c.gathers ≤ 9) ∧ z5.adr = [] ∧ z6.adr = [] ∧ z7.adr = [] ∧
      δ = [.box p m, .v (.int most), .v (.lst (xs.map Dt.str)), .own q3 (cs.map dCol), .own q4 [], z5, z6, z7, .any, .any], ⟨n + 12, [], .any, .any, .any, by omega, rfl, (fun c hc => by cases hc), rfl, rfl, rfl, rfl⟩, fun Γ i d δ hd hI => ?_, fun δ hI => ?_⟩
  · obtain ⟨m, cs, z5, z6, z7, hm, hcl, hcs, a5, a6, a7, rfl⟩ := hI
    obtain ⟨x, hx, rfl⟩ := at_str hd
    have hi := (List.getElem?_eq_some_iff.mp hx).1
    have hxl := xlw x (List.mem_of_getElem? hx)
    refine g_name (e := z5) (he := a5) 5 <| SK.norm (by walk_at "nrm") ?_
    refine s_cons <| s_par2 6 7 <| ao_v <| w_bin <| w_int <| w_cB 0 (c_law_take T) hr (by decide) <| a_cons <| w_int <| a_nil <| ⟨p, m, 4, rfl, by omega, rfl, ⟨by decide, by decide⟩, ?_⟩
    rintro _ ⟨r1, rfl, u1, v1⟩
    refine oc_add <| ao_v <| w_ix <| w_lst <| a_cons <| w_int <| a_cons <| w_cB 0 (c_law_take T) hr (by decide) <| a_cons <| w_int <| a_nil <| ⟨p, m + 1, 6, rfl, by omega, rfl, ⟨by decide, by decide⟩, ?_⟩
    rintro _ ⟨r2, rfl, u2, v2⟩
    refine a_cons <| w_cB 0 (c_law_take T) hr (by decide) <| a_cons <| w_int <| a_nil <| ⟨p, m + 2, 40, rfl, by omega, rfl, ⟨by decide, by decide⟩, ?_⟩
    rintro _ ⟨r3, rfl, u3, v3⟩
    refine a_nil <| And.intro (by simp) <| w_cB 0 (c_law_take T) hr (by decide) <| a_cons <| w_int <| a_nil <| ⟨p, m + 3, 3, rfl, by omega, rfl, ⟨by decide, by decide⟩, ?_⟩
    rintro _ ⟨r4, rfl, u4, v4⟩
    obtain ⟨melt, hm0, hm1⟩ := pick [(0 : Int), r2, r3] u4 v4
    have hmelt : 0 ≤ melt ∧ melt ≤ 39 := by
      simp at hm0
      rcases hm0 with rfl | rfl | rfl <;> omega
    refine xc_lst (d := .int melt) (atI_rep_map (f := Dt.int) hm1) <| ao_nil <| ⟨⟨⟨_, rfl, a6⟩, ⟨_, rfl, a7⟩, trivial⟩, SK.norm (δ' := [.box p (m + 4), .v (.int most), .v (.lst (xs.map Dt.str)), .own q3 (cs.map dCol), .own q4 [], .v (.str x), .v (.int (1 + r1)), .v (.int melt), .any, .any]) rfl ?_⟩
    refine s_one <| s_app 3 <| w_tup <| a_cons <| w_var 5 rfl <| a_cons <| w_var 6 rfl <| a_cons <| w_var 7 rfl <| a_cons <| w_bin <| w_int <| w_cB 0 (c_law_take T) hr (by decide) <| a_cons <| w_int <| a_nil <| ⟨p, m + 4, 9, rfl, by omega, rfl, ⟨by decide, by decide⟩, ?_⟩
    rintro _ ⟨r5, rfl, u5, v5⟩
    refine oc_add <| a_nil <| And.intro (by simp) <| ⟨q3, _, rfl, by rw [List.length_map]; omega, m + 5, cs ++ [⟨x, 1 + r1, melt, 1 + r5⟩], .v (.str x), .v (.int (1 + r1)), .v (.int melt), by omega, by rw [List.length_append, hcl]; rfl, fun c hc => ?_, rfl, rfl, rfl, by rw [List.map_append]; rfl⟩
    · rcases List.mem_append.mp hc with z | z
      · exact hcs c z
      · rw [List.mem_singleton.mp z]
        exact ⟨hxl, ⟨by show 1 ≤ 1 + r1; omega, by show 1 + r1 ≤ 4; omega⟩, hmelt, by show 1 ≤ 1 + r5; omega, by show 1 + r5 ≤ 9; omega⟩
  obtain ⟨m, cs, z5, z6, z7, hm, hcl, hcs, a5, a6, a7, rfl⟩ := hI
  rw [List.length_map] at hm hcl
  have emul : (xs.length : Int) * (xs.length : Int) = ((xs.length * xs.length : Nat) : Int) := (Int.natCast_mul _ _).symm
  have mul9 : xs.length * xs.length ≤ 9 := Nat.mul_le_mul x3 x3
  refine s_cons <| s_for <| i_rng1 T.b_range <| w_bin <| w_callB (id := "len") T.b_len (by decide +kernel) <| a_cons <| w_var 2 rfl <| a_nil <| cc_lenM <| w_callB (id := "len") T.b_len (by decide +kernel) <| a_cons <| w_var 2 rfl <| a_nil <| cc_lenM <| oc_mulE (.inl ⟨by omega, by omega⟩) emul <| ⟨xs.length * xs.length, rfl, by omega, ⟨fun k δ => ∃ (m2 : Nat) (ws : List Wsh) (z8 z9 : Sl), m2 ≤ m + 4 * k ∧ WFrom xs k ws ∧ z8.adr = [] ∧ z9.adr = [] ∧
      δ = [.box p m2, .v (.int most), .v (.lst (xs.map Dt.str)), .own q3 (cs.map dCol), .own q4 (ws.map dWsh), z5, z6, z7, z8, z9], ⟨m, [], .any, .any, by omega, ⟨Nat.le_refl _, (fun r hr => by cases hr), List.Pairwise.nil⟩, rfl, rfl, rfl⟩, fun Γ k d δ hd hI => ?_, fun δ hI => ?_⟩⟩
  · obtain ⟨m2, ws, z8, z9, hm2, wf, a8, a9, rfl⟩ := hI
    obtain ⟨hk, rfl⟩ := rng_lt hd
    have k1 : k / xs.length < xs.length := Nat.div_lt_of_lt_mul hk
    have k2 : k % xs.length < xs.length := Nat.mod_lt _ (by omega)
    obtain ⟨a, ha⟩ : ∃ a, xs[k / xs.length]? = some a := ⟨_, List.getElem?_eq_getElem k1⟩
    obtain ⟨b, hb⟩ : ∃ b, xs[k % xs.length]? = some b := ⟨_, List.getElem?_eq_getElem k2⟩
    have la := xlw a (List.mem_of_getElem? ha)
    have lb := xlw b (List.mem_of_getElem? hb)
    have ediv : (k : Int).fdiv (xs.length : Int) = ((k / xs.length : Nat) : Int) := Int.fdiv_eq_ediv_of_nonneg _ (Int.natCast_nonneg _)
    have emod : (k : Int) % (xs.length : Int) = ((k % xs.length : Nat) : Int) := rfl
    refine g_name (e := z8) (he := a8) 8 <| SK.norm (by walk_at "nrm") ?_
    refine s_cons <| s_set 9 <| w_tup <| a_cons <| w_ix <| w_var 2 rfl <| w_bin <| w_var 8 rfl <| w_callB (id := "len") T.b_len (by decide +kernel) <| a_cons <| w_var 2 rfl <| a_nil <| cc_lenM <| oc_fdiv ⟨by omega, by omega⟩ <| xc_lst (by rw [ediv]; exact atI_map ha) <| a_cons <| w_ix <| w_var 2 rfl <| w_bin <| w_var 8 rfl <| w_callB (id := "len") T.b_len (by decide +kernel) <| a_cons <| w_var 2 rfl <| a_nil <| cc_lenM <| oc_modE (by omega) emod <| xc_lst (atI_map hb) <| a_nil <| And.intro (by simp) <| And.intro ⟨_, rfl, a9⟩ (SK.norm (by walk_at "nrm") ?_)
    refine s_one <| s_if <| t_w <| p_and <| t_cmp <| w_ix <| w_var 9 rfl <| w_int <| xc_tup rfl <| w_ix <| w_var 9 rfl <| w_int <| xc_tup rfl <| oc_neS <| KT.mk <| br (fun h => p_and1 <| t_cmp <| w_cB 0 (c_law_take T) hr (by decide) <| a_cons <| w_int <| a_nil <| ⟨p, m2, 3, rfl, by omega, rfl, ⟨by decide, by decide⟩, ?_⟩) (fun h => brF <| s_nil ⟨m2, ws, .v (.int (k : Nat)), .v (.tup [.str a, .str b]), by omega, wf.more, rfl, rfl, rfl⟩)
    · rintro _ ⟨r0, rfl, u0, v0⟩
      refine w_int <| oc_gt <| KT.mk <| br (fun h => ?_) (fun h => s_nil ⟨m2 + 1, ws, .v (.int (k : Nat)), .v (.tup [.str a, .str b]), by omega, wf.more, rfl, rfl, rfl⟩)
      · refine s_one <| s_app 4 <| w_bin <| w_var 9 rfl <| w_tup <| a_cons <| w_ix <| w_lst <| a_cons <| w_int <| a_cons <| w_bin <| w_int <| w_cB 0 (c_law_take T) hr (by decide) <| a_cons <| w_int <| a_nil <| ⟨p, m2 + 1, 4, rfl, by omega, rfl, ⟨by decide, by decide⟩, ?_⟩
        rintro _ ⟨r1, rfl, u1, v1⟩
        refine oc_add <| a_cons <| w_cB 0 (c_law_take T) hr (by decide) <| a_cons <| w_int <| a_nil <| ⟨p, m2 + 2, 40, rfl, by omega, rfl, ⟨by decide, by decide⟩, ?_⟩
        rintro _ ⟨r2, rfl, u2, v2⟩
        refine a_nil <| And.intro (by simp) <| w_cB 0 (c_law_take T) hr (by decide) <| a_cons <| w_int <| a_nil <| ⟨p, m2 + 3, 3, rfl, by omega, rfl, ⟨by decide, by decide⟩, ?_⟩
        rintro _ ⟨r3, rfl, u3, v3⟩
        obtain ⟨hrs, hm0, hm1⟩ := pick [(0 : Int), 1 + r1, r2] u3 v3
        have hh : 0 ≤ hrs ∧ hrs ≤ 39 := by
          simp at hm0
          rcases hm0 with rfl | rfl | rfl <;> omega
        have := wf.1
        refine xc_lst (d := .int hrs) (atI_rep_map (f := Dt.int) hm1) <| a_nil <| And.intro (by simp) <| oc_catT (by simp) (by simp) (by simp) <| ⟨q4, _, rfl, by rw [List.length_map]; omega, m2 + 4, ws ++ [⟨a, b, hrs⟩], .v (.int (k : Nat)), .v (.tup [.str a, .str b]), by omega, wf.app xnd ⟨la, lb, hh⟩ ha hb, rfl, rfl, by rw [List.map_append]; rfl⟩
  obtain ⟨m2, ws, z8, z9, hm2, wf, a8, a9, rfl⟩ := hI
  rw [List.length_map, List.length_range] at hm2 wf
  have hB' : ∀ j : Nat, j ≠ 0 → ∀ δ : Sls, δ[0]? = some (.box p m2) → ∀ q ∈ Γ.B, ∃ (i : Nat) (e : Sl), i ≠ j ∧ δ[i]? = some e ∧ q ∈ e.adr := fun j hj δ hδ q hq => ⟨0, _, Ne.symm hj, hδ, by rw [hB] at hq; exact hq⟩
  refine s_freeze 3 rfl (hB' 3 (by decide) _ rfl) <| SK.norm (by walk_at "nrm") ?_
  refine s_freeze 4 rfl (hB' 4 (by decide) _ rfl) <| SK.norm (by walk_at "nrm") ?_
  have := wf.1
  have pl : ∀ {α : Type} {l : List α} {f : α → Dt}, (∀ x, (f x).plain = true) → ∀ d ∈ l.map f, d.plain = true := fun h d hd => by
    obtain ⟨x, _, rfl⟩ := List.mem_map.mp hd
    exact h x
  have dp : ∀ {α : Type} {l : List α} {f : α → Dt}, (∀ x, (f x).py.depth ≤ 8) → ∀ d ∈ l.map f, d.py.depth ≤ 8 := fun h d hd => by
    obtain ⟨x, _, rfl⟩ := List.mem_map.mp hd
    exact h x
  refine s_one <| s_ret <| w_tup <| a_cons <| w_callTy (T := "tuple") T.b_tuple (by decide +kernel) <| a_cons <| w_callB (id := "sorted") T.b_sorted (by decide +kernel) <| a_cons <| w_var 3 rfl <| a_nil <| cc_sortedD hr.units (pl fun _ => rfl) (by rw [List.map_map]; exact PySem.W.AllAlike.of (enc := fun c : Col => (dCol c).py) fun _ _ => rfl) (by rw [List.map_map]; exact PySem.W.Sortable.tuples (enc := fun c : Col => (dCol c).py) fun c => ⟨_, _, rfl⟩) (dp fun _ => by simp [dCol, Dt.py, pys, PyData.depth, PyData.depthAll]) (by rw [List.length_map]; omega) ?_
  intro ds1 pm1
  obtain ⟨cs', pc, rfl⟩ := perm_back (g := unCol) (fun _ => rfl) pm1
  refine a_nil <| cc_tupL <| a_cons <| w_callTy (T := "tuple") T.b_tuple (by decide +kernel) <| a_cons <| w_callB (id := "sorted") T.b_sorted (by decide +kernel) <| a_cons <| w_var 4 rfl <| a_nil <| cc_sortedD hr.units (pl fun _ => rfl) (by rw [List.map_map]; exact PySem.W.AllAlike.of (enc := fun c : Wsh => (dWsh c).py) fun _ _ => rfl) (by rw [List.map_map]; exact PySem.W.Sortable.tuples (enc := fun c : Wsh => (dWsh c).py) fun c => ⟨_, _, rfl⟩) (dp fun _ => by simp [dWsh, Dt.py, pys, PyData.depth, PyData.depthAll]) (by rw [List.length_map]; omega) ?_
  intro ds2 pm2
  obtain ⟨ws', pw, rfl⟩ := perm_back (g := unWsh) (fun _ => rfl) pm2
  refine a_nil <| cc_tupL <| a_nil <| And.intro (by simp) <| ⟨⟨m2, by omega, rfl⟩, ⟨cs', ws'⟩, rfl, ?_⟩
  refine ⟨by show 1 ≤ cs'.length; rw [pc.length_eq]; omega, by show cs'.length ≤ 3; rw [pc.length_eq]; omega, by show ws'.length ≤ 9; rw [pw.length_eq]; omega, fun c hc => hcs c (pc.mem_iff.mp hc), fun r hr => (wf.2.1 r (pw.mem_iff.mp hr)).1, ?_⟩
  refine (pw.pairwise_iff (R := fun a b : Wsh => ¬ (a.one = b.one ∧ a.other = b.other)) fun {a b} h z => h ⟨z.1.symm, z.2.symm⟩).mpr wf.2.2
end
end Pr

end Text_D26
section Text_D27
set_option maxHeartbeats 4000000
namespace Pr
open PySem PySem.Spec PyProof.Rows L2
open C8 (Cal Mak Met pe_c pe_mk pe_mt pe_mt0)
local macro_rules | `(tactic| walk_at "nrm") => `(tactic| (simp only [args, setAll, List.set_cons_zero, List.set_cons_succ, List.map_cons, List.map_nil, List.length_cons, List.length_nil, List.replicate_succ, List.replicate_zero, List.cons_append, List.nil_append, Nat.reduceAdd, Nat.reduceSub]; try rfl))
section
variable {P : Program} {w : World} {K : PySem.W.Frag} {mg : Str → Option Value} {base : Heap}
/-! ## hours and rows drawn -/
abbrev nLawWhen : List Str := ["_law_box_here", "_law_turns", "_law_some", "_law_turn", "_law_one"]
theorem c_law_when (T : Txt K mg) : Cal P w K mg base 2 "_law_when" (spB (fun a : List Turn => [dTurns a]) 11 (fun a => a.length ≤ 900 ∧ ∀ t ∈ a, PyData.strOk t.col = true) fun _ d => ∃ r : Int, d = .int r ∧ 0 ≤ r ∧ r ≤ 1000000) [] := by
  refine T.d_law_when.boxed (N := nLawWhen) ⟨rfl, rfl, rfl, by decide +kernel, rfl, by decide +kernel, by decide +kernel⟩ (fun _ => rfl) ?_
  rintro f cdv A outer s H E hr Γ p n ts hB hn ⟨hl, hs⟩
  have nd : nLawWhen.Nodup := by decide +kernel
  refine SK.norm (δ' := [.box p n, .v (dTurns ts), .any, .any, .any]) rfl ?_
  refine s_cons <| s_newL 2 <| a_cons <| w_int <| a_cons <| w_cB 0 (c_law_take T) hr (by decide) <| a_cons <| w_int <| a_nil <| ⟨p, n, 300, rfl, by omega, rfl, ⟨by decide, by decide⟩, ?_⟩
  rintro _ ⟨r0, rfl, u0, v0⟩
  refine a_cons <| w_bin <| w_int <| w_int <| oc_pow ⟨by decide, by decide, by decide⟩ <| a_nil <| ⟨by simp, ⟨_, rfl, rfl⟩, fun q2 => SK.norm (δ' := [.box p (n + 1), .v (dTurns ts), .own q2 (([0, r0, 1000000] : List Int).map Dt.int), .any, .any]) rfl ?_⟩
  refine s_cons <| s_for <| i_rng1 T.b_range <| w_bin <| w_int <| w_callTy (T := "int") T.b_int (by decide +kernel) <| a_cons <| w_cmp <| w_var 1 rfl <| w_lst <| a_nil <| And.intro (by simp) <| oc_neD hr.units (by show plains _ = true; exact plains_turns _) rfl (shaped_turns hs (by omega)) (by decide +kernel) <| a_nil <| cc_intB <| oc_mul (.inl (by decide)) ?_
  obtain ⟨n3, e3, h3, hpos⟩ : ∃ n3 : Nat, (3 * (if (!PyData.eqv (dTurns ts).py (Dt.lst []).py) = true then 1 else 0) : Int) = n3 ∧ n3 ≤ 3 ∧ (0 < n3 → ts ≠ []) := by
    show ∃ n3 : Nat, (3 * (if (!PyData.eqv (Dt.lst (ts.map dTurn)).py (Dt.lst []).py) = true then 1 else 0) : Int) = n3 ∧ n3 ≤ 3 ∧ (0 < n3 → ts ≠ [])
    rw [eqv_nil]
    cases ts with
    | nil => exact ⟨0, rfl, by decide, fun h => absurd h (by decide)⟩
    | cons t ts => exact ⟨3, rfl, by decide, fun _ h => by cases h⟩
  refine ⟨n3, congrArg Dt.int e3, by omega, ⟨fun i δ => ∃ (m : Nat) (ns : List Int) (z3 z4 : Sl), m ≤ n + 1 + 3 * i ∧ ns.length = 3 + i ∧ z3.adr = [] ∧ z4.adr = [] ∧ δ = [.box p m, .v (dTurns ts), .own q2 (ns.map Dt.int), z3, z4], ⟨n + 1, _, .any, .any, by omega, rfl, rfl, rfl, rfl⟩, fun Γ i d δ hd hI => ?_, fun δ hI => ?_⟩⟩
  · obtain ⟨m, ns, z3, z4, hm, hnl, a3, a4, rfl⟩ := hI
    obtain ⟨hi, rfl⟩ := rng_lt hd
    have hne := hpos (by omega)
    have hlen : 1 ≤ ts.length := by
      cases ts with
      | nil => exact absurd rfl hne
      | cons t ts => rw [List.length_cons]; omega
    refine g_name (e := z3) (he := a3) 3 <| SK.norm (by walk_at "nrm") ?_
    refine s_cons <| s_set 4 <| w_ix <| w_var 1 rfl <| w_cB 0 (c_law_take T) hr (by decide) <| a_cons <| w_callB (id := "len") T.b_len (by decide +kernel) <| a_cons <| w_var 1 rfl <| a_nil <| cc_lenM <| a_nil <| ⟨p, m, (ts.length : Int), rfl, by omega, rfl, ⟨by omega, by omega⟩, ?_⟩
    rintro _ ⟨r1, rfl, u1, v1⟩
    obtain ⟨t, ht0, ht1⟩ := pick ts u1 v1
    refine xc_lst (atI_rep_map (f := dTurn) ht1) <| And.intro ⟨_, rfl, a4⟩ (SK.norm (δ' := [.box p (m + 1), .v (dTurns ts), .own q2 (ns.map Dt.int), .v (.int (i : Nat)), .v (dTurn t)]) rfl ?_)
    refine s_one <| s_app 2 <| w_bin <| w_bin <| w_ix <| w_lst <| a_cons <| w_ix <| w_var 4 rfl <| w_int <| xc_tup rfl <| a_cons <| w_ix <| w_var 4 rfl <| w_int <| xc_tup rfl <| a_cons <| w_ix <| w_var 4 rfl <| w_int <| xc_tup rfl <| a_nil <| And.intro (by simp) <| w_cB 0 (c_law_take T) hr (by decide) <| a_cons <| w_int <| a_nil <| ⟨p, m + 1, 3, rfl, by omega, rfl, ⟨by decide, by decide⟩, ?_⟩
    rintro _ ⟨r2, rfl, u2, v2⟩
    obtain ⟨x, hx0, hx1⟩ := pick [t.at_, t.bgn, t.fin] u2 v2
    refine xc_lst (d := .int x) (atI_rep_map (f := Dt.int) hx1) <| w_cB 0 (c_law_take T) hr (by decide) <| a_cons <| w_int <| a_nil <| ⟨p, m + 2, 3, rfl, by omega, rfl, ⟨by decide, by decide⟩, ?_⟩
    rintro _ ⟨r3, rfl, u3, v3⟩
    refine oc_add <| w_int <| oc_sub <| ⟨q2, _, rfl, by rw [List.length_map]; omega, m + 3, ns ++ [x + r3 - 1], .v (.int (i : Nat)), .v (dTurn t), by omega, by rw [List.length_append, hnl]; rfl, rfl, rfl, by rw [List.map_append]; rfl⟩
  obtain ⟨m, ns, z3, z4, hm, hnl, a3, a4, rfl⟩ := hI
  rw [List.length_map, List.length_range] at hm hnl
  refine s_freeze 2 rfl (by rw [hB]; intro q hq; exact ⟨0, _, by decide, rfl, hq⟩) <| SK.norm (by walk_at "nrm") ?_
  refine s_one <| s_ret <| w_callB (id := "max") T.b_max (by decide +kernel) <| a_cons <| w_int <| a_cons <| w_callB (id := "min") T.b_min (by decide +kernel) <| a_cons <| w_bin <| w_int <| w_int <| oc_pow ⟨by decide, by decide, by decide⟩ <| a_cons <| w_ix <| w_var 2 rfl <| w_cB 0 (c_law_take T) hr (by decide) <| a_cons <| w_callB (id := "len") T.b_len (by decide +kernel) <| a_cons <| w_var 2 rfl <| a_nil <| cc_lenM <| a_nil <| ⟨p, m, (ns.length : Int), rfl, by omega, rfl, ⟨by omega, by omega⟩, ?_⟩
  rintro _ ⟨r1, rfl, u1, v1⟩
  obtain ⟨x, hx0, hx1⟩ := pick ns u1 v1
  refine xc_lst (atI_rep_map (f := Dt.int) hx1) <| a_nil <| cc_min2 <| a_nil <| cc_max2 <| ⟨⟨m + 1, by omega, rfl⟩, _, rfl, ?_, ?_⟩
  · split <;> omega
  · have e6 : (10 : Int) ^ (6 : Int).toNat = 1000000 := by decide
    rw [e6]
    split
    · split <;> omega
    · decide
/-! rows -/
structure RowsG (p : Pal) (rs : List RowT) : Prop where
  ne : rs ≠ []
  len : rs.length ≤ 12
  row : ∀ r ∈ rs, (∃ c ∈ p.cs, r.col = c.nm) ∧ Lw r.pot 8 ∧ Lw r.team 8 ∧ 1 ≤ r.hours ∧ r.hours ≤ 9
theorem RowsG.has {p : Pal} {rs : List RowT} (g : PalG p) (h : RowsG p rs) {r : RowT} (hr : r ∈ rs) : p.has r.col := by
  obtain ⟨⟨c, hc, e⟩, _⟩ := h.row r hr
  rw [e]
  exact g.has hc
abbrev nLawRows : List Str := ["_law_box_here", "_law_palette_here", "_law_pots", "_law_teams", "_law_rows_here", "_law_k", "_law_pot", "_law_team"]
theorem c_law_rows (T : Txt K mg) : Cal P w K mg base 3 "_law_rows" (spB (fun a : Pal => [dPal a]) 49 PalG fun a d => ∃ rs : List RowT, d = dRows rs ∧ RowsG a rs ∧ rs.length ≤ 6) [] := by
  refine T.d_law_rows.boxed (N := nLawRows) ⟨rfl, rfl, rfl, by decide +kernel, rfl, by decide +kernel, by decide +kernel⟩ (fun _ => rfl) ?_
  rintro f cdv A outer s H E hr Γ b n p hB hn hg
  have nd : nLawRows.Nodup := by decide +kernel
  refine SK.norm (δ' := [.box b n, .v (dPal p), .any, .any, .any, .any, .any, .any]) rfl ?_
  have c1 := hg.c1
  have c3 := hg.c3
  refine s_cons <| s_par3 2 3 4 <| ao_v <| w_cB 0 (c_law_names T) hr (by decide) <| a_cons <| w_bin <| w_int <| w_cB 0 (c_law_take T) hr (by decide) <| a_cons <| w_int <| a_nil <| ⟨b, n, 3, rfl, by omega, rfl, ⟨by decide, by decide⟩, ?_⟩
  rintro _ ⟨many, rfl, m1, m2⟩
  refine oc_add <| a_nil <| ⟨b, n + 1, (1 + many).toNat, rfl, by omega, by rw [Int.toNat_of_nonneg (by omega)], ⟨by omega, by omega⟩, ?_⟩
  rintro _ ⟨xs, rfl, xl, xnd, xlw⟩
  have x1 : 1 ≤ xs.length := by omega
  have x3 : xs.length ≤ 3 := by omega
  refine ao_v <| w_cB 0 (c_law_names T) hr (by decide) <| a_cons <| w_bin <| w_int <| w_cB 0 (c_law_take T) hr (by decide) <| a_cons <| w_int <| a_nil <| ⟨b, n + 12, 3, rfl, by omega, rfl, ⟨by decide, by decide⟩, ?_⟩
  rintro _ ⟨many2, rfl, m3, m4⟩
  refine oc_add <| a_nil <| ⟨b, n + 13, (1 + many2).toNat, rfl, by omega, by rw [Int.toNat_of_nonneg (by omega)], ⟨by omega, by omega⟩, ?_⟩
  rintro _ ⟨ys, rfl, yl, ynd, ylw⟩
  have y1 : 1 ≤ ys.length := by omega
  have y3 : ys.length ≤ 3 := by omega
  refine ao_new fun q4 => ao_nil <| ⟨⟨⟨_, rfl, rfl⟩, ⟨_, rfl, rfl⟩, ⟨_, rfl, rfl⟩, trivial⟩, SK.norm (δ' := [.box b (n + 24), .v (dPal p), .v (.lst (xs.map Dt.str)), .v (.lst (ys.map Dt.str)), .own q4 [], .any, .any, .any]) rfl ?_⟩
  refine s_cons <| s_for <| i_rng1 T.b_range <| w_bin <| w_int <| w_cB 0 (c_law_take T) hr (by decide) <| a_cons <| w_int <| a_nil <| ⟨b, n + 24, 6, rfl, by omega, rfl, ⟨by decide, by decide⟩, ?_⟩
  rintro _ ⟨k, rfl, k1, k2⟩
  refine oc_add <| ⟨(1 + k).toNat, by rw [Int.toNat_of_nonneg (by omega)], by omega, ⟨fun i δ => ∃ (m : Nat) (rs : List RowT) (z5 z6 z7 : Sl), m ≤ n + 25 + 4 * i ∧ rs.length = i ∧ (∀ r ∈ rs, (∃ c ∈ p.cs, r.col = c.nm) ∧ Lw r.pot 8 ∧ Lw r.team 8 ∧ 1 ≤ r.hours ∧ r.hours ≤ 9) ∧ z5.adr = [] ∧ z6.adr = [] ∧ z7.adr = [] ∧
      δ = [.box b m, .v (dPal p), .v (.lst (xs.map Dt.str)), .v (.lst (ys.map Dt.str)), .own q4 (rs.map dRow), z5, z6, z7], ⟨n + 25, [], .any, .any, .any, by omega, rfl, (fun r hr => by cases hr), rfl, rfl, rfl, rfl⟩, fun Γ i d δ hd hI => ?_, fun δ hI => ?_⟩⟩
  · obtain ⟨m, rs, z5, z6, z7, hm, hrl, hrs, a5, a6, a7, rfl⟩ := hI
    obtain ⟨hi, rfl⟩ := rng_lt hd
    refine g_name (e := z5) (he := a5) 5 <| SK.norm (by walk_at "nrm") ?_
    refine s_cons <| s_par2 6 7 <| ao_v <| w_ix <| w_var 2 rfl <| w_cB 0 (c_law_take T) hr (by decide) <| a_cons <| w_callB (id := "len") T.b_len (by decide +kernel) <| a_cons <| w_var 2 rfl <| a_nil <| cc_lenM <| a_nil <| ⟨b, m, (xs.length : Int), rfl, by omega, rfl, ⟨by omega, by omega⟩, ?_⟩
    rintro _ ⟨r1, rfl, u1, v1⟩
    obtain ⟨x, hx0, hx1⟩ := pick xs u1 v1
    refine xc_lst (atI_rep_map (f := Dt.str) hx1) <| ao_v <| w_ix <| w_var 3 rfl <| w_cB 0 (c_law_take T) hr (by decide) <| a_cons <| w_callB (id := "len") T.b_len (by decide +kernel) <| a_cons <| w_var 3 rfl <| a_nil <| cc_lenM <| a_nil <| ⟨b, m + 1, (ys.length : Int), rfl, by omega, rfl, ⟨by omega, by omega⟩, ?_⟩
    rintro _ ⟨r2, rfl, u2, v2⟩
    obtain ⟨y, hy0, hy1⟩ := pick ys u2 v2
    refine xc_lst (atI_rep_map (f := Dt.str) hy1) <| ao_nil <| ⟨⟨⟨_, rfl, a6⟩, ⟨_, rfl, a7⟩, trivial⟩, SK.norm (δ' := [.box b (m + 2), .v (dPal p), .v (.lst (xs.map Dt.str)), .v (.lst (ys.map Dt.str)), .own q4 (rs.map dRow), .v (.int (i : Nat)), .v (.str x), .v (.str y)]) rfl ?_⟩
    refine s_one <| s_app 4 <| w_tup <| a_cons <| w_var 6 rfl <| a_cons <| w_var 7 rfl <| a_cons <| w_ix <| w_ix <| w_ix <| w_var 1 rfl <| w_int <| xc_tup rfl <| w_cB 0 (c_law_take T) hr (by decide) <| a_cons <| w_callB (id := "len") T.b_len (by decide +kernel) <| a_cons <| w_ix <| w_var 1 rfl <| w_int <| xc_tup rfl <| a_nil <| cc_lenT <| a_nil <| ⟨b, m + 2, (p.cs.length : Int), rfl, by omega, by rw [List.length_map], ⟨by omega, by omega⟩, ?_⟩
    rintro _ ⟨r3, rfl, u3, v3⟩
    obtain ⟨c, hc0, hc1⟩ := pick p.cs u3 v3
    refine xc_tup (atI_rep_map (f := dCol) hc1) <| w_int <| xc_tup (d := .str c.nm) rfl <| a_cons <| w_bin <| w_int <| w_cB 0 (c_law_take T) hr (by decide) <| a_cons <| w_int <| a_nil <| ⟨b, m + 3, 9, rfl, by omega, rfl, ⟨by decide, by decide⟩, ?_⟩
    rintro _ ⟨r4, rfl, u4, v4⟩
    refine oc_add <| a_nil <| And.intro (by simp) <| ⟨q4, _, rfl, by rw [List.length_map]; omega, m + 4, rs ++ [⟨x, y, c.nm, 1 + r4⟩], .v (.int (i : Nat)), .v (.str x), .v (.str y), by omega, by rw [List.length_append, hrl]; rfl, fun r hr => ?_, rfl, rfl, rfl, by rw [List.map_append]; rfl⟩
    rcases List.mem_append.mp hr with z | z
    · exact hrs r z
    · rw [List.mem_singleton.mp z]
      exact ⟨⟨c, hc0, rfl⟩, xlw x hx0, ylw y hy0, by show 1 ≤ 1 + r4; omega, by show 1 + r4 ≤ 9; omega⟩
  obtain ⟨m, rs, z5, z6, z7, hm, hrl, hrs, a5, a6, a7, rfl⟩ := hI
  rw [List.length_map, List.length_range] at hm hrl
  refine s_freeze 4 rfl (by rw [hB]; intro q hq; exact ⟨0, _, by decide, rfl, hq⟩) <| SK.norm (by walk_at "nrm") ?_
  refine s_one <| s_ret <| w_var 4 rfl <| ⟨⟨m, by omega, rfl⟩, rs, rfl, ⟨?_, by omega, hrs⟩, by omega⟩
  intro z
  rw [z] at hrl
  have : (0 : Nat) = (1 + k).toNat := hrl
  omega
end
end Pr

end Text_D27
section Text_D28
set_option maxHeartbeats 4000000
namespace Pr
open PySem PySem.Spec PyProof.Rows L2
open C8 (Cal Mak Met pe_c pe_mk pe_mt pe_mt0)
local macro_rules | `(tactic| walk_at "nrm") => `(tactic| (simp only [args, setAll, List.set_cons_zero, List.set_cons_succ, List.map_cons, List.map_nil, List.length_cons, List.length_nil, List.replicate_succ, List.replicate_zero, List.cons_append, List.nil_append, Nat.reduceAdd, Nat.reduceSub]; try rfl))
section
variable {P : Program} {w : World} {K : PySem.W.Frag} {mg : Str → Option Value} {base : Heap}
/-! ## glass, and what the round tells of an hour -/
variable {C CT : Addr}
theorem RowsG.bd {p : Pal} {rs : List RowT} (g : PalG p) (h : RowsG p rs) : RBd p rs :=
  ⟨h.ne, h.len, fun r hr => h.has g hr, fun r hr => (g.ch (h.has g hr)).1, fun r hr => (g.ch (h.has g hr)).2, fun r hr => (h.row r hr).2.2.2, g.ws⟩
/-- a table of the rows, as shortest tells it -/
def TabG (p : Pal) (rs : List RowT) (t : TT) : Prop := RBd p rs ∧ ∃ (s : Stg) (L : Int), t = tblOf s rs.length L ∧ Holds (stepsOf p rs) L s (stepsOf p rs).length ∧ (∀ v, 0 ≤ hAt s v ∧ hAt s v ≤ 60000) ∧ L ≤ 2000
theorem TabG.tok {p : Pal} {rs : List RowT} {t : TT} (h : TabG p rs t) : TOk p rs t := by
  obtain ⟨b, s, L, rfl, hh, hv, hL⟩ := h
  exact tok_of b hh hv hL
theorem TabG.st {p : Pal} {rs : List RowT} {t : TT} {pot : Str} {hour : Int} {d : Dt} (h : TabG p rs t) (hd : RStateR p rs t pot hour d) : d = rsD p rs t pot hour := by
  obtain ⟨b, s, L, rfl, hh, hv, hL⟩ := h
  exact rsD_eq b hh hv hd
theorem TabG.is {p : Pal} {rs : List RowT} {t : TT} {pot : Str} {hour : Int} {d : Dt} (h : TabG p rs t) (hd : RStateR p rs t pot hour d) : RStateR p rs t pot hour (rsD p rs t pot hour) := by
  rw [← h.st hd]
  exact hd
theorem rs_shape {p : Pal} {rs : List RowT} {t : TT} {pot : Str} {hour : Int} {d : Dt} (hd : RStateR p rs t pot hour d) : d = .tup [.str "out", .non, .non] ∨ ∃ (w : Str) (n : Nat) (o : Int), n < rs.length ∧ d = .tup [.str w, .int (n : Nat), .int o] := by
  rcases hd with ⟨rfl, _⟩ | ⟨n, hn, _, rfl, _⟩
  · exact .inl rfl
  · exact .inr ⟨_, n, _, (mem_byPot.mp hn).1, rfl⟩
def glW : List Str := ["ready", "worked"]
/-- whether a state tells of glass of a colour -/
def cntf (rs : List RowT) (col : Str) : Dt → Bool
  | .tup [.str w, .int n, _] => decide (w ∈ glW) && decide ((rowAt rs n.toNat).col = col)
  | _ => false
def numD : Dt → Dt
  | .tup [_, n, _] => n
  | _ => .non
noncomputable def glassN (p : Pal) (rs : List RowT) (t : TT) (col : Str) (hour : Int) : Nat := ((ordS (rs.map (·.pot))).filter fun pot => cntf rs col (rsD p rs t pot hour)).length
structure TxG (K : PySem.W.Frag) (mg : Str → Option Value) : Prop where
  gl : ∃ c, mg "GLASS_WORDS" = some (.ref c) ∧ TupK K c (glW.map V.str)
theorem pots_lst (rs : List RowT) : Dt.lst ((rs.filter fun _ => true).map fun r => Dt.str r.pot) = .lst ((rs.map (·.pot)).map Dt.str) := by
  rw [fT, List.map_map]
  rfl
theorem pot_of {rs : List RowT} {r : List Str} (h : Ss.IsSS (rs.map (·.pot)) r) {x : Str} (hx : x ∈ r) : ∃ q ∈ rs, q.pot = x := by
  obtain ⟨q, hq, e⟩ := List.mem_map.mp ((h.mem x).mp hx)
  exact ⟨q, hq, e⟩
abbrev nGlassIn : List Str := ["palette", "rows", "timetable", "colour", "hour", "pots", "row", "states", "pot", "word", "number", "often"]
theorem c_glass_in (T : Txt K mg) (T1 : TxT K mg CT) (TG : TxG K mg) : Cal P w K mg base 6 "glass_in" (spP (fun a : Pal × List RowT × TT × Str × Int => [dPal a.1, dRows a.2.1, dTT CT a.2.2.1, .str a.2.2.2.1, .int a.2.2.2.2]) (fun a => TabG a.1 a.2.1 a.2.2.1 ∧ a.2.2.2.2 ≤ 100000000) fun a d => d = (fun a : Pal × List RowT × TT × Str × Int => .int (glassN a.1 a.2.1 a.2.2.1 a.2.2.2.1 a.2.2.2.2 : Nat)) a) [] := by
  refine T.d_glass_in.pure (N := nGlassIn) ⟨rfl, rfl, rfl, by decide +kernel, rfl, by decide +kernel, by decide +kernel⟩ (fun _ => rfl) ?_
  rintro f cdv A outer s H E hr Γ ⟨p, rs, t, col, hour⟩ hB ⟨tg, hh⟩
  have nd : nGlassIn.Nodup := by decide +kernel
  dsimp only at tg hh ⊢
  have ok := tg.tok
  have rlen := ok.b.len
  refine s_cons <| s_set 5 <| w_sset hr.units T.b_sorted T.b_set <| w_lc (own := [("row", 6)]) <| i_lst <| w_var 1 rfl <| ex rfl <| lc_map rs dRow (fun _ => true) (fun r => .str r.pot) rfl (by omega) (lvC lvN) (fun x hx _ _ _ _ _ => g_name 6 <| fun _ _ _ _ _ => ts_nil <| And.intro rfl <| brT <| fun _ _ _ _ _ => w_ix <| w_var 6 rfl <| w_int <| xc_tup rfl <| ⟨rfl, rfl⟩) <| ⟨rs.map (·.pot), pots_lst rs, by rw [List.length_map]; omega, ?_⟩
  intro r ir rl
  rw [List.length_map] at rl
  have hpot : ∀ x ∈ r, ∃ q ∈ rs, q.pot = x := fun x hx => pot_of ir hx
  refine And.intro ⟨_, rfl, rfl⟩ (SK.norm (by walk_at "nrm") ?_)
  refine s_cons <| s_setLc (own := [("pot", 8)]) 7 <| i_lst <| w_var 5 rfl <| ex rfl <| lc_mapP r Dt.str (fun _ => true) (fun pot => rsD p rs t pot hour) (fun pot => RStateR p rs t pot hour (rsD p rs t pot hour)) rfl (by omega) (lvC lvN) (fun x hx _ _ _ _ _ => g_name 8 <| fun _ _ _ _ _ => ts_nil <| And.intro rfl <| brT <| fun _ _ _ _ _ => w_call (c_round_state T T1) hr (by decide) <| a_cons <| w_var 0 rfl <| a_cons <| w_var 1 rfl <| a_cons <| w_var 2 rfl <| a_cons <| w_var 8 rfl <| a_cons <| w_var 4 rfl <| a_nil <| Exists.intro (p, rs, t, x, hour) <| And.intro rfl <| And.intro ⟨ok, hpot x hx, hh⟩ fun d hd => ⟨rfl, tg.st hd, tg.is hd⟩) fun hR => And.intro ⟨_, rfl, rfl⟩ (SK.norm (by walk_at "nrm") ?_)
  rw [fT]
  refine s_one <| s_ret <| w_callB (id := "len") T.b_len (by decide +kernel) <| a_cons <| w_lc (own := [("word", 9), ("number", 10), ("often", 11)]) <| i_lst <| w_var 7 rfl <| ex rfl <| lc_map r (fun pot => rsD p rs t pot hour) (fun pot => cntf rs col (rsD p rs t pot hour)) (fun pot => numD (rsD p rs t pot hour)) rfl (by omega) (lvC (lvC (lvC lvN))) (fun x hx _ _ _ _ _ => ?_) <| a_nil <| cc_lenL <| ?_
  · rcases rs_shape (hR x hx rfl) with e | ⟨wd, n, o, hn, e⟩
    · rw [e]
      refine g_tup <| gs_cons <| g_name 9 <| gs_cons <| g_name 10 <| gs_cons <| g_name 11 <| gs_nil <| fun _ _ _ _ _ => ts_one <| t_w <| p_and <| t_inG glW TG.gl <| w_var 9 rfl <| ⟨_, rfl, ?_⟩
      rw [show decide (Str.ofString "out" ∈ glW) = false from by decide +kernel]
      exact brF <| And.intro rfl <| brF rfl
    · rw [e]
      refine g_tup <| gs_cons <| g_name 9 <| gs_cons <| g_name 10 <| gs_cons <| g_name 11 <| gs_nil <| fun _ _ _ _ _ => ts_one <| t_w <| p_and <| t_inG glW TG.gl <| w_var 9 rfl <| ⟨_, rfl, ?_⟩
      have ec : cntf rs col (.tup [.str wd, .int (n : Nat), .int o]) = (decide (wd ∈ glW) && decide ((rowAt rs n).col = col)) := rfl
      rw [ec]
      cases decide (wd ∈ glW) with
      | false => exact brF <| And.intro rfl <| brF rfl
      | true =>
        refine brT <| p_and1 <| t_cmp <| w_ix <| w_ix <| w_var 1 rfl <| w_var 10 rfl <| xc_lst (atI_map (rowAt_get hn)) <| w_int <| xc_tup rfl <| w_var 3 rfl <| oc_eqS <| KT.mk <| And.intro rfl <| br (fun h => fun _ _ _ _ _ => w_var 10 rfl <| ⟨rfl, rfl⟩) (fun h => rfl)
  · rw [List.length_map, ordS_is ir]
    rfl
/-! ## the law's view -/
noncomputable def viewD (p : Pal) (rs : List RowT) (t : TT) (hour : Int) : Dt := .lst (((ordS (rs.map (·.pot))).map fun pot => rsD p rs t pot hour) ++ ((ordS (rs.map (·.pot))).map fun pot => dTurns (turnsOf rs t pot 2)) ++ p.cs.map fun c => .int (glassN p rs t c.nm hour : Nat))
theorem okN_shape {d : Dt} {rs : List RowT} (h : d = .tup [.str "out", .non, .non] ∨ ∃ (w : Str) (n : Nat) (o : Int), n < rs.length ∧ d = .tup [.str w, .int (n : Nat), .int o]) : Dt.okN 2 d = true := by
  rcases h with rfl | ⟨w, n, o, _, rfl⟩ <;> rfl
theorem turns_few {rs : List RowT} {t : TT} {pot : Str} {k : Nat} (h : rs.length ≤ 12) : (turnsOf rs t pot k).length ≤ 12 * k := by
  rw [turnsOf_len]
  have := byPot_len (rs := rs) (pot := pot)
  have : k * (byPot rs pot).length ≤ k * 12 := Nat.mul_le_mul_left _ (by omega)
  omega
abbrev nLawView : List Str := ["_law_palette_here", "_law_rows_here", "_law_table", "_law_hour", "_law_pots", "_law_row", "_law_found", "_law_pot"]
theorem c_law_view (T : Txt K mg) (T1 : TxT K mg CT) (TG : TxG K mg) : Cal P w K mg base 7 "_law_view" (spP (fun a : Pal × List RowT × TT × Int => [dPal a.1, dRows a.2.1, dTT CT a.2.2.1, .int a.2.2.2]) (fun a => PalG a.1 ∧ TabG a.1 a.2.1 a.2.2.1 ∧ a.2.2.2 ≤ 100000000) fun a d => d = viewD a.1 a.2.1 a.2.2.1 a.2.2.2 ∧ Dt.okN 3 d = true) [] := by
  refine T.d_law_view.pure (N := nLawView) ⟨rfl, rfl, rfl, by decide +kernel, rfl, by decide +kernel, by decide +kernel⟩ (fun _ => rfl) ?_
  rintro f cdv A outer s H E hr Γ ⟨p, rs, t, hour⟩ hB ⟨pg, tg, hh⟩
  have nd : nLawView.Nodup := by decide +kernel
  dsimp only at pg tg hh ⊢
  have ok := tg.tok
  have rlen := ok.b.len
  have c3 := pg.c3
  refine s_cons <| s_set 4 <| w_sset hr.units T.b_sorted T.b_set <| w_lc (own := [("_law_row", 5)]) <| i_lst <| w_var 1 rfl <| ex rfl <| lc_map rs dRow (fun _ => true) (fun r => .str r.pot) rfl (by omega) (lvC lvN) (fun x hx _ _ _ _ _ => g_name 5 <| fun _ _ _ _ _ => ts_nil <| And.intro rfl <| brT <| fun _ _ _ _ _ => w_ix <| w_var 5 rfl <| w_int <| xc_tup rfl <| ⟨rfl, rfl⟩) <| ⟨rs.map (·.pot), pots_lst rs, by rw [List.length_map]; omega, ?_⟩
  intro r ir rl
  rw [List.length_map] at rl
  have hpot : ∀ x ∈ r, ∃ q ∈ rs, q.pot = x := fun x hx => pot_of ir hx
  refine And.intro ⟨_, rfl, rfl⟩ (SK.norm (by walk_at "nrm") ?_)
  refine s_cons <| s_setLc (own := [("_law_pot", 7)]) 6 <| i_lst <| w_var 4 rfl <| ex rfl <| lc_mapP r Dt.str (fun _ => true) (fun pot => rsD p rs t pot hour) (fun pot => RStateR p rs t pot hour (rsD p rs t pot hour)) rfl (by omega) (lvC lvN) (fun x hx _ _ _ _ _ => g_name 7 <| fun _ _ _ _ _ => ts_nil <| And.intro rfl <| brT <| fun _ _ _ _ _ => w_call (c_round_state T T1) hr (by decide) <| a_cons <| w_var 0 rfl <| a_cons <| w_var 1 rfl <| a_cons <| w_var 2 rfl <| a_cons <| w_var 7 rfl <| a_cons <| w_var 3 rfl <| a_nil <| Exists.intro (p, rs, t, x, hour) <| And.intro rfl <| And.intro ⟨ok, hpot x hx, hh⟩ fun d hd => ⟨rfl, tg.st hd, tg.is hd⟩) fun hR => And.intro ⟨_, rfl, rfl⟩ (SK.norm (by walk_at "nrm") ?_)
  rw [fT]
  refine s_cons <| s_set 6 <| w_bin <| w_var 6 rfl <| w_lc (own := [("_law_pot", 7)]) <| i_lst <| w_var 4 rfl <| ex rfl <| lc_map r Dt.str (fun _ => true) (fun pot => dTurns (turnsOf rs t pot 2)) rfl (by omega) (lvC lvN) (fun x hx _ _ _ _ _ => g_name 7 <| fun _ _ _ _ _ => ts_nil <| And.intro rfl <| brT <| fun _ _ _ _ _ => w_callF (c_turns_of T T1) hr (by decide) <| a_cons <| w_var 0 rfl <| a_cons <| w_var 1 rfl <| a_cons <| w_var 2 rfl <| a_cons <| w_var 7 rfl <| a_cons <| w_int <| a_nil <| Exists.intro (p, rs, t, x, 2) <| And.intro rfl <| And.intro ⟨ok, hpot x hx, by show 2 ≤ 50; decide⟩ <| ⟨rfl, rfl⟩) <| oc_cat (by rw [fT, List.length_map, List.length_map]; omega) <| And.intro ⟨_, rfl, rfl⟩ (SK.norm (by walk_at "nrm") ?_)
  rw [fT]
  refine s_one <| s_ret <| w_bin <| w_var 6 rfl <| w_lc (own := [("_law_row", 5)]) <| i_tup <| w_ix <| w_var 0 rfl <| w_int <| xc_tup rfl <| ex rfl <| lc_map p.cs dCol (fun _ => true) (fun c => .int (glassN p rs t c.nm hour : Nat)) rfl (by omega) (lvC lvN) (fun x hx _ _ _ _ _ => g_name 5 <| fun _ _ _ _ _ => ts_nil <| And.intro rfl <| brT <| fun _ _ _ _ _ => w_callF (c_glass_in T T1 TG) hr (by decide) <| a_cons <| w_var 0 rfl <| a_cons <| w_var 1 rfl <| a_cons <| w_var 2 rfl <| a_cons <| w_ix <| w_var 5 rfl <| w_int <| xc_tup rfl <| a_cons <| w_var 3 rfl <| a_nil <| Exists.intro (p, rs, t, x.nm, hour) <| And.intro rfl <| And.intro ⟨tg, hh⟩ <| ⟨rfl, rfl⟩) <| oc_cat (by rw [fT, List.length_append, List.length_map, List.length_map, List.length_map]; omega) <| ?_
  rw [fT]
  refine ⟨by rw [ordS_is ir]; rfl, ?_⟩
  show (decide (_ ≤ 1000) && List.all _ _) = true
  rw [Bool.and_eq_true, List.all_eq_true]
  refine ⟨decide_eq_true (by rw [List.length_append, List.length_append, List.length_map, List.length_map, List.length_map]; omega), fun d hd => ?_⟩
  rcases List.mem_append.mp hd with hd | hd
  · rcases List.mem_append.mp hd with hd | hd
    · obtain ⟨x, hx, rfl⟩ := List.mem_map.mp hd
      exact okN_shape (rs_shape (hR x hx rfl))
    · obtain ⟨x, hx, rfl⟩ := List.mem_map.mp hd
      exact okN_turns (by have := turns_few (t := t) (pot := x) (k := 2) rlen; omega) 0
  · obtain ⟨x, hx, rfl⟩ := List.mem_map.mp hd
    rfl
end
end Pr

end Text_D28
section Text_D29
set_option maxHeartbeats 4000000
namespace Pr
open PySem PySem.Spec PyProof.Rows L2
open C8 (Cal Mak Met pe_c pe_mk pe_mt pe_mt0)
local macro_rules | `(tactic| walk_at "nrm") => `(tactic| (simp only [args, setAll, List.set_cons_zero, List.set_cons_succ, List.map_cons, List.map_nil, List.length_cons, List.length_nil, List.replicate_succ, List.replicate_zero, List.cons_append, List.nil_append, Nat.reduceAdd, Nat.reduceSub]; try rfl))
section
variable {P : Program} {w : World} {K : PySem.W.Frag} {mg : Str → Option Value} {base : Heap}
/-! ## turns that are what the round is -/
variable {C CT : Addr}
theorem int_at {ns : List Int} {i : Nat} {d : Dt} (h : (ns.map Dt.int)[i]? = some d) : ∃ z, ns[i]? = some z ∧ d = .int z := by
  rw [List.getElem?_map] at h
  cases e : ns[i]? with
  | none => rw [e] at h; cases h
  | some x =>
    rw [e] at h
    exact ⟨x, rfl, (Option.some.inj h).symm⟩
theorem TabG.fl {p : Pal} {rs : List RowT} {t : TT} {pot : Str} {k : Nat} (h : TabG p rs t) (hk : 0 < (byPot rs pot).length) : FL p (turnsOf rs t pot k) := by
  obtain ⟨b, s, L, rfl, hh, hv, hL⟩ := h
  exact FL_turnsOf b hh hv hk
theorem byPot_pos {rs : List RowT} {pot : Str} (h : ∃ r ∈ rs, r.pot = pot) : 0 < (byPot rs pot).length := by
  obtain ⟨r, hr, e⟩ := h
  obtain ⟨i, hi⟩ := List.getElem?_of_mem hr
  have hlt := (List.getElem?_eq_some_iff.mp hi).1
  rw [rowAt_get hlt] at hi
  have hm : i ∈ byPot rs pot := mem_byPot.mpr ⟨hlt, by rw [Option.some.inj hi]; exact e⟩
  exact List.length_pos_of_mem hm
theorem TabG.same {p : Pal} {rs : List RowT} {t : TT} {pot : Str} {hour : Int} (h : TabG p rs t) (hk : 0 < (byPot rs pot).length) {tl : Turn} (hl : (turnsOf rs t pot 4)[4 * (byPot rs pot).length - 1]? = some tl) (hh : hour < tl.fin) {d d' : Dt} (hd : StateT p (turnsOf rs t pot 4) hour d) (hd' : RStateR p rs t pot hour d') :
    (d = .tup [.str "out", .non] ∧ d' = .tup [.str "out", .non, .non]) ∨ ∃ (w : Str) (n o q : Nat), (byPot rs pot)[q]? = some n ∧ d = .tup [.str w, .int ((o * (byPot rs pot).length + q : Nat) : Int)] ∧ d' = .tup [.str w, .int (n : Nat), .int (o : Nat)] := by
  obtain ⟨b, s, L, rfl, hs, hv, hL⟩ := h
  exact state_same b hs hv hk (by decide) hl hh hd hd'
abbrev nLawAsTheRound : List Str := ["_law_palette_here", "_law_rows_here", "_law_table", "_law_pot", "_law_turns", "_law_hours_here", "_law_numbers", "_law_number", "_law_row", "_law_hour", "_law_word", "_law_often", "_law_due"]
structure AsR (p : Pal) (rs : List RowT) (t : TT) (pot : Str) (hours : List Int) : Prop where
  tg : TabG p rs t
  pt : ∃ r ∈ rs, r.pot = pot
  few : hours.length ≤ 1000
  hr : ∀ h ∈ hours, h ≤ 100000000 ∧ ∀ tl, (turnsOf rs t pot 4)[4 * (byPot rs pot).length - 1]? = some tl → h < tl.fin
theorem c_law_as_the_round (T : Txt K mg) (T1 : TxT K mg CT) : Cal P w K mg base 6 "_law_as_the_round" (spP (fun a : Pal × List RowT × TT × Str × List Int => [dPal a.1, dRows a.2.1, dTT CT a.2.2.1, .str a.2.2.2.1, dTurns (turnsOf a.2.1 a.2.2.1 a.2.2.2.1 4), .lst (a.2.2.2.2.map Dt.int)]) (fun a => AsR a.1 a.2.1 a.2.2.1 a.2.2.2.1 a.2.2.2.2) fun a d => d = (fun _ => .bl true) a) [] := by
  refine T.d_law_as_the_round.pure (N := nLawAsTheRound) ⟨rfl, rfl, rfl, by decide +kernel, rfl, by decide +kernel, by decide +kernel⟩ (fun _ => rfl) ?_
  rintro f cdv A outer s H E hr Γ ⟨p, rs, t, pot, hours⟩ hB hp
  have nd : nLawAsTheRound.Nodup := by decide +kernel
  dsimp only at hp ⊢
  have ok := hp.tg.tok
  have rlen := ok.b.len
  have hk := byPot_pos hp.pt
  have blen := byPot_len (rs := rs) (pot := pot)
  have fl := hp.tg.fl (k := 4) hk
  have tfew := turns_few (t := t) (pot := pot) (k := 4) rlen
  have tl4 := turnsOf_len (rs := rs) (t := t) (pot := pot) (often := 4)
  obtain ⟨tl, htl⟩ : ∃ tl, (turnsOf rs t pot 4)[4 * (byPot rs pot).length - 1]? = some tl := ⟨_, List.getElem?_eq_getElem (by omega)⟩
  refine s_cons <| s_setLc (own := [("_law_number", 7), ("_law_row", 8)]) 6 <| i_enum T.b_enumerate <| w_var 1 rfl <| ex rfl <| lc_map rs.zipIdx (fun x => .tup [.int (x.2 : Nat), dRow x.1]) (fun x => decide (x.1.pot = pot)) (fun x => .int (x.2 : Nat)) (enum_map dRow rs) (by rw [List.length_zipIdx]; omega) (lvC (lvC lvN)) (fun x hx _ _ _ _ _ => g_tup <| gs_cons <| g_name 7 <| gs_cons <| g_name 8 <| gs_nil <| fun _ _ _ _ _ => ts_one <| t_cmp <| w_ix <| w_var 8 rfl <| w_int <| xc_tup rfl <| w_var 3 rfl <| oc_eqS <| KT.mk <| And.intro rfl <| br (fun h => fun _ _ _ _ _ => w_var 7 rfl <| ⟨rfl, rfl⟩) (fun h => rfl)) <| And.intro ⟨_, rfl, rfl⟩ ?_
  have e : (rs.zipIdx.filter fun x => decide (x.1.pot = pot)).map (fun x => Dt.int (x.2 : Nat)) = ((byPot rs pot).map fun i : Nat => ((i : Nat) : Int)).map Dt.int := by
    unfold byPot
    rw [List.map_map, List.map_map]
    rfl
  rw [e]
  refine SK.norm (δ' := [.v (dPal p), .v (dRows rs), .v (dTT CT t), .v (.str pot), .v (dTurns (turnsOf rs t pot 4)), .v (.lst (hours.map Dt.int)), .v (.lst (((byPot rs pot).map fun i : Nat => ((i : Nat) : Int)).map Dt.int)), .any, .any, .any, .any, .any, .any]) rfl ?_
  refine s_cons <| s_for <| i_lst <| w_var 5 rfl <| ex rfl <| ⟨fun i δ => ∃ z7 z9 z10 z11 z12 : Sl, z7.adr = [] ∧ z9.adr = [] ∧ z10.adr = [] ∧ z11.adr = [] ∧ z12.adr = [] ∧ δ = [.v (dPal p), .v (dRows rs), .v (dTT CT t), .v (.str pot), .v (dTurns (turnsOf rs t pot 4)), .v (.lst (hours.map Dt.int)), .v (.lst (((byPot rs pot).map fun i : Nat => ((i : Nat) : Int)).map Dt.int)), z7, .any, z9, z10, z11, z12], ⟨.any, .any, .any, .any, .any, rfl, rfl, rfl, rfl, rfl, rfl⟩, fun Γ i d δ hd hI => ?_, fun δ hI => ?_⟩
  · obtain ⟨z7, z9, z10, z11, z12, a7, a9, a10, a11, a12, rfl⟩ := hI
    obtain ⟨hour, hh, rfl⟩ := int_at hd
    obtain ⟨h1, h2⟩ := hp.hr hour (List.mem_of_getElem? hh)
    have h2 := h2 tl htl
    refine g_name (e := z9) (he := a9) 9 <| SK.norm (by walk_at "nrm") ?_
    refine s_cons <| s_asg <| w_call (c_round_state T T1) hr (by decide) <| a_cons <| w_var 0 rfl <| a_cons <| w_var 1 rfl <| a_cons <| w_var 2 rfl <| a_cons <| w_var 3 rfl <| a_cons <| w_var 9 rfl <| a_nil <| Exists.intro (p, rs, t, pot, hour) <| And.intro rfl <| And.intro ⟨ok, hp.pt, h1⟩ fun d1 hd1 => ?_
    dsimp only at hd1
    rcases rs_shape hd1 with e1 | ⟨wd, n, o, hn, e1⟩
    · subst e1
      refine g_tup <| gs_cons <| g_name (e := z10) (he := a10) 10 <| gs_cons <| g_name (e := z7) (he := a7) 7 <| gs_cons <| g_name (e := z11) (he := a11) 11 <| gs_nil <| SK.norm (by walk_at "nrm") ?_
      refine s_cons <| s_set 12 <| w_if <| t_cmp <| w_var 7 rfl <| w_non <| oc_isN <| KT.mk <| brT <| w_non <| And.intro ⟨_, rfl, a12⟩ (SK.norm (by walk_at "nrm") ?_)
      refine s_one <| s_if <| t_not <| t_val <| w_callF (c_law_same T 1) hr (by decide) <| a_cons <| w_call (c_state_at T) hr (by decide) <| a_cons <| w_var 0 rfl <| a_cons <| w_var 4 rfl <| a_cons <| w_var 9 rfl <| a_nil <| Exists.intro (p, turnsOf rs t pot 4, hour) <| And.intro rfl <| And.intro ⟨by show (turnsOf rs t pot 4).length ≤ 1000; omega, fun u hu => (fl.ok u hu).2.2.2.2⟩ fun d2 hd2 => ?_
      dsimp only at hd2
      rcases hp.tg.same hk htl h2 hd2 hd1 with ⟨rfl, _⟩ | ⟨w', n', o', q, _, _, z⟩
      · exact a_cons <| w_tup <| a_cons <| w_var 10 rfl <| a_cons <| w_var 12 rfl <| a_nil <| And.intro (by simp) <| a_nil <| Exists.intro (.tup [.str "out", .non]) <| And.intro rfl <| And.intro rfl <| KT.mk <| nb <| brT <| s_nil ⟨.v .non, .v (.int hour), .v (.str "out"), .v .non, .v .non, rfl, rfl, rfl, rfl, rfl, rfl⟩
      · cases z
    · subst e1
      have hnm : n ∈ byPot rs pot := by
        rcases hd1 with ⟨z, _⟩ | ⟨n', hn', _, z, _⟩
        · cases z
        · injection z with z
          injection z with _ z
          injection z with z _
          injection z with z
          have : n = n' := by omega
          rw [this]
          exact hn'
      obtain ⟨q, hq⟩ := List.getElem?_of_mem hnm
      have hql := (List.getElem?_eq_some_iff.mp hq).1
      refine g_tup <| gs_cons <| g_name (e := z10) (he := a10) 10 <| gs_cons <| g_name (e := z7) (he := a7) 7 <| gs_cons <| g_name (e := z11) (he := a11) 11 <| gs_nil <| SK.norm (by walk_at "nrm") ?_
      refine s_cons <| s_set 12 <| w_if <| t_cmp <| w_var 7 rfl <| w_non <| oc_isN <| KT.mk <| brF <| w_bin <| w_bin <| w_var 11 rfl <| w_callB (id := "len") T.b_len (by decide +kernel) <| a_cons <| w_var 6 rfl <| a_nil <| cc_lenM <| oc_mul (.inr ⟨by rw [List.length_map]; omega, by rw [List.length_map]; omega⟩) <| w_indexI 6 _ rfl <| w_var 7 rfl <| ⟨(n : Int), q, rfl, rfl, by rw [List.getElem?_map, hq]; rfl, fun m hm hz => ?_, oc_add <| And.intro ⟨_, rfl, a12⟩ (SK.norm (by walk_at "nrm") ?_)⟩
      · rw [List.getElem?_map] at hz
        cases hm2 : (byPot rs pot)[m]? with
        | none => rw [hm2] at hz; cases hz
        | some n2 =>
          rw [hm2] at hz
          have e2 : ((n2 : Nat) : Int) = (n : Int) := Option.some.inj hz
          have := pw_lt (byPot_lt rs pot) hm2 hq hm
          omega
      rw [List.length_map]
      refine s_one <| s_if <| t_not <| t_val <| w_callF (c_law_same T 1) hr (by decide) <| a_cons <| w_call (c_state_at T) hr (by decide) <| a_cons <| w_var 0 rfl <| a_cons <| w_var 4 rfl <| a_cons <| w_var 9 rfl <| a_nil <| Exists.intro (p, turnsOf rs t pot 4, hour) <| And.intro rfl <| And.intro ⟨by show (turnsOf rs t pot 4).length ≤ 1000; omega, fun u hu => (fl.ok u hu).2.2.2.2⟩ fun d2 hd2 => ?_
      dsimp only at hd2
      rcases hp.tg.same hk htl h2 hd2 hd1 with ⟨_, z⟩ | ⟨w', n', o', q', hq', rfl, z⟩
      · cases z
      · injection z with z
        injection z with z1 z
        injection z with z2 z
        injection z with z3 _
        injection z1 with z1
        injection z2 with z2
        injection z3 with z3
        have en : n = n' := by omega
        subst en
        have eq' : q = q' := by
          rcases Nat.lt_trichotomy q q' with z | z | z
          · have := pw_lt (byPot_lt rs pot) hq hq' z
            omega
          · exact z
          · have := pw_lt (byPot_lt rs pot) hq' hq z
            omega
        have ed : Dt.tup [.str w', .int ((o' * (byPot rs pot).length + q' : Nat) : Int)] = .tup [.str wd, .int (o * ((byPot rs pot).length : Nat) + (q : Nat))] := by
          rw [z1, z3, eq', Int.natCast_add, Int.natCast_mul]
        refine a_cons <| w_tup <| a_cons <| w_var 10 rfl <| a_cons <| w_var 12 rfl <| a_nil <| And.intro (by simp) <| a_nil <| Exists.intro (.tup [.str wd, .int (o * ((byPot rs pot).length : Nat) + (q : Nat))]) <| And.intro (by rw [ed]) <| And.intro rfl <| KT.mk <| nb <| brT <| s_nil ⟨.v (.int (n : Nat)), .v (.int hour), .v (.str wd), .v (.int o), .v (.int (o * ((byPot rs pot).length : Nat) + (q : Nat))), rfl, rfl, rfl, rfl, rfl, rfl⟩
  · exact s_one <| s_ret <| w_bl <| rfl
end
end Pr

end Text_D29
section Text_D30
set_option maxHeartbeats 4000000
namespace Pr
open PySem PySem.Spec PyProof.Rows L2
open C8 (Cal Mak Met pe_c pe_mk pe_mt pe_mt0)
local macro_rules | `(tactic| walk_at "nrm") => `(tactic| (simp only [args, setAll, List.set_cons_zero, List.set_cons_succ, List.map_cons, List.map_nil, List.length_cons, List.length_nil, List.replicate_succ, List.replicate_zero, List.cons_append, List.nil_append, Nat.reduceAdd, Nat.reduceSub]; try rfl))
section
variable {P : Program} {w : World} {K : PySem.W.Frag} {mg : Str → Option Value} {base : Heap}
/-! ## breaks of turns without fault -/
section
variable {p : Pal}
theorem FL.nil : FL p [] := ⟨(fun t ht => by cases ht), (fun i t u h => by simp at h)⟩
theorem FL.cons2 {t u : Turn} {r : List Turn} (h1 : OkTurn p t) (h2 : 0 ≤ p.washOf t.col u.col ∧ t.fin + p.washOf t.col u.col ≤ u.at_) (h : FL p (u :: r)) : FL p (t :: u :: r) := by
  refine ⟨fun x hx => ?_, fun i a b ha hb => ?_⟩
  · rcases List.mem_cons.mp hx with e | hx
    · rw [e]
      exact h1
    · exact h.ok x hx
  · cases i with
    | zero =>
      have ea : t = a := by simpa using ha
      have eb : u = b := by simpa using hb
      subst ea eb
      exact h2
    | succ i => exact h.adj i a b (by simpa using ha) (by simpa using hb)
theorem FL.one {t : Turn} (h : OkTurn p t) : FL p [t] := ⟨fun x hx => by rw [List.mem_singleton.mp hx]; exact h, fun i a b ha hb => by
  have := (List.getElem?_eq_some_iff.mp hb).1
  simp at this⟩
theorem FL.tail {t : Turn} {r : List Turn} (h : FL p (t :: r)) : FL p r := ⟨fun x hx => h.ok x (List.mem_cons_of_mem _ hx), fun i a b ha hb => h.adj (i + 1) a b (by simpa using ha) (by simpa using hb)⟩
theorem FL.drop {ts : List Turn} (h : FL p ts) : ∀ n : Nat, FL p (ts.drop n)
  | n => by
    refine ⟨fun x hx => h.ok x (List.mem_of_mem_drop hx), fun i a b ha hb => h.adj (n + i) a b ?_ ?_⟩
    · rw [List.getElem?_drop] at ha
      exact ha
    · rw [List.getElem?_drop] at hb
      rw [Nat.add_assoc]
      exact hb
theorem FL.head {t : Turn} {r : List Turn} (h : FL p (t :: r)) : ∀ u ∈ r, t.fin ≤ u.at_ := fun u hu => by
  obtain ⟨i, hi⟩ := List.getElem?_of_mem hu
  have := h.befS i 0 t u rfl (by rw [show 0 + i + 1 = i + 1 by omega]; simpa using hi)
  exact this
/-- turns whose key is an hour's at most are the first ones -/
theorem filter_take {key : Turn → Int} : ∀ {ts : List Turn} {hour : Int}, (ts.Pairwise fun a b => key a < key b) → ts.filter (fun t => decide (key t ≤ hour)) = ts.take (ts.filter fun t => decide (key t ≤ hour)).length ∧ ∀ t ∈ ts.drop (ts.filter fun t => decide (key t ≤ hour)).length, hour < key t
  | [], hour, _ => ⟨rfl, fun t ht => by simp at ht⟩
  | t :: r, hour, h => by
    obtain ⟨h1, h2⟩ := List.pairwise_cons.mp h
    by_cases c : key t ≤ hour
    · obtain ⟨i1, i2⟩ := filter_take (hour := hour) h2
      rw [List.filter_cons, if_pos (decide_eq_true c), List.length_cons, List.take_succ_cons, List.drop_succ_cons]
      exact ⟨by rw [← i1], i2⟩
    · have e : (t :: r).filter (fun t => decide (key t ≤ hour)) = [] := by
        rw [List.filter_eq_nil_iff]
        intro u hu
        rw [decide_eq_true_eq]
        rcases List.mem_cons.mp hu with z | hu
        · rw [z]
          exact c
        · have := h1 u hu
          omega
      rw [e]
      refine ⟨rfl, fun u hu => ?_⟩
      have hu : u ∈ t :: r := hu
      rcases List.mem_cons.mp hu with z | hu
      · rw [z]
        omega
      · have := h1 u hu
        omega
theorem FL.pw_at {ts : List Turn} (h : FL p ts) : ts.Pairwise fun a b => a.at_ < b.at_ := by
  induction ts with
  | nil => exact List.Pairwise.nil
  | cons t r ih =>
    refine List.pairwise_cons.mpr ⟨fun u hu => ?_, ih h.tail⟩
    have := h.head u hu
    obtain ⟨_, _, a, b, _⟩ := h.ok t (List.mem_cons_self ..)
    omega
theorem FL.pw_fin {ts : List Turn} (h : FL p ts) : ts.Pairwise fun a b => a.fin < b.fin := by
  induction ts with
  | nil => exact List.Pairwise.nil
  | cons t r ih =>
    refine List.pairwise_cons.mpr ⟨fun u hu => ?_, ih h.tail⟩
    have := h.head u hu
    obtain ⟨_, _, a, b, _⟩ := h.ok u (List.mem_cons_of_mem _ hu)
    omega
theorem FL.ended {ts : List Turn} (h : FL p ts) (hour : Int) : FL p (Pr.ended ts hour) := by
  have := (filter_take (key := Turn.fin) (hour := hour) h.pw_fin).1
  unfold Pr.ended
  rw [this]
  exact h.take _
theorem fb_behind {ts : List Turn} (h : FL p ts) (hour : Int) : (∀ t ∈ ts.take (firstBehind ts hour), t.at_ ≤ hour) ∧ ∀ t ∈ ts.drop (firstBehind ts hour), hour < t.at_ := by
  obtain ⟨h1, h2⟩ := filter_take (key := Turn.at_) (hour := hour) h.pw_at
  refine ⟨fun t ht => ?_, h2⟩
  unfold firstBehind at ht
  rw [← h1] at ht
  exact of_decide_eq_true (List.mem_filter.mp ht).2
/-- moved turns have no fault -/
theorem ok_moved (hp : PalG p) {t : Turn} (h : OkTurn p t) (free : Int) : OkTurn p (movedTurn p t free) ∧ free ≤ (movedTurn p t free).at_ := by
  obtain ⟨a, b, c, d, e⟩ := h
  have ch := hp.ch e
  unfold Pal.ready at b
  unfold movedTurn Pal.ready
  dsimp only
  refine ⟨⟨?_, ?_, ?_, ?_, e⟩, ?_⟩
  · show 0 ≤ if free > t.at_ then free else t.at_
    split <;> omega
  · show (if free > t.at_ then free else t.at_) + p.charge t.col + p.melt t.col ≤ if (if free > t.at_ then free else t.at_) + p.charge t.col + p.melt t.col > t.bgn then (if free > t.at_ then free else t.at_) + p.charge t.col + p.melt t.col else t.bgn
    split <;> omega
  · show (if free > t.at_ then free else t.at_) < if (if free > t.at_ then free else t.at_) + p.charge t.col + p.melt t.col > t.bgn then (if free > t.at_ then free else t.at_) + p.charge t.col + p.melt t.col else t.bgn
    split <;> omega
  · show (if (if free > t.at_ then free else t.at_) + p.charge t.col + p.melt t.col > t.bgn then (if free > t.at_ then free else t.at_) + p.charge t.col + p.melt t.col else t.bgn) < (if (if free > t.at_ then free else t.at_) + p.charge t.col + p.melt t.col > t.bgn then (if free > t.at_ then free else t.at_) + p.charge t.col + p.melt t.col else t.bgn) + t.fin - t.bgn
    omega
  · show free ≤ if free > t.at_ then free else t.at_
    split <;> omega
theorem FL.later (hp : PalG p) : ∀ {ts : List Turn} (free : Int), (∀ t ∈ ts, OkTurn p t) → FL p (laterTurns p ts free)
  | [], free, _ => FL.nil
  | [t], free, h => FL.one (ok_moved hp (h t (by simp)) free).1
  | t :: u :: r, free, h => by
    have ih := FL.later hp (ts := u :: r) ((movedTurn p t free).fin + p.washOf (movedTurn p t free).col u.col) fun x hx => h x (List.mem_cons_of_mem _ hx)
    have mu := ok_moved hp (h u (by simp)) ((movedTurn p t free).fin + p.washOf (movedTurn p t free).col u.col)
    have wu := hp.ws (movedTurn p t free).col u.col
    show FL p (movedTurn p t free :: laterTurns p (u :: r) ((movedTurn p t free).fin + p.washOf (movedTurn p t free).col u.col))
    cases r with
    | nil => exact FL.cons2 (ok_moved hp (h t (by simp)) free).1 ⟨wu.1, mu.2⟩ ih
    | cons v r => exact FL.cons2 (ok_moved hp (h t (by simp)) free).1 ⟨wu.1, mu.2⟩ ih
/-- turns that needn't move -/
theorem still {t : Turn} {free : Int} (h : OkTurn p t) (hf : free ≤ t.at_) : movedTurn p t free = t := by
  obtain ⟨a, b, c, d, e⟩ := h
  unfold movedTurn
  dsimp only
  rw [if_neg (show ¬ free > t.at_ by omega), if_neg (show ¬ p.ready t.col t.at_ > t.bgn by omega)]
  obtain ⟨x, y, z, w⟩ := t
  dsimp only
  congr 1
  omega
theorem later_still : ∀ {ts : List Turn} {free : Int}, FL p ts → (∀ t, ts[0]? = some t → free ≤ t.at_) → laterTurns p ts free = ts
  | [], free, _, _ => rfl
  | [t], free, h, hf => by
    show [movedTurn p t free] = [t]
    rw [still (h.ok t (by simp)) (hf t rfl)]
  | t :: u :: r, free, h, hf => by
    show movedTurn p t free :: laterTurns p (u :: r) ((movedTurn p t free).fin + p.washOf (movedTurn p t free).col u.col) = t :: u :: r
    rw [still (h.ok t (by simp)) (hf t rfl), later_still h.tail fun x hx => ?_]
    have e : u = x := by simpa using hx
    rw [← e]
    exact (h.adj 0 t u rfl rfl).2
/-- the numbers of the turns behind an hour -/
def laterN (ts : List Turn) (hour : Int) : List Int := (ts.zipIdx.filter fun x => decide (hour < x.1.at_)).map fun x => ((x.2 : Nat) : Int)
theorem laterN_nil {ts : List Turn} {hour : Int} (h : FL p ts) (hf : ts.length ≤ firstBehind ts hour) : laterN ts hour = [] := by
  unfold laterN
  rw [List.map_eq_nil_iff, List.filter_eq_nil_iff]
  rintro ⟨t, i⟩ hx
  rw [List.mem_zipIdx_iff_getElem?] at hx
  have := (fb_behind h hour).1 t (by rw [List.take_of_length_le hf]; exact List.mem_of_getElem? hx)
  rw [decide_eq_true_eq]
  show ¬ hour < t.at_
  omega
theorem laterN_head {ts : List Turn} {hour : Int} (h : FL p ts) (hf : firstBehind ts hour < ts.length) : ∃ r, laterN ts hour = ((firstBehind ts hour : Nat) : Int) :: r := by
  have hi : ts[firstBehind ts hour]? = some ts[firstBehind ts hour] := List.getElem?_eq_getElem hf
  have hz : ts.zipIdx[firstBehind ts hour]? = some (ts[firstBehind ts hour], firstBehind ts hour) := by
    rw [List.getElem?_zipIdx, hi]
    simp
  have hb := (fb_behind h hour).2 ts[firstBehind ts hour] (by
    have : (ts.drop (firstBehind ts hour))[0]? = some ts[firstBehind ts hour] := by
      rw [List.getElem?_drop]
      exact hi
    exact List.mem_of_getElem? this)
  have fd := find_at (p := fun x : Turn × Nat => decide (hour < x.1.at_)) hz (decide_eq_true hb) fun x hx => by
    obtain ⟨j, hj⟩ := List.getElem?_of_mem hx
    have hjl := (List.getElem?_eq_some_iff.mp hj).1
    rw [List.length_take] at hjl
    rw [List.getElem?_take_of_lt (by omega), List.getElem?_zipIdx] at hj
    cases ht : ts[j]? with
    | none => rw [ht] at hj; cases hj
    | some t =>
      rw [ht] at hj
      have e : (t, 0 + j) = x := Option.some.inj hj
      have hm : t ∈ ts.take (firstBehind ts hour) := List.mem_of_getElem? (i := j) (by rw [List.getElem?_take_of_lt (by omega)]; exact ht)
      have := (fb_behind h hour).1 t hm
      rw [← e]
      exact decide_eq_false (by show ¬ hour < t.at_; omega)
  unfold laterN
  have hh := List.head?_filter (p := fun x : Turn × Nat => decide (hour < x.1.at_)) (l := ts.zipIdx)
  rw [fd] at hh
  cases hl : ts.zipIdx.filter fun x => decide (hour < x.1.at_) with
  | nil => rw [hl] at hh; cases hh
  | cons x r =>
    rw [hl] at hh
    have e : x = (ts[firstBehind ts hour], firstBehind ts hour) := Option.some.inj hh
    rw [e]
    exact ⟨_, rfl⟩
theorem brk_still {ts : List Turn} {hour : Int} (h : FL p ts) (hf : firstBehind ts hour < ts.length) : (brokenF p ts hour ((ts.getD (firstBehind ts hour) default).at_ - hour)).behind = ts.drop (firstBehind ts hour) := by
  show laterTurns p (ts.drop (firstBehind ts hour)) (hour + ((ts.getD (firstBehind ts hour) default).at_ - hour)) = _
  refine later_still (h.drop _) fun t ht => ?_
  rw [List.getElem?_drop] at ht
  have ht : ts[firstBehind ts hour]? = some t := ht
  rw [List.getD_eq_getElem?_getD, ht]
  show hour + (t.at_ - hour) ≤ t.at_
  omega
theorem FL.behind (hp : PalG p) {ts : List Turn} (h : FL p ts) (hour warm : Int) : FL p (brokenF p ts hour warm).behind := FL.later hp _ fun t ht => h.ok t (List.mem_of_mem_drop ht)
end
/-! bounds of a pot's turns -/
theorem TabG.bnd {p : Pal} {rs : List RowT} {t : TT} {pot : Str} {k : Nat} (h : TabG p rs t) (hk : 0 < (byPot rs pot).length) (h4 : k ≤ 4) : ∀ u ∈ turnsOf rs t pot k, u.fin ≤ 100000 := by
  obtain ⟨b, s, L, rfl, hs, hv, hL⟩ := h
  have hL0 := length_pos b hs
  intro u hu
  obtain ⟨j, hj⟩ := List.getElem?_of_mem hu
  have hlt := (List.getElem?_eq_some_iff.mp hj).1
  rw [turnsOf_len] at hlt
  obtain ⟨n, g1, g2⟩ := turnsOf_get (t := tblOf s rs.length L) hk hlt
  rw [g2] at hj
  have e := Option.some.inj hj
  have hn := (mem_byPot.mp (List.mem_of_getElem? g1)).1
  have hh := b.hr _ (rowAt_mem hn)
  have hw := hv (2 * n + 1)
  rw [← e]
  show (tsAt (tblOf s rs.length L).times n).2 + ((j / (byPot rs pot).length : Nat) : Int) * L + (rowAt rs n).hours ≤ 100000
  rw [tsAt_of hn]
  dsimp only
  have ho : j / (byPot rs pot).length < k := Nat.div_lt_of_lt_mul (by rw [Nat.mul_comm]; exact hlt)
  have m : ((j / (byPot rs pot).length : Nat) : Int) * L ≤ 4 * L := Int.mul_le_mul_of_nonneg_right (by omega) (by omega)
  omega
theorem TabG.cols {p : Pal} {rs : List RowT} {t : TT} {pot : Str} {k : Nat} (hk : 0 < (byPot rs pot).length) (hs : ∀ r ∈ rs, PyData.strOk r.col = true) : ∀ u ∈ turnsOf rs t pot k, PyData.strOk u.col = true := by
  intro u hu
  obtain ⟨j, hj⟩ := List.getElem?_of_mem hu
  have hlt := (List.getElem?_eq_some_iff.mp hj).1
  rw [turnsOf_len] at hlt
  obtain ⟨n, g1, g2⟩ := turnsOf_get (t := t) hk hlt
  rw [g2] at hj
  have e := Option.some.inj hj
  have hn := (mem_byPot.mp (List.mem_of_getElem? g1)).1
  rw [← e]
  exact hs _ (rowAt_mem hn)
theorem RowsG.cols {p : Pal} {rs : List RowT} (g : PalG p) (h : RowsG p rs) : ∀ r ∈ rs, PyData.strOk r.col = true := fun r hr => by
  obtain ⟨⟨c, hc, e⟩, _⟩ := h.row r hr
  rw [e]
  exact (g.col c hc).1.ok
end
end Pr

end Text_D30
section Text_D11
set_option maxHeartbeats 4000000
namespace Pr
open PySem PySem.Spec PyProof.Rows L2
open C8 (Cal Mak Met pe_c pe_mk pe_mt pe_mt0)
local macro_rules | `(tactic| walk_at "nrm") => `(tactic| (simp only [args, setAll, List.set_cons_zero, List.set_cons_succ, List.map_cons, List.map_nil, List.length_cons, List.length_nil, List.replicate_succ, List.replicate_zero, List.cons_append, List.nil_append, Nat.reduceAdd, Nat.reduceSub]; try rfl))
section
variable {P : Program} {w : World} {K : PySem.W.Frag} {mg : Str → Option Value} {base : Heap}
/-! ## settling -/
structure TxS (K : PySem.W.Frag) (mg : Str → Option Value) (C : Addr) : Prop where
  cls : Cls K C
  n_steps : NoAttr K C "own_steps"
  n_len : NoAttr K C "length"
  n_hours : NoAttr K C "hours"
  n_by : NoAttr K C "by_step"
  at_ : mg "Settling" = some (.ref C)
  init : ∃ (f : Addr) (fd : FuncData), Mk K C f ∧ (Fun K "__init__" "Settling.__init__" (inClass (topS 48) 0) f fd ∨ ∃ dvs, FunD K "__init__" "Settling.__init__" (defArgs (inClass (topS 48) 0)) (defBody (inClass (topS 48) 0)) (defScope (inClass (topS 48) 0)) dvs [] f fd) ∧ Binds K fd ["self", "steps", "many", "length"] []
  m_put : Dfm K C "put_later" "Settling.put_later" (inClass (topS 48) 1) ["self", "number"]
  m_gone : Dfm K C "gone_through" "Settling.gone_through" (inClass (topS 48) 2) ["self"]
  m_uns : Dfm K C "unsettled" "Settling.unsettled" (inClass (topS 48) 3) ["self"]
  m_ring : Dfm K C "ring_by" "Settling.ring_by" (inClass (topS 48) 4) ["self", "moment"]
variable {C : Addr}
abbrev nSInit : List Str := ["self", "steps", "many", "length", "moment"]
theorem c_settling (T : Txt K mg) (T2 : TxS K mg C) : Mak P w K mg base 1 "Settling" C (spI C (fun a : List StepT × Nat × Int => [dSteps a.1, .int a.2.1, .int a.2.2]) (fun a => a.2.1 ≤ 900) fun a fls => ∃ q1 q2, fls = (⟨a.1, a.2.2, q1, q2, (List.replicate a.2.1 0, List.replicate a.2.1 none)⟩ : SA).fls) [] := by
  obtain ⟨f, fd, M, F, b⟩ := T2.init
  refine ⟨f, fd, _, [], M, (init_rule (N := nSInit) F ⟨rfl, rfl, rfl, by decide +kernel, rfl, by decide +kernel, by decide +kernel⟩ (fun _ => rfl) ?_ : FnOk P w K mg base CX0 (0 + 1) f fd ["self", "steps", "many", "length"] _), T2.at_, b, .nil⟩
  rintro f cdv A outer s H E hr Γ p ⟨ss, m, l⟩ hB hp
  have nd : nSInit.Nodup := by decide +kernel
  dsimp only at hp ⊢
  have er : ∀ d : Dt, (List.range m).map (fun _ => d) = List.replicate m d := fun d => by
    rw [List.map_const', List.length_range]
  refine s_cons <| s_attV 0 T2.cls T2.n_steps <| w_var 1 rfl <| ⟨p, [], rfl, rfl, by decide, SK.norm (by walk_at "nrm") ?_⟩
  refine s_cons <| s_attV 0 T2.cls T2.n_len <| w_var 3 rfl <| ⟨p, _, rfl, rfl, by show 1 < 999; decide, SK.norm (by walk_at "nrm") ?_⟩
  refine s_cons <| s_attLc (own := [("moment", 4)]) 0 T2.cls T2.n_hours <| i_rng1 T.b_range <| w_var 2 rfl <| ⟨m, rfl, by omega, lc_map (List.range m) (fun i => .int (i : Nat)) (fun _ => true) (fun _ => .int 0) rfl (by rw [List.length_range]; omega) (lvC lvN) (fun x hx _ _ _ _ _ => g_name 4 <| fun _ _ _ _ _ => ts_nil <| And.intro rfl <| brT <| fun _ _ _ _ _ => w_int <| ⟨rfl, rfl⟩) <| ⟨p, _, _, rfl, rfl, rfl, by show 2 < 999; decide, fun q1 => SK.norm (by walk_at "nrm") ?_⟩⟩
  rw [fT, er]
  refine s_one <| s_attLc (own := [("moment", 4)]) 0 T2.cls T2.n_by <| i_rng1 T.b_range <| w_var 2 rfl <| ⟨m, rfl, by omega, lc_map (List.range m) (fun i => .int (i : Nat)) (fun _ => true) (fun _ => .non) rfl (by rw [List.length_range]; omega) (lvC lvN) (fun x hx _ _ _ _ _ => g_name 4 <| fun _ _ _ _ _ => ts_nil <| And.intro rfl <| brT <| fun _ _ _ _ _ => w_non <| ⟨rfl, rfl⟩) <| ⟨p, _, _, rfl, rfl, rfl, by show 3 < 999; decide, fun q2 => ?_⟩⟩
  refine ⟨_, rfl, q1, q2, ?_⟩
  rw [fT, er]
  show _ = SA.fls _
  unfold SA.fls
  dsimp only
  rw [List.map_replicate, List.map_replicate]
  rfl
end
end Pr

end Text_D11
section Text_D12
set_option maxHeartbeats 4000000
namespace Pr
open PySem PySem.Spec PyProof.Rows L2
open C8 (Cal Mak Met pe_c pe_mk pe_mt pe_mt0)
local macro_rules | `(tactic| walk_at "nrm") => `(tactic| (simp only [args, setAll, List.set_cons_zero, List.set_cons_succ, List.map_cons, List.map_nil, List.length_cons, List.length_nil, List.replicate_succ, List.replicate_zero, List.cons_append, List.nil_append, Nat.reduceAdd, Nat.reduceSub]; try rfl))
section
variable {P : Program} {w : World} {K : PySem.W.Frag} {mg : Str → Option Value} {base : Heap}
variable {C : Addr}
theorem getD_get {α : Type} {l : List α} {n : Nat} {d : α} (h : n < l.length) : l[n]? = some (l.getD n d) := by
  rw [List.getD_eq_getElem?_getD, List.getElem?_eq_getElem h]
  rfl
theorem stepAt_mem {ss : List StepT} {n : Nat} (h : n < ss.length) : stepAt ss n ∈ ss := List.mem_of_getElem? (stepAt_get h)
theorem ixN_n {n j : Nat} (h : j < n) : ixN n (j : Int) = some j := by
  unfold ixN
  rw [if_pos (by omega), if_pos (by omega)]
  rfl
abbrev nPut : List Str := ["self", "number", "one", "other", "hours", "over", "least"]
theorem c_put (T : Txt K mg) (T2 : TxS K mg C) : Met P w K mg base 1 C "put_later" (spO C (fun a : SA × Nat => a.1.fls) (fun a => [.int (a.2 : Nat)]) (fun a => a.1.Ok ∧ a.2 < a.1.ss.length) fun a d fls => d = .bl (putLater a.1.ss a.1.L a.2 a.1.s).1 ∧ fls = (a.1.upd (putLater a.1.ss a.1.L a.2 a.1.s).2).fls) [] := by
  refine T2.m_put.obj (k := 0) (N := nPut) ⟨rfl, rfl, rfl, by decide +kernel, rfl, by decide +kernel, by decide +kernel⟩ (fun _ => rfl) ?_
  rintro f cdv A outer s H E hr hC Γ p ⟨⟨ss, L, q1, q2, hs, bs⟩, n⟩ hB ⟨ok, hn⟩
  have nd : nPut.Nodup := by decide +kernel
  dsimp only at hn ⊢
  obtain ⟨i1, i2⟩ := ok.inn _ (stepAt_mem hn)
  have l1 := ok.lo
  have l2 := ok.hi
  have l3 := ok.len
  dsimp only at i1 i2 l1 l2 l3
  have b1 : -2 ^ 64 < L ∧ L < 2 ^ 64 := ⟨by omega, by omega⟩
  refine s_cons <| s_asg <| w_ix <| w_attO 0 T2.cls T2.n_steps rfl rfl <| w_var 1 rfl <| xc_lst (atI_map (stepAt_get hn)) <| g_tup <| gs_cons <| g_name 2 <| gs_cons <| g_name 3 <| gs_cons <| g_name 4 <| gs_cons <| g_name 5 <| gs_nil <| SK.norm (by walk_at "nrm") ?_
  refine s_cons <| s_set 6 <| w_bin <| w_bin <| w_ixAttO 0 T2.cls T2.n_hours rfl rfl <| w_var 2 rfl <| ⟨_, _, _, _, rfl, rfl, rfl, atI_map (getD_get (d := 0) i1), w_var 4 rfl <| oc_add <| w_bin <| w_var 5 rfl <| w_attO 0 T2.cls T2.n_len rfl rfl <| oc_mul (.inr b1) <| oc_sub <| And.intro ⟨_, rfl, rfl⟩ (SK.norm (by walk_at "nrm") ?_)⟩
  refine s_cons <| s_if <| t_cmp <| w_var 6 rfl <| w_ixAttO 0 T2.cls T2.n_hours rfl rfl <| w_var 3 rfl <| ⟨_, _, _, _, rfl, rfl, rfl, atI_map (getD_get (d := 0) i2), oc_le <| KT.mk <| br (fun h => ?_) (fun h => s_nil ?_)⟩
  · refine s_one <| s_ret <| w_bl <| ⟨_, rfl, rfl, ?_⟩
    have e : putLater ss L n (hs, bs) = (false, (hs, bs)) := if_pos (of_decide_eq_true h)
    rw [e]
    exact ⟨rfl, rfl⟩
  have e : putLater ss L n (hs, bs) = (true, (hs.set (stepAt ss n).other (leastOf ss L n hs), bs.set (stepAt ss n).other (some n))) := if_neg (of_decide_eq_false h)
  rw [e]
  refine s_cons <| s_putAttO 0 T2.cls T2.n_hours (q0 := q1) <| w_var 6 rfl <| ⟨_, _, rfl, rfl, w_var 3 rfl <| ⟨_, _, _, (stepAt ss n).other, rfl, rfl, rfl, ixN_n (by rw [List.length_map]; exact i2), SK.norm (by walk_at "nrm") ?_⟩⟩
  refine s_cons <| s_putAttO 0 T2.cls T2.n_by (q0 := q2) <| w_var 1 rfl <| ⟨_, _, rfl, rfl, w_var 3 rfl <| ⟨_, _, _, (stepAt ss n).other, rfl, rfl, rfl, ixN_n (by rw [List.length_map]; show _ < bs.length; rw [l3]; exact i2), SK.norm (by walk_at "nrm") ?_⟩⟩
  refine s_one <| s_ret <| w_bl <| ⟨_, rfl, rfl, rfl, ?_⟩
  show _ = SA.fls _
  unfold SA.fls SA.upd
  dsimp only
  rw [List.map_set, List.map_set]
  rfl
abbrev nGone : List Str := ["self", "late", "number"]
theorem c_gone (T : Txt K mg) (T2 : TxS K mg C) : Met P w K mg base 2 C "gone_through" (spO C SA.fls (fun _ => []) (fun a => a.Ok) fun a d fls => d = dOptN (gone a.ss a.L a.s).1 ∧ fls = (a.upd (gone a.ss a.L a.s).2).fls) [] := by
  refine T2.m_gone.obj (k := 1) (N := nGone) ⟨rfl, rfl, rfl, by decide +kernel, rfl, by decide +kernel, by decide +kernel⟩ (fun _ => rfl) ?_
  rintro f cdv A outer s H E hr hC Γ p a hB ok
  have nd : nGone.Nodup := by decide +kernel
  have few := ok.few
  refine s_cons <| s_set 1 <| w_non <| And.intro ⟨_, rfl, rfl⟩ (SK.norm (by walk_at "nrm") ?_)
  refine s_cons <| s_for <| i_rng1 T.b_range <| w_callB (id := "len") T.b_len (by decide +kernel) <| a_cons <| w_attO 0 T2.cls T2.n_steps rfl rfl <| a_nil <| cc_lenM <| ex rfl <| And.intro few <| ⟨fun i δ => ∃ e2, i ≤ a.ss.length ∧ e2.adr = [] ∧ δ = [.obj p C (a.upd (goneTo a.ss a.L a.s i).2).fls, .v (dOptN (goneTo a.ss a.L a.s i).1), e2], ⟨_, Nat.zero_le _, rfl, rfl⟩, fun Γ i d δ hd hI => ?_, fun δ hI => ?_⟩
  · obtain ⟨e2, hi, ha, rfl⟩ := hI
    have hlt : i < a.ss.length := by
      have := (List.getElem?_eq_some_iff.mp hd).1
      simpa using this
    have ed : d = .int (i : Nat) := by
      rw [List.getElem?_map, List.getElem?_range hlt] at hd
      exact (Option.some.inj hd).symm
    subst ed
    have ok2 : (a.upd (goneTo a.ss a.L a.s i).2).Ok := ok.to (goneTo_len i).1 (goneTo_len i).2
    have en : goneTo a.ss a.L a.s (i + 1) = (if (putLater a.ss a.L i (goneTo a.ss a.L a.s i).2).1 then some i else (goneTo a.ss a.L a.s i).1, (putLater a.ss a.L i (goneTo a.ss a.L a.s i).2).2) := rfl
    refine g_name (e := e2) (he := ha) 2 <| SK.norm (by walk_at "nrm") ?_
    refine s_one <| s_if <| t_val <| w_mtO 0 (c_put T T2) hr (by decide) rfl rfl <| a_cons <| w_var 2 rfl <| a_nil <| ⟨(a.upd (goneTo a.ss a.L a.s i).2, i), rfl, rfl, ⟨ok2, hlt⟩, ?_⟩
    rintro d fls had ⟨rfl, rfl⟩
    refine KT.mk <| br (fun h => ?_) (fun h => s_nil ?_)
    · have h : (putLater a.ss a.L i (goneTo a.ss a.L a.s i).2).1 = true := h
      refine s_one <| s_set 1 <| w_var 2 rfl <| And.intro ⟨_, rfl, rfl⟩ ⟨.v (.int (i : Nat)), hlt, rfl, ?_⟩
      rw [en, if_pos h]
      rfl
    · refine ⟨.v (.int (i : Nat)), hlt, rfl, ?_⟩
      rw [en, if_neg (by rw [show (putLater a.ss a.L i (goneTo a.ss a.L a.s i).2).1 = false from h]; decide)]
      rfl
  · obtain ⟨e2, hi, ha, rfl⟩ := hI
    rw [List.length_map, List.length_range]
    exact s_one <| s_ret <| w_var 1 rfl <| ⟨_, rfl, rfl, rfl, rfl⟩
abbrev nUns : List Str := ["self", "late", "turn"]
def UnsR (a : SA) (d : Dt) (fls : List (Str × Fl)) : Prop :=
  (∃ n, n ≤ a.s.1.length ∧ (thru a.ss a.L a.s (n + 1)).1 = none ∧ d = .non ∧ fls = (a.upd (thru a.ss a.L a.s (n + 1)).2).fls) ∨
  (∃ late, (∀ k, k ≤ a.s.1.length → (thru a.ss a.L a.s (k + 1)).1 ≠ none) ∧ (thru a.ss a.L a.s (a.s.1.length + 1)).1 = some late ∧ d = .int ((stepAt a.ss late).other : Nat) ∧ fls = (a.upd (thru a.ss a.L a.s (a.s.1.length + 1)).2).fls)
theorem c_uns (T : Txt K mg) (T2 : TxS K mg C) : Met P w K mg base 3 C "unsettled" (spO C SA.fls (fun _ => []) (fun a => a.Ok) UnsR) [] := by
  refine T2.m_uns.obj (k := 2) (N := nUns) ⟨rfl, rfl, rfl, by decide +kernel, rfl, by decide +kernel, by decide +kernel⟩ (fun _ => rfl) ?_
  rintro f cdv A outer s H E hr hC Γ p a hB ok
  have nd : nUns.Nodup := by decide +kernel
  have few := ok.few
  have many := ok.many
  refine s_cons <| s_set 1 <| w_non <| And.intro ⟨_, rfl, rfl⟩ (SK.norm (by walk_at "nrm") ?_)
  refine s_cons <| s_for <| i_rng1 T.b_range <| w_bin <| w_lenAttO 0 T2.cls T2.n_hours rfl rfl T.b_len (by decide +kernel) <| w_int <| oc_add <| ⟨a.s.1.length + 1, by rw [List.length_map]; rfl, by omega, ⟨fun i δ => ∃ e2, i ≤ a.s.1.length + 1 ∧ e2.adr = [] ∧ (∀ k, k < i → (thru a.ss a.L a.s (k + 1)).1 ≠ none) ∧ δ = [.obj p C (a.upd (thru a.ss a.L a.s i).2).fls, .v (dOptN (thru a.ss a.L a.s i).1), e2], ⟨_, Nat.zero_le _, rfl, fun k h => by omega, rfl⟩, fun Γ i d δ hd hI => ?_, fun δ hI => ?_⟩⟩
  · obtain ⟨e2, hi, ha, hk, rfl⟩ := hI
    have hlt : i < a.s.1.length + 1 := by
      have := (List.getElem?_eq_some_iff.mp hd).1
      simpa using this
    have ed : d = .int (i : Nat) := by
      rw [List.getElem?_map, List.getElem?_range hlt] at hd
      exact (Option.some.inj hd).symm
    subst ed
    refine g_name (e := e2) (he := ha) 2 <| SK.norm (by walk_at "nrm") ?_
    refine s_cons <| s_set 1 <| w_mtO0 0 (a.upd (thru a.ss a.L a.s i).2) (c_gone T T2) hr (by decide) rfl rfl rfl (ok.thru i) ?_
    rintro d fls had ⟨rfl, rfl⟩
    refine And.intro ⟨_, rfl, rfl⟩ ?_
    cases e : (thru a.ss a.L a.s (i + 1)).1 with
    | none =>
      have e' : (gone (a.upd (thru a.ss a.L a.s i).2).ss (a.upd (thru a.ss a.L a.s i).2).L (a.upd (thru a.ss a.L a.s i).2).s).1 = none := e
      rw [e']
      refine SK.norm (by walk_at "nrm") ?_
      exact s_one <| s_if <| t_cmp <| w_var 1 rfl <| w_non <| oc_isN <| KT.mk <| brT <| s_one <| s_ret <| w_non <| ⟨_, rfl, rfl, .inl ⟨i, by omega, e, rfl, rfl⟩⟩
    | some late =>
      have e' : (gone (a.upd (thru a.ss a.L a.s i).2).ss (a.upd (thru a.ss a.L a.s i).2).L (a.upd (thru a.ss a.L a.s i).2).s).1 = some late := e
      rw [e']
      refine SK.norm (by walk_at "nrm") ?_
      refine s_one <| s_if <| t_cmp <| w_var 1 rfl <| w_non <| oc_isN <| KT.mk <| brF <| s_nil ⟨.v (.int (i : Nat)), hlt, rfl, fun k h => ?_, ?_⟩
      · by_cases h2 : k = i
        · rw [h2, e]
          exact fun z => by cases z
        · exact hk k (by omega)
      · rw [e]
        rfl
  · obtain ⟨e2, hi, ha, hk, rfl⟩ := hI
    rw [List.length_map, List.length_range] at hk ⊢
    cases e : (thru a.ss a.L a.s (a.s.1.length + 1)).1 with
    | none => exact absurd e (hk _ (Nat.lt_succ_self _))
    | some late =>
      have hl : late < a.ss.length := goneTo_lt _ _ e
      exact s_one <| s_ret <| w_ix <| w_ix <| w_attO 0 T2.cls T2.n_steps rfl rfl <| w_var 1 rfl <| xc_lst (atI_map (stepAt_get hl)) <| w_int <| xc_tup rfl <| ⟨_, rfl, rfl, .inr ⟨late, fun k h => hk k (by omega), e, rfl, rfl⟩⟩
end
end Pr

end Text_D12
section Text_D13
set_option maxHeartbeats 4000000
namespace Pr
open PySem PySem.Spec PyProof.Rows L2
open C8 (Cal Mak Met pe_c pe_mk pe_mt pe_mt0)
local macro_rules | `(tactic| walk_at "nrm") => `(tactic| (simp only [args, setAll, List.set_cons_zero, List.set_cons_succ, List.map_cons, List.map_nil, List.length_cons, List.length_nil, List.replicate_succ, List.replicate_zero, List.cons_append, List.nil_append, Nat.reduceAdd, Nat.reduceSub]; try rfl))
section
variable {P : Program} {w : World} {K : PySem.W.Frag} {mg : Str → Option Value} {base : Heap}
variable {C : Addr}
section
variable {X : Cx} {np p1 p2 p3 pos : Pos} {δ : Sls} {K : Sls → Dt → Prop} {x : Str} {k1 : Nat}
/-- xs[::-1], xs our own -/
theorem w_revO (i : Nat) {p0 : Addr} {ds : List Dt} (hδ : δ[i]? = some (.own p0 ds)) (k : K δ (.lst ds.reverse)) (hN : X.N[i]? = some x := by rfl) (hv : Vis X.env.scope x := by first | exact Or.inl rfl | exact Or.inr (Or.inl rfl) | exact Or.inr (Or.inr rfl)) (hd : (x == ("__debug__" : Str)) = false := by decide) (hcd : (x == ("__classdict__" : Str)) = false := by decide) : EK X (.Subscript (.Name x np) (.Slice none none (some (.UnaryOp .USub (.Constant (.int 1) k1 p1) p2)) p3) pos) δ K :=
  ek_of (pe_revL (pe_var hN hv hd hcd)) fun σ H Q hq => by
    obtain ⟨S, g, q⟩ := hq
    obtain ⟨o, ho, e0, hS, vs, hvs, hr⟩ := g.ok i _ hδ
    subst e0
    exact ⟨_, ho, p0, vs, rfl, .inl (.inl hvs), fun p' hp' => Fw.lst (K := K) (δ := δ) (fun v H' d ex r k => q v H' d δ ex.stp (g.ex ex) r k) g hp' hr.reverse k⟩
end
theorem atI_back {α : Type} {xs : List α} {x : α} : atI (xs ++ [x]) (-1) = some x := by
  unfold atI ixN
  rw [if_neg (by decide), if_pos (by rw [List.length_append]; simp; omega)]
  have e : (-1 + ((xs ++ [x]).length : Int)).toNat = xs.length := by rw [List.length_append]; simp; omega
  show (xs ++ [x])[(-1 + ((xs ++ [x]).length : Int)).toNat]? = some x
  rw [e]
  simp
abbrev nRing : List Str := ["self", "moment", "turn", "ring", "at"]
theorem c_ring (T : Txt K mg) (T2 : TxS K mg C) : Met P w K mg base 1 C "ring_by" (spO C (fun a : SA × Nat => a.1.fls) (fun a => [.int (a.2 : Nat)]) (fun a => a.1.Ok ∧ Back a.1.ss a.1.s.2 a.2) fun a d fls => fls = a.1.fls ∧ ∃ c, 1 ≤ c ∧ c ≤ a.1.s.2.length ∧ bk a.1.ss a.1.s.2 a.2 (a.1.s.2.length + c) = bk a.1.ss a.1.s.2 a.2 a.1.s.2.length ∧ d = .lst ((ringTo a.1.ss a.1.s.2 a.2 c).reverse.map fun i => .int (i : Nat))) [] := by
  refine T2.m_ring.obj (k := 0) (N := nRing) ⟨rfl, rfl, rfl, by decide +kernel, rfl, by decide +kernel, by decide +kernel⟩ (fun _ => rfl) ?_
  rintro f cdv A outer s H E hr hC Γ p ⟨⟨ss, L, q1, q2, hs, bs⟩, m⟩ hB ⟨ok, bp⟩
  have nd : nRing.Nodup := by decide +kernel
  have many := ok.many
  have len := ok.len
  dsimp only at bp many len ⊢
  have par := bp.par
  have one : ∀ k, ss[parOf bs (bk ss bs m k)]? = some (stepAt ss (parOf bs (bk ss bs m k))) := fun k => stepAt_get (par k).2
  obtain ⟨c, c1, c2, c3, c4⟩ := bp.ring
  refine s_cons <| s_for <| i_rng1 T.b_range <| w_lenAttO 0 T2.cls T2.n_hours rfl rfl T.b_len (by decide +kernel) <| ⟨hs.length, by rw [List.length_map], by omega, ⟨fun i δ => ∃ e2, i ≤ hs.length ∧ e2.adr = [] ∧ δ = [.obj p C (SA.fls ⟨ss, L, q1, q2, hs, bs⟩), .v (.int (bk ss bs m i : Nat)), e2, .any, .any], ⟨_, Nat.zero_le _, rfl, rfl⟩, fun Γ i d δ hd hI => ?_, fun δ hI => ?_⟩⟩
  · obtain ⟨e2, hi, ha, rfl⟩ := hI
    have hlt : i < hs.length := by
      have := (List.getElem?_eq_some_iff.mp hd).1
      simpa using this
    have ed : d = .int (i : Nat) := by
      rw [List.getElem?_map, List.getElem?_range hlt] at hd
      exact (Option.some.inj hd).symm
    subst ed
    refine g_name (e := e2) (he := ha) 2 <| SK.norm (by walk_at "nrm") ?_
    exact s_one <| s_set 1 <| w_ix <| w_ix <| w_attO 0 T2.cls T2.n_steps rfl rfl <| w_ixAttO 0 T2.cls T2.n_by rfl rfl <| w_var 1 rfl <| ⟨_, _, _, _, rfl, rfl, rfl, atI_map (par i).1, xc_lst (atI_map (one i)) <| w_int <| xc_tup rfl <| And.intro ⟨_, rfl, rfl⟩ ⟨.v (.int (i : Nat)), hlt, rfl, rfl⟩⟩
  · obtain ⟨e2, hi, ha, rfl⟩ := hI
    rw [List.length_map, List.length_range, ← len]
    refine s_cons <| s_newL 3 <| a_cons <| w_ixAttO 0 T2.cls T2.n_by rfl rfl <| w_var 1 rfl <| ⟨_, _, _, _, rfl, rfl, rfl, atI_map (par bs.length).1, a_nil <| And.intro (by show 1 ≤ 1000; decide) <| And.intro ⟨_, rfl, rfl⟩ fun q => SK.norm (by walk_at "nrm") ?_⟩
    refine s_cons <| s_set 4 <| w_ix <| w_ix <| w_attO 0 T2.cls T2.n_steps rfl rfl <| w_ixO 3 rfl <| w_int <| ⟨_, _, _, _, rfl, rfl, rfl, xc_lst (atI_map (one bs.length)) <| w_int <| xc_tup rfl <| And.intro ⟨_, rfl, rfl⟩ (SK.norm (by walk_at "nrm") ?_)⟩
    refine s_cons <| s_while (fun k δ => ∃ j, k + j = c ∧ 1 ≤ j ∧ j ≤ c ∧ δ = [.obj p C (SA.fls ⟨ss, L, q1, q2, hs, bs⟩), .v (.int (bk ss bs m bs.length : Nat)), e2, .own q ((ringTo ss bs m j).map fun i => .int (i : Nat)), .v (.int (bk ss bs m (bs.length + j) : Nat))]) ⟨c - 1, 1, by omega, Nat.le_refl _, c1, rfl⟩ fun k δ hI => ?_
    obtain ⟨j, hj, j1, j2, rfl⟩ := hI
    refine t_cmp <| w_var 4 rfl <| w_var 1 rfl <| oc_neI <| KT.mk <| br (fun h => ?_) (fun h => ?_)
    · have hne : bk ss bs m (bs.length + j) ≠ bk ss bs m bs.length := by
        intro z
        rw [z] at h
        simp at h
      have hjc : j < c := by
        rcases Nat.lt_or_ge j c with z | z
        · exact z
        · exact absurd (by rw [show j = c by omega]; exact c3) hne
      have er : ringTo ss bs m (j + 1) = ringTo ss bs m j ++ [parOf bs (bk ss bs m (bs.length + j))] := by
        unfold ringTo
        rw [List.range_succ, List.map_append]
        rfl
      have el : (ringTo ss bs m j).length = j := by
        unfold ringTo
        rw [List.length_map, List.length_range]
      refine s_cons <| s_app 3 <| w_ixAttO 0 T2.cls T2.n_by rfl rfl <| w_var 4 rfl <| ⟨_, _, _, _, rfl, rfl, rfl, atI_map (par (bs.length + j)).1, ⟨q, _, rfl, by rw [List.length_map, el]; omega, SK.norm (by walk_at "nrm") ?_⟩⟩
      refine s_one <| s_set 4 <| w_ix <| w_ix <| w_attO 0 T2.cls T2.n_steps rfl rfl <| w_ixO 3 rfl <| w_un <| w_int <| uc_neg <| ⟨_, _, _, .int (parOf bs (bk ss bs m (bs.length + j)) : Nat), rfl, rfl, ?_, xc_lst (atI_map (one (bs.length + j))) <| w_int <| xc_tup rfl <| And.intro ⟨_, rfl, rfl⟩ ⟨k - 1, by omega, j + 1, by omega, by omega, by omega, ?_⟩⟩
      · exact atI_back
      · rw [er, List.map_append]
        rfl
    · have heq : bk ss bs m (bs.length + j) = bk ss bs m bs.length := by
        have h2 : ((bk ss bs m (bs.length + j) : Nat) : Int) = ((bk ss bs m bs.length : Nat) : Int) := by simpa using h
        exact Int.ofNat.inj h2
      refine s_one <| s_ret <| w_revO 3 rfl <| ⟨_, rfl, rfl, rfl, j, j1, by omega, heq, ?_⟩
      rw [List.map_reverse]
end
end Pr

end Text_D13
section Text_D14
set_option maxHeartbeats 4000000
namespace Pr
open PySem PySem.Spec PyProof.Rows L2
open C8 (Cal Mak Met pe_c pe_mk pe_mt pe_mt0)
local macro_rules | `(tactic| walk_at "nrm") => `(tactic| (simp only [args, setAll, List.set_cons_zero, List.set_cons_succ, List.map_cons, List.map_nil, List.length_cons, List.length_nil, List.replicate_succ, List.replicate_zero, List.cons_append, List.nil_append, Nat.reduceAdd, Nat.reduceSub]; try rfl))
section
variable {P : Program} {w : World} {K : PySem.W.Frag} {mg : Str → Option Value} {base : Heap}
variable {C CT : Addr}
theorem zw {α β : Type} {f : α → α → β} : ∀ l : List α, List.zipWith f l l = l.map fun a => f a a
  | [] => rfl
  | a :: l => by rw [List.zipWith_cons_cons, List.map_cons, zw l]
abbrev nSettled : List Str := ["steps", "many", "length", "settling", "moment"]
def SetR (CT : Addr) (a : List StepT × Nat × Int) (d : Dt) : Prop :=
  (∃ s : Stg, Holds a.1 a.2.2 s a.1.length ∧ (∀ v, 0 ≤ hAt s v ∧ hAt s v ≤ 60000) ∧ d = .tup [dTT CT ⟨(List.range a.2.1).map fun i => (hAt s (2 * i), hAt s (2 * i + 1)), a.2.2⟩, .non]) ∨
  (∃ ring : List Nat, ring.length ≤ 24 ∧ (∀ i ∈ ring, i < a.1.length) ∧ 1 ≤ ringSum a.1 (·.over) ring ∧ ringSum a.1 (·.over) ring * a.2.2 < ringSum a.1 (·.hours) ring ∧ d = .tup [.non, .lst (ring.map fun i => .int (i : Nat))])
structure SetP (ss : List StepT) (many : Nat) (L : Int) : Prop where
  ok : StepsOk ss (2 * many)
  few : many ≤ 12
  len : ss.length ≤ 48
  lo : 0 ≤ L
  hi : L ≤ 2000
theorem c_settled (T : Txt K mg) (T1 : TxT K mg CT) (T2 : TxS K mg C) : Cal P w K mg base 4 "settled" (spP (fun a : List StepT × Nat × Int => [dSteps a.1, .int a.2.1, .int a.2.2]) (fun a => SetP a.1 a.2.1 a.2.2) (SetR CT)) [] := by
  refine T.d_settled.pure (N := nSettled) ⟨rfl, rfl, rfl, by decide +kernel, rfl, by decide +kernel, by decide +kernel⟩ (fun _ => rfl) ?_
  rintro f cdv A outer s H E hr Γ ⟨ss, r, L⟩ hB hp
  have nd : nSettled.Nodup := by decide +kernel
  dsimp only at hp ⊢
  have few := hp.few
  have slen := hp.len
  have F := hp.ok.fr hp.lo
  refine s_cons <| s_mkO 3 (c_settling T T2) hr (by decide) <| a_cons <| w_var 0 rfl <| a_cons <| w_bin <| w_int <| w_var 1 rfl <| oc_mul (.inl ⟨by decide, by decide⟩) <| a_cons <| w_var 2 rfl <| a_nil <| ⟨(ss, 2 * r, L), by show [_, Dt.int ((2 * r : Nat) : Int), _] = _; rw [show ((2 * r : Nat) : Int) = 2 * (r : Int) by omega], by show 2 * r ≤ 900; omega, ⟨_, rfl, rfl⟩, ?_⟩
  rintro q fls ⟨q1, q2, rfl⟩
  have ok : (⟨ss, L, q1, q2, (List.replicate (2 * r) 0, List.replicate (2 * r) none)⟩ : SA).Ok := by
    refine ⟨?_, by show ss.length ≤ 1000; omega, ?_, fun st hst => ?_, hp.lo, by show L ≤ 1000000000000; have := hp.hi; omega⟩
    · dsimp only
      rw [List.length_replicate, List.length_replicate]
    · dsimp only
      rw [List.length_replicate]
      omega
    · dsimp only at hst ⊢
      rw [List.length_replicate]
      obtain ⟨e, he, rfl⟩ := List.getElem_of_mem hst
      have := hp.ok e he
      unfold stepAt at this
      rw [List.getD_eq_getElem?_getD, List.getElem?_eq_getElem he] at this
      exact ⟨this.1, this.2.1⟩
  refine SK.norm (by walk_at "nrm") ?_
  refine s_cons <| s_set 4 <| w_mtO0 3 (⟨ss, L, q1, q2, (List.replicate (2 * r) 0, List.replicate (2 * r) none)⟩ : SA) (c_uns T T2) hr (by decide) rfl rfl rfl ok ?_
  rintro d fls had (⟨n, hn, e, rfl, rfl⟩ | ⟨late, hk, e, rfl, rfl⟩)
  · refine And.intro ⟨_, rfl, rfl⟩ (SK.norm (by walk_at "nrm") ?_)
    dsimp only at hn e
    rw [List.length_replicate] at hn
    obtain ⟨t, u, b, _, hh⟩ := BF.thru F (n + 1)
    have holds := hh (by omega) e
    generalize hs2 : (thru ss L (List.replicate (2 * r) 0, List.replicate (2 * r) none) (n + 1)).2 = s2 at b holds
    have es : (SA.upd ⟨ss, L, q1, q2, (List.replicate (2 * r) 0, List.replicate (2 * r) none)⟩ (thru ss L (List.replicate (2 * r) 0, List.replicate (2 * r) none) (n + 1)).2) = ⟨ss, L, q1, q2, s2⟩ := by rw [hs2]; rfl
    have hl : (s2.1.map Dt.int).length = 2 * r := by rw [List.length_map]; exact b.l1
    refine SK.norm (by show _ = [Sl.v (dSteps ss), .v (.int r), .v (.int L), .obj q C (SA.fls ⟨ss, L, q1, q2, s2⟩), .v .non]; first | rfl | rw [← es]) ?_
    refine s_cons <| s_if <| t_cmp <| w_var 4 rfl <| w_non <| oc_notN <| KT.mk <| nb <| brT <| s_nil ?_
    refine s_one <| s_ret <| w_tup <| a_cons <| w_mkD (c_table T1) hr (by decide) <| a_cons <| w_listZip T.b_list T.b_zip (w_stepAttO 3 T2.cls T2.n_hours rfl rfl (by decide) (fun k => o_none k) <| w_stepAttO 3 T2.cls T2.n_hours rfl rfl (by decide) (fun k => o_some <| w_int <| ⟨_, rfl, k⟩) <| ⟨_, _, rfl, rfl, ?_, ?_, a_cons <| w_var 2 rfl <| a_nil <| ⟨⟨(List.range r).map fun i => (hAt s2 (2 * i), hAt s2 (2 * i + 1)), L⟩, ?_, ?_, ?_⟩⟩)
    · rw [pick0 (d := .int 0) hl, pick1 (d := .int 0) hl, List.length_map, List.length_map]
    · rw [pick0 (d := .int 0) hl, List.length_map, List.length_range]
      omega
    · have ez : List.zipWith (fun x y => Dt.tup [x, y]) (pickL (s2.1.map Dt.int) none 2) (pickL (s2.1.map Dt.int) (some 1) 2) = ((List.range r).map fun i => (hAt s2 (2 * i), hAt s2 (2 * i + 1))).map dPair := by
        rw [pick0 (d := .int 0) hl, pick1 (d := .int 0) hl, List.zipWith_map, List.map_map, zw]
        refine List.map_congr_left fun i hi => ?_
        have e1 : ∀ j, (s2.1.map Dt.int).getD j (.int 0) = .int (hAt s2 j) := fun j => by
          unfold hAt
          rw [List.getD_eq_getElem?_getD, List.getD_eq_getElem?_getD, List.getElem?_map]
          cases s2.1[j]? <;> rfl
        rw [e1, e1]
        rfl
      show [Dt.lst _, .int L] = [Dt.lst _, .int L]
      rw [← ez]
    · show ((List.range r).map _).length ≤ 1000
      rw [List.length_map, List.length_range]
      omega
    · rintro fls rfl
      refine ⟨nTT, [dTimes _, .int L], rfl, rfl, a_cons <| w_non <| a_nil <| And.intro (by simp) <| .inl ⟨s2, holds, fun v => ⟨b.lo v, ?_⟩, rfl⟩⟩
      have h1 := b.hi v
      have h2 : (1 + (n + 1) * ss.length) ≤ 1201 := by
        have : (n + 1) * ss.length ≤ 25 * 48 := Nat.mul_le_mul (by omega) slen
        omega
      omega
  · refine And.intro ⟨_, rfl, rfl⟩ (SK.norm (by walk_at "nrm") ?_)
    dsimp only at hk e
    rw [List.length_replicate] at hk e
    obtain ⟨t, u, b, ht, hh⟩ := BF.thru F (2 * r + 1)
    have ht := ht late e
    have lens := b.l2
    have okn := ok.thru (2 * r + 1)
    generalize hs2 : (thru ss L (List.replicate (2 * r) 0, List.replicate (2 * r) none) (2 * r + 1)).2 = s2 at b lens okn
    have es : (SA.upd ⟨ss, L, q1, q2, (List.replicate (2 * r) 0, List.replicate (2 * r) none)⟩ (thru ss L (List.replicate (2 * r) 0, List.replicate (2 * r) none) ((List.replicate (2 * r) (0 : Int)).length + 1)).2) = ⟨ss, L, q1, q2, s2⟩ := by rw [List.length_replicate, hs2]; rfl
    refine SK.norm (by show _ = [Sl.v (dSteps ss), .v (.int r), .v (.int L), .obj q C (SA.fls ⟨ss, L, q1, q2, s2⟩), .v (.int ((stepAt ss late).other : Nat))]; first | rw [← es] | rfl) ?_
    have bp : Back ss s2.2 (stepAt ss late).other := b.back (by omega)
    have ok2 : (⟨ss, L, q1, q2, s2⟩ : SA).Ok := okn
    refine s_cons <| s_if <| t_cmp <| w_var 4 rfl <| w_non <| oc_notN <| KT.mk <| nb <| brF <| s_one <| s_ret <| w_tup <| a_cons <| w_non <| a_cons <| w_mtO 3 (c_ring T T2) hr (by decide) rfl rfl <| a_cons <| w_var 4 rfl <| a_nil <| ⟨(⟨ss, L, q1, q2, s2⟩, (stepAt ss late).other), rfl, rfl, ⟨ok2, bp⟩, ?_⟩
    rintro d fls had ⟨rfl, c, c1, c2, c3, rfl⟩
    refine a_nil <| And.intro (by simp) <| .inr ⟨(ringTo ss s2.2 (stepAt ss late).other c).reverse, ?_, fun i hi => ?_, ?_, ?_, rfl⟩
    · rw [List.length_reverse]
      unfold ringTo
      rw [List.length_map, List.length_range]
      dsimp only at c2
      omega
    · unfold ringTo at hi
      obtain ⟨j, _, rfl⟩ := List.mem_map.mp (List.mem_reverse.mp hi)
      exact (bp.par _).2
    · rw [ringSum_rev]
      exact b.overs hp.ok bp c1 c3
    · rw [ringSum_rev, ringSum_rev]
      exact b.long bp c1 c3
end
end Pr

end Text_D14
section Text_D15
set_option maxHeartbeats 4000000
namespace Pr
open PySem PySem.Spec PyProof.Rows L2
open C8 (Cal Mak Met pe_c pe_mk pe_mt pe_mt0)
local macro_rules | `(tactic| walk_at "nrm") => `(tactic| (simp only [args, setAll, List.set_cons_zero, List.set_cons_succ, List.map_cons, List.map_nil, List.length_cons, List.length_nil, List.replicate_succ, List.replicate_zero, List.cons_append, List.nil_append, Nat.reduceAdd, Nat.reduceSub]; try rfl))
section
variable {P : Program} {w : World} {K : PySem.W.Frag} {mg : Str → Option Value} {base : Heap}
variable {C CT : Addr}
def SetQ (CT : Addr) (ss : List StepT) (r : Nat) (L : Int) (x y : Dt) : Prop :=
  (∃ s : Stg, Holds ss L s ss.length ∧ (∀ v, 0 ≤ hAt s v ∧ hAt s v ≤ 60000) ∧ x = dTT CT ⟨(List.range r).map fun i => (hAt s (2 * i), hAt s (2 * i + 1)), L⟩ ∧ y = .non) ∨
  (∃ ring : List Nat, ring.length ≤ 24 ∧ (∀ i ∈ ring, i < ss.length) ∧ 1 ≤ ringSum ss (·.over) ring ∧ ringSum ss (·.over) ring * L < ringSum ss (·.hours) ring ∧ x = .non ∧ y = .lst (ring.map fun i => .int (i : Nat)))
theorem SetR.q {a : List StepT × Nat × Int} {d : Dt} (h : SetR CT a d) : ∃ x y, d = .tup [x, y] ∧ SetQ CT a.1 a.2.1 a.2.2 x y := by
  rcases h with ⟨s, h1, h2, rfl⟩ | ⟨ring, h1, h2, h3, h4, rfl⟩
  · exact ⟨_, _, rfl, .inl ⟨s, h1, h2, rfl, rfl⟩⟩
  · exact ⟨_, _, rfl, .inr ⟨ring, h1, h2, h3, h4, rfl, rfl⟩⟩
theorem ringOver_le {ss : List StepT} {n : Nat} (h : StepsOk ss n) : ∀ l : List Nat, (∀ e ∈ l, e < ss.length) → ringSum ss (·.over) l ≤ (l.length : Int)
  | [], _ => Int.le_refl _
  | e :: l, he => by
    have ih := ringOver_le h l fun x hx => he x (List.mem_cons_of_mem _ hx)
    obtain ⟨_, _, _, _, h3⟩ := h e (he e (List.mem_cons_self ..))
    unfold stepAt at h3
    unfold ringSum at ih ⊢
    simp only [List.map_cons, List.sum_cons, List.length_cons]
    dsimp only at ih ⊢
    rcases h3 with ⟨h3, _⟩ | h3 <;> omega
abbrev nShortest : List Str := ["palette", "rows", "steps", "length", "barred", "timetable", "ring", "hours", "overs"]
/-- the round's timetable: all steps hold -/
def ShortR (CT : Addr) (a : Pal × List RowT) (d : Dt) : Prop := ∃ (s : Stg) (L : Int) (b : Dt), Holds (stepsOf a.1 a.2) L s (stepsOf a.1 a.2).length ∧ (∀ v, 0 ≤ hAt s v ∧ hAt s v ≤ 60000) ∧ 0 ≤ L ∧ L ≤ 2000 ∧ d = .tup [dTT CT ⟨(List.range a.2.length).map fun i => (hAt s (2 * i), hAt s (2 * i + 1)), L⟩, b]
theorem c_shortest (T : Txt K mg) (T1 : TxT K mg CT) (T2 : TxS K mg C) : Cal P w K mg base 6 "shortest" (spP (fun a : Pal × List RowT => [dPal a.1, dRows a.2]) (fun a => RBd a.1 a.2) (ShortR CT)) [] := by
  refine T.d_shortest.pure (N := nShortest) ⟨rfl, rfl, rfl, by decide +kernel, rfl, by decide +kernel, by decide +kernel⟩ (fun _ => rfl) ?_
  rintro f cdv A outer s H E hr Γ ⟨p, rs⟩ hB hb
  have nd : nShortest.Nodup := by decide +kernel
  dsimp only at hb ⊢
  have hlen := hb.len
  have sp : ∀ L : Int, 0 ≤ L → L ≤ 2000 → SetP (stepsOf p rs) rs.length L := fun L h1 h2 => ⟨stepsOk_of hb, hlen, by rw [stepsOf_len]; omega, h1, h2⟩
  refine s_cons <| s_set 2 <| w_callF (c_steps_of T) hr (by decide) <| a_cons <| w_var 0 rfl <| a_cons <| w_var 1 rfl <| a_nil <| Exists.intro (p, rs) <| And.intro rfl <| And.intro ⟨by show rs.length ≤ 200; omega, hb.ne, hb.has⟩ <| And.intro ⟨_, rfl, rfl⟩ (SK.norm (by walk_at "nrm") ?_)
  generalize hss : stepsOf p rs = ss at sp ⊢
  refine s_cons <| s_par2 3 4 <| ao_v <| w_int <| ao_v <| w_lst <| a_nil <| And.intro (by decide) <| ao_nil <| ⟨⟨⟨_, rfl, rfl⟩, ⟨_, rfl, rfl⟩, trivial⟩, SK.norm (by walk_at "nrm") ?_⟩
  refine s_cons <| s_asg <| w_call (c_settled T T1 T2) hr (by decide) <| a_cons <| w_var 2 rfl <| a_cons <| w_callB (id := "len") T.b_len (by decide +kernel) <| a_cons <| w_var 1 rfl <| a_nil <| cc_lenM <| a_cons <| w_var 3 rfl <| a_nil <| Exists.intro (ss, rs.length, 0) <| And.intro rfl <| And.intro (sp 0 (by decide) (by decide)) ?_
  intro d hd
  obtain ⟨x, y, rfl, hq⟩ := hd.q
  refine g_tup <| gs_cons <| g_name 5 <| gs_cons <| g_name 6 <| gs_nil <| SK.norm (by walk_at "nrm") ?_
  refine s_cons <| s_while (fun m δ => ∃ L b x y e7 e8, m + L.toNat = 2000 ∧ 0 ≤ L ∧ L ≤ 2000 ∧ SetQ CT ss rs.length L x y ∧ e7.adr = [] ∧ e8.adr = [] ∧ δ = [.v (dPal p), .v (dRows rs), .v (dSteps ss), .v (.int L), .v b, .v x, .v y, e7, e8]) ⟨2000, 0, _, x, y, _, _, rfl, by decide, by decide, hq, rfl, rfl, rfl⟩ fun m δ hI => ?_
  obtain ⟨L, b, x, y, e7, e8, hm, l1, l2, hq, a7, a8, rfl⟩ := hI
  rcases hq with ⟨s2, h1, h2, rfl, rfl⟩ | ⟨ring, h1, h2, h3, h4, rfl, rfl⟩
  · refine t_cmp <| w_var 5 rfl <| w_non <| oc_isN <| KT.mk <| brF ?_
    exact s_one <| s_ret <| w_tup <| a_cons <| w_var 5 rfl <| a_cons <| w_var 4 rfl <| a_nil <| And.intro (by simp) <| ⟨s2, L, b, by rw [hss]; exact h1, h2, l1, l2, rfl⟩
  · refine t_cmp <| w_var 5 rfl <| w_non <| oc_isN <| KT.mk <| brT ?_
    obtain ⟨o1, o2⟩ := longer h3 h4 l1
    obtain ⟨_, _, r3⟩ := ringSum_le (sp 0 (by decide) (by decide)).ok ring h2
    have eL : (ringSum ss (·.hours) ring + ringSum ss (·.over) ring - 1).fdiv (ringSum ss (·.over) ring) = (ringSum ss (·.hours) ring + ringSum ss (·.over) ring - 1) / ringSum ss (·.over) ring := Int.fdiv_eq_ediv_of_nonneg _ (by omega)
    refine s_cons <| s_set 4 <| w_var 6 rfl <| And.intro ⟨_, rfl, rfl⟩ (SK.norm (by walk_at "nrm") ?_)
    refine s_cons <| s_asg <| w_callF (c_ring_sums T) hr (by decide) <| a_cons <| w_var 2 rfl <| a_cons <| w_var 6 rfl <| a_nil <| Exists.intro (ss, ring) <| And.intro rfl <| And.intro ⟨by show ring.length ≤ 1000; omega, h2⟩ <| g_tup <| gs_cons <| g_name (he := a7) 7 <| gs_cons <| g_name (he := a8) 8 <| gs_nil <| SK.norm (by walk_at "nrm") ?_
    refine s_cons <| s_set 3 <| w_bin <| w_bin <| w_bin <| w_var 7 rfl <| w_var 8 rfl <| oc_add <| w_int <| oc_sub <| w_var 8 rfl <| oc_fdiv ?_ <| And.intro ⟨_, rfl, rfl⟩ (SK.norm (by walk_at "nrm") ?_)
    · have := ringOver_le (sp 0 (by decide) (by decide)).ok ring h2
      exact ⟨by omega, by omega⟩
    refine SK.norm (by show _ = [Sl.v (dPal p), .v (dRows rs), .v (dSteps ss), .v (.int ((ringSum ss (·.hours) ring + ringSum ss (·.over) ring - 1) / ringSum ss (·.over) ring)), .v (.lst (ring.map fun i => .int (i : Nat))), .v .non, .v (.lst (ring.map fun i => .int (i : Nat))), .v (.int (ringSum ss (·.hours) ring)), .v (.int (ringSum ss (·.over) ring))]; rw [← eL]) ?_
    have n1 : 0 ≤ (ringSum ss (·.hours) ring + ringSum ss (·.over) ring - 1) / ringSum ss (·.over) ring := by omega
    have n2 : (ringSum ss (·.hours) ring + ringSum ss (·.over) ring - 1) / ringSum ss (·.over) ring ≤ 2000 := by omega
    generalize hL' : (ringSum ss (·.hours) ring + ringSum ss (·.over) ring - 1) / ringSum ss (·.over) ring = L' at n1 n2 o1 o2 ⊢
    refine s_one <| s_asg <| w_call (c_settled T T1 T2) hr (by decide) <| a_cons <| w_var 2 rfl <| a_cons <| w_callB (id := "len") T.b_len (by decide +kernel) <| a_cons <| w_var 1 rfl <| a_nil <| cc_lenM <| a_cons <| w_var 3 rfl <| a_nil <| Exists.intro (ss, rs.length, L') <| And.intro rfl <| And.intro (sp L' n1 n2) ?_
    intro d hd
    obtain ⟨x, y, rfl, hq⟩ := hd.q
    exact g_tup <| gs_cons <| g_name 5 <| gs_cons <| g_name 6 <| gs_nil <| ⟨m - (L'.toNat - L.toNat), by omega, L', _, x, y, _, _, by omega, n1, n2, hq, rfl, rfl, rfl⟩
end
end Pr

end Text_D15
section Text_D31
set_option maxHeartbeats 4000000
namespace Pr
open PySem PySem.Spec PyProof.Rows L2
open C8 (Cal Mak Met pe_c pe_mk pe_mt pe_mt0)
local macro_rules | `(tactic| walk_at "nrm") => `(tactic| (simp only [args, setAll, List.set_cons_zero, List.set_cons_succ, List.map_cons, List.map_nil, List.length_cons, List.length_nil, List.replicate_succ, List.replicate_zero, List.cons_append, List.nil_append, Nat.reduceAdd, Nat.reduceSub]; try rfl))
section
variable {P : Program} {w : World} {K : PySem.W.Frag} {mg : Str → Option Value} {base : Heap}
/-! ## one pot, broken twice -/
variable {C CT : Addr}
theorem eqv_turns : ∀ ts : List Turn, PyData.eqv (dTurns ts).py (dTurns ts).py = true
  | [] => rfl
  | t :: ts => by
    have ih := eqv_turns ts
    have e : PyData.eqv (dTurns (t :: ts)).py (dTurns (t :: ts)).py = (PyData.eqv (dTurn t).py (dTurn t).py && PyData.eqv (dTurns ts).py (dTurns ts).py) := rfl
    rw [e, ih, eqv_turn, decide_eq_true rfl]
    rfl
theorem plain_ints (ns : List Int) : (Dt.lst (ns.map Dt.int)).plain = true := by
  show plains _ = true
  rw [plains_all]
  intro d hd
  obtain ⟨n, _, rfl⟩ := List.mem_map.mp hd
  rfl
theorem laterN_dt (ts : List Turn) (hour : Int) : (ts.zipIdx.filter fun x => decide (hour < x.1.at_)).map (fun x => Dt.int (x.2 : Nat)) = (laterN ts hour).map Dt.int := by
  unfold laterN
  rw [List.map_map]
  rfl
structure PotP (p : Pal) (rs : List RowT) (t : TT) (pot : Str) : Prop where
  pg : PalG p
  rg : RowsG p rs
  six : rs.length ≤ 6
  tg : TabG p rs t
  pt : ∃ r ∈ rs, r.pot = pot
abbrev nLawPotRight : List Str := ["_law_box_here", "_law_palette_here", "_law_rows_here", "_law_table", "_law_pot", "_law_turns", "_law_hour", "_law_warm", "_law_edges", "_law_here", "_law_again", "_law_due", "_law_found", "_law_later", "_law_number", "_law_one", "_law_most"]
theorem c_law_pot_right (T : Txt K mg) (T1 : TxT K mg CT) : Cal P w K mg base 7 "_law_pot_right" (spB (fun a : Pal × List RowT × TT × Str => [dPal a.1, dRows a.2.1, dTT CT a.2.2.1, .str a.2.2.2]) 15 (fun a => PotP a.1 a.2.1 a.2.2.1 a.2.2.2) fun a d => d = .bl true) [] := by
  refine T.d_law_pot_right.boxed (N := nLawPotRight) ⟨rfl, rfl, rfl, by decide +kernel, rfl, by decide +kernel, by decide +kernel⟩ (fun _ => rfl) ?_
  rintro f cdv A outer s H E hr Γ b n ⟨p, rs, t, pot⟩ hB hn hp
  have nd : nLawPotRight.Nodup := by decide +kernel
  dsimp only at hp
  have ok := hp.tg.tok
  have six := hp.six
  have hk := byPot_pos hp.pt
  have blen := byPot_len (rs := rs) (pot := pot)
  have fl := hp.tg.fl (k := 4) hk
  have bnd := hp.tg.bnd (k := 4) hk (by decide)
  have cols := TabG.cols (p := p) (t := t) (k := 4) hk (RowsG.cols hp.pg hp.rg)
  have tl4 := turnsOf_len (rs := rs) (t := t) (pot := pot) (often := 4)
  have c3 := hp.pg.c3
  obtain ⟨t0, h0⟩ : ∃ t0, (turnsOf rs t pot 4)[0]? = some t0 := ⟨_, List.getElem?_eq_getElem (by omega)⟩
  obtain ⟨m0, tl, hml⟩ : ∃ m0 tl, turnsOf rs t pot 4 = m0 ++ [tl] := by
    rcases List.eq_nil_or_concat (turnsOf rs t pot 4) with e | ⟨m0, tl, e⟩
    · rw [e] at h0
      cases h0
    · exact ⟨m0, tl, by rw [e, List.concat_eq_append]⟩
  have hlast : atI ((turnsOf rs t pot 4).map dTurn) (-1) = some (dTurn tl) := by
    rw [hml, List.map_append]
    exact atI_last
  have htl : (turnsOf rs t pot 4)[4 * (byPot rs pot).length - 1]? = some tl := by
    rw [← tl4, hml, List.length_append]
    show (m0 ++ [tl])[m0.length + 1 - 1]? = _
    rw [Nat.add_sub_cancel, List.getElem?_append_right (Nat.le_refl _), Nat.sub_self]
    rfl
  have mt0 := List.mem_of_getElem? h0
  have mtl := List.mem_of_getElem? htl
  have b0 := bnd t0 mt0
  have bl := bnd tl mtl
  obtain ⟨o1, o2, o3, o4, o5⟩ := fl.ok t0 mt0
  obtain ⟨q1, q2, q3, q4, q5⟩ := fl.ok tl mtl
  have hfin : t0.fin ≤ tl.fin := by
    by_cases h1 : 4 * (byPot rs pot).length - 1 = 0
    · rw [h1, h0] at htl
      rw [Option.some.inj htl]
      exact Int.le_refl _
    · have := fl.befS (4 * (byPot rs pot).length - 1 - 1) 0 t0 tl h0 (by rw [show 0 + (4 * (byPot rs pot).length - 1 - 1) + 1 = 4 * (byPot rs pot).length - 1 by omega]; exact htl)
      omega
  refine SK.norm (δ' := [.box b n, .v (dPal p), .v (dRows rs), .v (dTT CT t), .v (.str pot), .any, .any, .any, .any, .any, .any, .any, .any, .any, .any, .any, .any]) rfl ?_
  refine s_cons <| s_set 5 <| w_callF (c_turns_of T T1) hr (by decide) <| a_cons <| w_var 1 rfl <| a_cons <| w_var 2 rfl <| a_cons <| w_var 3 rfl <| a_cons <| w_var 4 rfl <| a_cons <| w_int <| a_nil <| Exists.intro (p, rs, t, pot, 4) <| And.intro rfl <| And.intro ⟨ok, hp.pt, by show 4 ≤ 50; decide⟩ <| And.intro ⟨_, rfl, rfl⟩ (SK.norm (δ' := [.box b n, .v (dPal p), .v (dRows rs), .v (dTT CT t), .v (.str pot), .v (dTurns (turnsOf rs t pot 4)), .any, .any, .any, .any, .any, .any, .any, .any, .any, .any, .any]) rfl ?_)
  refine s_cons <| s_if <| t_w <| p_or <| t_cmp <| w_callF (c_is_turns T) hr (by decide) <| a_cons <| w_var 1 rfl <| a_cons <| w_var 5 rfl <| a_nil <| Exists.intro (p, turnsOf rs t pot 4) <| And.intro rfl <| And.intro ⟨by show p.cs.length ≤ 1000; omega, by show (turnsOf rs t pot 4).length ≤ 30; omega, fun u hu => ?_, fun i u v hu hv => ?_⟩ <| w_bl <| oc_notB <| KT.mk <| brF <| p_or1 <| t_cmp <| w_callF (c_fault_of T) hr (by decide) <| a_cons <| w_var 1 rfl <| a_cons <| w_var 5 rfl <| a_nil <| Exists.intro (p, turnsOf rs t pot 4) <| And.intro rfl <| And.intro ⟨fl, by show (turnsOf rs t pot 4).length ≤ 1000; omega⟩ <| w_non <| oc_notN <| KT.mk <| nb <| brT <| s_nil ?_
  · obtain ⟨x1, x2, x3, x4, x5⟩ := fl.ok u hu
    have := bnd u hu
    exact ⟨x5, x1, x3, x4, by omega⟩
  · have := fl.befS 0 i u v hu hv
    obtain ⟨x1, x2, x3, x4, x5⟩ := fl.ok u (List.mem_of_getElem? hu)
    omega
  refine s_cons <| s_parG [6, 7] (hg := gn_cons 6 <| gn_cons 7 <| gn_nil) <| ao_v <| w_cB 0 (c_law_when T) hr (by decide) <| a_cons <| w_var 5 rfl <| a_nil <| ⟨b, n, turnsOf rs t pot 4, rfl, by omega, rfl, ⟨by omega, cols⟩, ?_⟩
  rintro _ ⟨hour0, rfl, u1, v1⟩
  refine ao_v <| w_ix <| w_lst <| a_cons <| w_int <| a_cons <| w_int <| a_cons <| w_cB 0 (c_law_take T) hr (by decide) <| a_cons <| w_int <| a_nil <| ⟨b, n + 11, 200, rfl, by omega, rfl, ⟨by decide, by decide⟩, ?_⟩
  rintro _ ⟨r1, rfl, u2, v2⟩
  refine a_nil <| And.intro (by simp) <| w_cB 0 (c_law_take T) hr (by decide) <| a_cons <| w_int <| a_nil <| ⟨b, n + 12, 3, rfl, by omega, rfl, ⟨by decide, by decide⟩, ?_⟩
  rintro _ ⟨r2, rfl, u3, v3⟩
  obtain ⟨warm, hw0, hw1⟩ := pick [(0 : Int), 24, r1] u3 v3
  refine xc_lst (d := .int warm) (atI_rep_map (f := Dt.int) hw1) <| ao_nil <| ⟨⟨⟨_, rfl, rfl⟩, ⟨_, rfl, rfl⟩, trivial⟩, SK.norm (δ' := [.box b (n + 13), .v (dPal p), .v (dRows rs), .v (dTT CT t), .v (.str pot), .v (dTurns (turnsOf rs t pot 4)), .v (.int hour0), .v (.int warm), .any, .any, .any, .any, .any, .any, .any, .any, .any]) rfl ?_⟩
  refine s_cons <| s_set 8 <| w_lst <| a_cons <| w_ix <| w_ix <| w_var 5 rfl <| w_int <| xc_lst (atI_map (i := 0) h0) <| w_int <| xc_tup rfl <| a_cons <| w_ix <| w_ix <| w_var 5 rfl <| w_int <| xc_lst (atI_map (i := 0) h0) <| w_int <| xc_tup rfl <| a_cons <| w_ix <| w_ix <| w_var 5 rfl <| w_un <| w_int <| uc_neg <| xc_lst hlast <| w_int <| xc_tup rfl <| a_cons <| w_bin <| w_ix <| w_ix <| w_var 5 rfl <| w_un <| w_int <| uc_neg <| xc_lst hlast <| w_int <| xc_tup rfl <| w_int <| oc_sub <| a_cons <| w_callB (id := "min") T.b_min (by decide +kernel) <| a_cons <| w_var 6 rfl <| a_cons <| w_bin <| w_ix <| w_ix <| w_var 5 rfl <| w_un <| w_int <| uc_neg <| xc_lst hlast <| w_int <| xc_tup rfl <| w_int <| oc_sub <| a_nil <| cc_min2 <| a_nil <| And.intro (by simp) <| And.intro ⟨_, rfl, rfl⟩ ?_
  refine SK.norm (δ' := [.box b (n + 13), .v (dPal p), .v (dRows rs), .v (dTT CT t), .v (.str pot), .v (dTurns (turnsOf rs t pot 4)), .v (.int hour0), .v (.int warm), .v (.lst (([t0.at_, t0.bgn, tl.at_, tl.fin - 1, if tl.fin - 1 < hour0 then tl.fin - 1 else hour0] : List Int).map Dt.int)), .any, .any, .any, .any, .any, .any, .any, .any]) rfl ?_
  refine s_cons <| s_if <| t_not <| t_val <| w_callF (c_law_as_the_round T T1) hr (by decide) <| a_cons <| w_var 1 rfl <| a_cons <| w_var 2 rfl <| a_cons <| w_var 3 rfl <| a_cons <| w_var 4 rfl <| a_cons <| w_var 5 rfl <| a_cons <| w_var 8 rfl <| a_nil <| Exists.intro (p, rs, t, pot, [t0.at_, t0.bgn, tl.at_, tl.fin - 1, if tl.fin - 1 < hour0 then tl.fin - 1 else hour0]) <| And.intro rfl <| And.intro ⟨hp.tg, hp.pt, by simp, fun h hh => ?_⟩ <| KT.mk <| nb <| brT <| s_nil ?_
  · have hh : h < tl.fin := by
      simp at hh
      rcases hh with rfl | rfl | rfl | rfl | rfl
      · omega
      · omega
      · omega
      · omega
      · split <;> omega
    refine ⟨by omega, fun tl' htl' => ?_⟩
    rw [htl] at htl'
    rw [← Option.some.inj htl']
    exact hh
  refine s_cons <| s_set 9 <| w_var 5 rfl <| And.intro ⟨_, rfl, rfl⟩ ?_
  generalize (([t0.at_, t0.bgn, tl.at_, tl.fin - 1, if tl.fin - 1 < hour0 then tl.fin - 1 else hour0] : List Int).map Dt.int) = edges
  refine s_cons <| s_for <| i_rng1 T.b_range <| w_int <| ⟨2, rfl, by decide, ⟨fun i δ => ∃ (m : Nat) (here : List Turn) (hour : Int) (z10 z11 z12 z13 z16 : Sl), m ≤ n + 13 + i ∧ FL p here ∧ here.length ≤ 48 ∧ (∀ u ∈ here, PyData.strOk u.col = true) ∧ z10.adr = [] ∧ z11.adr = [] ∧ z12.adr = [] ∧ z13.adr = [] ∧ z16.adr = [] ∧
      δ = [.box b m, .v (dPal p), .v (dRows rs), .v (dTT CT t), .v (.str pot), .v (dTurns (turnsOf rs t pot 4)), .v (.int hour), .v (.int warm), .v (.lst edges), .v (dTurns here), z10, z11, z12, z13, .any, .any, z16], ⟨n + 13, turnsOf rs t pot 4, hour0, .any, .any, .any, .any, .any, by omega, fl, by omega, cols, rfl, rfl, rfl, rfl, rfl, rfl⟩, fun Γ i d δ hd hI => ?_, fun δ hI => ?_⟩⟩
  · obtain ⟨m, here, hour, z10, z11, z12, z13, z16, hm, flh, hl, hs, a10, a11, a12, a13, a16, rfl⟩ := hI
    obtain ⟨hi, rfl⟩ := rng_lt hd
    have fb := flh.behind hp.pg hour warm
    obtain ⟨l1, l2, l3⟩ := brk_len (p := p) (ts := here) (hour := hour) (warm := warm)
    have bs : ∀ u ∈ (brokenF p here hour warm).behind, PyData.strOk u.col = true := fun u hu => by
      obtain ⟨v, hv, e⟩ := brk_cols hu
      rw [e]
      exact hs v hv
    have pre5 : here.length ≤ 1000 ∧ ∀ u ∈ here, p.has u.col ∧ PyData.strOk u.col = true := ⟨by omega, fun u hu => ⟨(flh.ok u hu).2.2.2.2, hs u hu⟩⟩
    refine g_name (e := z10) (he := a10) 10 <| SK.norm (by walk_at "nrm") ?_
    refine s_cons <| s_par2 11 12 <| ao_v <| w_callF (c_law_broken T) hr (by decide) <| a_cons <| w_var 1 rfl <| a_cons <| w_var 9 rfl <| a_cons <| w_var 6 rfl <| a_cons <| w_var 7 rfl <| a_nil <| Exists.intro (p, here, hour, warm) <| And.intro rfl <| And.intro ⟨hp.pg.ok, flh, by show here.length ≤ 900; omega, hs⟩ <| ao_v <| w_callF (c_broken T) hr (by decide) <| a_cons <| w_var 1 rfl <| a_cons <| w_var 9 rfl <| a_cons <| w_var 6 rfl <| a_cons <| w_var 7 rfl <| a_nil <| Exists.intro (p, here, hour, warm) <| And.intro rfl <| And.intro pre5 <| ao_nil <| ⟨⟨⟨_, rfl, a11⟩, ⟨_, rfl, a12⟩, trivial⟩, SK.norm (by walk_at "nrm") ?_⟩
    refine s_cons <| s_if <| t_w <| p_or <| t_not <| t_val <| w_callF (c_law_same T 3) hr (by decide) <| a_cons <| w_var 12 rfl <| a_cons <| w_var 11 rfl <| a_nil <| Exists.intro (dBrk (brokenF p here hour warm)) <| And.intro rfl <| And.intro (okN_brk (by omega)) <| KT.mk <| nb <| brT <| p_or1 <| t_cmp <| w_callF (c_shows_broken T) hr (by decide) <| a_cons <| w_var 1 rfl <| a_cons <| w_var 9 rfl <| a_cons <| w_var 6 rfl <| a_cons <| w_var 7 rfl <| a_cons <| w_var 12 rfl <| a_nil <| Exists.intro (p, here, hour, warm) <| And.intro rfl <| And.intro pre5 <| w_bl <| oc_notB <| KT.mk <| brF <| s_nil ?_
    refine s_cons <| s_if <| t_w <| p_or <| t_cmp <| w_callF (c_fault_of T) hr (by decide) <| a_cons <| w_var 1 rfl <| a_cons <| w_ix <| w_var 12 rfl <| w_int <| xc_tup rfl <| a_nil <| Exists.intro (p, (brokenF p here hour warm).ended) <| And.intro rfl <| And.intro ⟨flh.ended hour, by show (brokenF p here hour warm).ended.length ≤ 1000; omega⟩ <| w_non <| oc_notN <| KT.mk <| nb <| brT <| p_or1 <| t_cmp <| w_callF (c_fault_of T) hr (by decide) <| a_cons <| w_var 1 rfl <| a_cons <| w_ix <| w_var 12 rfl <| w_int <| xc_tup rfl <| a_nil <| Exists.intro (p, (brokenF p here hour warm).behind) <| And.intro rfl <| And.intro ⟨fb, by show (brokenF p here hour warm).behind.length ≤ 1000; omega⟩ <| w_non <| oc_notN <| KT.mk <| nb <| brT <| s_nil ?_
    refine s_cons <| s_setLc (own := [("_law_number", 14), ("_law_one", 15)]) 13 <| i_enum T.b_enumerate <| w_var 9 rfl <| ex rfl <| lc_map here.zipIdx (fun x => .tup [.int (x.2 : Nat), dTurn x.1]) (fun x => decide (hour < x.1.at_)) (fun x => .int (x.2 : Nat)) (enum_map dTurn here) (by rw [List.length_zipIdx]; omega) (lvC (lvC lvN)) (fun x hx _ _ _ _ _ => g_tup <| gs_cons <| g_name 14 <| gs_cons <| g_name 15 <| gs_nil <| fun _ _ _ _ _ => ts_one <| t_cmp <| w_ix <| w_var 15 rfl <| w_int <| xc_tup rfl <| w_var 6 rfl <| oc_gt <| KT.mk <| And.intro rfl <| br (fun h => fun _ _ _ _ _ => w_var 14 rfl <| ⟨m2, rfl⟩) (fun h => m2)) <| And.intro ⟨_, rfl, a13⟩ ?_
    rw [laterN_dt]
    refine SK.norm (δ' := [.box b m, .v (dPal p), .v (dRows rs), .v (dTT CT t), .v (.str pot), .v (dTurns (turnsOf rs t pot 4)), .v (.int hour), .v (.int warm), .v (.lst edges), .v (dTurns here), .v (.int (i : Nat)), .v (dBrk (brokenF p here hour warm)), .v (dBrk (brokenF p here hour warm)), .v (.lst ((laterN here hour).map Dt.int)), .any, .any, z16]) rfl ?_
    refine s_consW (fun δ => ∃ z, z.adr = [] ∧ δ = [.box b m, .v (dPal p), .v (dRows rs), .v (dTT CT t), .v (.str pot), .v (dTurns (turnsOf rs t pot 4)), .v (.int hour), .v (.int warm), .v (.lst edges), .v (dTurns here), .v (.int (i : Nat)), .v (dBrk (brokenF p here hour warm)), .v (dBrk (brokenF p here hour warm)), .v (.lst ((laterN here hour).map Dt.int)), .any, .any, z]) (s_if <| t_cmp <| w_var 13 rfl <| w_lst <| a_nil <| And.intro (by simp) <| oc_neD hr.units (plain_ints _) rfl (shaped_ints _) (by decide +kernel) <| KT.mk <| br (fun h => ?_) (fun h => s_nil ⟨z16, a16, rfl⟩)) ?_
    · rw [eqv_nil, List.isEmpty_map] at h
      have hf : firstBehind here hour < here.length := by
        refine Nat.lt_of_not_ge fun z => ?_
        rw [laterN_nil flh z] at h
        cases h
      obtain ⟨rr, hrr⟩ := laterN_head flh hf
      have hat : atI ((laterN here hour).map Dt.int) 0 = some (.int ((firstBehind here hour : Nat) : Int)) := by
        rw [hrr]
        exact atI_nat (i := 0) rfl
      refine s_cons <| s_set 16 <| w_callF (c_last_warm T) hr (by decide) <| a_cons <| w_var 1 rfl <| a_cons <| w_var 9 rfl <| a_cons <| w_var 6 rfl <| a_cons <| w_ix <| w_var 13 rfl <| w_int <| xc_lst hat <| a_nil <| Exists.intro (p, here, hour) <| And.intro rfl <| And.intro ⟨by show here.length ≤ 1000; omega, hf⟩ <| And.intro ⟨_, rfl, a16⟩ (SK.norm (by walk_at "nrm") ?_)
      refine s_one <| s_if <| t_w <| p_and <| t_cmp <| w_var 16 rfl <| w_bin <| w_int <| w_int <| oc_pow ⟨by decide, by decide, by decide⟩ <| oc_lt <| KT.mk <| br (fun h => p_and1 <| t_cmp <| w_ix <| w_callF (c_broken T) hr (by decide) <| a_cons <| w_var 1 rfl <| a_cons <| w_var 9 rfl <| a_cons <| w_var 6 rfl <| a_cons <| w_var 16 rfl <| a_nil <| Exists.intro (p, here, hour, (here.getD (firstBehind here hour) default).at_ - hour) <| And.intro rfl <| And.intro pre5 <| w_int <| xc_tup (d := dTurns (brokenF p here hour ((here.getD (firstBehind here hour) default).at_ - hour)).behind) rfl <| w_slice <| w_var 9 rfl <| o_some <| w_ix <| w_var 13 rfl <| w_int <| xc_lst hat <| ex rfl <| o_none <| sc_lst <| ?_) (fun h => brF <| s_nil ⟨_, rfl, rfl⟩)
      have ec : cutD (here.map dTurn) (some ((firstBehind here hour : Nat) : Int)) none = (here.drop (firstBehind here hour)).map dTurn := by
        rw [cut_from (Int.natCast_nonneg _), Int.toNat_natCast, ← List.map_drop]
      have dl : (here.drop (firstBehind here hour)).length ≤ 1000 := by
        rw [List.length_drop]
        omega
      have ds : ∀ u ∈ here.drop (firstBehind here hour), PyData.strOk u.col = true := fun u hu => hs u (List.mem_of_mem_drop hu)
      have e2 : (!PyData.eqv (dTurns (brokenF p here hour ((here.getD (firstBehind here hour) default).at_ - hour)).behind).py (Dt.lst (cutD (here.map dTurn) (some ((firstBehind here hour : Nat) : Int)) none)).py) = false := by
        rw [brk_still flh hf, ec]
        have := eqv_turns (here.drop (firstBehind here hour))
        rw [show Dt.lst ((here.drop (firstBehind here hour)).map dTurn) = dTurns (here.drop (firstBehind here hour)) from rfl, this]
        rfl
      refine oc_neD hr.units (by rw [brk_still flh hf]; exact plains_turns _) (by rw [ec]; exact plains_turns _) (by rw [brk_still flh hf]; exact shaped_turns ds dl) (by rw [ec]; exact shaped_turns ds dl) <| KT.mk <| br (fun h => ?_) (fun h => s_nil ⟨_, rfl, rfl⟩)
      rw [e2] at h
      cases h
    · rintro δ ⟨z, az, rfl⟩
      refine s_one <| s_parG [9, 6] (hg := gn_cons 9 <| gn_cons 6 <| gn_nil) <| ao_v <| w_ix <| w_var 12 rfl <| w_int <| xc_tup (d := dTurns (brokenF p here hour warm).behind) rfl <| ao_v <| w_callB (id := "min") T.b_min (by decide +kernel) <| a_cons <| w_bin <| w_int <| w_int <| oc_pow ⟨by decide, by decide, by decide⟩ <| a_cons <| w_bin <| w_bin <| w_var 6 rfl <| w_var 7 rfl <| oc_add <| w_cB 0 (c_law_take T) hr (by decide) <| a_cons <| w_int <| a_nil <| ⟨b, m, 60, rfl, by omega, rfl, ⟨by decide, by decide⟩, ?_⟩
      rintro _ ⟨r3, rfl, u4, v4⟩
      exact oc_add <| a_nil <| cc_min2 <| ao_nil <| ⟨⟨⟨_, rfl, rfl⟩, ⟨_, rfl, rfl⟩, trivial⟩, m + 1, (brokenF p here hour warm).behind, _, _, _, _, _, z, by omega, fb, by omega, bs, rfl, rfl, rfl, rfl, az, rfl⟩
  · obtain ⟨m, here, hour, z10, z11, z12, z13, z16, hm, flh, hl, hs, a10, a11, a12, a13, a16, rfl⟩ := hI
    rw [List.length_map, List.length_range] at hm
    exact s_one <| s_ret <| w_bl <| ⟨⟨m, by omega, rfl⟩, rfl⟩
end
end Pr

end Text_D31
section Text_D32
set_option maxHeartbeats 4000000
namespace Pr
open PySem PySem.Spec PyProof.Rows L2
open C8 (Cal Mak Met pe_c pe_mk pe_mt pe_mt0)
local macro_rules | `(tactic| walk_at "nrm") => `(tactic| (simp only [args, setAll, List.set_cons_zero, List.set_cons_succ, List.map_cons, List.map_nil, List.length_cons, List.length_nil, List.replicate_succ, List.replicate_zero, List.cons_append, List.nil_append, Nat.reduceAdd, Nat.reduceSub]; try rfl))
section
variable {P : Program} {w : World} {K : PySem.W.Frag} {mg : Str → Option Value} {base : Heap}
/-! ## one pot of many rows -/
variable {C CT : Addr}
theorem byPot_whole {rs : List RowT} {pot : Str} (h : ∀ r ∈ rs, r.pot = pot) : (byPot rs pot).length = rs.length := by
  rw [byPot_range, List.filter_eq_self.mpr, List.length_range]
  intro i hi
  exact decide_eq_true (h _ (rowAt_mem (List.mem_range.mp hi)))
theorem cut_mem {xs : List Dt} {lo hi : Option Int} {d : Dt} (h : d ∈ cutD xs lo hi) : d ∈ xs := List.mem_of_mem_drop (List.mem_of_mem_take h)
theorem cut_len {xs : List Dt} {lo hi : Option Int} : (cutD xs lo hi).length ≤ xs.length := by
  unfold cutD
  rw [List.length_take, List.length_drop]
  omega
theorem FL.lastF {p : Pal} {m : List Turn} {t : Turn} (h : FL p (m ++ [t])) : ∀ u ∈ m ++ [t], u.fin ≤ t.fin := fun u hu => by
  obtain ⟨_, _, a, b, _⟩ := h.ok t (List.mem_append_right _ (List.mem_singleton.mpr rfl))
  rcases List.mem_append.mp hu with z | z
  · have := h.lastS u z
    omega
  · rw [List.mem_singleton.mp z]
    exact Int.le_refl _
abbrev nLawLongRight : List Str := ["_law_box_here", "_law_palette_here", "_law_pot", "_law_rows_here", "_law_k", "_law_table", "_law_ring", "_law_turns", "_law_hours_here", "_law_one"]
theorem c_law_long_right (T : Txt K mg) (T1 : TxT K mg CT) (T2 : TxS K mg C) : Cal P w K mg base 7 "_law_long_right" (spB (fun a : Pal => [dPal a]) 85 PalG fun a d => d = .bl true) [] := by
  refine T.d_law_long_right.boxed (N := nLawLongRight) ⟨rfl, rfl, rfl, by decide +kernel, rfl, by decide +kernel, by decide +kernel⟩ (fun _ => rfl) ?_
  rintro f cdv A outer s H E hr Γ b n p hB hn hg
  have nd : nLawLongRight.Nodup := by decide +kernel
  have c1 := hg.c1
  have c3 := hg.c3
  refine SK.norm (δ' := [.box b n, .v (dPal p), .any, .any, .any, .any, .any, .any, .any, .any]) rfl ?_
  refine s_cons <| s_par2 2 3 <| ao_v <| w_ix <| w_cB 0 (c_law_names T) hr (by decide) <| a_cons <| w_int <| a_nil <| ⟨b, n, 1, rfl, by omega, rfl, ⟨by decide, by decide⟩, ?_⟩
  rintro _ ⟨xs, rfl, xl, xnd, xlw⟩
  obtain ⟨x, rfl⟩ : ∃ x, xs = [x] := by
    match xs, xl with
    | [x], _ => exact ⟨x, rfl⟩
  have lx := xlw x (by simp)
  refine w_int <| xc_lst (d := .str x) rfl <| ao_new fun q3 => ao_nil <| ⟨⟨⟨_, rfl, rfl⟩, ⟨_, rfl, rfl⟩, trivial⟩, SK.norm (δ' := [.box b (n + 11), .v (dPal p), .v (.str x), .own q3 [], .any, .any, .any, .any, .any, .any]) rfl ?_⟩
  refine s_cons <| s_for <| i_rng1 T.b_range <| w_bin <| w_int <| w_cB 0 (c_law_take T) hr (by decide) <| a_cons <| w_int <| a_nil <| ⟨b, n + 11, 5, rfl, by omega, rfl, ⟨by decide, by decide⟩, ?_⟩
  rintro _ ⟨k, rfl, k1, k2⟩
  have lteam : Lw (Str.ofString "team") 8 := ⟨by decide +kernel, by decide +kernel⟩
  refine oc_add <| ⟨(8 + k).toNat, by rw [Int.toNat_of_nonneg (by omega)], by omega, ⟨fun i δ => ∃ (m : Nat) (rs : List RowT) (z4 : Sl), m ≤ n + 12 + 2 * i ∧ rs.length = i ∧ (∀ r ∈ rs, ((∃ c ∈ p.cs, r.col = c.nm) ∧ Lw r.pot 8 ∧ Lw r.team 8 ∧ 1 ≤ r.hours ∧ r.hours ≤ 9) ∧ r.pot = x) ∧ z4.adr = [] ∧
      δ = [.box b m, .v (dPal p), .v (.str x), .own q3 (rs.map dRow), z4, .any, .any, .any, .any, .any], ⟨n + 12, [], .any, by omega, rfl, (fun r hr => by cases hr), rfl, rfl⟩, fun Γ i d δ hd hI => ?_, fun δ hI => ?_⟩⟩
  · obtain ⟨m, rs, z4, hm, hrl, hrs, a4, rfl⟩ := hI
    obtain ⟨hi, rfl⟩ := rng_lt hd
    refine g_name (e := z4) (he := a4) 4 <| SK.norm (by walk_at "nrm") ?_
    refine s_one <| s_app 3 <| w_tup <| a_cons <| w_var 2 rfl <| a_cons <| w_str <| a_cons <| w_ix <| w_ix <| w_ix <| w_var 1 rfl <| w_int <| xc_tup rfl <| w_cB 0 (c_law_take T) hr (by decide) <| a_cons <| w_callB (id := "len") T.b_len (by decide +kernel) <| a_cons <| w_ix <| w_var 1 rfl <| w_int <| xc_tup rfl <| a_nil <| cc_lenT <| a_nil <| ⟨b, m, (p.cs.length : Int), rfl, by omega, by rw [List.length_map], ⟨by omega, by omega⟩, ?_⟩
    rintro _ ⟨r3, rfl, u3, v3⟩
    obtain ⟨c, hc0, hc1⟩ := pick p.cs u3 v3
    refine xc_tup (atI_rep_map (f := dCol) hc1) <| w_int <| xc_tup (d := .str c.nm) rfl <| a_cons <| w_bin <| w_int <| w_cB 0 (c_law_take T) hr (by decide) <| a_cons <| w_int <| a_nil <| ⟨b, m + 1, 9, rfl, by omega, rfl, ⟨by decide, by decide⟩, ?_⟩
    rintro _ ⟨r4, rfl, u4, v4⟩
    refine oc_add <| a_nil <| And.intro (by simp) <| ⟨q3, _, rfl, by rw [List.length_map]; omega, m + 2, rs ++ [⟨x, "team", c.nm, 1 + r4⟩], .v (.int (i : Nat)), by omega, by rw [List.length_append, hrl]; rfl, fun r hr => ?_, rfl, by rw [List.map_append]; rfl⟩
    rcases List.mem_append.mp hr with z | z
    · exact hrs r z
    · rw [List.mem_singleton.mp z]
      exact ⟨⟨⟨c, hc0, rfl⟩, lx, lteam, by show 1 ≤ 1 + r4; omega, by show 1 + r4 ≤ 9; omega⟩, rfl⟩
  obtain ⟨m, rs, z4, hm, hrl, hrs, a4, rfl⟩ := hI
  rw [List.length_map, List.length_range] at hm hrl
  have rl8 : 8 ≤ rs.length := by omega
  have rl12 : rs.length ≤ 12 := by omega
  have rg : RowsG p rs := ⟨(by intro z; rw [z] at rl8; exact absurd rl8 (by decide)), rl12, fun r hr => (hrs r hr).1⟩
  have hwhole := byPot_whole (rs := rs) (pot := x) fun r hr => (hrs r hr).2
  have hpt : ∃ r ∈ rs, r.pot = x := by
    obtain ⟨r, hr⟩ : ∃ r, rs[0]? = some r := ⟨_, List.getElem?_eq_getElem (by omega)⟩
    exact ⟨r, List.mem_of_getElem? hr, (hrs r (List.mem_of_getElem? hr)).2⟩
  refine s_freeze 3 rfl (by rw [hB]; intro q hq; exact ⟨0, _, by decide, rfl, hq⟩) <| SK.norm (δ' := [.box b m, .v (dPal p), .v (.str x), .v (dRows rs), z4, .any, .any, .any, .any, .any]) rfl ?_
  refine s_cons <| s_asg <| w_call (c_shortest T T1 T2) hr (by decide) <| a_cons <| w_var 1 rfl <| a_cons <| w_var 3 rfl <| a_nil <| Exists.intro (p, rs) <| And.intro rfl <| And.intro (rg.bd hg) ?_
  rintro _ ⟨s0, L, ring, hs0, hv0, hL0, hL1, rfl⟩
  have tg : TabG p rs (tblOf s0 rs.length L) := ⟨rg.bd hg, s0, L, rfl, hs0, hv0, hL1⟩
  refine g_tup <| gs_cons <| g_name 5 <| gs_cons <| g_name 6 <| gs_nil <| SK.norm (δ' := [.box b m, .v (dPal p), .v (.str x), .v (dRows rs), z4, .v (dTT CT (tblOf s0 rs.length L)), .v ring, .any, .any, .any]) rfl ?_
  generalize tblOf s0 rs.length L = t at tg ⊢
  have ok := tg.tok
  have hk := byPot_pos hpt
  have fl := tg.fl (k := 4) hk
  have bnd := tg.bnd (k := 4) hk (by decide)
  have tl4 := turnsOf_len (rs := rs) (t := t) (pot := x) (often := 4)
  refine s_cons <| s_set 7 <| w_callF (c_turns_of T T1) hr (by decide) <| a_cons <| w_var 1 rfl <| a_cons <| w_var 3 rfl <| a_cons <| w_var 5 rfl <| a_cons <| w_var 2 rfl <| a_cons <| w_int <| a_nil <| Exists.intro (p, rs, t, x, 4) <| And.intro rfl <| And.intro ⟨ok, hpt, by show 4 ≤ 50; decide⟩ <| And.intro ⟨_, rfl, rfl⟩ (SK.norm (δ' := [.box b m, .v (dPal p), .v (.str x), .v (dRows rs), z4, .v (dTT CT t), .v ring, .v (dTurns (turnsOf rs t x 4)), .any, .any]) rfl ?_)
  obtain ⟨m0, tl, hml⟩ : ∃ m0 tl, turnsOf rs t x 4 = m0 ++ [tl] := by
    rcases List.eq_nil_or_concat (turnsOf rs t x 4) with e | ⟨m0, tl, e⟩
    · rw [e] at tl4
      have : (0 : Nat) = 4 * (byPot rs x).length := tl4
      omega
    · exact ⟨m0, tl, by rw [e, List.concat_eq_append]⟩
  have htl : (turnsOf rs t x 4)[4 * (byPot rs x).length - 1]? = some tl := by
    rw [← tl4, hml, List.length_append]
    show (m0 ++ [tl])[m0.length + 1 - 1]? = _
    rw [Nat.add_sub_cancel, List.getElem?_append_right (Nat.le_refl _), Nat.sub_self]
    rfl
  have hlast : ∀ u ∈ turnsOf rs t x 4, u.fin ≤ tl.fin := by
    have h2 := fl
    rw [hml] at h2 ⊢
    exact h2.lastF
  have hcl := cut_len (xs := (turnsOf rs t x 4).map dTurn) (lo := some (-16)) (hi := none)
  rw [List.length_map] at hcl
  refine s_cons <| s_set 8 <| w_bin <| w_lc (own := [("_law_one", 9)]) <| i_lst <| w_slice <| w_var 7 rfl <| o_some <| w_un <| w_int <| uc_neg <| ex rfl <| o_none <| sc_lst <| ex rfl <| ⟨by omega, lvC lvN, fun i δ acc => ∃ (m2 : Nat) (hs : List Int), acc = hs.map Dt.int ∧ hs.length = i ∧ m2 ≤ m + i ∧ (∀ h ∈ hs, ∃ u ∈ turnsOf rs t x 4, h = u.at_ ∨ h = u.bgn) ∧ δ = [.box b m2, .v (dPal p), .v (.str x), .v (dRows rs), z4, .v (dTT CT t), .v ring, .v (dTurns (turnsOf rs t x 4)), .any, .any], ⟨m, [], rfl, rfl, by omega, (fun h hh => by cases hh), rfl⟩, fun i d δ2 acc hd hI => ?_, fun δ2 acc hI => ?_⟩
  · obtain ⟨m2, hs, rfl, hl, hm2, hu, rfl⟩ := hI
    have hil := (List.getElem?_eq_some_iff.mp hd).1
    obtain ⟨u, hu0, rfl⟩ := List.mem_map.mp (cut_mem (List.mem_of_getElem? hd))
    refine fun _ _ _ _ _ => g_name 9 <| fun _ _ _ _ _ => ts_nil <| brT <| fun _ _ _ _ _ => w_ix <| w_var 9 rfl <| w_bin <| w_cB 0 (c_law_take T) hr (by decide) <| a_cons <| w_int <| a_nil <| ⟨b, m2, 2, rfl, by omega, rfl, ⟨by decide, by decide⟩, ?_⟩
    rintro _ ⟨r, rfl, r1, r2⟩
    refine w_int <| oc_mul (.inr (by decide)) ?_
    rcases (by omega : r = 0 ∨ r = 1) with rfl | rfl
    · refine xc_tup (d := .int u.at_) rfl ⟨m2 + 1, hs ++ [u.at_], by rw [List.map_append]; rfl, by rw [List.length_append, hl]; rfl, by omega, fun h hh => ?_, rfl⟩
      rcases List.mem_append.mp hh with z | z
      · exact hu h z
      · exact ⟨u, hu0, .inl (List.mem_singleton.mp z)⟩
    · refine xc_tup (d := .int u.bgn) rfl ⟨m2 + 1, hs ++ [u.bgn], by rw [List.map_append]; rfl, by rw [List.length_append, hl]; rfl, by omega, fun h hh => ?_, rfl⟩
      rcases List.mem_append.mp hh with z | z
      · exact hu h z
      · exact ⟨u, hu0, .inr (List.mem_singleton.mp z)⟩
  obtain ⟨m2, hs, rfl, hl, hm2, hu, rfl⟩ := hI
  refine w_lst <| a_cons <| w_ix <| w_ix <| w_var 7 rfl <| w_cB 0 (c_law_take T) hr (by decide) <| a_cons <| w_callB (id := "len") T.b_len (by decide +kernel) <| a_cons <| w_var 7 rfl <| a_nil <| cc_lenM <| a_nil <| ⟨b, m2, ((turnsOf rs t x 4).length : Int), rfl, by omega, rfl, ⟨by omega, by omega⟩, ?_⟩
  rintro _ ⟨r, rfl, r1, r2⟩
  obtain ⟨u, hu0, hu1⟩ := pick (turnsOf rs t x 4) r1 r2
  refine xc_lst (atI_rep_map (f := dTurn) hu1) <| w_int <| xc_tup (d := .int u.at_) rfl <| a_nil <| And.intro (by simp) <| oc_cat (by rw [List.length_map]; show hs.length + 1 ≤ 1000; omega) <| And.intro ⟨_, rfl, rfl⟩ ?_
  refine SK.norm (δ' := [.box b (m2 + 1), .v (dPal p), .v (.str x), .v (dRows rs), z4, .v (dTT CT t), .v ring, .v (dTurns (turnsOf rs t x 4)), .v (.lst ((hs ++ [u.at_]).map Dt.int)), .any]) (by rw [List.map_append]; rfl) ?_
  have e4 : (((turnsOf rs t x 4).length : Nat) : Int) = 4 * ((rs.length : Nat) : Int) := by
    rw [tl4, hwhole]
    omega
  refine s_one <| s_ret <| w_and <| w_cmp <| w_callB (id := "len") T.b_len (by decide +kernel) <| a_cons <| w_var 7 rfl <| a_nil <| cc_lenM <| w_bin <| w_int <| w_callB (id := "len") T.b_len (by decide +kernel) <| a_cons <| w_var 3 rfl <| a_nil <| cc_lenM <| oc_mul (.inl (by decide)) <| oc_eqI <| ex rfl <| br (fun h => w_and1 <| w_callF (c_law_as_the_round T T1) hr (by decide) <| a_cons <| w_var 1 rfl <| a_cons <| w_var 3 rfl <| a_cons <| w_var 5 rfl <| a_cons <| w_var 2 rfl <| a_cons <| w_var 7 rfl <| a_cons <| w_var 8 rfl <| a_nil <| Exists.intro (p, rs, t, x, hs ++ [u.at_]) <| And.intro rfl <| And.intro ⟨tg, hpt, by rw [List.length_append]; show hs.length + 1 ≤ 1000; omega, fun h hh => ?_⟩ <| ⟨⟨m2 + 1, by omega, rfl⟩, rfl⟩) (fun h => absurd e4 (of_decide_eq_false h))
  have hx : ∃ v ∈ turnsOf rs t x 4, h = v.at_ ∨ h = v.bgn := by
    rcases List.mem_append.mp hh with z | z
    · exact hu h z
    · exact ⟨u, hu0, .inl (List.mem_singleton.mp z)⟩
  obtain ⟨v, hv, e⟩ := hx
  obtain ⟨x1, x2, x3, x4, x5⟩ := fl.ok v hv
  have y1 := hlast v hv
  have y2 := bnd v hv
  refine ⟨by omega, fun tl' htl' => ?_⟩
  rw [htl] at htl'
  rw [← Option.some.inj htl']
  omega
end
end Pr

end Text_D32
section Text_G1
set_option maxHeartbeats 4000000
namespace Gg
open PySem PySem.Spec PyProof.Rows L2
/-! ## defs that are called where the stack's guards are known (Gp) -/
structure FnG (Gp : Around → Prop) (P : Program) (w : World) (K : PySem.W.Frag) (mg : Str → Option Value) (base : Heap) (k : Nat) (f : Addr) (fd : FuncData) (ps : List Str) (sp : Sp) : Prop where
  len : ∀ vs H Q E, sp vs H Q E → vs.length = ps.length
  run : ∀ (A : Around) (outer : List Env) (s : Shared) (H : Hp) (as : Args) (us : List Value) (vs : List V) (Q : VK) (E : XK), Gp A → Room k A → Env0 P w K mg base A outer s H → BindsTo s fd as (ps.zip us) → Vals vs us → sp vs H Q E →
    codeAny (model P w) A (.call (.ref f) as) (CR CX0 outer P w H s Q E) s
section
variable {Gp : Around → Prop} {P : Program} {w : World} {K : PySem.W.Frag} {mg : Str → Option Value} {base : Heap} {k : Nat} {f : Addr} {fd : FuncData} {N ps : List Str} {sp : Sp}
theorem fnG_of {nm qual : Str} {params : Arguments} {body : List Stmt} {scope : Scope} {dV kV doc pm cdv ct oc : Value} {an od : Option Addr} {osl : Array (Option Value)}
    (lk : K.lookup f = some ⟨oc, od, .func (PySem.W.fnOf nm qual params body scope dV kV doc pm an cdv ct), osl⟩) (hcd : PySem.W.codeIn K cdv qual = true) (S : FnScope N ps scope) (len : ∀ vs H Q E, sp vs H Q E → vs.length = ps.length)
    (hb : ∀ (A : Around) (outer : List Env) (s : Shared) (H : Hp) (vs : List V) (Q : VK) (E : XK), Gp A → Room k (A.deeper (envOfC qual scope s.heap.objs.size f cdv)) → sp vs H Q E →
      ∃ t, PSs (cxOf CX0 P w K mg base N qual scope f cdv A outer s H E) body t ∧ t { nx := fun _ H' => Q .non H', rt := Q } (L2.start N vs) H) :
    FnG Gp P w K mg base (k + 1) f (PySem.W.fnOf nm qual params body scope dV kV doc pm an cdv ct) ps sp := by
  refine ⟨len, fun A outer s H as us vs Q E hG hr e0 hbd r hsp => ?_⟩
  have KX : K.In s.heap := e0.mod.kin.keeps fun b o e => (e0.bs b o e).1
  have lim : s.heap.NoLimit := e0.mod.nolimit.keeps fun b o e => (e0.bs b o e).1
  have kinds : ∀ y ∈ ps.zip us, scope.names.lookup y.1 = some .local ∨ (scope.names.lookup y.1 = some .cell ∧ ((cellsFrom (s.heap.objs.size + 1) scope.names []).lookup y.1).isSome = true) := fun y hy => by
    have hm : y.1 ∈ ps := (List.of_mem_zip (show (y.1, y.2) ∈ ps.zip us from hy)).1
    exact (S.par y.1 hm).imp id fun q => ⟨q, PySem.W.cellsFrom_some _ _ _ (.inl q)⟩
  refine codeAny_call_function hr.depth (KX _ _ lk) rfl S.co S.gen rfl (PySem.W.codeRec_of KX hcd) (hbd _ _ _ _ (wpAny_newFunctionEnv_cells S.kind kinds fun env he s1 x => ?_))
  subst he
  refine ⟨lim.keeps x.toInCall.keep, codeAny_func ?_⟩
  obtain ⟨t, ht, hq⟩ := hb A outer s H vs Q E hG (hr.deeper _) hsp
  have I : Inv (cxOf CX0 P w K mg base N qual scope f cdv A outer s H E) [] (L2.start N vs) H s1 := inv_start S hr.hd e0 (len _ _ _ _ hsp) r x
  refine wpAny_mono (ht.run [] s1 (L2.start N vs) H _ I hq) (fun fl s' hs => ?_) fun e s' hs => hs
  have done : ∀ {σ' : L2.St} {H' : Hp} {v : V} {u : Value}, Inv (cxOf CX0 P w K mg base N qual scope f cdv A outer s H E) [] σ' H' s' → RelV v u → Q v H' → CE outer P w H s Q u s' :=
    fun {σ' H' v u} J rv q => ⟨v, H', J.os, J.bare, J.base, J.hok, rv, q⟩
  match fl, hs with
  | .ret u, ⟨v, σ', H', J, rv, q⟩ => exact done J rv q
  | .next, ⟨σ', H', J, q⟩ => exact done (v := V.non) (u := Value.none) J rfl q
  | .brk, ⟨_, _, _, q⟩ => exact q.elim
  | .cont, ⟨_, _, _, q⟩ => exact q.elim
theorem fnG_fun {nm qual : Str} {st : Stmt} (F : Fun K nm qual st f fd ∨ ∃ dvs, FunD K nm qual (defArgs st) (defBody st) (defScope st) dvs [] f fd) (S : FnScope N ps (defScope st)) (len : ∀ vs H Q E, sp vs H Q E → vs.length = ps.length)
    (hb : ∀ (cdv : Value) (A : Around) (outer : List Env) (s : Shared) (H : Hp) (vs : List V) (Q : VK) (E : XK), Gp A → Room k (A.deeper (envOfC qual (defScope st) s.heap.objs.size f cdv)) → sp vs H Q E →
      ∃ t, PSs (cxOf CX0 P w K mg base N qual (defScope st) f cdv A outer s H E).nox (defBody st) t ∧ t { nx := fun _ H' => Q .non H', rt := Q } (L2.start N vs) H) : FnG Gp P w K mg base (k + 1) f fd ps sp := by
  rcases F with F | ⟨dvs, F⟩
  · obtain ⟨oc, od, kV, doc, pm, an, cdv, ct, osl, rfl, lk, hcd⟩ := F.ex
    refine fnG_of lk hcd S len fun A outer s H vs Q E hG hr hsp => ?_
    obtain ⟨t, h, q⟩ := hb cdv A outer s H vs Q E hG hr hsp
    exact ⟨t, h.nox, q⟩
  · obtain ⟨oc, od, dV, kV, doc, pm, an, cdv, ct, osl, rfl, lk, hcd, _, _⟩ := F.ex
    refine fnG_of lk hcd S len fun A outer s H vs Q E hG hr hsp => ?_
    obtain ⟨t, h, q⟩ := hb cdv A outer s H vs Q E hG hr hsp
    exact ⟨t, h.nox, q⟩
end
/-! ## calls of such a def -/
section
variable {Gp : Around → Prop} {X : Cx} {k : Nat} {f : Addr} {fd : FuncData} {ps : List Str} {sp : Sp}
/-- at any Around whose frames are those of the body's -/
theorem runG {pins : List (Addr × Obj)} {σ : L2.St} {H : Hp} {s : Shared} {Q : VK} {us : List Value} {vs : List V} {A : Around} (F : FnG Gp X.prog X.w X.K X.mg X.base k f fd ps sp) (hG : Gp A) (hr : Room k A) (hf : A.frames = some X.stack) (hb : Binds X.K fd ps [])
    (I : Inv X pins σ H s) (r : Vals vs us) (h : sp vs H Q E0) {R : Value → Shared → Prop} {E : Value → Shared → Prop} (hR : ∀ u s', EP X pins σ Q u s' → R u s') : wpAny (model X.prog X.w) A (call (.ref f) us) R E s := by
  have hl : us.length = ps.length := by rw [← r.length]; exact F.len _ _ _ _ h
  have e0 := I.env0
  have bt := hb s us I.kIn (by rw [List.append_nil]; exact hl)
  rw [List.append_nil] at bt
  refine wpAny_call (codeAny_mono (F.run A X.stack s H ⟨us, []⟩ us vs Q E0 hG hr ⟨hf, e0.mod, e0.bs, e0.bsz, e0.funs, e0.frf, e0.hok, e0.bare⟩ bt r h) fun r s' hq => ?_)
  match r, hq with
  | .error e, hq => exact hq.elim
  | .ok (.ret u), hq => exact hR u s' (I.after hq)
end
end Gg

end Text_G1
section Text_G2
set_option maxHeartbeats 4000000
namespace Gg
open PySem PySem.Spec PyProof.Rows L2
/-! ## the text of a list of two data lists and an instance of ours -/
/-- an object that holds an instance in the third place is no data -/
theorem noread {h : Heap} {p x C : Addr} {its : List Value} {n : Nat} {ox : Obj} (hp : h.get? p = some { cls := .type "list", data := .seq its.toArray n }) (hi : its[2]? = some (.ref x)) (hx : h.get? x = some ox) (hc : ox.cls = .ref C) {d : PyData} {as : List Addr} : ¬ Reads h (.ref p) d as := by
  have item : ∀ {vs : List Value} {ds : List PyData} {bs : List Addr}, ReadsAll h vs ds bs → ∀ i : Nat, vs[i]? = some (.ref x) → False := by
    intro vs ds bs r
    induction vs generalizing ds bs with
    | nil => intro i e; simp at e
    | cons v vs ih =>
      intro i e
      cases r with
      | cons r1 r2 =>
        cases i with
        | succ i => exact ih r2 i (by simpa using e)
        | zero =>
          have e' : v = .ref x := by simpa using e
          subst e'
          cases r1 with
          | list h1 h2 => rw [hx] at h1; cases h1; rw [hc] at h2; cases h2
          | tuple h1 h2 => rw [hx] at h1; cases h1; rw [hc] at h2; cases h2
          | dict h1 h2 => rw [hx] at h1; cases h1; rw [hc] at h2; cases h2
  intro r
  cases r with
  | list h1 h2 h3 h4 => rw [hp] at h1; cases h1; simp only [Data.seq.injEq] at h3; obtain ⟨rfl, _⟩ := h3; exact item h4 2 (by simpa using hi)
  | tuple h1 h2 => rw [hp] at h1; cases h1; simp at h2
  | dict h1 h2 => rw [hp] at h1; cases h1; simp at h2
/-- a data list's text, below guards that do not name it -/
theorem list_under {prog : Program} {w : World} {h₀ : Heap} {a : Addr} {xs : List PyData} {as : List Addr} (r : Reads h₀ (.ref a) (.list xs) as) (hs : (PyData.list xs).showable = true) (hd : (PyData.list xs).hasDict = false) (hz : (PyData.list xs).shown.length ≤ sizeLine)
    {A : Around} {g : List Code} {E : Value → Shared → Prop} {s : Shared} {Q : Value → Shared → Prop} (hg : A.guards = some g) (hcl : ∀ b d as, Reads h₀ (.ref b) d as → Clear g b) (hu : A.units + (PyData.list xs).depth < cLine) (hk0 : ∀ b o, h₀.get? b = some o → s.heap.get? b = some o)
    (hQ : ∀ h' u tk, (∀ b o, s.heap.get? b = some o → h'.get? b = some o) → Q (.str (PyData.list xs).shown u) { s with heap := h', toks := tk }) : wpAny (model prog w) A (pyReprObj (.ref a)) Q E s := by
  cases r with
  | list h1 h2 h3 h4 =>
    rename_i o vs n as
    have hz' : (listText (PyData.shownAll xs)).length ≤ sizeLine := by simpa only [PyData.shown] using hz
    obtain ⟨bs, hb, hk⟩ := ReprAllK.of_readsAll (prog := prog) (w := w) h4 (by simpa [PyData.showable] using hs) (fun hx => absurd hx (by rw [show PyData.hasDictAll xs = false by simpa [PyData.hasDict] using hd]; simp)) (fun t ht => Nat.le_trans (listText_mem_le ht) hz')
    have r : Reads h₀ (.ref a) (.list xs) _ := .list h1 h2 h3 h4
    have hna : a ∉ bs := not_mem_of_deeper r (by simp only [PyData.depth]; omega) hb
    simp only [PyData.depth] at hu
    simp only [PyData.shown] at hQ
    obtain ⟨l⟩ := vs
    cases l with
    | nil =>
      have h4' : ReadsAll h₀ [] xs _ := h4
      cases h4'
      simp only [PyData.shownAll, listText_nil] at hQ
      exact wpAny_pyReprObj_list_empty ⟨_, hk0 _ _ h1, h2⟩ (by omega) (hk0 _ _ h1) h3 (hQ s.heap _ _ fun _ _ e => e)
    | cons x l =>
      refine wpAny_pyReprObj_listK h1 h2 h3 hna (by simpa using hk.length_eq) (fun i y e => hk.item i y (by simpa using e)) hg (fun b hm => ?_) (by omega) hk0 (fun h' u tk hk' => hQ h' u tk hk') hz'
      rcases List.mem_cons.mp hm with e | hm
      · subst e
        exact hcl _ _ _ r
      · obtain ⟨d', as', r', _⟩ := hb b hm
        exact hcl _ _ _ r'
/-! ### the instance's own text -/
theorem inst_under {prog : Program} {w : World} {A : Around} {base : Nat} {E : Value → Shared → Prop} {s : Shared} {Q : Str → Shared → Prop} {K : PySem.W.Frag} {x C f : Addr} {ox : Obj} {od : Option Obj} (hb : base ≤ sizeLine) (hu : A.units < cLine) (KX : K.In s.heap) (J : PySem.W.InstAt s.heap x ox C od)
    (hs : PySem.W.findIn K (.ref C) "__repr__" = some (some (.ref f))) (hf : PySem.W.isFn K (.ref f) = true)
    (h : wpAny (model prog w) A (call (.ref f) [.ref x]) (fun v s' => ∃ y u, v = .str y u ∧ Q y s') E s) : wpAny (model prog w) A (pyReprUnder base (.ref x)) Q E s := by
  refine wpAny_pyReprUnder_ref hb ?_
  unfold pyReprObjUnder pyReprObjBy
  refine wpAny_bind (wpAny_cRoomFor hu ?_)
  refine wpAny_bind (wpAny_bind (J.type.here ((PySem.W.looks_findIn KX hs).here ?_)))
  show wpAny _ _ (if (some (Value.ref f)).isNone = true then _ else _) _ _ _
  rw [if_neg (by simp)]
  simp only [callSpecialIfBoundBy?, bindSpecialIfBound?]
  refine wpAny_bind (wpAny_holding (wpAny_bind (wpAny_bind (wpAny_bind (J.type.here ((PySem.W.looks_findIn KX hs).here ?_))))))
  refine wpAny_bind (wpAny_askSetting (wpAny_ite ?_))
  have fin : wpAny (model prog w) A (call (.ref f) ([.ref x] ++ []) >>= fun v => pure (some v)) (fun r s' => ∃ y u, r = some (.str y u) ∧ Q y s') E s := wpAny_bind (wpAny_mono h (fun v s' h' => by
    obtain ⟨y, u, rfl, q⟩ := h'
    exact wpAny_pure ⟨y, u, rfl, q⟩) fun _ _ h' => h')
  have fin2 := wpAny_mono (Q' := fun r s' => wpAny (model prog w) A (match r with
      | some r => do if ← isInstance r (.type "str") then pure r else raiseError "TypeError" s!"__repr__ returned non-string (type {← typeNameOf r})"
      | none => unsupported "repr:special-get-raises") (fun v s' => ∃ y u, v = .str y u ∧ Q y s') E s') fin (fun r s' h' => by
    obtain ⟨y, u, rfl, q⟩ := h'
    exact wpAny_bind (wpAny_isInstance (T := "str") (b := true) rfl isSubtype_str_str (wpAny_pure ⟨y, u, rfl, q⟩))) fun _ _ h' => h'
  split
  · exact wpAny_bind ((PySem.W.bind_fn KX _ (beq_iff_eq.mp hf)).here (wpAny_pure (by exact fin2)))
  · exact wpAny_tryCatch (wpAny_bind ((PySem.W.bind_fn KX _ (beq_iff_eq.mp hf)).here (wpAny_pure (by exact fin2))))
/-! ### the loop -/
abbrev lp (p P : Addr) (i : Nat) (b : Nat) : Code := .builtin "list.__repr__.loop" ⟨[.ref p, rawInt i, .ref P, rawInt (b : Nat)], []⟩
theorem vals_strs : ∀ {ts : List Str} {its : List Value}, Vals (ts.map V.str) its → ∃ done : List (Str × Tok), its = strValues done ∧ done.map (·.1) = ts
  | [], its, h => by
    cases h
    exact ⟨[], rfl, rfl⟩
  | t :: ts, its, h => by
    cases h with
    | cons h1 h2 =>
      obtain ⟨u, rfl⟩ := h1
      obtain ⟨done, rfl, e⟩ := vals_strs h2
      exact ⟨(t, u) :: done, by simp [strValues], by simp [e]⟩
section
variable {X : Cx} {A : Around} {pins : List (Addr × Obj)} {σ : L2.St} {H : Hp} {s : Shared} {p P : Addr} {ws : List V} {ts : List Str} {R : Result → Shared → Prop}
theorem rl_step {i b : Nat} {v : V} (I : Inv X pins σ H s) (hp : H p = some (.lst ws)) (hP : H P = some (.lst (ts.map V.str))) (hv : ws[i]? = some v) (hz : ts.length < 100)
    (h : ∀ u, RelV v u → wpAny (model X.prog X.w) (A.under (lp p P i b)) (pyReprUnder (b + 1) u) (fun t s1 => t.length ≤ sizeLine ∧ Inv X pins σ H s1 ∧ ∀ s2, Inv X pins σ (upd H P (.lst ((ts ++ [t]).map V.str))) s2 → codeAny (model X.prog X.w) A (lp p P (i + 1) (b + (t.length + 2))) R s2) (fun e s' => R (.error e) s') s) :
    codeAny (model X.prog X.w) A (lp p P i b) R s := by
  obtain ⟨_, its, n, rv, _, e⟩ := I.lstM hp
  obtain ⟨u, hu, ru⟩ := rv.get hv
  refine codeAny_builtin F.entry_list_repr_loop ?_
  show wpAny _ _ (Builtin.«list.__repr__.loop» ⟨[.ref p, .int i 0, .ref P, .int ((b : Nat) : Int) 0], []⟩) _ _ s
  rw [repr_loop_tree]
  refine wpAny_bind (wpAny_listItems e rfl ?_)
  have hsome : its.toArray[(i : Int).toNat]? = some u := by simpa using hu
  simp only [hsome]
  rw [Int.toNat_natCast]
  refine wpAny_bind (wpAny_holding (wpAny_mono (h u ru) (fun t s1 h1 => ?_) fun _ _ z => z))
  obtain ⟨hl, I1, k⟩ := h1
  obtain ⟨zP, itP, nP, rP, lP, eP⟩ := I1.lstM hP
  refine wpAny_bind (wpAny_mkStr ?_ hl)
  refine wpAny_bind ?_
  show wpAny _ _ (updateSeq P _) _ _ _
  have hsz : itP.toArray.size ≤ sizeLine := by
    rw [List.size_toArray, ← lP]; exact zP
  have J := I1.lset (its' := itP ++ [.str t s1.toks]) (f := fun xs => xs.push (.str t s1.toks)) (ys := (ts ++ [t]).map V.str) (t' := s1.toks + 1) hP eP (by simp) (by
    rw [List.map_append]
    exact rP.append (.cons ⟨_, rfl⟩ .nil)) (by
    rw [List.length_map, List.length_append, List.length_singleton, sizeLine_eq]
    omega)
  have q := k _ J
  refine wpAny_updateSeq eP rfl (wpAny_pure ⟨F.quiet_list_repr_loop _, ?_⟩) hsz
  have e1 : ((i : Int) + 1) = ((i + 1 : Nat) : Int) := by omega
  rw [e1]
  exact q
theorem rl_end {i b : Nat} (I : Inv X pins σ H s) (hp : H p = some (.lst ws)) (hP : H P = some (.lst (ts.map V.str))) (hi : ws.length = i) (hz : (listText ts).length ≤ sizeLine)
    (h : ∀ u s', Inv X pins σ H s' → R (.ok (.ret (.str (listText ts) u))) s') : codeAny (model X.prog X.w) A (lp p P i b) R s := by
  obtain ⟨_, its, n, rv, lv, e⟩ := I.lstM hp
  obtain ⟨_, itP, nP, rP, lP, eP⟩ := I.lstM hP
  obtain ⟨done, rfl, hdone⟩ := vals_strs rP
  refine codeAny_builtin F.entry_list_repr_loop ?_
  show wpAny _ _ (Builtin.«list.__repr__.loop» ⟨[.ref p, .int i 0, .ref P, .int ((b : Nat) : Int) 0], []⟩) _ _ s
  rw [repr_loop_tree]
  refine wpAny_bind (wpAny_listItems e rfl ?_)
  have hnone : its.toArray[(i : Int).toNat]? = none := by simp; omega
  simp only [hnone]
  unfold reprEnd
  refine wpAny_bind (wpAny_listItems eP rfl ?_)
  rw [show (strValues done).toArray.toList = strValues done by simp, repr_fold]
  refine wpAny_bind (wpAny_pure ?_)
  rw [hdone]
  refine wpAny_bind (wpAny_mkStr (wpAny_pure ?_) hz)
  exact h _ _ (I.tok _)
end
end Gg

end Text_G2
section Text_G3
set_option maxHeartbeats 4000000
namespace Gg
open PySem PySem.Spec PyProof.Rows L2 Pr
/-! ## repr([a, b, an instance]) -/
/-- a data list whose text is told -/
structure ShOk (d : Dt) : Prop where
  pl : d.plain = true
  sh : d.py.showable = true
  nd : d.py.hasDict = false
  dp : d.py.depth ≤ 8
  sz : d.py.shown.length ≤ 3000000
def shT (d : Dt) : Str := d.py.shown
def ttx (ds : Dt) (n : Int) : Str := Str.empty ++ "Timetable(" ++ shT ds ++ ", " ++ (toString n : String) ++ ")"
def rp3 (a b t : Dt) (n : Int) : Str := listText [shT a, shT b, ttx t n]
/-- what the instance's own text asks: it stands as the last of the list at p -/
def spTR (p C : Addr) : Sp := fun vs H Q E => ∃ x dx fs w0 w1 v1 n ds S, vs = [.ref x] ∧ H p = some (.lst [w0, w1, .ref x]) ∧ H x = some (.ins C dx fs) ∧ fs.lookup ("row_times" : Str) = some v1 ∧ fs.lookup ("length" : Str) = some (V.int n) ∧ Rep S H (.lst ds) v1 ∧ ShOk (.lst ds) ∧ n.natAbs < 10 ^ 12 ∧ Q (.str (ttx (.lst ds) n)) H
/-- the guard of the list at p -/
def Gp (p : Addr) (A : Around) : Prop := ∃ rest kw, A.guards = some [.builtin "list.__repr__.loop" ⟨.ref p :: rest, kw⟩]
theorem lp_depth {A : Around} {p P : Addr} {i b : Nat} : (A.under (lp p P i b)).depth = A.depth + 1 := by
  first | rfl | simp [Around.under, Code.weight, Code.isCreation, Code.isGuard, Code.isCaller, Code.frames, Code.isFrame, guardIds]
theorem lp_units {A : Around} {p P : Addr} {i b : Nat} : (A.under (lp p P i b)).units = A.units + 1 := units_under_list_loop A _
theorem lp_room {k : Nat} {A : Around} {p P : Addr} {i b : Nat} (r : Room (k + 1) A) : Room k (A.under (lp p P i b)) :=
  ⟨r.hd, by have := r.dp; rw [lp_depth]; omega, by have := r.un; rw [lp_units]; omega⟩
theorem lp_frames {A : Around} {p P : Addr} {i b : Nat} {l : List Env} (h : A.frames = some l) : (A.under (lp p P i b)).frames = some l := by
  first | exact h | (simpa [Around.under, Code.envs, Code.isFrame, pushEnvs] using h)
section
variable {X : Cx} {A : Around} {pins : List (Addr × Obj)} {σ : L2.St} {H : Hp} {s : Shared} {p P x C dx : Addr} {fs : List (Str × V)} {w0 w1 : V} {ws : List V} {ts : List Str} {R : Result → Shared → Prop}
theorem lst3_obj (I : Inv X pins σ H s) (hp : H p = some (.lst [w0, w1, .ref x])) (hx : H x = some (.ins C dx fs)) : ∃ u0 u1 n, RelV w0 u0 ∧ RelV w1 u1 ∧ s.heap.get? p = some { cls := .type "list", data := .seq #[u0, u1, .ref x] n } ∧ s.heap.get? x = some (PySem.W.instObj C dx) := by
  obtain ⟨_, its, n, rv, lv, e⟩ := I.lstM hp
  obtain ⟨mA, O, _⟩ := ins_get I.hok hx
  cases rv with
  | cons h0 r1 => cases r1 with
    | cons h1 r2 => cases r2 with
      | cons h2 r3 =>
        cases r3
        cases h2
        exact ⟨_, _, n, h0, h1, e, O.obj⟩
theorem clear3 (I : Inv X pins σ H s) (hp : H p = some (.lst [w0, w1, .ref x])) (hx : H x = some (.ins C dx fs)) {rest : List Value} {kw : List (Str × Value)} : ∀ b d as, Reads s.heap (.ref b) d as → Clear [.builtin "list.__repr__.loop" ⟨.ref p :: rest, kw⟩] b := fun b d as r => by
  obtain ⟨u0, u1, n, _, _, e, ex⟩ := lst3_obj I hp hx
  refine (Clear.nil b).cons fun z => ?_
  subst z
  exact noread (its := [u0, u1, .ref x]) e rfl ex rfl r
theorem rl_data {S : Addr → Prop} {i b : Nat} {v : V} {ds : Dt} (I : Inv X pins σ H s) (hp : H p = some (.lst [w0, w1, .ref x])) (hx : H x = some (.ins C dx fs)) (hP : H P = some (.lst (ts.map V.str))) (hv : [w0, w1, .ref x][i]? = some v) (hz : ts.length < 100)
    (r : Rep S H ds v) (ok : ShOk ds) (hb : b ≤ 5000000) (hg : A.guards = some []) (hu : A.units + 64 < cLine)
    (k : ∀ s2, Inv X pins σ (upd H P (.lst ((ts ++ [shT ds]).map V.str))) s2 → codeAny (model X.prog X.w) A (lp p P (i + 1) (b + ((shT ds).length + 2))) R s2) : codeAny (model X.prog X.w) A (lp p P i b) R s := by
  refine rl_step I hp hP hv hz fun u ru => ?_
  obtain ⟨as, rd⟩ := Dp.reads I _ _ _ (rep_dp (K' := X.K) ok.pl r) ru
  have sz := ok.sz
  have hl : (shT ds).length ≤ sizeLine := by rw [sizeLine_eq]; show ds.py.shown.length ≤ _; omega
  obtain ⟨bs, hbs, hk⟩ := ReprK.of_reads (prog := X.prog) (w := X.w) rd ok.sh (fun h => by rw [ok.nd] at h; cases h) hl
  refine hk (b + 1) (by rw [sizeLine_eq]; omega) _ _ _ _ _ (guards_under_guard (isGuard_list_loop _) hg) (fun c hc => ?_) (by rw [lp_units]; have := ok.dp; omega) (fun _ _ e => e) fun h' tk hk' => ?_
  · obtain ⟨d', as', r', _⟩ := hbs c hc
    exact clear3 I hp hx c d' as' r'
  · exact ⟨hl, I.kept hk', k⟩
theorem rl_inst {k b : Nat} {f : Addr} {fd : FuncData} (F : FnG (Gp p) X.prog X.w X.K X.mg X.base k f fd ["self"] (spTR p C)) (me : Meth X.K C "__repr__" f) (hbi : Binds X.K fd ["self"] []) (hr : Room (k + 1) A) (hf : A.frames = some X.stack) (hg : A.guards = some [])
    {S : Addr → Prop} {ds : List Dt} {n : Int} {v1 : V} (I : Inv X pins σ H s) (hp : H p = some (.lst [w0, w1, .ref x])) (hx : H x = some (.ins C dx fs)) (l1 : fs.lookup ("row_times" : Str) = some v1) (l2 : fs.lookup ("length" : Str) = some (V.int n)) (rr : Rep S H (.lst ds) v1) (ok : ShOk (.lst ds)) (hn : n.natAbs < 10 ^ 12) (hP : H P = some (.lst (ts.map V.str))) (hz : ts.length < 100)
    (hb : b ≤ 10000000) (hl : (ttx (.lst ds) n).length ≤ sizeLine)
    (kk : ∀ s2, Inv X pins σ (upd H P (.lst ((ts ++ [ttx (.lst ds) n]).map V.str))) s2 → codeAny (model X.prog X.w) A (lp p P 3 (b + ((ttx (.lst ds) n).length + 2))) R s2) : codeAny (model X.prog X.w) A (lp p P 2 b) R s := by
  refine rl_step I hp hP (v := .ref x) rfl hz fun u ru => ?_
  cases ru
  obtain ⟨mA, O, _⟩ := ins_get I.hok hx
  obtain ⟨od, J, _⟩ := O.look
  have hr2 : Room k (A.under (lp p P 2 b)) := lp_room hr
  refine inst_under (by rw [sizeLine_eq]; omega) hr2.units0 I.kIn J me.at_ me.fn ?_
  refine runG (Q := fun v H' => v = .str (ttx (.lst ds) n) ∧ H' = H) F ⟨_, _, guards_under_guard (isGuard_list_loop _) hg⟩ hr2 (lp_frames hf) hbi I (.cons rfl .nil : Vals [V.ref x] [.ref x]) ⟨x, dx, fs, w0, w1, v1, n, ds, S, rfl, hp, hx, l1, l2, rr, ok, hn, rfl, rfl⟩ fun u' s' h' => ?_
  obtain ⟨v', H', J', r', rfl, rfl⟩ := h'
  obtain ⟨t', rfl⟩ := r'
  exact ⟨_, _, rfl, hl, J', kk⟩
end
def rRepr3 (X : Cx) (C : Addr) : List V → Hp → VK → Prop := fun vs H Q => ∃ p x dx fs w0 w1 v1 n d0 d1 ds S, vs = [.ref p] ∧ H p = some (.lst [w0, w1, .ref x]) ∧ H x = some (.ins C dx fs) ∧ Rep S H d0 w0 ∧ ShOk d0 ∧ Rep S H d1 w1 ∧ ShOk d1 ∧
  fs.lookup ("row_times" : Str) = some v1 ∧ fs.lookup ("length" : Str) = some (V.int n) ∧ Rep S H (.lst ds) v1 ∧ ShOk (.lst ds) ∧ n.natAbs < 10 ^ 12 ∧ ∀ P o, H P = none → Q (.str (rp3 d0 d1 (.lst ds) n)) (upd H P o)
theorem ttx_len {ds : Dt} {n : Int} (ok : ShOk ds) (hn : n.natAbs < 10 ^ 12) : (ttx ds n).length ≤ 3000100 := by
  have h := ok.sz
  have h2 := int_text_length_le10 (k := 12) (by decide) hn
  unfold ttx shT
  rw [strLen_append, strLen_append, strLen_append, strLen_append, strLen_append, PySem.ofString_length, PySem.ofString_length, PySem.ofString_length, PySem.ofString_length]
  have e1 : Str.empty.length = 0 := rfl
  have e2 : ("Timetable(" : String).length = 10 := by decide
  have e3 : (", " : String).length = 2 := by decide
  have e4 : (")" : String).length = 1 := by decide
  rw [e1, e2, e3, e4]
  omega
theorem upd_two {H : Hp} {P : Addr} {a b : HO} : upd (upd H P a) P b = upd H P b := by
  funext x
  by_cases h : x = P
  · subst h; rw [upd_same, upd_same]
  · rw [upd_ne h, upd_ne h, upd_ne h]
theorem call_repr3 {X : Cx} {k : Nat} {C f : Addr} {fd : FuncData} (Fn : ∀ p, FnG (Gp p) X.prog X.w X.K X.mg X.base k f fd ["self"] (spTR p C)) (me : Meth X.K C "__repr__" f) (hbi : Binds X.K fd ["self"] []) (hr : Room (k + 2) X.A) (hg : X.A.guards = some []) : CallR X (.builtin "repr") (rRepr3 X C) := by
  intro pins s σ H vs us Q I r h
  obtain ⟨p, x, dx, fs, w0, w1, v1, n, d0, d1, ds, S, rfl, hp, hx, r0, ok0, r1, ok1, l1, l2, rr, ok, hn, q⟩ := h
  rw [Vals.ref1 r]
  obtain ⟨u0, u1, m, ru0, ru1, e, ex⟩ := lst3_obj I hp hx
  have hu := hr.un
  have z0 := ok0.sz
  have z1 := ok1.sz
  have zt := ttx_len ok hn
  refine call_repr_slot (by omega) ⟨_, e, rfl⟩ F.slot_list_repr.toG ?_
  refine wpAny_call (codeAny_call_builtin F.slot_list_repr.plain F.entry_list_repr (F.slot_list_repr.check _ _ _ _ _ _ _ _ ⟨_, e, rfl⟩ (F.args_list_repr_1 _) ?_))
  refine wpAny_list_repr_head (A := X.A.in1.in1) (b := 0) (g := []) hg (fun v rest kw hm => nomatch hm) e rfl ?_
  refine wpAny_bind (m := newList []) (wpAny_newObj_type ?_)
  refine wpAny_pure ⟨F.quiet_list_repr_loop _, ?_⟩
  have fr := I.fresh
  have J := I.lnew (ys := []) (its := []) (t' := s.toks) .nil (Nat.zero_le _)
  generalize hP : s.heap.objs.size = P at fr J
  have hr1 : Room (k + 1) X.A.in1 := hr.in1
  have up : ∀ {o : HO}, Ex H (upd H P o) := fun {o} => Ex.new fr
  refine rl_data (ts := []) (A := X.A.in1) (i := 0) (b := 0) J (up _ _ hp) (up _ _ hx) upd_same rfl (by decide) (r0.mv up.mv) ok0 (by omega) hg hr1.units fun s2 J2 => ?_
  rw [upd_two] at J2
  refine rl_data (A := X.A.in1) J2 (up _ _ hp) (up _ _ hx) upd_same rfl (by show 1 < 100; decide) (r1.mv up.mv) ok1 (by show 0 + (d0.py.shown.length + 2) ≤ _; omega) hg hr1.units fun s3 J3 => ?_
  rw [upd_two] at J3
  refine rl_inst (A := X.A.in1) (Fn p) me hbi hr1 I.ok.frames hg J3 (up _ _ hp) (up _ _ hx) l1 l2 (rr.mv up.mv) ok hn upd_same (by show 2 < 100; decide) (by show 0 + (d0.py.shown.length + 2) + (d1.py.shown.length + 2) ≤ _; omega) (by rw [sizeLine_eq]; omega) fun s4 J4 => ?_
  rw [upd_two] at J4
  refine rl_end (A := X.A.in1) J4 (up _ _ hp) upd_same rfl ?_ fun u s5 J5 => ⟨_, _, rfl, .str (rp3 d0 d1 (.lst ds) n), _, J5, ⟨_, rfl⟩, q _ _ fr⟩
  have h3 := listText_len_le [shT d0, shT d1, ttx (.lst ds) n]
  rw [sizeLine_eq]
  simp only [List.nil_append, List.cons_append, List.map_cons, List.map_nil, List.sum_cons, List.sum_nil, List.length_cons, List.length_nil] at h3 ⊢
  have z0' : (shT d0).length ≤ 3000000 := z0
  have z1' : (shT d1).length ≤ 3000000 := z1
  omega
/-- on data -/
theorem cc_repr3 {X : Cx} {δ : Sls} {K : Sls → Dt → Prop} {k : Nat} {C f : Addr} {fd : FuncData} {d0 d1 : Dt} {ds : List Dt} {n : Int} (Fn : ∀ p, FnG (Gp p) X.prog X.w X.K X.mg X.base k f fd ["self"] (spTR p C)) (me : Meth X.K C "__repr__" f) (hbi : Binds X.K fd ["self"] []) (hr : Room (k + 2) X.A) (hg : X.A.guards = some [])
    (ok0 : ShOk d0) (ok1 : ShOk d1) (ok : ShOk (.lst ds)) (hn : n.natAbs < 10 ^ 12) (h : K δ (.str (rp3 d0 d1 (.lst ds) n))) : CC X (.builtin "repr") δ [.lst [d0, d1, .ins C ["row_times", "length"] [.lst ds, .int n]]] K :=
  ⟨_, call_repr3 Fn me hbi hr hg, fun S σ H vs Q g r q => by
    obtain ⟨v, rfl, r1⟩ := reps1 r
    obtain ⟨p, us, rfl, hs, ha, h1⟩ := rep_lst.mp r1
    obtain ⟨w0, us1, rfl, a0, h2⟩ := reps_cons.mp h1
    obtain ⟨w1, us2, rfl, a1, h3⟩ := reps_cons.mp h2
    obtain ⟨w2, us3, rfl, a2, h4⟩ := reps_cons.mp h3
    rw [reps_nil.mp h4] at ha
    obtain ⟨x, dx, vs, rfl, hx, hX, hl, hr⟩ := rep_ins.mp a2
    obtain ⟨v1, vs1, rfl, b1, k2⟩ := reps_cons.mp hr
    obtain ⟨v2, vs2, rfl, b2, k3⟩ := reps_cons.mp k2
    rw [reps_nil.mp k3] at hX
    rw [rep_int.mp b2] at hX
    exact ⟨p, x, dx, _, w0, w1, v1, n, d0, d1, ds, S, rfl, ha, hX, a0, ok0, a1, ok1, rfl, rfl, b1, ok, hn, fun P o hP => q _ _ _ (Ex.new hP) (rep_str.mpr rfl) h⟩⟩
/-- {e!r} of a data list, where the guard is the list's at p that holds an instance -/
def tFmtRL (p C : Addr) (te : TE) : TE := fun σ H Q => te σ H fun v H1 => ∃ S ds x dx fs w0 w1, Rep S H1 (.lst ds) v ∧ ShOk (.lst ds) ∧ H1 p = some (.lst [w0, w1, .ref x]) ∧ H1 x = some (.ins C dx fs) ∧ Q (.str (shT (.lst ds))) H1
theorem pe_fmtRL {X : Cx} {e : Expr} {te : TE} {pos : Pos} {p C : Addr} (hg : Gp p X.A) (hu : X.A.units + 64 < cLine) (he : PE X e te) : PE X (.FormattedValue e 114 none pos) (tFmtRL p C te) := by
  refine ⟨fun pins s σ H Q I h => ?_⟩
  refine wpAny_FormattedValue_repr (thn (he.run pins s σ H _ I h) fun u s1 hv => ?_)
  obtain ⟨v, H1, I1, r1, S, ds, x, dx, fs, w0, w1, rr, ok, hp, hx, q⟩ := hv
  obtain ⟨rest, kw, hgd⟩ := hg
  have sz := ok.sz
  have hl : (shT (.lst ds)).length ≤ sizeLine := by rw [sizeLine_eq]; show (Dt.lst ds).py.shown.length ≤ _; omega
  obtain ⟨as, rd⟩ := Dp.reads I1 _ _ _ (rep_dp (K' := X.K) ok.pl rr) r1
  obtain ⟨a, vs, rfl, _, ha, _⟩ := rep_lst.mp rr
  cases r1
  refine list_under rd ok.sh ok.nd hl hgd (clear3 I1 hp hx) (by have := ok.dp; simp only [Dt.py] at this ⊢; omega) (fun _ _ e => e) fun h' t' tk hk => ?_
  have I2 := I1.kept (t' := tk) hk
  exact wpAny_formatField_str ⟨.str (shT (.lst ds)), H1, I2, ⟨_, rfl⟩, q⟩ ⟨.str (shT (.lst ds)), H1, I2.tok _, ⟨_, rfl⟩, q⟩ hl
end Gg

end Text_G3
section Text_G4
set_option maxHeartbeats 4000000
namespace Gg
open PySem PySem.Spec PyProof.Rows L2 Pr
/-! ## small data: its text is short -/
structure Sm (d : Dt) (D W : Nat) : Prop where
  pl : d.plain = true
  sh : d.py.showable = true
  nd : d.py.hasDict = false
  dp : d.py.depth ≤ D
  lv : d.py.leavesShort 13 = true
  wt : d.py.weight ≤ W
theorem Sm.ok {d : Dt} {D W : Nat} (h : Sm d D W) (hD : D ≤ 8) (hW : W ≤ 100000) : ShOk d := by
  refine ⟨h.pl, h.sh, h.nd, Nat.le_trans h.dp hD, ?_⟩
  have h1 := PyData.shown_le 13 (by decide) d.py h.lv
  have h2 := h.wt
  omega
theorem Sm.mono {d : Dt} {D W D' W' : Nat} (h : Sm d D W) (hD : D ≤ D') (hW : W ≤ W') : Sm d D' W' := ⟨h.pl, h.sh, h.nd, Nat.le_trans h.dp hD, h.lv, Nat.le_trans h.wt hW⟩
theorem log2_small {n : Nat} (h : n < 10 ^ 12) : n.log2 < 64 := by
  by_cases z : n = 0
  · subst z; decide
  · exact (Nat.log2_lt z).mpr (by omega)
theorem Sm.int {i : Int} (h : i.natAbs < 10 ^ 12) : Sm (.int i) 0 65 := by
  have h1 := log2_small h
  refine ⟨rfl, ?_, rfl, Nat.le_refl _, ?_, ?_⟩
  · show decide _ = true
    exact decide_eq_true (by omega)
  · show decide _ = true
    exact decide_eq_true (PyData.shown_int_le h)
  · show (if i == 0 then 0 else i.natAbs.log2 + 1) ≤ 65
    split <;> omega
theorem Sm.str {x : Str} {n : Nat} (hx : ∀ c ∈ x.cps.toList, c < 16 ^ 8) (hn : x.length ≤ n) : Sm (.str x) 0 n := by
  refine ⟨rfl, rfl, rfl, Nat.le_refl _, ?_, hn⟩
  show (x.cps.toList.all fun c => decide (c < 16 ^ 8)) = true
  rw [List.all_eq_true]
  exact fun c hc => decide_eq_true (hx c hc)
structure SmA (ds : List Dt) (D W : Nat) : Prop where
  pl : plains ds = true
  sh : PyData.showableAll (pys ds) = true
  nd : PyData.hasDictAll (pys ds) = false
  dp : PyData.depthAll (pys ds) ≤ D
  lv : PyData.leavesShortAll 13 (pys ds) = true
  wt : PyData.weightAll (pys ds) ≤ W
theorem SmA.all {D W : Nat} : ∀ {ds : List Dt}, (∀ d ∈ ds, Sm d D W) → SmA ds D (ds.length * (W + 1))
  | [], _ => ⟨rfl, rfl, rfl, Nat.zero_le _, rfl, Nat.zero_le _⟩
  | d :: ds, h => by
    have h1 := h d (List.mem_cons_self ..)
    have h2 := SmA.all (ds := ds) fun e he => h e (List.mem_cons_of_mem _ he)
    refine ⟨?_, ?_, ?_, ?_, ?_, ?_⟩
    · rw [plains, h1.pl, h2.pl]; rfl
    · rw [pys, PyData.showableAll, h1.sh, h2.sh]; rfl
    · rw [pys, PyData.hasDictAll, h1.nd, h2.nd]; rfl
    · rw [pys, PyData.depthAll]; exact Nat.max_le.mpr ⟨h1.dp, h2.dp⟩
    · rw [pys, PyData.leavesShortAll, h1.lv, h2.lv]; rfl
    · rw [pys, PyData.weightAll, List.length_cons, Nat.succ_mul]
      have := h1.wt
      have := h2.wt
      omega
theorem Sm.tup {ds : List Dt} {D W n : Nat} (h : ∀ d ∈ ds, Sm d D W) (hn : ds.length ≤ n) : Sm (.tup ds) (D + 1) (n * (W + 1)) := by
  have q := SmA.all h
  refine ⟨q.pl, ?_, ?_, ?_, ?_, ?_⟩
  · rw [Dt.py, PyData.showable]; exact q.sh
  · rw [Dt.py, PyData.hasDict]; exact q.nd
  · rw [Dt.py, PyData.depth]; have := q.dp; omega
  · rw [Dt.py, PyData.leavesShort]; exact q.lv
  · rw [Dt.py, PyData.weight]; exact Nat.le_trans q.wt (Nat.mul_le_mul_right _ hn)
theorem Sm.lst {ds : List Dt} {D W n : Nat} (h : ∀ d ∈ ds, Sm d D W) (hn : ds.length ≤ n) : Sm (.lst ds) (D + 1) (n * (W + 1)) := by
  have q := SmA.all h
  refine ⟨q.pl, ?_, ?_, ?_, ?_, ?_⟩
  · rw [Dt.py, PyData.showable]; exact q.sh
  · rw [Dt.py, PyData.hasDict]; exact q.nd
  · rw [Dt.py, PyData.depth]; have := q.dp; omega
  · rw [Dt.py, PyData.leavesShort]; exact q.lv
  · rw [Dt.py, PyData.weight]; exact Nat.le_trans q.wt (Nat.mul_le_mul_right _ hn)
end Gg

end Text_G4
section Text_D33
set_option maxHeartbeats 4000000
namespace Pr
open PySem PySem.Spec PyProof.Rows L2
open C8 (Cal Mak Met pe_c pe_mk pe_mt pe_mt0)
local macro_rules | `(tactic| walk_at "nrm") => `(tactic| (simp only [args, setAll, List.set_cons_zero, List.set_cons_succ, List.map_cons, List.map_nil, List.length_cons, List.length_nil, List.replicate_succ, List.replicate_zero, List.cons_append, List.nil_append, Nat.reduceAdd, Nat.reduceSub]; try rfl))
section
variable {P : Program} {w : World} {K : PySem.W.Frag} {mg : Str → Option Value} {base : Heap}
/-! ## what is right of one box -/
variable {C CT : Addr}
structure TxR (K : PySem.W.Frag) (mg : Str → Option Value) (C : Addr) : Prop where
  rep : ∃ (f : Addr) (fd : FuncData), Meth K C "__repr__" f ∧ (Fun K "__repr__" "Timetable.__repr__" (inClass (topS 45) 5) f fd ∨ ∃ dvs, FunD K "__repr__" "Timetable.__repr__" (defArgs (inClass (topS 45) 5)) (defBody (inClass (topS 45) 5)) (defScope (inClass (topS 45) 5)) dvs [] f fd) ∧ Binds K fd ["self"] []
  right : Dfn K mg "_law_right" "_law_right" "_law_right" (topS 75) ["_law_box_here"]
theorem c_repr (T1 : TxT K mg C) {f : Addr} {fd : FuncData} (F : Fun K "__repr__" "Timetable.__repr__" (inClass (topS 45) 5) f fd ∨ ∃ dvs, FunD K "__repr__" "Timetable.__repr__" (defArgs (inClass (topS 45) 5)) (defBody (inClass (topS 45) 5)) (defScope (inClass (topS 45) 5)) dvs [] f fd) (q : Addr) : Gg.FnG (Gg.Gp q) P w K mg base 1 f fd ["self"] (Gg.spTR q C) := by
  refine Gg.fnG_fun (N := ["self"]) F ⟨rfl, rfl, rfl, by decide +kernel, rfl, by decide +kernel, by decide +kernel⟩ (fun vs H Q E h => ?_) ?_
  · obtain ⟨x, dx, fs, w0, w1, v1, n, ds, S, rfl, _⟩ := h
    rfl
  · intro cdv A outer s H vs Q E hG hr h
    obtain ⟨x, dx, fs, w0, w1, v1, n, ds, S, rfl, hp, hx, l1, l2, rr, ok, hn, hq⟩ := h
    refine ⟨_, pss_one (ps_ret (pe_joined (.cons pe_str (.cons (Gg.pe_fmtRL (p := q) (C := C) hG hr.units (pe_fld (pe_var (i := 0) rfl (.inl rfl)) rfl)) (.cons pe_str (.cons (pe_fmt (pe_fld (pe_var (i := 0) rfl (.inl rfl)) rfl)) (.cons pe_str .nil))))))), ?_⟩
    have z := Gg.ttx_len ok hn
    have e0 : Gg.ttx (.lst ds) n = Str.empty ++ "Timetable(" ++ Gg.shT (.lst ds) ++ ", " ++ (toString n : String) ++ ")" := rfl
    have l5 : (Str.empty ++ "Timetable(" ++ Gg.shT (.lst ds) ++ ", " ++ (toString n : String) ++ ")").length ≤ sizeLine := by
      rw [← e0, sizeLine_eq]; omega
    have l4 : (Str.empty ++ "Timetable(" ++ Gg.shT (.lst ds) ++ ", " ++ (toString n : String)).length ≤ sizeLine := by rw [strLen_append] at l5; omega
    have l3 : (Str.empty ++ "Timetable(" ++ Gg.shT (.lst ds) ++ ", ").length ≤ sizeLine := by rw [strLen_append] at l4; omega
    have l2' : (Str.empty ++ "Timetable(" ++ Gg.shT (.lst ds)).length ≤ sizeLine := by rw [strLen_append] at l3; omega
    have l1' : (Str.empty ++ "Timetable(").length ≤ sizeLine := by rw [strLen_append] at l2'; omega
    refine ⟨_, rfl, l1', .ref x, rfl, x, C, dx, fs, v1, rfl, hx, T1.cls, T1.n_rows, l1, S, ds, x, dx, fs, w0, w1, rr, ok, hp, hx, _, rfl, l2', _, rfl, l3, .ref x, rfl, x, C, dx, fs, .int n, rfl, hx, T1.cls, T1.n_len, l2, .inr ⟨n, rfl, ?_, _, rfl, l4, _, rfl, l5, hq⟩⟩
    have := Gg.log2_small hn
    omega
theorem sm_lw {x : Str} {n : Nat} (h : Lw x n) : Gg.Sm (.str x) 0 n := Gg.Sm.str (fun c hc => by
  have := (h.1 c hc).2
  have e : (16 : Nat) ^ 8 = 4294967296 := by decide
  omega) h.2
theorem sm_int {i : Int} (h : 0 ≤ i) (h2 : i ≤ 100000) : Gg.Sm (.int i) 0 65 := Gg.Sm.int (by
  have e : (10 : Nat) ^ 12 = 1000000000000 := by decide
  omega)
theorem sh_pal {p : Pal} (h : PalG p) : Gg.ShOk (dPal p) := by
  have a : ∀ d ∈ p.cs.map dCol, Gg.Sm d 1 (4 * 66) := fun d hd => by
    obtain ⟨c, hc, rfl⟩ := List.mem_map.mp hd
    obtain ⟨l, c1, c2, c3, c4⟩ := h.col c hc
    refine Gg.Sm.tup (D := 0) (W := 65) (n := 4) (fun e he => ?_) (Nat.le_refl _)
    rcases List.mem_cons.mp he with rfl | he
    · exact (sm_lw l).mono (Nat.le_refl _) (by decide)
    rcases List.mem_cons.mp he with rfl | he
    · exact sm_int (by omega) (by omega)
    rcases List.mem_cons.mp he with rfl | he
    · exact sm_int (by omega) (by omega)
    · rw [List.mem_singleton.mp he]
      exact sm_int (by omega) (by omega)
  have b : ∀ d ∈ p.ws.map dWsh, Gg.Sm d 1 (4 * 66) := fun d hd => by
    obtain ⟨c, hc, rfl⟩ := List.mem_map.mp hd
    obtain ⟨l, l2, c1, c2⟩ := h.wsh c hc
    refine Gg.Sm.tup (D := 0) (W := 65) (n := 4) (fun e he => ?_) (by show 3 ≤ 4; decide)
    rcases List.mem_cons.mp he with rfl | he
    · exact (sm_lw l).mono (Nat.le_refl _) (by decide)
    rcases List.mem_cons.mp he with rfl | he
    · exact (sm_lw l2).mono (Nat.le_refl _) (by decide)
    · rw [List.mem_singleton.mp he]
      exact sm_int (by omega) (by omega)
  have c3 := h.c3
  have w9 := h.w9
  refine (Gg.Sm.tup (D := 2) (W := 2650) (n := 2) (fun e he => ?_) (Nat.le_refl _)).ok (by decide) (by decide)
  rcases List.mem_cons.mp he with rfl | he
  · exact (Gg.Sm.tup (n := 10) a (by rw [List.length_map]; omega)).mono (Nat.le_refl _) (by decide)
  · rw [List.mem_singleton.mp he]
    exact (Gg.Sm.tup (n := 10) b (by rw [List.length_map]; omega)).mono (Nat.le_refl _) (by decide)
theorem sh_rows {p : Pal} {rs : List RowT} (g : PalG p) (h : RowsG p rs) : Gg.ShOk (dRows rs) := by
  have a : ∀ d ∈ rs.map dRow, Gg.Sm d 1 (4 * 66) := fun d hd => by
    obtain ⟨c, hc, rfl⟩ := List.mem_map.mp hd
    obtain ⟨⟨k, hk, e0⟩, l1, l2, c1, c2⟩ := h.row c hc
    have l3 := (g.col k hk).1
    rw [← e0] at l3
    refine Gg.Sm.tup (D := 0) (W := 65) (n := 4) (fun e he => ?_) (Nat.le_refl _)
    rcases List.mem_cons.mp he with rfl | he
    · exact (sm_lw l1).mono (Nat.le_refl _) (by decide)
    rcases List.mem_cons.mp he with rfl | he
    · exact (sm_lw l2).mono (Nat.le_refl _) (by decide)
    rcases List.mem_cons.mp he with rfl | he
    · exact (sm_lw l3).mono (Nat.le_refl _) (by decide)
    · rw [List.mem_singleton.mp he]
      exact sm_int (by omega) (by omega)
  exact (Gg.Sm.lst (n := 12) a (by rw [List.length_map]; exact h.len)).ok (by decide) (by decide)
theorem sh_times {s : Stg} {n : Nat} {L : Int} (hv : ∀ v, 0 ≤ hAt s v ∧ hAt s v ≤ 60000) (hn : n ≤ 12) : Gg.ShOk (.lst ((tblOf s n L).times.map dPair)) := by
  have a : ∀ d ∈ (tblOf s n L).times.map dPair, Gg.Sm d 1 (2 * 66) := fun d hd => by
    obtain ⟨c, hc, rfl⟩ := List.mem_map.mp hd
    obtain ⟨i, _, rfl⟩ := List.mem_map.mp hc
    have h1 := hv (2 * i)
    have h2 := hv (2 * i + 1)
    refine Gg.Sm.tup (D := 0) (W := 65) (n := 2) (fun e he => ?_) (Nat.le_refl _)
    rcases List.mem_cons.mp he with rfl | he
    · exact sm_int (by omega) (by omega)
    · rw [List.mem_singleton.mp he]
      exact sm_int (by omega) (by omega)
  refine (Gg.Sm.lst (n := 12) a ?_).ok (by decide) (by decide)
  rw [List.length_map]
  show ((List.range n).map _).length ≤ 12
  rw [List.length_map, List.length_range]
  exact hn
/-- a def that draws, called where no guard stands -/
theorem Dfn.boxedG {x nm qual : Str} {st : Stmt} {N ps : List Str} {k : Nat} {α : Type} {enc : α → List Dt} {pre : α → Prop} {post : α → Dt → Prop} {M : Nat} {Gp : Around → Prop} (D : Dfn K mg x nm qual st ps) (Sc : FnScope N ps (defScope st)) (hl : ∀ a, (enc a).length + 1 = ps.length)
    (hb : ∀ (f : Addr) (cdv : Value) (A : Around) (outer : List Env) (s : Shared) (H : Hp) (E : XK), Gp A → Room k (A.deeper (envOfC qual (defScope st) s.heap.objs.size f cdv)) → ∀ (Γ : Gm) (p : Addr) (n : Nat) (a : α), Γ.B = [p] → n + M ≤ 1000000 → pre a →
      SK (cxOf CX0 P w K mg base N qual (defScope st) f cdv A outer s H E).nox Γ (defBody st) (.box p n :: args (enc a) (N.length - 1)) { nx := fun _ => False, rt := fun δ d => (∃ m, m ≤ n + M ∧ δ[0]? = some (.box p m)) ∧ post a d }) (hN : 1 ≤ N.length := by decide) :
    ∃ (f : Addr) (fd : FuncData), mg x = some (.ref f) ∧ PySem.W.keepIn K (.ref f) = true ∧ Binds K fd ps [] ∧ Gg.FnG Gp P w K mg base (k + 1) f fd ps (spB enc M pre post) := by
  obtain ⟨f, fd, hm, F, kp, b⟩ := D.ex
  refine ⟨f, fd, hm, kp, b, Gg.fnG_fun F Sc (fun vs H Q E h => ?_) fun cdv A outer s H vs Q E hG hr h => ?_⟩
  · obtain ⟨S, p, n, a, vs', rfl, _, _, _, _, r, _⟩ := h
    rw [List.length_cons, r.length, hl]
  · obtain ⟨S, p, n, a, vs', rfl, hS, hbx, hn, lv, r, hp, q⟩ := h
    have hst : L2.start N (.ref p :: vs') = some (.ref p) :: L2.start (N.drop 1) vs' := by
      have e : (N.drop 1).length = N.length - 1 := by simp
      unfold L2.start
      rw [e, List.map_cons, List.cons_append, List.length_cons, Nat.sub_sub, Nat.add_comm 1]
    have g0 : Gd S H (L2.start N (.ref p :: vs')) (.box p n :: args (enc a) (N.length - 1)) := by
      rw [hst]
      have g1 := gd_args (N := N.drop 1) lv r
      have e : (N.drop 1).length = N.length - 1 := by simp
      rw [e] at g1
      refine ⟨by rw [List.length_cons, List.length_cons, g1.len], fun i e he => ?_, lv, ?_⟩
      · cases i with
        | zero =>
          cases he
          exact ⟨_, rfl, rfl, hS, hbx⟩
        | succ i => exact g1.ok i e (by simpa using he)
      · show ([p] ++ adrs (args (enc a) (N.length - 1))).Nodup
        unfold args
        rw [adrs_args]
        simp
    refine ⟨_, hb f cdv A outer s H E hG hr ⟨S, H, [p]⟩ p n a rfl hn hp, S, g0, ⟨lv, fun b h => by rw [List.mem_singleton.mp h]; exact hS, fun _ h => .inl h, fun _ h => h, fun _ _ h _ => h, fun b hb => ?_⟩, fun S' σ' H' δ' g' st' z => z.elim, fun S' σ' v H' δ' d g' st' r' z => ?_, fun _ _ _ _ _ _ h => h.elim, fun _ _ _ _ _ _ h => h.elim⟩
    · have hb' : b ∈ [p] ++ adrs (args (enc a) (N.length - 1)) := hb
      unfold args at hb'
      rw [adrs_args] at hb'
      exact .inl (by simpa using hb')
    · obtain ⟨⟨m, hm, h0⟩, z⟩ := z
      obtain ⟨o, _, _, _, aa, bb, cc, hx, x1, x2, x3, x4, x5⟩ := g'.ok 0 _ h0
      exact q v H' d (fun a o nb h => st'.keep a o h (by simpa using nb)) ⟨aa, bb, cc, hx, x1, x2, x3, x4, by omega⟩ r' z
abbrev nLawRight : List Str := ["_law_box_here", "_law_palette_here", "_law_rows_here", "_law_table", "_law_ring", "_law_hour", "_law_kept", "_law_due", "_law_pot", "_law_row"]
theorem c_law_right (T : Txt K mg) (T1 : TxT K mg CT) (T2 : TxS K mg C) (TG : TxG K mg) (TR : TxR K mg CT) : ∃ (f : Addr) (fd : FuncData), mg "_law_right" = some (.ref f) ∧ PySem.W.keepIn K (.ref f) = true ∧ Binds K fd ["_law_box_here"] [] ∧ Gg.FnG (fun A => A.guards = some []) P w K mg base 8 f fd ["_law_box_here"] (spB (fun _ : Unit => []) 300 (fun _ => True) fun _ d => d = .bl true) := by
  obtain ⟨fr, fdr, mer, Fr, bnr⟩ := TR.rep
  refine Dfn.boxedG TR.right (N := nLawRight) ⟨rfl, rfl, rfl, by decide +kernel, rfl, by decide +kernel, by decide +kernel⟩ (fun _ => rfl) ?_
  rintro f cdv A outer s H E hG hr Γ b n _ hB hn _
  have nd : nLawRight.Nodup := by decide +kernel
  refine SK.norm (δ' := [.box b n, .any, .any, .any, .any, .any, .any, .any, .any, .any]) rfl ?_
  refine s_cons <| s_set 1 <| w_cB 0 (c_law_palette T) hr (by decide) <| a_cons <| w_int <| a_nil <| ⟨b, n, 3, rfl, by omega, rfl, ⟨by decide, by decide⟩, ?_⟩
  rintro _ ⟨p, rfl, hg⟩
  refine And.intro ⟨_, rfl, rfl⟩ (SK.norm (δ' := [.box b (n + 63), .v (dPal p), .any, .any, .any, .any, .any, .any, .any, .any]) rfl ?_)
  refine s_cons <| s_set 2 <| w_cB 0 (c_law_rows T) hr (by decide) <| a_cons <| w_var 1 rfl <| a_nil <| ⟨b, n + 63, p, rfl, by omega, rfl, hg, ?_⟩
  rintro _ ⟨rs, rfl, rg, six⟩
  refine And.intro ⟨_, rfl, rfl⟩ (SK.norm (δ' := [.box b (n + 63 + 49), .v (dPal p), .v (dRows rs), .any, .any, .any, .any, .any, .any, .any]) rfl ?_)
  refine s_cons <| s_asg <| w_call (c_shortest T T1 T2) hr (by decide) <| a_cons <| w_var 1 rfl <| a_cons <| w_var 2 rfl <| a_nil <| Exists.intro (p, rs) <| And.intro rfl <| And.intro (rg.bd hg) ?_
  rintro _ ⟨s0, L, ring, hs0, hv0, hL0, hL1, rfl⟩
  have tg : TabG p rs (tblOf s0 rs.length L) := ⟨rg.bd hg, s0, L, rfl, hs0, hv0, hL1⟩
  have okt := sh_times (n := rs.length) (L := L) hv0 rg.len
  have okl : (tblOf s0 rs.length L).len.natAbs < 10 ^ 12 := by
    have e : (10 : Nat) ^ 12 = 1000000000000 := by decide
    show L.natAbs < 10 ^ 12
    omega
  refine g_tup <| gs_cons <| g_name 3 <| gs_cons <| g_name 4 <| gs_nil <| SK.norm (δ' := [.box b (n + 63 + 49), .v (dPal p), .v (dRows rs), .v (dTT CT (tblOf s0 rs.length L)), .v ring, .any, .any, .any, .any, .any]) rfl ?_
  generalize tblOf s0 rs.length L = t at tg okt okl ⊢
  have okp := sh_pal hg
  have okr := sh_rows hg rg
  refine s_cons <| s_set 5 <| w_cB 0 (c_law_take T) hr (by decide) <| a_cons <| w_int <| a_nil <| ⟨b, n + 63 + 49, 400, rfl, by omega, rfl, ⟨by decide, by decide⟩, ?_⟩
  rintro _ ⟨hour, rfl, h1, h2⟩
  refine And.intro ⟨_, rfl, rfl⟩ (SK.norm (δ' := [.box b (n + 63 + 49 + 1), .v (dPal p), .v (dRows rs), .v (dTT CT t), .v ring, .v (.int hour), .any, .any, .any, .any]) rfl ?_)
  have hr3 : Room 3 (A.deeper (envOfC "_law_right" (defScope (topS 75)) s.heap.objs.size f cdv)) := hr.mono (by decide)
  refine s_cons <| s_par2 6 7 <| ao_v <| w_callB (id := "repr") T.b_repr (by decide +kernel) <| a_cons <| w_lst <| a_cons <| w_var 1 rfl <| a_cons <| w_var 2 rfl <| a_cons <| w_var 3 rfl <| a_nil <| And.intro (by simp) <| a_nil <| Gg.cc_repr3 (k := 1) (fun q => c_repr T1 Fr q) mer bnr hr3 hG okp okr okt okl <| ao_v <| w_call (c_law_view T T1 TG) hr (by decide) <| a_cons <| w_var 1 rfl <| a_cons <| w_var 2 rfl <| a_cons <| w_var 3 rfl <| a_cons <| w_var 5 rfl <| a_nil <| Exists.intro (p, rs, t, hour) <| And.intro rfl <| And.intro ⟨hg, tg, by show hour ≤ 100000000; omega⟩ ?_
  rintro _ ⟨rfl, okv⟩
  dsimp only at okv
  refine ao_nil <| ⟨⟨⟨_, rfl, rfl⟩, ⟨_, rfl, rfl⟩, trivial⟩, SK.norm (δ' := [.box b (n + 63 + 49 + 1), .v (dPal p), .v (dRows rs), .v (dTT CT t), .v ring, .v (.int hour), .v (.str (Gg.rp3 (dPal p) (dRows rs) (.lst (t.times.map dPair)) t.len)), .v (viewD p rs t hour), .any, .any]) rfl ?_⟩
  refine s_cons <| s_for <| i_lst <| w_sset hr.units T.b_sorted T.b_set <| w_lc (own := [("_law_row", 9)]) <| i_lst <| w_var 2 rfl <| ex rfl <| lc_map rs dRow (fun _ => true) (fun r => .str r.pot) rfl (by omega) (lvC lvN) (fun x hx _ _ _ _ _ => g_name 9 <| fun _ _ _ _ _ => ts_nil <| And.intro rfl <| brT <| fun _ _ _ _ _ => w_ix <| w_var 9 rfl <| w_int <| xc_tup rfl <| ⟨rfl, rfl⟩) <| ⟨rs.map (·.pot), pots_lst rs, by rw [List.length_map]; omega, ?_⟩
  intro pots hpots hpl
  rw [List.length_map] at hpl
  refine ex rfl <| ⟨fun i δ => ∃ (m : Nat) (z8 : Sl), m ≤ n + 113 + 15 * i ∧ z8.adr = [] ∧ δ = [.box b m, .v (dPal p), .v (dRows rs), .v (dTT CT t), .v ring, .v (.int hour), .v (.str (Gg.rp3 (dPal p) (dRows rs) (.lst (t.times.map dPair)) t.len)), .v (viewD p rs t hour), z8, .any], ⟨n + 63 + 49 + 1, .any, by omega, rfl, rfl⟩, fun Γ i d δ hd hI => ?_, fun δ hI => ?_⟩
  · obtain ⟨m, z8, hm, a8, rfl⟩ := hI
    have hil := (List.getElem?_eq_some_iff.mp hd).1
    rw [List.length_map] at hil
    obtain ⟨pot, hpot, rfl⟩ := List.mem_map.mp (List.mem_of_getElem? hd)
    refine g_name (e := z8) (he := a8) 8 <| SK.norm (by walk_at "nrm") ?_
    refine s_cons <| s_if <| t_not <| t_val <| w_cB 0 (c_law_pot_right T T1) hr (by decide) <| a_cons <| w_var 1 rfl <| a_cons <| w_var 2 rfl <| a_cons <| w_var 3 rfl <| a_cons <| w_var 8 rfl <| a_nil <| ⟨b, m, (p, rs, t, pot), rfl, by omega, rfl, ⟨hg, rg, six, tg, pot_of hpots hpot⟩, ?_⟩
    rintro _ rfl
    refine KT.mk <| nb <| brT <| s_nil ?_
    refine s_one <| s_if <| t_not <| t_val <| w_callF (c_law_same T 3) hr (by decide) <| a_cons <| w_call (c_law_view T T1 TG) hr (by decide) <| a_cons <| w_var 1 rfl <| a_cons <| w_var 2 rfl <| a_cons <| w_var 3 rfl <| a_cons <| w_var 5 rfl <| a_nil <| Exists.intro (p, rs, t, hour) <| And.intro rfl <| And.intro ⟨hg, tg, by show hour ≤ 100000000; omega⟩ ?_
    rintro _ ⟨rfl, _⟩
    refine a_cons <| w_var 7 rfl <| a_nil <| Exists.intro (viewD p rs t hour) <| And.intro rfl <| And.intro okv <| KT.mk <| nb <| brT <| s_nil ?_
    exact ⟨m + 15, _, by omega, rfl, rfl⟩
  obtain ⟨m, z8, hm, a8, rfl⟩ := hI
  rw [List.length_map] at hm
  refine SK.norm (δ' := [.box b m, .v (dPal p), .v (dRows rs), .v (dTT CT t), .v ring, .v (.int hour), .v (.str (Gg.rp3 (dPal p) (dRows rs) (.lst (t.times.map dPair)) t.len)), .v (viewD p rs t hour), z8, .any]) rfl ?_
  refine s_one <| s_ret <| w_and <| w_cmp <| w_callB (id := "repr") T.b_repr (by decide +kernel) <| a_cons <| w_lst <| a_cons <| w_var 1 rfl <| a_cons <| w_var 2 rfl <| a_cons <| w_var 3 rfl <| a_nil <| And.intro (by simp) <| a_nil <| Gg.cc_repr3 (k := 1) (fun q => c_repr T1 Fr q) mer bnr hr3 hG okp okr okt okl <| w_var 6 rfl <| oc_eqS <| ex rfl <| br (fun h => w_and1 <| w_cB 0 (c_law_long_right T T1 T2) hr (by decide) <| a_cons <| w_var 1 rfl <| a_nil <| ⟨b, m, p, rfl, by omega, rfl, hg, ?_⟩) (fun h => absurd rfl (of_decide_eq_false h))
  rintro _ rfl
  exact ⟨⟨m + 85, by omega, rfl⟩, rfl⟩
end
end Pr

end Text_D33
section Text_G5
set_option maxHeartbeats 4000000
namespace Gg
open PySem PySem.Spec PyProof.Rows L2
/-- f(..), f a def that is called where the stack's guards are known -/
theorem pe_callG {X : Cx} {Gp : Around → Prop} {k : Nat} {f : Addr} {fd : FuncData} {ps : List Str} {sp : Sp} {x : Str} {p pos : Pos} {e : Expr} {es : List Expr} {t : TA} (F : FnG Gp X.prog X.w X.K X.mg X.base k f fd ps sp) (hG : Gp X.A) (hr : Room k X.A) (hg : Gl X x) (hm : X.mg x = some (.ref f)) (hk : PySem.W.keepIn X.K (.ref f) = true) (hb : Binds X.K fd ps [])
    (ha : PA X (e :: es) t) (hdb : (x == ("__debug__" : Str)) = false := by decide) (he : starEach (e :: es) X.env = (false, eval e X.env) :: starEach es X.env := by rfl) (hpl : (backTo pos (starEach es X.env)).any (·.1) = false := by rfl) :
    PE X (.Call (.Name x p) (e :: es) [] pos) (fun σ H Q => t σ H fun vs H1 => sp vs H1 Q E0) := by
  refine ⟨fun pins s σ H Q I h => ?_⟩
  refine wpAny_Call_Name_kw (ld_glob I hg hm ?_ hdb)
  refine PySem.W.callWith_K (h₀ := X.base) I.ok.mod.kin hk (thn (ha.run pos pins s σ H _ I h) fun us s1 ⟨vs, H1, I1, r, q⟩ => ⟨I1.kIn, ?_⟩) he hpl
  exact runG F hG hr I1.ok.frames hb I1 r q fun u s' h' => h'
end Gg

end Text_G5
section Text_D34
set_option maxHeartbeats 4000000
namespace Pr
open PySem PySem.Spec PyProof.Rows L2
open C8 (Cal Mak Met pe_c pe_mk pe_mt pe_mt0)
local macro_rules | `(tactic| walk_at "nrm") => `(tactic| (simp only [args, setAll, List.set_cons_zero, List.set_cons_succ, List.map_cons, List.map_nil, List.length_cons, List.length_nil, List.replicate_succ, List.replicate_zero, List.cons_append, List.nil_append, Nat.reduceAdd, Nat.reduceSub]; try rfl))
section
variable {P : Program} {w : World} {K : PySem.W.Frag} {mg : Str → Option Value} {base : Heap}
/-! ## the boxes, the law -/
variable {C CT : Addr}
structure TxL (K : PySem.W.Frag) (mg : Str → Option Value) : Prop where
  law : Dfn K mg "law" "law" "law" (topS 76) ["_law_script"]
abbrev nLawBox : List Str := ["_law_script", "_law_k", "_law_cell"]
/-- a box of the script: a new list of three -/
def spBox (K : PySem.W.Frag) : Sp := fun vs H Q _ => ∃ (a : Addr) (ns : List Int) (k : Int), vs = [.ref a, .int k] ∧ SqL K H a (ns.map V.int) ∧ 0 ≤ k ∧ k ≤ 2 ∧ ∀ p H', Ex H H' → H p = none → BoxAt H' p 0 → Q (.ref p) H'
theorem at_int {ns : List Int} {i : Int} (h0 : 0 ≤ i) (h1 : i < (ns.length : Int)) : ∃ x, atI (ns.map V.int) i = some (.int x) := by
  obtain ⟨j, rfl⟩ := Int.eq_ofNat_of_zero_le h0
  have hj : j < ns.length := by omega
  refine ⟨ns[j], ?_⟩
  have e : (ns.map V.int)[j]? = some (.int ns[j]) := by rw [List.getElem?_map, List.getElem?_eq_getElem hj]; rfl
  exact atI_nat e
theorem c_law_box (T : Txt K mg) : Cal P w K mg base 1 "_law_box" (spBox K) [] := by
  obtain ⟨f, fd, hm, F, kp, b⟩ := T.d_law_box.ex
  refine ⟨f, fd, ["_law_script", "_law_k"], [], (def_rule (N := nLawBox) (k := 0) F ⟨rfl, rfl, rfl, by decide +kernel, rfl, by decide +kernel, by decide +kernel⟩ (fun vs H Q E h => ?_) (fun cdv A outer s H vs Q E hr h => ?_) : FnOk P w K mg base L2.CX0 (0 + 1) f fd ["_law_script", "_law_k"] _), hm, kp, b, .nil⟩
  · obtain ⟨a, ns, k, rfl, _⟩ := h
    rfl
  obtain ⟨a, ns, k, rfl, hS, k0, k2, hq⟩ := h
  have nd : nLawBox.Nodup := by decide +kernel
  have sk : ∀ (Γ : Gm) (cell : Int), Γ.B = [] → SK (cxOf L2.CX0 P w K mg base nLawBox "_law_box" (defScope (topS 61)) f cdv A outer s H E).nox Γ ((defBody (topS 61)).drop 1) [.any, .v (.int k), .v (.int cell)] { nx := fun _ => False, rt := fun _ d => ∃ x y : Int, d = .lst [.int x, .int y, .int 0] ∧ 0 ≤ x ∧ 0 ≤ y ∧ y < 4611686018427387904 } := fun Γ cell hB => by
    refine s_one <| s_ret <| w_lst <| a_cons <| w_bin <| w_callB (id := "abs") T.b_abs (by decide +kernel) <| a_cons <| w_var 2 rfl <| a_nil <| cc_abs <| w_callTy T.b_int (by decide +kernel) <| a_cons <| w_cmp <| w_callB (id := "abs") T.b_abs (by decide +kernel) <| a_cons <| w_var 2 rfl <| a_nil <| cc_abs <| w_bin <| w_int <| w_int <| oc_pow ⟨by decide, by decide, ?_⟩ <| oc_ge <| a_nil <| cc_intB <| oc_mul (.inr ?_) <| a_cons <| w_bin <| w_bin <| w_bin <| w_var 2 rfl <| w_int <| oc_mod (by decide) <| w_bin <| w_int <| w_var 1 rfl <| oc_mul (.inl (by decide)) <| oc_add <| w_int <| oc_add <| a_cons <| w_int <| a_nil <| And.intro (by simp) <| ⟨_, _, rfl, ?_, ?_, ?_⟩
    · decide
    · generalize decide ((10 : Int) ^ Int.toNat 18 ≤ _) = c
      cases c <;> exact ⟨by decide, by decide⟩
    · refine Int.mul_nonneg ?_ ?_
      · split <;> omega
      · generalize decide ((10 : Int) ^ Int.toNat 18 ≤ _) = c
        cases c <;> decide
    · have := Int.emod_nonneg cell (b := 2305843009213693951) (by decide)
      omega
    · have := Int.emod_lt_of_pos cell (b := 2305843009213693951) (by decide)
      omega
  have go : ∀ cell : Int, (if k < (ns.length : Int) then ∃ x, atI (ns.map V.int) k = some (.int x) ∧ cell = x else cell = 0) → ∃ t, PSs (cxOf L2.CX0 P w K mg base nLawBox "_law_box" (defScope (topS 61)) f cdv A outer s H E).nox (defBody (topS 61)) t ∧ t { nx := fun _ H' => Q .non H', rt := Q } (L2.start nLawBox [.ref a, .int k]) H := fun cell hc => by
    refine ⟨_, pss_cons (ps_set (i := 2) nd rfl (.inl rfl) (pe_ifExp (pt_cmp (pc_lt (pe_var (i := 1) rfl (.inl rfl)) (pe_callB call_len_seq rfl T.b_len (by decide +kernel) (pa_cons (pe_var (i := 0) rfl (.inl rfl)) pa_nil)))) (pe_ix ix_list (pe_var (i := 0) rfl (.inl rfl)) (pe_var (i := 1) rfl (.inl rfl)) (fun _ _ => rfl)) pe_int)) (sk ⟨fun q => H q ≠ none, H, []⟩ cell rfl), ?_⟩
    have fin : tSK ⟨fun q => H q ≠ none, H, []⟩ [.any, .v (.int k), .v (.int cell)] { nx := fun _ => False, rt := fun _ d => ∃ x y : Int, d = .lst [.int x, .int y, .int 0] ∧ 0 ≤ x ∧ 0 ≤ y ∧ y < 4611686018427387904 } { nx := fun _ H' => Q .non H', rt := Q } ((L2.start nLawBox [.ref a, .int k]).set 2 (some (.int cell))) H := by
      refine ⟨fun q => H q ≠ none, ⟨rfl, fun i e he => ?_, fun _ h => h, by simp [adrs, Sl.adr]⟩, ⟨fun _ h => h, (fun _ h => by cases h), fun _ h => .inl h, fun _ h => h, fun _ _ h _ => h, fun p hp => ?_⟩, fun S' σ' H' δ' g' st' z => z.elim, fun S' σ' v H' δ' d g' st' r' z => ?_, fun _ _ _ _ _ _ h => h.elim, fun _ _ _ _ _ _ h => h.elim⟩
      · match i, he with
        | 0, he => cases he; exact ⟨_, rfl, trivial⟩
        | 1, he => cases he; exact ⟨_, rfl, _, rfl, rep_int.mpr rfl⟩
        | 2, he => cases he; exact ⟨_, rfl, _, rfl, rep_int.mpr rfl⟩
      · simp [adrs, Sl.adr] at hp
      · obtain ⟨x, y, rfl, x0, y0, y1⟩ := z
        obtain ⟨p, vs, rfl, hs, hp, r⟩ := rep_lst.mp r'
        obtain ⟨v0, r0, rfl, e0, r⟩ := reps_cons.mp r
        obtain ⟨v1, r1, rfl, e1, r⟩ := reps_cons.mp r
        obtain ⟨v2, r2, rfl, e2, r⟩ := reps_cons.mp r
        rw [reps_nil.mp r, rep_int.mp e0, rep_int.mp e1, rep_int.mp e2] at hp
        refine hq p H' (fun b o h => st'.keep b o h (by simp)) ?_ ⟨x, y, 0, hp, x0, y0, y1, Int.le_refl _, Int.le_refl _⟩
        cases e : H p with
        | none => rfl
        | some o => exact absurd (by show H p ≠ none; rw [e]; simp) hs
    refine ⟨.int k, rfl, .ref a, rfl, a, ns.map V.int, rfl, .inl hS, k, ((ns.map V.int).length : Int), rfl, rfl, _, rfl, ?_⟩
    rw [List.length_map]
    by_cases h : k < (ns.length : Int)
    · rw [if_pos h] at hc
      obtain ⟨x, hx, rfl⟩ := hc
      rw [if_pos (show (fun i j : Int => decide (i < j)) k ((ns.length : Nat) : Int) = true from decide_eq_true h)]
      exact ⟨.ref a, rfl, .int k, rfl, a, _, k, _, rfl, rfl, hS, hx, fin⟩
    · rw [if_neg h] at hc
      subst hc
      rw [if_neg (show ¬ (fun i j : Int => decide (i < j)) k ((ns.length : Nat) : Int) = true from fun z => h (of_decide_eq_true z))]
      exact fin
  by_cases h : k < (ns.length : Int)
  · obtain ⟨x, hx⟩ := at_int (ns := ns) k0 h
    exact go x (by rw [if_pos h]; exact ⟨x, hx, rfl⟩)
  · exact go 0 (by rw [if_neg h])
end
end Pr

end Text_D34
section Text_D35
set_option maxHeartbeats 4000000
namespace Pr
open PySem PySem.Spec PyProof.Rows L2
open C8 (Cal Mak Met pe_c pe_mk pe_mt pe_mt0)
local macro_rules | `(tactic| walk_at "nrm") => `(tactic| (simp only [args, setAll, List.set_cons_zero, List.set_cons_succ, List.map_cons, List.map_nil, List.length_cons, List.length_nil, List.replicate_succ, List.replicate_zero, List.cons_append, List.nil_append, Nat.reduceAdd, Nat.reduceSub]; try rfl))
section
variable {P : Program} {w : World} {K : PySem.W.Frag} {mg : Str → Option Value} {base : Heap}
/-! ## the law -/
variable {C CT : Addr}
abbrev nLaw : List Str := ["_law_script", "_law_k"]
def spLaw (K : PySem.W.Frag) : Sp := fun vs H Q _ => ∃ (a : Addr) (ns : List Int), vs = [.ref a] ∧ Only H ∧ SqL K H a (ns.map V.int) ∧ ∀ H', Q (.bl true) H'
theorem sq_ex {H H' : Hp} {a : Addr} {xs : List V} (h : SqL K H a xs) (e : Ex H H') : SqL K H' a xs := by
  rcases h with (h | ⟨o, h⟩) | h
  · exact .inl (.inl (e _ _ h))
  · exact .inl (.inr ⟨o, e _ _ h⟩)
  · exact .inr h
theorem c_law (T : Txt K mg) (T1 : TxT K mg CT) (T2 : TxS K mg C) (TG : TxG K mg) (TR : TxR K mg CT) {f : Addr} {fd : FuncData} (F : Fun K "law" "law" (topS 76) f fd ∨ ∃ dvs, FunD K "law" "law" (defArgs (topS 76)) (defBody (topS 76)) (defScope (topS 76)) dvs [] f fd) : Gg.FnG (fun A => A.guards = some []) P w K mg base 9 f fd ["_law_script"] (spLaw K) := by
  obtain ⟨f1, fd1, m1, k1, b1, F1⟩ := c_law_right (P := P) (w := w) (base := base) T T1 T2 TG TR
  refine Gg.fnG_fun (N := nLaw) F ⟨rfl, rfl, rfl, by decide +kernel, rfl, by decide +kernel, by decide +kernel⟩ (fun vs H Q E h => ?_) fun cdv A outer s H vs Q E hG hr h => ?_
  · obtain ⟨a, ns, rfl, _⟩ := h
    rfl
  obtain ⟨a, ns, rfl, hO, hS, hq⟩ := h
  have nd : nLaw.Nodup := by decide +kernel
  refine ⟨_, pss_one (ps_ret (pe_callB (cr_all rfl) rfl T.b_all (by decide +kernel) (pa_cons (pe_lc (own := [("_law_k", 1)]) rfl nd (pi_range1 rfl T.b_range (pa_cons (pe_add pe_int (pe_callB (call_min2 rfl) rfl T.b_min (by decide +kernel) (pa_cons pe_int (pa_cons (pe_callB call_len_seq rfl T.b_len (by decide +kernel) (pa_cons (pe_var (i := 0) rfl (.inr (.inl rfl))) pa_nil)) pa_nil)))) pa_nil)) (blkOk_by (by rfl))
    (fun s H C cl fp => pg_name (i := 1) nd rfl (.inl rfl)) (fun s H C cl fp => pts_nil)
    (fun s H C cl fp => Gg.pe_callG F1 hG hr rfl m1 k1 b1 (pa_cons (pe_c (c_law_box T) hr (by decide) rfl (pa_cons (pe_var (i := 0) rfl (by first | exact Or.inl rfl | exact Or.inr (Or.inl rfl) | exact Or.inr (Or.inr rfl))) (pa_cons (pe_var (i := 1) rfl (.inl rfl)) pa_nil))) pa_nil))) pa_nil))), ?_⟩
  have hn : ((ns.map V.int).length : Int) = ns.length := by rw [List.length_map]
  obtain ⟨n, hnn, hn3⟩ : ∃ n : Nat, (1 + if ((ns.map V.int).length : Int) < 2 then ((ns.map V.int).length : Int) else 2) = ((n : Nat) : Int) ∧ n ≤ 3 := by
    refine ⟨(1 + if ((ns.map V.int).length : Int) < 2 then ((ns.map V.int).length : Int) else 2).toNat, ?_, ?_⟩ <;> split <;> omega
  refine ⟨_, rfl, a, ns.map V.int, rfl, .inl hS, 2, _, rfl, 1, _, rfl, rfl, _, rfl, ?_, ?_, ?_⟩
  · rw [hnn]; omega
  · rw [hnn]; omega
  rw [hnn, Int.toNat_natCast]
  intro D hD
  have e0 : Ex H (upd H D (.lst [])) := Ex.new hD
  refine ⟨fun i m H' => i ≤ n ∧ m = n - i ∧ H' D = some (.lst (List.replicate i (.bl true))) ∧ Ex H H', ⟨n, Nat.zero_le _, by omega, upd_same, e0⟩, fun i m H1 hW => ?_⟩
  obtain ⟨w1, w2, w3, w4⟩ := hW
  by_cases hi : i < n
  · refine .inr ⟨hi, fun H' => i + 1 ≤ n ∧ H' D = some (.lst (List.replicate (i + 1) (.bl true))) ∧ Ex H H', fun H' h' => ⟨n - (i + 1), by omega, h'.1, rfl, h'.2.1, h'.2.2⟩, ?_⟩
    rintro x H' ⟨rfl, rfl⟩
    refine ⟨rfl, ?_⟩
    refine ⟨_, rfl, _, rfl, a, ns, 0 + (i : Int), rfl, sq_ex hS w4, by omega, by omega, fun p H2 ex fr bx => ?_⟩
    have hpD : p ≠ D := fun z => by rw [z, w3] at fr; cases fr
    refine ⟨fun q => q = p, p, 0, (), [], rfl, rfl, bx, by decide, fun q hq => ?_, Reps.nil, trivial, fun v H3 d kp3 bx3 r hd => ?_⟩
    · rw [hq]
      obtain ⟨_, _, _, e, _⟩ := bx
      rw [e]
      simp
    subst hd
    rw [rep_bl.mp r]
    have ex3 : Ex H H3 := fun b o e => kp3 b o (fun z => by rw [z] at e; rw [w4 _ _ e] at fr; cases fr) (ex _ _ (w4 _ _ e))
    have hD3 : H3 D = some (.lst (List.replicate i (.bl true))) := kp3 D _ (Ne.symm hpD) (ex _ _ w3)
    refine ⟨_, hD3, by rw [List.length_replicate, sizeLine_eq]; omega, hi, ?_, fun b o e => ?_⟩
    · rw [upd_same, List.replicate_succ']
    · rw [upd_ne (ne_of_none e hD)]
      exact ex3 b o e
  · refine .inl ⟨Nat.le_of_not_lt hi, D, List.replicate i true, rfl, .inl (.inl (by rw [w3, List.map_replicate])), ?_⟩
    have e : (List.replicate i true).all id = true := by simp
    rw [e]
    exact hq _
end
end Pr

end Text_D35
section Text_E1
set_option maxHeartbeats 4000000
namespace Pr
open PySem PySem.Spec PyProof.Rows L2
open C8 (Cal Mak Met pe_c pe_mk pe_mt pe_mt0)
local macro_rules | `(tactic| walk_at "nrm") => `(tactic| (simp only [args, setAll, List.set_cons_zero, List.set_cons_succ, List.map_cons, List.map_nil, List.length_cons, List.length_nil, List.replicate_succ, List.replicate_zero, List.cons_append, List.nil_append, Nat.reduceAdd, Nat.reduceSub]; try rfl))
/-! ## what the top has made -/
def BindA (nm qual : Str) (st : Stmt) (ps : List Str) : Prop := ∀ (kV doc pm : Value) (an : Option Addr) (cdv ct : Value) (us : List Value), us.length = ps.length → bindArgs (PySem.W.fnOf nm qual (defArgs st) (defBody st) (defScope st) .none kV doc pm an cdv ct) ⟨us, []⟩ = pure (ps.zip us)
theorem dfn_mk {K : PySem.W.Frag} {h : Heap} {mg : Str → Option Value} {x nm qual : Str} {st : Stmt} {ps : List Str} {f : Addr} {oc kV doc pm cdv ct : Value} {od an : Option Addr} {osl : Array (Option Value)} (X : K.In h) (G : h.Ns mainGlobals mg) (b : BindA nm qual st ps) (a : PySem.W.nsIn K mainGlobals x = some (some (.ref f)))
    (l : K.lookup f = some ⟨oc, od, .func (PySem.W.fnOf nm qual (defArgs st) (defBody st) (defScope st) .none kV doc pm an cdv ct), osl⟩) (c : PySem.W.codeIn K cdv qual = true) (k : PySem.W.keepIn K (.ref f) = true) : Dfn K mg x nm qual st ps :=
  ⟨f, _, PySem.W.mg_of X G a, .inl (fun_mk l c k), k, (fun_mk l c k).binds b⟩
theorem meth_mk {K : PySem.W.Frag} {nm qual : Str} {st : Stmt} {ps : List Str} {C f : Addr} {oc kV doc pm cdv ct : Value} {od an : Option Addr} {osl : Array (Option Value)} (b : BindA nm qual st ps) (a : PySem.W.findIn K (.ref C) nm = some (some (.ref f))) (i : PySem.W.isFn K (.ref f) = true)
    (l : K.lookup f = some ⟨oc, od, .func (PySem.W.fnOf nm qual (defArgs st) (defBody st) (defScope st) .none kV doc pm an cdv ct), osl⟩) (c : PySem.W.codeIn K cdv qual = true) (k : PySem.W.keepIn K (.ref f) = true) :
    ∃ (f : Addr) (fd : FuncData), Meth K C nm f ∧ (Fun K nm qual st f fd ∨ ∃ dvs, FunD K nm qual (defArgs st) (defBody st) (defScope st) dvs [] f fd) ∧ Binds K fd ps [] :=
  ⟨f, _, ⟨a, i, k⟩, .inl (fun_mk l c k), (fun_mk l c k).binds b⟩
theorem init_mk {K : PySem.W.Frag} {qual : Str} {st : Stmt} {ps : List Str} {C f : Addr} {oc kV doc pm cdv ct : Value} {od an : Option Addr} {osl : Array (Option Value)} (b : BindA "__init__" qual st ps) (m : PySem.W.makesIn K C = true) (kc : PySem.W.keepIn K (.ref C) = true) (a : PySem.W.findIn K (.ref C) "__init__" = some (some (.ref f))) (i : PySem.W.isFn K (.ref f) = true)
    (l : K.lookup f = some ⟨oc, od, .func (PySem.W.fnOf "__init__" qual (defArgs st) (defBody st) (defScope st) .none kV doc pm an cdv ct), osl⟩) (c : PySem.W.codeIn K cdv qual = true) (k : PySem.W.keepIn K (.ref f) = true) :
    ∃ (f : Addr) (fd : FuncData), Mk K C f ∧ (Fun K "__init__" qual st f fd ∨ ∃ dvs, FunD K "__init__" qual (defArgs st) (defBody st) (defScope st) dvs [] f fd) ∧ Binds K fd ps [] :=
  ⟨f, _, ⟨m, a, i, kc⟩, .inl (fun_mk l c k), (fun_mk l c k).binds b⟩
theorem def0_mk {K : PySem.W.Frag} {nm qual : Str} {st : Stmt} {C f T : Addr} {oc kV doc pm cdv ct : Value} {od an : Option Addr} {osl : Array (Option Value)} {o : Obj} {t : Tok} {n : Nat} (a : PySem.W.findIn K (.ref C) nm = some (some (.ref f))) (i : PySem.W.isFn K (.ref f) = true)
    (l : K.lookup f = some ⟨oc, od, .func (PySem.W.fnOf nm qual (defArgs st) (defBody st) (defScope st) (.ref T) kV doc pm an cdv ct), osl⟩) (c : PySem.W.codeIn K cdv qual = true) (k : PySem.W.keepIn K (.ref f) = true) (lT : K.lookup T = some o) (dT : o.data = .seq [Value.int 0 t].toArray n) :
    ∃ (f : Addr) (fd : FuncData), Meth K C nm f ∧ FunD K nm qual (defArgs st) (defBody st) (defScope st) [.int 0] [] f fd :=
  ⟨f, _, ⟨a, i, k⟩, ⟨oc, od, .ref T, kV, doc, pm, an, cdv, ct, osl, rfl, l, c, .inr ⟨by simp, T, o, _, n, rfl, lT, dT, .cons ⟨t, rfl⟩ .nil⟩, .inl rfl⟩, k⟩
theorem bd_colour_row : BindA "colour_row" "colour_row" (topS 5) ["palette", "colour"] := fun _ _ _ _ _ _ us hl => match us, hl with | [_, _], _ => rfl
theorem bd_wash_for : BindA "wash_for" "wash_for" (topS 6) ["palette", "ahead", "behind"] := fun _ _ _ _ _ _ us hl => match us, hl with | [_, _, _], _ => rfl
theorem bd_ready_at : BindA "ready_at" "ready_at" (topS 7) ["palette", "colour", "at"] := fun _ _ _ _ _ _ us hl => match us, hl with | [_, _, _], _ => rfl
theorem bd_is_hour : BindA "is_hour" "is_hour" (topS 12) ["thing"] := fun _ _ _ _ _ _ us hl => match us, hl with | [_], _ => rfl
theorem bd_is_turn : BindA "is_turn" "is_turn" (topS 13) ["palette", "thing"] := fun _ _ _ _ _ _ us hl => match us, hl with | [_, _], _ => rfl
theorem bd_is_turns : BindA "is_turns" "is_turns" (topS 14) ["palette", "thing"] := fun _ _ _ _ _ _ us hl => match us, hl with | [_, _], _ => rfl
theorem bd_step_fault : BindA "step_fault" "step_fault" (topS 15) ["palette", "ahead", "turn"] := fun _ _ _ _ _ _ us hl => match us, hl with | [_, _, _], _ => rfl
theorem bd_turn_fault : BindA "turn_fault" "turn_fault" (topS 16) ["palette", "turns", "number"] := fun _ _ _ _ _ _ us hl => match us, hl with | [_, _, _], _ => rfl
theorem bd_fault_of : BindA "fault_of" "fault_of" (topS 17) ["palette", "turns"] := fun _ _ _ _ _ _ us hl => match us, hl with | [_, _], _ => rfl
theorem bd_word_ends : BindA "word_ends" "word_ends" (topS 18) ["palette", "turn", "wash"] := fun _ _ _ _ _ _ us hl => match us, hl with | [_, _, _], _ => rfl
theorem bd_word_by : BindA "word_by" "word_by" (topS 19) ["palette", "turn", "wash", "hour"] := fun _ _ _ _ _ _ us hl => match us, hl with | [_, _, _, _], _ => rfl
theorem bd_wash_behind_turns : BindA "wash_behind" "wash_behind" (topS 20) ["palette", "turns", "number"] := fun _ _ _ _ _ _ us hl => match us, hl with | [_, _, _], _ => rfl
theorem bd_last_filled_turns : BindA "last_filled" "last_filled" (topS 22) ["turns", "hour"] := fun _ _ _ _ _ _ us hl => match us, hl with | [_, _], _ => rfl
theorem bd_state_at : BindA "state_at" "state_at" (topS 24) ["palette", "turns", "hour"] := fun _ _ _ _ _ _ us hl => match us, hl with | [_, _, _], _ => rfl
theorem bd_moved_turn : BindA "moved_turn" "moved_turn" (topS 27) ["palette", "turn", "free"] := fun _ _ _ _ _ _ us hl => match us, hl with | [_, _, _], _ => rfl
theorem bd_later_turns : BindA "later_turns" "later_turns" (topS 28) ["palette", "rest", "free"] := fun _ _ _ _ _ _ us hl => match us, hl with | [_, _, _], _ => rfl
theorem bd_first_behind : BindA "first_behind" "first_behind" (topS 29) ["turns", "hour"] := fun _ _ _ _ _ _ us hl => match us, hl with | [_, _], _ => rfl
theorem bd_broken : BindA "broken" "broken" (topS 30) ["palette", "turns", "hour", "warm"] := fun _ _ _ _ _ _ us hl => match us, hl with | [_, _, _, _], _ => rfl
theorem bd_same_kind : BindA "same_kind" "same_kind" (topS 31) ["thing", "due"] := fun _ _ _ _ _ _ us hl => match us, hl with | [_, _], _ => rfl
theorem bd_shows_broken : BindA "shows_broken" "shows_broken" (topS 32) ["palette", "turns", "hour", "warm", "thing"] := fun _ _ _ _ _ _ us hl => match us, hl with | [_, _, _, _, _], _ => rfl
theorem bd_last_warm : BindA "last_warm" "last_warm" (topS 34) ["palette", "turns", "hour", "number"] := fun _ _ _ _ _ _ us hl => match us, hl with | [_, _, _, _], _ => rfl
theorem bd_next_alike : BindA "next_alike" "next_alike" (topS 38) ["rows", "number", "part"] := fun _ _ _ _ _ _ us hl => match us, hl with | [_, _, _], _ => rfl
theorem bd_crossing : BindA "crossing" "crossing" (topS 39) ["number", "other"] := fun _ _ _ _ _ _ us hl => match us, hl with | [_, _], _ => rfl
theorem bd_wash_behind_rounds : BindA "wash_behind" "wash_behind" (topS 40) ["palette", "rows", "number"] := fun _ _ _ _ _ _ us hl => match us, hl with | [_, _, _], _ => rfl
theorem bd_row_steps : BindA "row_steps" "row_steps" (topS 42) ["palette", "rows", "number"] := fun _ _ _ _ _ _ us hl => match us, hl with | [_, _, _], _ => rfl
theorem bd_steps_of : BindA "steps_of" "steps_of" (topS 43) ["palette", "rows"] := fun _ _ _ _ _ _ us hl => match us, hl with | [_, _], _ => rfl
theorem bd_ring_sums : BindA "ring_sums" "ring_sums" (topS 46) ["steps", "ring"] := fun _ _ _ _ _ _ us hl => match us, hl with | [_, _], _ => rfl
theorem bd_settled : BindA "settled" "settled" (topS 49) ["steps", "many", "length"] := fun _ _ _ _ _ _ us hl => match us, hl with | [_, _, _], _ => rfl
theorem bd_shortest : BindA "shortest" "shortest" (topS 50) ["palette", "rows"] := fun _ _ _ _ _ _ us hl => match us, hl with | [_, _], _ => rfl
theorem bd_rows_by_pot : BindA "rows_by_pot" "rows_by_pot" (topS 53) ["rows", "pot"] := fun _ _ _ _ _ _ us hl => match us, hl with | [_, _], _ => rfl
theorem bd_turn_in : BindA "turn_in" "turn_in" (topS 54) ["rows", "timetable", "number", "often"] := fun _ _ _ _ _ _ us hl => match us, hl with | [_, _, _, _], _ => rfl
theorem bd_last_filled_rounding : BindA "last_filled" "last_filled" (topS 55) ["timetable", "numbers", "hour"] := fun _ _ _ _ _ _ us hl => match us, hl with | [_, _, _], _ => rfl
theorem bd_round_state : BindA "round_state" "round_state" (topS 57) ["palette", "rows", "timetable", "pot", "hour"] := fun _ _ _ _ _ _ us hl => match us, hl with | [_, _, _, _, _], _ => rfl
theorem bd_turns_of : BindA "turns_of" "turns_of" (topS 58) ["palette", "rows", "timetable", "pot", "often"] := fun _ _ _ _ _ _ us hl => match us, hl with | [_, _, _, _, _], _ => rfl
theorem bd_glass_in : BindA "glass_in" "glass_in" (topS 59) ["palette", "rows", "timetable", "colour", "hour"] := fun _ _ _ _ _ _ us hl => match us, hl with | [_, _, _, _, _], _ => rfl
theorem bd_law_box : BindA "_law_box" "_law_box" (topS 61) ["_law_script", "_law_k"] := fun _ _ _ _ _ _ us hl => match us, hl with | [_, _], _ => rfl
theorem bd_law_take : BindA "_law_take" "_law_take" (topS 62) ["_law_box_here", "_law_many"] := fun _ _ _ _ _ _ us hl => match us, hl with | [_, _], _ => rfl
theorem bd_law_names : BindA "_law_names" "_law_names" (topS 63) ["_law_box_here", "_law_many"] := fun _ _ _ _ _ _ us hl => match us, hl with | [_, _], _ => rfl
theorem bd_law_palette : BindA "_law_palette" "_law_palette" (topS 64) ["_law_box_here", "_law_most"] := fun _ _ _ _ _ _ us hl => match us, hl with | [_, _], _ => rfl
theorem bd_law_wash : BindA "_law_wash" "_law_wash" (topS 65) ["_law_palette_here", "_law_ahead", "_law_behind"] := fun _ _ _ _ _ _ us hl => match us, hl with | [_, _, _], _ => rfl
theorem bd_law_hours : BindA "_law_hours" "_law_hours" (topS 66) ["_law_palette_here", "_law_colour"] := fun _ _ _ _ _ _ us hl => match us, hl with | [_, _], _ => rfl
theorem bd_law_same : BindA "_law_same" "_law_same" (topS 67) ["_law_found", "_law_due"] := fun _ _ _ _ _ _ us hl => match us, hl with | [_, _], _ => rfl
theorem bd_law_broken : BindA "_law_broken" "_law_broken" (topS 68) ["_law_palette_here", "_law_turns", "_law_hour", "_law_warm"] := fun _ _ _ _ _ _ us hl => match us, hl with | [_, _, _, _], _ => rfl
theorem bd_law_when : BindA "_law_when" "_law_when" (topS 69) ["_law_box_here", "_law_turns"] := fun _ _ _ _ _ _ us hl => match us, hl with | [_, _], _ => rfl
theorem bd_law_rows : BindA "_law_rows" "_law_rows" (topS 70) ["_law_box_here", "_law_palette_here"] := fun _ _ _ _ _ _ us hl => match us, hl with | [_, _], _ => rfl
theorem bd_law_view : BindA "_law_view" "_law_view" (topS 71) ["_law_palette_here", "_law_rows_here", "_law_table", "_law_hour"] := fun _ _ _ _ _ _ us hl => match us, hl with | [_, _, _, _], _ => rfl
theorem bd_law_as_the_round : BindA "_law_as_the_round" "_law_as_the_round" (topS 72) ["_law_palette_here", "_law_rows_here", "_law_table", "_law_pot", "_law_turns", "_law_hours_here"] := fun _ _ _ _ _ _ us hl => match us, hl with | [_, _, _, _, _, _], _ => rfl
theorem bd_law_pot_right : BindA "_law_pot_right" "_law_pot_right" (topS 73) ["_law_box_here", "_law_palette_here", "_law_rows_here", "_law_table", "_law_pot"] := fun _ _ _ _ _ _ us hl => match us, hl with | [_, _, _, _, _], _ => rfl
theorem bd_law_long_right : BindA "_law_long_right" "_law_long_right" (topS 74) ["_law_box_here", "_law_palette_here"] := fun _ _ _ _ _ _ us hl => match us, hl with | [_, _], _ => rfl
theorem bd_law_right : BindA "_law_right" "_law_right" (topS 75) ["_law_box_here"] := fun _ _ _ _ _ _ us hl => match us, hl with | [_], _ => rfl
theorem bd_law : BindA "law" "law" (topS 76) ["_law_script"] := fun _ _ _ _ _ _ us hl => match us, hl with | [_], _ => rfl
theorem bd_t_init : BindA "__init__" "Timetable.__init__" (inClass (topS 45) 0) ["self", "times", "length"] := fun _ _ _ _ _ _ us hl => match us, hl with | [_, _, _], _ => rfl
theorem bd_t_repr : BindA "__repr__" "Timetable.__repr__" (inClass (topS 45) 5) ["self"] := fun _ _ _ _ _ _ us hl => match us, hl with | [_], _ => rfl
theorem bd_s_init : BindA "__init__" "Settling.__init__" (inClass (topS 48) 0) ["self", "steps", "many", "length"] := fun _ _ _ _ _ _ us hl => match us, hl with | [_, _, _, _], _ => rfl
theorem bd_s_put : BindA "put_later" "Settling.put_later" (inClass (topS 48) 1) ["self", "number"] := fun _ _ _ _ _ _ us hl => match us, hl with | [_, _], _ => rfl
theorem bd_s_gone : BindA "gone_through" "Settling.gone_through" (inClass (topS 48) 2) ["self"] := fun _ _ _ _ _ _ us hl => match us, hl with | [_], _ => rfl
theorem bd_s_uns : BindA "unsettled" "Settling.unsettled" (inClass (topS 48) 3) ["self"] := fun _ _ _ _ _ _ us hl => match us, hl with | [_], _ => rfl
theorem bd_s_ring : BindA "ring_by" "Settling.ring_by" (inClass (topS 48) 4) ["self", "moment"] := fun _ _ _ _ _ _ us hl => match us, hl with | [_, _], _ => rfl
end Pr

end Text_E1
section Text_E3
set_option maxHeartbeats 4000000
namespace Pr
open PySem PySem.Spec PyProof.Rows L2
open C8 (Cal Mak Met pe_c pe_mk pe_mt pe_mt0)
local macro_rules | `(tactic| walk_at "nrm") => `(tactic| (simp only [args, setAll, List.set_cons_zero, List.set_cons_succ, List.map_cons, List.map_nil, List.length_cons, List.length_nil, List.replicate_succ, List.replicate_zero, List.cons_append, List.nil_append, Nat.reduceAdd, Nat.reduceSub]; try rfl))
theorem table_mk {K : PySem.W.Frag} {h : Heap} {mg : Str → Option Value} {C T : Addr} {o : Obj} {t : Tok} {n : Nat} (X : K.In h) (G : h.Ns mainGlobals mg) (right : Dfn K mg "_law_right" "_law_right" "_law_right" (topS 75) ["_law_box_here"]) (aC : PySem.W.nsIn K mainGlobals "Timetable" = some (some (.ref C)))
    (pg : PySem.W.plainGet K C Str.empty = true) (hd : PySem.W.hasDictIn K C = true) (po : PySem.W.plainOver K C = true) (sa : PySem.W.findIn K (.ref C) "__setattr__" = some (some (.builtin "object.__setattr__"))) (mk : PySem.W.makesIn K C = true) (kc : PySem.W.keepIn K (.ref C) = true) (n1 : PySem.W.findIn K (.ref C) "row_times" = some none) (n2 : PySem.W.findIn K (.ref C) "length" = some none)
    {f0 : Addr} {oc0 kV0 dc0 pm0 cd0 ct0 : Value} {od0 an0 : Option Addr} {sl0 : Array (Option Value)} (a0 : PySem.W.findIn K (.ref C) "__init__" = some (some (.ref f0))) (i0 : PySem.W.isFn K (.ref f0) = true)
    (l0 : K.lookup f0 = some ⟨oc0, od0, .func (PySem.W.fnOf "__init__" "Timetable.__init__" (defArgs (inClass (topS 45) 0)) (defBody (inClass (topS 45) 0)) (defScope (inClass (topS 45) 0)) .none kV0 dc0 pm0 an0 cd0 ct0), sl0⟩) (c0 : PySem.W.codeIn K cd0 "Timetable.__init__" = true) (k0 : PySem.W.keepIn K (.ref f0) = true)
    {f1 : Addr} {oc1 kV1 dc1 pm1 cd1 ct1 : Value} {od1 an1 : Option Addr} {sl1 : Array (Option Value)} (a1 : PySem.W.findIn K (.ref C) "pair" = some (some (.ref f1))) (i1 : PySem.W.isFn K (.ref f1) = true)
    (l1 : K.lookup f1 = some ⟨oc1, od1, .func (PySem.W.fnOf "pair" "Timetable.pair" (defArgs (inClass (topS 45) 1)) (defBody (inClass (topS 45) 1)) (defScope (inClass (topS 45) 1)) (.ref T) kV1 dc1 pm1 an1 cd1 ct1), sl1⟩) (c1 : PySem.W.codeIn K cd1 "Timetable.pair" = true) (k1 : PySem.W.keepIn K (.ref f1) = true)
    {f2 : Addr} {oc2 kV2 dc2 pm2 cd2 ct2 : Value} {od2 an2 : Option Addr} {sl2 : Array (Option Value)} (a2 : PySem.W.findIn K (.ref C) "__repr__" = some (some (.ref f2))) (i2 : PySem.W.isFn K (.ref f2) = true)
    (l2 : K.lookup f2 = some ⟨oc2, od2, .func (PySem.W.fnOf "__repr__" "Timetable.__repr__" (defArgs (inClass (topS 45) 5)) (defBody (inClass (topS 45) 5)) (defScope (inClass (topS 45) 5)) .none kV2 dc2 pm2 an2 cd2 ct2), sl2⟩) (c2 : PySem.W.codeIn K cd2 "Timetable.__repr__" = true) (k2 : PySem.W.keepIn K (.ref f2) = true) (lT : K.lookup T = some o) (dT : o.data = .seq [Value.int 0 t].toArray n) : ∃ C, TxT K mg C ∧ TxR K mg C :=
  ⟨C, ⟨⟨pg, hd, po, sa⟩, n1, n2, PySem.W.mg_of X G aC, init_mk bd_t_init mk kc a0 i0 l0 c0 k0, def0_mk a1 i1 l1 c1 k1 lT dT⟩, ⟨meth_mk bd_t_repr a2 i2 l2 c2 k2, right⟩⟩
theorem dfm_mk {K : PySem.W.Frag} {C : Addr} {nm qual : Str} {st : Stmt} {ps : List Str} (c : Cls K C) (h : ∃ (f : Addr) (fd : FuncData), Meth K C nm f ∧ (Fun K nm qual st f fd ∨ ∃ dvs, FunD K nm qual (defArgs st) (defBody st) (defScope st) dvs [] f fd) ∧ Binds K fd ps []) : Dfm K C nm qual st ps := by
  obtain ⟨f, fd, m, F, b⟩ := h
  exact ⟨f, fd, c, m, F, b⟩
theorem settle_mk {K : PySem.W.Frag} {h : Heap} {mg : Str → Option Value} {C : Addr} (X : K.In h) (G : h.Ns mainGlobals mg) (aC : PySem.W.nsIn K mainGlobals "Settling" = some (some (.ref C)))
    (pg : PySem.W.plainGet K C Str.empty = true) (hd : PySem.W.hasDictIn K C = true) (po : PySem.W.plainOver K C = true) (sa : PySem.W.findIn K (.ref C) "__setattr__" = some (some (.builtin "object.__setattr__"))) (mk : PySem.W.makesIn K C = true) (kc : PySem.W.keepIn K (.ref C) = true) (n1 : PySem.W.findIn K (.ref C) "own_steps" = some none) (n2 : PySem.W.findIn K (.ref C) "length" = some none) (n3 : PySem.W.findIn K (.ref C) "hours" = some none) (n4 : PySem.W.findIn K (.ref C) "by_step" = some none)
    {f0 : Addr} {oc0 kV0 dc0 pm0 cd0 ct0 : Value} {od0 an0 : Option Addr} {sl0 : Array (Option Value)} (a0 : PySem.W.findIn K (.ref C) "__init__" = some (some (.ref f0))) (i0 : PySem.W.isFn K (.ref f0) = true)
    (l0 : K.lookup f0 = some ⟨oc0, od0, .func (PySem.W.fnOf "__init__" "Settling.__init__" (defArgs (inClass (topS 48) 0)) (defBody (inClass (topS 48) 0)) (defScope (inClass (topS 48) 0)) .none kV0 dc0 pm0 an0 cd0 ct0), sl0⟩) (c0 : PySem.W.codeIn K cd0 "Settling.__init__" = true) (k0 : PySem.W.keepIn K (.ref f0) = true)
    {f1 : Addr} {oc1 kV1 dc1 pm1 cd1 ct1 : Value} {od1 an1 : Option Addr} {sl1 : Array (Option Value)} (a1 : PySem.W.findIn K (.ref C) "put_later" = some (some (.ref f1))) (i1 : PySem.W.isFn K (.ref f1) = true)
    (l1 : K.lookup f1 = some ⟨oc1, od1, .func (PySem.W.fnOf "put_later" "Settling.put_later" (defArgs (inClass (topS 48) 1)) (defBody (inClass (topS 48) 1)) (defScope (inClass (topS 48) 1)) .none kV1 dc1 pm1 an1 cd1 ct1), sl1⟩) (c1 : PySem.W.codeIn K cd1 "Settling.put_later" = true) (k1 : PySem.W.keepIn K (.ref f1) = true)
    {f2 : Addr} {oc2 kV2 dc2 pm2 cd2 ct2 : Value} {od2 an2 : Option Addr} {sl2 : Array (Option Value)} (a2 : PySem.W.findIn K (.ref C) "gone_through" = some (some (.ref f2))) (i2 : PySem.W.isFn K (.ref f2) = true)
    (l2 : K.lookup f2 = some ⟨oc2, od2, .func (PySem.W.fnOf "gone_through" "Settling.gone_through" (defArgs (inClass (topS 48) 2)) (defBody (inClass (topS 48) 2)) (defScope (inClass (topS 48) 2)) .none kV2 dc2 pm2 an2 cd2 ct2), sl2⟩) (c2 : PySem.W.codeIn K cd2 "Settling.gone_through" = true) (k2 : PySem.W.keepIn K (.ref f2) = true)
    {f3 : Addr} {oc3 kV3 dc3 pm3 cd3 ct3 : Value} {od3 an3 : Option Addr} {sl3 : Array (Option Value)} (a3 : PySem.W.findIn K (.ref C) "unsettled" = some (some (.ref f3))) (i3 : PySem.W.isFn K (.ref f3) = true)
    (l3 : K.lookup f3 = some ⟨oc3, od3, .func (PySem.W.fnOf "unsettled" "Settling.unsettled" (defArgs (inClass (topS 48) 3)) (defBody (inClass (topS 48) 3)) (defScope (inClass (topS 48) 3)) .none kV3 dc3 pm3 an3 cd3 ct3), sl3⟩) (c3 : PySem.W.codeIn K cd3 "Settling.unsettled" = true) (k3 : PySem.W.keepIn K (.ref f3) = true)
    {f4 : Addr} {oc4 kV4 dc4 pm4 cd4 ct4 : Value} {od4 an4 : Option Addr} {sl4 : Array (Option Value)} (a4 : PySem.W.findIn K (.ref C) "ring_by" = some (some (.ref f4))) (i4 : PySem.W.isFn K (.ref f4) = true)
    (l4 : K.lookup f4 = some ⟨oc4, od4, .func (PySem.W.fnOf "ring_by" "Settling.ring_by" (defArgs (inClass (topS 48) 4)) (defBody (inClass (topS 48) 4)) (defScope (inClass (topS 48) 4)) .none kV4 dc4 pm4 an4 cd4 ct4), sl4⟩) (c4 : PySem.W.codeIn K cd4 "Settling.ring_by" = true) (k4 : PySem.W.keepIn K (.ref f4) = true) : ∃ C, TxS K mg C :=
  ⟨C, ⟨⟨pg, hd, po, sa⟩, n1, n2, n3, n4, PySem.W.mg_of X G aC, init_mk bd_s_init mk kc a0 i0 l0 c0 k0, dfm_mk ⟨pg, hd, po, sa⟩ (meth_mk bd_s_put a1 i1 l1 c1 k1), dfm_mk ⟨pg, hd, po, sa⟩ (meth_mk bd_s_gone a2 i2 l2 c2 k2), dfm_mk ⟨pg, hd, po, sa⟩ (meth_mk bd_s_uns a3 i3 l3 c3 k3), dfm_mk ⟨pg, hd, po, sa⟩ (meth_mk bd_s_ring a4 i4 l4 c4 k4)⟩⟩
theorem glass_mk {K : PySem.W.Frag} {h : Heap} {mg : Str → Option Value} {c : Addr} {o : Obj} {t1 t2 : Tok} {n : Nat} (X : K.In h) (G : h.Ns mainGlobals mg) (a : PySem.W.nsIn K mainGlobals "GLASS_WORDS" = some (some (.ref c))) (l : K.lookup c = some o) (hc : o.cls = .type "tuple") (hd : o.data = .seq [Value.str "ready" t1, .str "worked" t2].toArray n) : TxG K mg :=
  ⟨c, PySem.W.mg_of X G a, o, _, n, l, hc, hd, by show 2 ≤ sizeLine; decide, .cons ⟨t1, rfl⟩ (.cons ⟨t2, rfl⟩ .nil)⟩
theorem law_mk {P : Program} {w : World} {K : PySem.W.Frag} {mg : Str → Option Value} {fa : Addr} (hmg : mg "law" = some (.ref fa)) (T : Txt K mg) (T1 : ∃ C, TxT K mg C ∧ TxR K mg C) (T2 : ∃ C, TxS K mg C) (TG : TxG K mg) (TL : Dfn K mg "law" "law" "law" (topS 76) ["_law_script"]) :
    ∃ fd : FuncData, Binds K fd ["_law_script"] [] ∧ ∀ base : Heap, Gg.FnG (fun A => A.guards = some []) P w K mg base 9 fa fd ["_law_script"] (spLaw K) := by
  obtain ⟨CT, t1, tr⟩ := T1
  obtain ⟨C, t2⟩ := T2
  obtain ⟨f, fd, m, F, kp, b⟩ := TL.ex
  rw [hmg] at m
  cases m
  exact ⟨fd, b, fun base => c_law T t1 t2 TG tr F⟩
theorem step {p q : Prop} (d : p) (k : p → q) : q := k d
theorem dfnD_mk {K : PySem.W.Frag} {h : Heap} {mg : Str → Option Value} {x nm qual : Str} {st : Stmt} {ps : List Str} {f T : Addr} {oc kV doc pm cdv ct : Value} {od an : Option Addr} {osl : Array (Option Value)} {o : Obj} {t : Tok} {n : Nat} {i : Int} (X : K.In h) (G : h.Ns mainGlobals mg) (b : ∀ f fd, FunD K nm qual (defArgs st) (defBody st) (defScope st) [.int i] [] f fd → Binds K fd ps []) (a : PySem.W.nsIn K mainGlobals x = some (some (.ref f)))
    (l : K.lookup f = some ⟨oc, od, .func (PySem.W.fnOf nm qual (defArgs st) (defBody st) (defScope st) (.ref T) kV doc pm an cdv ct), osl⟩) (c : PySem.W.codeIn K cdv qual = true) (k : PySem.W.keepIn K (.ref f) = true) (lT : K.lookup T = some o) (dT : o.data = .seq [Value.int i t].toArray n) : Dfn K mg x nm qual st ps := by
  have F : FunD K nm qual (defArgs st) (defBody st) (defScope st) [.int i] [] f _ := ⟨⟨oc, od, .ref T, kV, doc, pm, an, cdv, ct, osl, rfl, l, c, .inr ⟨by simp, T, o, _, n, rfl, lT, dT, .cons ⟨t, rfl⟩ .nil⟩, .inl rfl⟩, k⟩
  exact ⟨f, _, PySem.W.mg_of X G a, .inr ⟨_, F⟩, k, b _ _ F⟩
theorem no_vals {us : List Value} (h : Vals [] us) : us = [] := by
  cases h
  rfl
theorem bdD_ready_at {K : PySem.W.Frag} : ∀ f fd, FunD K "ready_at" "ready_at" (defArgs (topS 7)) (defBody (topS 7)) (defScope (topS 7)) [.int 0] [] f fd → Binds K fd ["palette", "colour", "at"] [] := fun f fd F => by
  obtain ⟨ds, r, b⟩ := F.binds1 (ps := ["palette", "colour", "at"]) 3 1 (by decide) rfl fun T kV doc pm an cdv ct us its h1 h2 => match us, its, h1, h2 with | [_, _, _], [_], _, _ => ⟨_, rfl, rfl⟩
  rw [no_vals r] at b
  exact b
theorem bdD_broken {K : PySem.W.Frag} : ∀ f fd, FunD K "broken" "broken" (defArgs (topS 30)) (defBody (topS 30)) (defScope (topS 30)) [.int 24] [] f fd → Binds K fd ["palette", "turns", "hour", "warm"] [] := fun f fd F => by
  obtain ⟨ds, r, b⟩ := F.binds1 (ps := ["palette", "turns", "hour", "warm"]) 4 1 (by decide) rfl fun T kV doc pm an cdv ct us its h1 h2 => match us, its, h1, h2 with | [_, _, _, _], [_], _, _ => ⟨_, rfl, rfl⟩
  rw [no_vals r] at b
  exact b
end Pr

end Text_E3
section Text_G6
set_option maxHeartbeats 4000000
namespace Gg
open PySem PySem.Spec PyProof.Rows L2
/-! ## the end, for a def that is promised where no guard stands -/
theorem end_call {P : Program} {w : World} {K : PySem.W.Frag} {mg mb : Str → Option Value} {k : Nat} {fa a : Addr} {fd : FuncData} {x : Str} {sp : Sp} {s₁ : Shared} {vs : List Value} {ns : List Int}
    (KX : K.In s₁.heap) (hns : s₁.heap.Ns mainGlobals mg) (hb : s₁.heap.Ns builtinsNs mb) (hbb : ∀ x : Str, x ≠ "__name__" → mb x = bootBuiltins x) (hlim : s₁.heap.NoLimit) (hg : s₁.gens = #[])
    (ha : s₁.heap.get? a = some { cls := .type "list", data := .seq vs.toArray }) (hi : IntsAre vs ns) (hl : ns.length ≤ sizeLine) (hr : Room k callerA)
    (F : ∀ base : Heap, FnG (fun A => A.guards = some []) P w K mg base k fa fd [x] sp) (hbind : Binds K fd [x] [])
    (hsp : ∀ H : Hp, Only H → SqL K H a (ns.map V.int) → sp [.ref a] H (fun v _ => v = .bl true) fun _ _ _ => False) :
    codeAny (model P w) callerA (.call (.ref fa) ⟨[.ref a], []⟩) (fun r s' => r = .ok (.ret (.bool true)) ∧ OldK s₁.heap s'.heap ∧ s'.os = s₁.os ∧ AllBare s'.gens) s₁ := by
  have rv := vals_ints hi
  have lenV := hi.length
  have bt : BindsTo s₁ fd ⟨[.ref a], []⟩ [(x, .ref a)] := by
    have h := hbind s₁ [.ref a] KX rfl
    simpa using h
  have core : ∀ H : Hp, Only H → SqL K H a (ns.map V.int) → HOk P w H s₁.heap → (∀ b, H b ≠ none → b = a) → (H a ≠ none → K.lookup a = none) →
      codeAny (model P w) callerA (.call (.ref fa) ⟨[.ref a], []⟩) (fun r s' => r = .ok (.ret (.bool true)) ∧ OldK s₁.heap s'.heap ∧ s'.os = s₁.os ∧ AllBare s'.gens) s₁ := by
    intro H hO hS hok hA hK
    have hid : ∀ {b : Addr} {o : Obj}, s₁.heap.get? b = some o → H b = none → (hidT s₁.heap H).get? b = some o := fun e n => hidT_get e n
    have frees : ∀ {b : Addr} {o : Obj} {es : Array DictEntry} {ep : Nat}, s₁.heap.get? b = some o → o.data = .dict es ep → H b = none := fun {b o es ep} e d => by
      by_cases q : H b = none
      · exact q
      · have z := hA b q
        subst z
        rw [ha] at e
        cases e
        cases d
    have keepN : ∀ {b : Addr} {m : Str → Option Value}, s₁.heap.Ns b m → (hidT s₁.heap H).Ns b m := fun {b m} h => by
      obtain ⟨o, es, ep, e, d, r⟩ := h
      exact ⟨o, es, ep, hid e (frees e d), d, r⟩
    have hKb : K.In (hidT s₁.heap H) := fun b o e => hid (KX b o e) (by
      by_cases q : H b = none
      · exact q
      · have z := hA b q
        subst z
        rw [hK q] at e
        cases e)
    obtain ⟨mc, h1, h2⟩ := hlim
    have hM : Mod K mg (hidT s₁.heap H) := ⟨hKb, keepN hns, ⟨mb, keepN hb, hbb⟩, ⟨mc, keepN h1, h2⟩⟩
    have e0 : Env0 P w K mg (hidT s₁.heap H) callerA [] s₁ H := ⟨rfl, hM, fun b o e => of_hidT e, Nat.le_of_eq (hidT_size _ _), trivial, (fun b hb => absurd (show b ∈ ([] : List Addr) from hb) (by simp)), hok, .of_eq hg⟩
    refine codeAny_mono ((F _).run callerA [] s₁ H ⟨[.ref a], []⟩ [.ref a] [.ref a] _ (fun _ _ _ => False) rfl hr e0 bt (.cons rfl .nil) (hsp H hO hS)) fun r s' h => ?_
    match r, h with
    | .error e, h => exact False.elim h
    | .ok .next, h => exact False.elim h
    | .ok .brk, h => exact False.elim h
    | .ok .cont, h => exact False.elim h
    | .ok (.ret u), h =>
      obtain ⟨v, H', os, bare, un, hok', r', q⟩ := h
      obtain rfl : v = .bl true := q
      obtain rfl : u = Value.bool true := r'
      refine ⟨rfl, OldK.of_keep fun b o e => ?_, os, bare⟩
      rcases hO b with z | ⟨ob, xs, z⟩
      · exact un.keep b o e z (fun y => absurd (show b ∈ ([] : List Addr) from y) (by simp)) (by simp)
      · obtain ⟨e1, _⟩ := hok b _ z
        obtain ⟨e2, _⟩ := hok' b _ (un.frzs b ob _ z)
        rw [e] at e1
        cases e1
        exact e2
  by_cases hk : K.lookup a = none
  · refine core (fun b => if b = a then some (.frz { cls := .type "list", data := .seq vs.toArray } (.lst (ns.map V.int))) else none) (fun b => ?_) (.inl (.inr ⟨_, if_pos rfl⟩)) (fun b u z => ?_) (fun b z => ?_) fun _ => hk
    · by_cases h : b = a
      · exact .inr ⟨_, _, if_pos h⟩
      · exact .inl (if_neg h)
    · by_cases h : b = a
      · subst h
        have z' := (if_pos rfl).symm.trans z
        cases z'
        exact ⟨ha, by rw [List.length_map]; exact hl, vs, _, rv, ha⟩
      · have z' := (if_neg h).symm.trans z
        cases z'
    · by_cases h : b = a
      · exact h
      · exact absurd (if_neg h) z
  · obtain ⟨o, ho⟩ : ∃ o, K.lookup a = some o := by
      cases q : K.lookup a with
      | none => exact absurd q hk
      | some o => exact ⟨o, rfl⟩
    have e := KX a o ho
    rw [ha] at e
    cases e
    refine core (fun _ => none) (fun _ => .inl rfl) (.inr ⟨_, vs.toArray, _, ho, rfl, rfl, rfl, by rw [List.size_toArray, lenV]; exact hl, by simpa using rv⟩) (fun b u z => absurd (show (none : Option HO) = some u from z) (by simp)) (fun b z => absurd rfl z) fun z => absurd rfl z
theorem end_walk {l : PySem.W.OpenLaw} {n k : Nat} {q : Program} {loose : List Str} {XP : (Str → Option Value) → Heap → Prop} {YP : World → Heap → Prop} {d : DefRec} {K : Params → PySem.W.Frag} {sp : World → Sp} {x : Str}
    (hn : l.most = some n) (hn2 : n ≤ sizeLine) (hdf : d.params.defaults = []) (hr : Room k callerA)
    (hY : ∀ (w : World) (h : Heap), YP w h → (K w.params).In h)
    (F : ∀ (w : World) (mg : Str → Option Value) (fa : Addr) (h : Heap), (K w.params).In h → h.Ns mainGlobals mg → mg d.name = some (.ref fa) →
      ∃ fd : FuncData, Binds (K w.params) fd [x] [] ∧ ∀ base : Heap, FnG (fun A => A.guards = some []) l.prog w (K w.params) mg base k fa fd [x] (sp w))
    (hsp : ∀ (w : World) (H : Hp) (a : Addr) (ns : List Int), ns.length ≤ n → Only H → SqL (K w.params) H a (ns.map V.int) → sp w [.ref a] H (fun v _ => v = .bl true) fun _ _ _ => False) :
    PySem.W.WalkO q loose XP YP l.row.toRowW d [] (fun f vs => PySem.call f vs) := by
  refine Att.attach_call hn hdf fun w s₀ s₁ mg mb fa o pm cd doc a vs ns G Y ho hd hcd hmg hobj hints hlen hg => ?_
  have KX := hY w _ Y
  obtain ⟨fd, hb, hF⟩ := F w mg fa _ KX G.T.g hmg
  exact end_call KX G.T.g G.T.b G.T.builtins G.T.nolimit hg hobj hints (Nat.le_trans hlen hn2) hr hF hb fun H hO hS => hsp w H a ns hlen hO hS
end Gg

end Text_G6
open PySem PySem.W PyProof.Rows
set_option maxRecDepth 100000 in
set_option maxHeartbeats 0 in
theorem PySem.Challenge.cw_potround_k82_whole_a_pot_breaks_in_a_rou_holds : PySem.Challenge.rw_potround_k82_whole_a_pot_breaks_in_a_rou.Holds := by
  refine hd ?_
  k_fill
  refine Gg.end_walk (l := PySem.Challenge.rw_potround_k82_whole_a_pot_breaks_in_a_rou) (n := 63) (k := 9) (x := "_law_script") (sp := fun w => Pr.spLaw _) rfl (by decide) rfl ⟨rfl, by decide, by decide⟩ (fun w h Y => PySem.W.kIn_of Y) ?F (fun _ _ a ns _ hO hS => ⟨a, ns, rfl, hO, hS, fun _ => rfl⟩)
  case F =>
    intro w mg fa h KX G hmg
    refine' Pr.step (Pr.dfn_mk (x := "colour_row") KX G Pr.bd_colour_row ?a_1 ?l_1 ?c_1 ?k_1) ?next_1
    (case a_1 => k_is)
    (case l_1 => k_is)
    (case c_1 => k_is)
    (case k_1 => k_is)
    intro d_colour_row
    refine' Pr.step (Pr.dfn_mk (x := "wash_for") KX G Pr.bd_wash_for ?a_2 ?l_2 ?c_2 ?k_2) ?next_2
    (case a_2 => k_is)
    (case l_2 => k_is)
    (case c_2 => k_is)
    (case k_2 => k_is)
    intro d_wash_for
    refine' Pr.step (Pr.dfnD_mk (x := "ready_at") KX G Pr.bdD_ready_at ?a_3 ?l_3 ?c_3 ?k_3 ?lT_3 ?dT_3) ?next_3
    (case a_3 => k_is)
    (case l_3 => k_is)
    (case c_3 => k_is)
    (case k_3 => k_is)
    (case lT_3 => k_is)
    (case dT_3 => exact rfl)
    intro d_ready_at
    refine' Pr.step (Pr.dfn_mk (x := "is_hour") KX G Pr.bd_is_hour ?a_4 ?l_4 ?c_4 ?k_4) ?next_4
    (case a_4 => k_is)
    (case l_4 => k_is)
    (case c_4 => k_is)
    (case k_4 => k_is)
    intro d_is_hour
    refine' Pr.step (Pr.dfn_mk (x := "is_turn") KX G Pr.bd_is_turn ?a_5 ?l_5 ?c_5 ?k_5) ?next_5
    (case a_5 => k_is)
    (case l_5 => k_is)
    (case c_5 => k_is)
    (case k_5 => k_is)
    intro d_is_turn
    refine' Pr.step (Pr.dfn_mk (x := "is_turns") KX G Pr.bd_is_turns ?a_6 ?l_6 ?c_6 ?k_6) ?next_6
    (case a_6 => k_is)
    (case l_6 => k_is)
    (case c_6 => k_is)
    (case k_6 => k_is)
    intro d_is_turns
    refine' Pr.step (Pr.dfn_mk (x := "step_fault") KX G Pr.bd_step_fault ?a_7 ?l_7 ?c_7 ?k_7) ?next_7
    (case a_7 => k_is)
    (case l_7 => k_is)
    (case c_7 => k_is)
    (case k_7 => k_is)
    intro d_step_fault
    refine' Pr.step (Pr.dfn_mk (x := "turn_fault") KX G Pr.bd_turn_fault ?a_8 ?l_8 ?c_8 ?k_8) ?next_8
    (case a_8 => k_is)
    (case l_8 => k_is)
    (case c_8 => k_is)
    (case k_8 => k_is)
    intro d_turn_fault
    refine' Pr.step (Pr.dfn_mk (x := "fault_of") KX G Pr.bd_fault_of ?a_9 ?l_9 ?c_9 ?k_9) ?next_9
    (case a_9 => k_is)
    (case l_9 => k_is)
    (case c_9 => k_is)
    (case k_9 => k_is)
    intro d_fault_of
    refine' Pr.step (Pr.dfn_mk (x := "word_ends") KX G Pr.bd_word_ends ?a_10 ?l_10 ?c_10 ?k_10) ?next_10
    (case a_10 => k_is)
    (case l_10 => k_is)
    (case c_10 => k_is)
    (case k_10 => k_is)
    intro d_word_ends
    refine' Pr.step (Pr.dfn_mk (x := "word_by") KX G Pr.bd_word_by ?a_11 ?l_11 ?c_11 ?k_11) ?next_11
    (case a_11 => k_is)
    (case l_11 => k_is)
    (case c_11 => k_is)
    (case k_11 => k_is)
    intro d_word_by
    refine' Pr.step (Pr.dfn_mk (x := "wash_behind_turns") KX G Pr.bd_wash_behind_turns ?a_12 ?l_12 ?c_12 ?k_12) ?next_12
    (case a_12 => k_is)
    (case l_12 => k_is)
    (case c_12 => k_is)
    (case k_12 => k_is)
    intro d_wash_behind_turns
    refine' Pr.step (Pr.dfn_mk (x := "last_filled_turns") KX G Pr.bd_last_filled_turns ?a_13 ?l_13 ?c_13 ?k_13) ?next_13
    (case a_13 => k_is)
    (case l_13 => k_is)
    (case c_13 => k_is)
    (case k_13 => k_is)
    intro d_last_filled_turns
    refine' Pr.step (Pr.dfn_mk (x := "state_at") KX G Pr.bd_state_at ?a_14 ?l_14 ?c_14 ?k_14) ?next_14
    (case a_14 => k_is)
    (case l_14 => k_is)
    (case c_14 => k_is)
    (case k_14 => k_is)
    intro d_state_at
    refine' Pr.step (Pr.dfn_mk (x := "moved_turn") KX G Pr.bd_moved_turn ?a_15 ?l_15 ?c_15 ?k_15) ?next_15
    (case a_15 => k_is)
    (case l_15 => k_is)
    (case c_15 => k_is)
    (case k_15 => k_is)
    intro d_moved_turn
    refine' Pr.step (Pr.dfn_mk (x := "later_turns") KX G Pr.bd_later_turns ?a_16 ?l_16 ?c_16 ?k_16) ?next_16
    (case a_16 => k_is)
    (case l_16 => k_is)
    (case c_16 => k_is)
    (case k_16 => k_is)
    intro d_later_turns
    refine' Pr.step (Pr.dfn_mk (x := "first_behind") KX G Pr.bd_first_behind ?a_17 ?l_17 ?c_17 ?k_17) ?next_17
    (case a_17 => k_is)
    (case l_17 => k_is)
    (case c_17 => k_is)
    (case k_17 => k_is)
    intro d_first_behind
    refine' Pr.step (Pr.dfnD_mk (x := "broken") KX G Pr.bdD_broken ?a_18 ?l_18 ?c_18 ?k_18 ?lT_18 ?dT_18) ?next_18
    (case a_18 => k_is)
    (case l_18 => k_is)
    (case c_18 => k_is)
    (case k_18 => k_is)
    (case lT_18 => k_is)
    (case dT_18 => exact rfl)
    intro d_broken
    refine' Pr.step (Pr.dfn_mk (x := "same_kind") KX G Pr.bd_same_kind ?a_19 ?l_19 ?c_19 ?k_19) ?next_19
    (case a_19 => k_is)
    (case l_19 => k_is)
    (case c_19 => k_is)
    (case k_19 => k_is)
    intro d_same_kind
    refine' Pr.step (Pr.dfn_mk (x := "shows_broken") KX G Pr.bd_shows_broken ?a_20 ?l_20 ?c_20 ?k_20) ?next_20
    (case a_20 => k_is)
    (case l_20 => k_is)
    (case c_20 => k_is)
    (case k_20 => k_is)
    intro d_shows_broken
    refine' Pr.step (Pr.dfn_mk (x := "last_warm") KX G Pr.bd_last_warm ?a_21 ?l_21 ?c_21 ?k_21) ?next_21
    (case a_21 => k_is)
    (case l_21 => k_is)
    (case c_21 => k_is)
    (case k_21 => k_is)
    intro d_last_warm
    refine' Pr.step (Pr.dfn_mk (x := "next_alike") KX G Pr.bd_next_alike ?a_22 ?l_22 ?c_22 ?k_22) ?next_22
    (case a_22 => k_is)
    (case l_22 => k_is)
    (case c_22 => k_is)
    (case k_22 => k_is)
    intro d_next_alike
    refine' Pr.step (Pr.dfn_mk (x := "crossing") KX G Pr.bd_crossing ?a_23 ?l_23 ?c_23 ?k_23) ?next_23
    (case a_23 => k_is)
    (case l_23 => k_is)
    (case c_23 => k_is)
    (case k_23 => k_is)
    intro d_crossing
    refine' Pr.step (Pr.dfn_mk (x := "wash_behind_rounds") KX G Pr.bd_wash_behind_rounds ?a_24 ?l_24 ?c_24 ?k_24) ?next_24
    (case a_24 => k_is)
    (case l_24 => k_is)
    (case c_24 => k_is)
    (case k_24 => k_is)
    intro d_wash_behind_rounds
    refine' Pr.step (Pr.dfn_mk (x := "row_steps") KX G Pr.bd_row_steps ?a_25 ?l_25 ?c_25 ?k_25) ?next_25
    (case a_25 => k_is)
    (case l_25 => k_is)
    (case c_25 => k_is)
    (case k_25 => k_is)
    intro d_row_steps
    refine' Pr.step (Pr.dfn_mk (x := "steps_of") KX G Pr.bd_steps_of ?a_26 ?l_26 ?c_26 ?k_26) ?next_26
    (case a_26 => k_is)
    (case l_26 => k_is)
    (case c_26 => k_is)
    (case k_26 => k_is)
    intro d_steps_of
    refine' Pr.step (Pr.dfn_mk (x := "ring_sums") KX G Pr.bd_ring_sums ?a_27 ?l_27 ?c_27 ?k_27) ?next_27
    (case a_27 => k_is)
    (case l_27 => k_is)
    (case c_27 => k_is)
    (case k_27 => k_is)
    intro d_ring_sums
    refine' Pr.step (Pr.dfn_mk (x := "settled") KX G Pr.bd_settled ?a_28 ?l_28 ?c_28 ?k_28) ?next_28
    (case a_28 => k_is)
    (case l_28 => k_is)
    (case c_28 => k_is)
    (case k_28 => k_is)
    intro d_settled
    refine' Pr.step (Pr.dfn_mk (x := "shortest") KX G Pr.bd_shortest ?a_29 ?l_29 ?c_29 ?k_29) ?next_29
    (case a_29 => k_is)
    (case l_29 => k_is)
    (case c_29 => k_is)
    (case k_29 => k_is)
    intro d_shortest
    refine' Pr.step (Pr.dfn_mk (x := "rows_by_pot") KX G Pr.bd_rows_by_pot ?a_30 ?l_30 ?c_30 ?k_30) ?next_30
    (case a_30 => k_is)
    (case l_30 => k_is)
    (case c_30 => k_is)
    (case k_30 => k_is)
    intro d_rows_by_pot
    refine' Pr.step (Pr.dfn_mk (x := "turn_in") KX G Pr.bd_turn_in ?a_31 ?l_31 ?c_31 ?k_31) ?next_31
    (case a_31 => k_is)
    (case l_31 => k_is)
    (case c_31 => k_is)
    (case k_31 => k_is)
    intro d_turn_in
    refine' Pr.step (Pr.dfn_mk (x := "last_filled_rounding") KX G Pr.bd_last_filled_rounding ?a_32 ?l_32 ?c_32 ?k_32) ?next_32
    (case a_32 => k_is)
    (case l_32 => k_is)
    (case c_32 => k_is)
    (case k_32 => k_is)
    intro d_last_filled_rounding
    refine' Pr.step (Pr.dfn_mk (x := "round_state") KX G Pr.bd_round_state ?a_33 ?l_33 ?c_33 ?k_33) ?next_33
    (case a_33 => k_is)
    (case l_33 => k_is)
    (case c_33 => k_is)
    (case k_33 => k_is)
    intro d_round_state
    refine' Pr.step (Pr.dfn_mk (x := "turns_of") KX G Pr.bd_turns_of ?a_34 ?l_34 ?c_34 ?k_34) ?next_34
    (case a_34 => k_is)
    (case l_34 => k_is)
    (case c_34 => k_is)
    (case k_34 => k_is)
    intro d_turns_of
    refine' Pr.step (Pr.dfn_mk (x := "glass_in") KX G Pr.bd_glass_in ?a_35 ?l_35 ?c_35 ?k_35) ?next_35
    (case a_35 => k_is)
    (case l_35 => k_is)
    (case c_35 => k_is)
    (case k_35 => k_is)
    intro d_glass_in
    refine' Pr.step (Pr.dfn_mk (x := "_law_box") KX G Pr.bd_law_box ?a_36 ?l_36 ?c_36 ?k_36) ?next_36
    (case a_36 => k_is)
    (case l_36 => k_is)
    (case c_36 => k_is)
    (case k_36 => k_is)
    intro d_law_box
    refine' Pr.step (Pr.dfn_mk (x := "_law_take") KX G Pr.bd_law_take ?a_37 ?l_37 ?c_37 ?k_37) ?next_37
    (case a_37 => k_is)
    (case l_37 => k_is)
    (case c_37 => k_is)
    (case k_37 => k_is)
    intro d_law_take
    refine' Pr.step (Pr.dfn_mk (x := "_law_names") KX G Pr.bd_law_names ?a_38 ?l_38 ?c_38 ?k_38) ?next_38
    (case a_38 => k_is)
    (case l_38 => k_is)
    (case c_38 => k_is)
    (case k_38 => k_is)
    intro d_law_names
    refine' Pr.step (Pr.dfn_mk (x := "_law_palette") KX G Pr.bd_law_palette ?a_39 ?l_39 ?c_39 ?k_39) ?next_39
    (case a_39 => k_is)
    (case l_39 => k_is)
    (case c_39 => k_is)
    (case k_39 => k_is)
    intro d_law_palette
    refine' Pr.step (Pr.dfn_mk (x := "_law_wash") KX G Pr.bd_law_wash ?a_40 ?l_40 ?c_40 ?k_40) ?next_40
    (case a_40 => k_is)
    (case l_40 => k_is)
    (case c_40 => k_is)
    (case k_40 => k_is)
    intro d_law_wash
    refine' Pr.step (Pr.dfn_mk (x := "_law_hours") KX G Pr.bd_law_hours ?a_41 ?l_41 ?c_41 ?k_41) ?next_41
    (case a_41 => k_is)
    (case l_41 => k_is)
    (case c_41 => k_is)
    (case k_41 => k_is)
    intro d_law_hours
    refine' Pr.step (Pr.dfn_mk (x := "_law_same") KX G Pr.bd_law_same ?a_42 ?l_42 ?c_42 ?k_42) ?next_42
    (case a_42 => k_is)
    (case l_42 => k_is)
    (case c_42 => k_is)
    (case k_42 => k_is)
    intro d_law_same
    refine' Pr.step (Pr.dfn_mk (x := "_law_broken") KX G Pr.bd_law_broken ?a_43 ?l_43 ?c_43 ?k_43) ?next_43
    (case a_43 => k_is)
    (case l_43 => k_is)
    (case c_43 => k_is)
    (case k_43 => k_is)
    intro d_law_broken
    refine' Pr.step (Pr.dfn_mk (x := "_law_when") KX G Pr.bd_law_when ?a_44 ?l_44 ?c_44 ?k_44) ?next_44
    (case a_44 => k_is)
    (case l_44 => k_is)
    (case c_44 => k_is)
    (case k_44 => k_is)
    intro d_law_when
    refine' Pr.step (Pr.dfn_mk (x := "_law_rows") KX G Pr.bd_law_rows ?a_45 ?l_45 ?c_45 ?k_45) ?next_45
    (case a_45 => k_is)
    (case l_45 => k_is)
    (case c_45 => k_is)
    (case k_45 => k_is)
    intro d_law_rows
    refine' Pr.step (Pr.dfn_mk (x := "_law_view") KX G Pr.bd_law_view ?a_46 ?l_46 ?c_46 ?k_46) ?next_46
    (case a_46 => k_is)
    (case l_46 => k_is)
    (case c_46 => k_is)
    (case k_46 => k_is)
    intro d_law_view
    refine' Pr.step (Pr.dfn_mk (x := "_law_as_the_round") KX G Pr.bd_law_as_the_round ?a_47 ?l_47 ?c_47 ?k_47) ?next_47
    (case a_47 => k_is)
    (case l_47 => k_is)
    (case c_47 => k_is)
    (case k_47 => k_is)
    intro d_law_as_the_round
    refine' Pr.step (Pr.dfn_mk (x := "_law_pot_right") KX G Pr.bd_law_pot_right ?a_48 ?l_48 ?c_48 ?k_48) ?next_48
    (case a_48 => k_is)
    (case l_48 => k_is)
    (case c_48 => k_is)
    (case k_48 => k_is)
    intro d_law_pot_right
    refine' Pr.step (Pr.dfn_mk (x := "_law_long_right") KX G Pr.bd_law_long_right ?a_49 ?l_49 ?c_49 ?k_49) ?next_49
    (case a_49 => k_is)
    (case l_49 => k_is)
    (case c_49 => k_is)
    (case k_49 => k_is)
    intro d_law_long_right
    refine' Pr.step (Pr.dfn_mk (x := "_law_right") KX G Pr.bd_law_right ?a_50 ?l_50 ?c_50 ?k_50) ?next_50
    (case a_50 => k_is)
    (case l_50 => k_is)
    (case c_50 => k_is)
    (case k_50 => k_is)
    intro d_law_right
    refine' Pr.step (Pr.dfn_mk (x := "law") KX G Pr.bd_law ?a_51 ?l_51 ?c_51 ?k_51) ?next_51
    (case a_51 => k_is)
    (case l_51 => k_is)
    (case c_51 => k_is)
    (case k_51 => k_is)
    intro d_law
    refine' Pr.step (PySem.W.mg_none_of (n := "abs") KX G ?a_52) ?next_52
    (case a_52 => k_is)
    intro b_abs
    refine' Pr.step (PySem.W.mg_none_of (n := "len") KX G ?a_53) ?next_53
    (case a_53 => k_is)
    intro b_len
    refine' Pr.step (PySem.W.mg_none_of (n := "max") KX G ?a_54) ?next_54
    (case a_54 => k_is)
    intro b_max
    refine' Pr.step (PySem.W.mg_none_of (n := "min") KX G ?a_55) ?next_55
    (case a_55 => k_is)
    intro b_min
    refine' Pr.step (PySem.W.mg_none_of (n := "sum") KX G ?a_56) ?next_56
    (case a_56 => k_is)
    intro b_sum
    refine' Pr.step (PySem.W.mg_none_of (n := "all") KX G ?a_57) ?next_57
    (case a_57 => k_is)
    intro b_all
    refine' Pr.step (PySem.W.mg_none_of (n := "sorted") KX G ?a_58) ?next_58
    (case a_58 => k_is)
    intro b_sorted
    refine' Pr.step (PySem.W.mg_none_of (n := "repr") KX G ?a_59) ?next_59
    (case a_59 => k_is)
    intro b_repr
    refine' Pr.step (PySem.W.mg_none_of (n := "isinstance") KX G ?a_60) ?next_60
    (case a_60 => k_is)
    intro b_isinstance
    refine' Pr.step (PySem.W.mg_none_of (n := "int") KX G ?a_61) ?next_61
    (case a_61 => k_is)
    intro b_int
    refine' Pr.step (PySem.W.mg_none_of (n := "str") KX G ?a_62) ?next_62
    (case a_62 => k_is)
    intro b_str
    refine' Pr.step (PySem.W.mg_none_of (n := "bool") KX G ?a_63) ?next_63
    (case a_63 => k_is)
    intro b_bool
    refine' Pr.step (PySem.W.mg_none_of (n := "list") KX G ?a_64) ?next_64
    (case a_64 => k_is)
    intro b_list
    refine' Pr.step (PySem.W.mg_none_of (n := "tuple") KX G ?a_65) ?next_65
    (case a_65 => k_is)
    intro b_tuple
    refine' Pr.step (PySem.W.mg_none_of (n := "set") KX G ?a_66) ?next_66
    (case a_66 => k_is)
    intro b_set
    refine' Pr.step (PySem.W.mg_none_of (n := "range") KX G ?a_67) ?next_67
    (case a_67 => k_is)
    intro b_range
    refine' Pr.step (PySem.W.mg_none_of (n := "zip") KX G ?a_68) ?next_68
    (case a_68 => k_is)
    intro b_zip
    refine' Pr.step (PySem.W.mg_none_of (n := "enumerate") KX G ?a_69) ?next_69
    (case a_69 => k_is)
    intro b_enumerate
    have g_MOST_TURNS := PySem.W.mg_of (n := "MOST_TURNS") (v := _) KX G (by k_is)
    have g_LAST_HOUR := PySem.W.mg_of (n := "LAST_HOUR") (v := _) KX G (by k_is)
    have g_OUT := PySem.W.mg_of (n := "OUT") (v := _) KX G (by k_is)
    have g_POT := PySem.W.mg_of (n := "POT") (v := _) KX G (by k_is)
    have g_TEAM := PySem.W.mg_of (n := "TEAM") (v := _) KX G (by k_is)
    refine' Pr.step (Pr.table_mk KX G d_law_right ?aC_70 ?pg_70 ?hd_70 ?po_70 ?sa_70 ?mk_70 ?kc_70 ?n1_70 ?n2_70 ?a0_70 ?i0_70 ?l0_70 ?c0_70 ?k0_70 ?a1_70 ?i1_70 ?l1_70 ?c1_70 ?k1_70 ?a2_70 ?i2_70 ?l2_70 ?c2_70 ?k2_70 ?lT_70 ?dT_70) ?next_70
    (case aC_70 => k_is)
    (case pg_70 => k_is)
    (case hd_70 => k_is)
    (case po_70 => k_is)
    (case sa_70 => k_is)
    (case mk_70 => k_is)
    (case kc_70 => k_is)
    (case n1_70 => k_is)
    (case n2_70 => k_is)
    (case a0_70 => k_is)
    (case i0_70 => k_is)
    (case l0_70 => k_is)
    (case c0_70 => k_is)
    (case k0_70 => k_is)
    (case a1_70 => k_is)
    (case i1_70 => k_is)
    (case l1_70 => k_is)
    (case c1_70 => k_is)
    (case k1_70 => k_is)
    (case a2_70 => k_is)
    (case i2_70 => k_is)
    (case l2_70 => k_is)
    (case c2_70 => k_is)
    (case k2_70 => k_is)
    (case lT_70 => k_is)
    (case dT_70 => exact rfl)
    intro T1
    refine' Pr.step (Pr.settle_mk KX G ?aC_71 ?pg_71 ?hd_71 ?po_71 ?sa_71 ?mk_71 ?kc_71 ?n1_71 ?n2_71 ?n3_71 ?n4_71 ?a0_71 ?i0_71 ?l0_71 ?c0_71 ?k0_71 ?a1_71 ?i1_71 ?l1_71 ?c1_71 ?k1_71 ?a2_71 ?i2_71 ?l2_71 ?c2_71 ?k2_71 ?a3_71 ?i3_71 ?l3_71 ?c3_71 ?k3_71 ?a4_71 ?i4_71 ?l4_71 ?c4_71 ?k4_71) ?next_71
    (case aC_71 => k_is)
    (case pg_71 => k_is)
    (case hd_71 => k_is)
    (case po_71 => k_is)
    (case sa_71 => k_is)
    (case mk_71 => k_is)
    (case kc_71 => k_is)
    (case n1_71 => k_is)
    (case n2_71 => k_is)
    (case n3_71 => k_is)
    (case n4_71 => k_is)
    (case a0_71 => k_is)
    (case i0_71 => k_is)
    (case l0_71 => k_is)
    (case c0_71 => k_is)
    (case k0_71 => k_is)
    (case a1_71 => k_is)
    (case i1_71 => k_is)
    (case l1_71 => k_is)
    (case c1_71 => k_is)
    (case k1_71 => k_is)
    (case a2_71 => k_is)
    (case i2_71 => k_is)
    (case l2_71 => k_is)
    (case c2_71 => k_is)
    (case k2_71 => k_is)
    (case a3_71 => k_is)
    (case i3_71 => k_is)
    (case l3_71 => k_is)
    (case c3_71 => k_is)
    (case k3_71 => k_is)
    (case a4_71 => k_is)
    (case i4_71 => k_is)
    (case l4_71 => k_is)
    (case c4_71 => k_is)
    (case k4_71 => k_is)
    intro T2
    refine' Pr.step (Pr.glass_mk KX G ?a_72 ?l_72 ?hc_72 ?hd_72) ?next_72
    (case a_72 => k_is)
    (case l_72 => k_is)
    (case hc_72 => exact rfl)
    (case hd_72 => exact rfl)
    intro TG
    exact Pr.law_mk hmg ⟨d_colour_row, d_wash_for, d_ready_at, d_is_hour, d_is_turn, d_is_turns, d_step_fault, d_turn_fault, d_fault_of, d_word_ends, d_word_by, d_wash_behind_turns, d_last_filled_turns, d_state_at, d_moved_turn, d_later_turns, d_first_behind, d_broken, d_same_kind, d_shows_broken, d_last_warm, d_next_alike, d_crossing, d_wash_behind_rounds, d_row_steps, d_steps_of, d_ring_sums, d_settled, d_shortest, d_rows_by_pot, d_turn_in, d_last_filled_rounding, d_round_state, d_turns_of, d_glass_in, d_law_box, d_law_take, d_law_names, d_law_palette, d_law_wash, d_law_hours, d_law_same, d_law_broken, d_law_when, d_law_rows, d_law_view, d_law_as_the_round, d_law_pot_right, d_law_long_right, b_abs, b_len, b_max, b_min, b_sum, b_all, b_sorted, b_repr, b_isinstance, b_int, b_str, b_bool, b_list, b_tuple, b_set, b_range, b_zip, b_enumerate, ⟨_, g_MOST_TURNS⟩, ⟨_, g_LAST_HOUR⟩, ⟨_, g_OUT⟩, ⟨_, g_POT⟩, ⟨_, g_TEAM⟩⟩ T1 T2 TG d_law

