/- VerdictNames: called at whatever world that holds the listed tables, the law returns true, and what lay there lies as it lay. -/
import Derived.Test.YtfcoffpmcmhieaaGreatDoorVeLems
import Derived.Test.YtfcoffpmcmhieaaGreatDoorVeTop
import Derived.Test.YtfcoffpmcmhieaaGreatDoorVeRowB
import Derived.ChangeMaps5
import Derived.ProofKit
import Derived.LaidLaws
import Derived.OpenShut
import Derived.Handed
namespace Go.Proofs.YtfcoffpmcmhieaaGreatDoor.Ve
open Go AI Go.ChangeShapes Go.WideShapes Go.ChangeAt Go.RowKit

theorem Tryz.own : ownKnob Tryz.prog.godebug = none := by kernel_rfl
theorem gN0 : Tryz.prog.globalNamed "math/bits.deBruijn64tab" = some 0 := by kernel_rfl
theorem gN1 : Tryz.prog.globalNamed "internal/strconv.uint64pow10" = some 1 := by kernel_rfl
theorem gN2 : Tryz.prog.globalNamed "math/bits.deBruijn32tab" = some 2 := by kernel_rfl
theorem gT0 : (Tryz.prog.globals[0]?).map (·.type) = some 458 := by kernel_rfl
theorem gT1 : (Tryz.prog.globals[1]?).map (·.type) = some 625 := by kernel_rfl
theorem gT2 : (Tryz.prog.globals[2]?).map (·.type) = some 685 := by kernel_rfl
theorem uT0 : Tryz.prog.underlying 458 = some (.array 64 5) := by kernel_rfl
theorem uT1 : Tryz.prog.underlying 625 = some (.array 20 104) := by kernel_rfl
theorem uT2 : Tryz.prog.underlying 685 = some (.array 32 5) := by kernel_rfl
theorem uE0 : Tryz.prog.underlying 5 = some (.int .u8) := by kernel_rfl
theorem uE1 : Tryz.prog.underlying 104 = some (.int .u64) := by kernel_rfl
theorem cE0 : Tryz.prog.cellsOf 5 = 1 := by kernel_rfl
theorem cE1 : Tryz.prog.cellsOf 104 = 1 := by kernel_rfl
theorem cT0 : Tryz.prog.cellsOf 458 = 64 := by kernel_rfl
theorem cT1 : Tryz.prog.cellsOf 625 = 20 := by kernel_rfl
theorem cT2 : Tryz.prog.cellsOf 685 = 32 := by kernel_rfl
theorem laid_tab0 : (Rows.laid_math_bits_deBruijn64tab : DataW Unit) = .agg (tab.map fun (n : Nat) => .lit (.int .u8 (Int.ofNat n))) := by kernel_rfl
theorem laid_tab1 : (Rows.laid_internal_strconv_uint64pow10 : DataW Unit) = .agg (tab1.map fun (n : Nat) => .lit (.int .u64 (Int.ofNat n))) := by kernel_rfl
theorem laid_tab2 : (Rows.laid_math_bits_deBruijn32tab : DataW Unit) = .agg (tab2.map fun (n : Nat) => .lit (.int .u8 (Int.ofNat n))) := by kernel_rfl

theorem int_of_trod {H : Type} {enc : TypeId × Value → H} {P : Program} {w : World} {base : Nat} {sp : Nat → Bool} {held : Bool} {fuel : Nat} {t : TypeId} {k : IntKind} {c : Value} {y : DataW H × List MemPlace}
    (ht : P.underlying t = some (.int k)) (h : DataW.trod enc P w base sp held fuel t [c] = some y) : ∃ n, c = .int k n ∧ y = (.lit (.int k n), []) := by
  cases fuel with
  | zero => simp [DataW.trod] at h
  | succ fuel =>
    cases c <;> simp [DataW.trod, ht] at h
    rename_i k' n
    obtain ⟨⟨rfl, _⟩, rfl⟩ := h
    exact ⟨n, rfl, rfl⟩

/-- A table as it lies, by what it reads as. -/
theorem tab_of_trod {P : Program} {w : World} {t e : TypeId} {N fuel : Nat} {k : IntKind} {cs : Array Value} {p : List MemPlace} {dd : DataW Unit} {ns : List Nat}
    (uT : P.underlying t = some (.array N e)) (uE : P.underlying e = some (.int k)) (cE : P.cellsOf e = 1) (cT : P.cellsOf t = N)
    (hd : DataW.trod (fun _ => ()) P w 0 (fun _ => true) false fuel t cs.toList = some (dd, p)) (hdd : dd = .agg (ns.map fun (n : Nat) => .lit (.int k (Int.ofNat n)))) :
    cs.size = N ∧ ∀ j : Nat, j < N → cs[j]? = (ns[j]?).map fun (n : Nat) => Value.int k (Int.ofNat n) := by
  obtain ⟨xs, m, hf, hx, hlen, hxl, hget⟩ := DataW.trod_array uT hd
  rw [cT, Array.length_toList] at hlen
  rw [cE] at hget
  have hx1 : dd = DataW.agg (xs.map (·.1)) := (Prod.mk.inj hx).1
  rw [hdd] at hx1
  have hxs : ns.map (fun (n : Nat) => DataW.lit (Lit.int k (Int.ofNat n))) = xs.map (·.1) := by injection hx1
  refine ⟨hlen, fun j hj => ?_⟩
  have hj' := hget j hj
  have hcj : (cs.toList.drop (j * 1)).take 1 = [cs[j]] := by
    rw [Nat.mul_one, List.drop_eq_getElem_cons (by simp; omega)]
    simp
  rw [hcj] at hj'
  have hxj : xs[j]? = some xs[j] := List.getElem?_eq_getElem (by omega)
  rw [hxj] at hj'
  obtain ⟨n, h1, h2⟩ := int_of_trod uE hj'
  have ht2 : (ns.map fun (n : Nat) => (DataW.lit (Lit.int k (Int.ofNat n)) : DataW Unit))[j]? = (xs.map (·.1))[j]? := by rw [hxs]
  rw [List.getElem?_map, List.getElem?_map, hxj, h2] at ht2
  cases htj : ns[j]? with
  | none => rw [htj] at ht2; cases ht2
  | some q =>
    rw [htj] at ht2
    simp at ht2
    rw [Array.getElem?_eq_getElem (by omega), h1, ← ht2]
    rfl

/-- Where a table lies. -/
def TabAt (W : World) (g : Nat) (k : IntKind) (ns : List Nat) : Prop :=
  ∃ cs t, W.heap[g]? = some (.cells cs t (0, 0)) ∧ cs.size = ns.length ∧ ∀ j : Nat, j < ns.length → cs[j]? = (ns[j]?).map fun (n : Nat) => Value.int k (Int.ofNat n)

theorem tab_at {P : Program} {W : World} {nm : String} {g : Nat} {cs : Array Value} {ps p q : List MemPlace} {N : Nat} {k : IntKind} {ns : List Nat} (gN : P.globalNamed nm = some g) (hvar : W.var? P nm = some cs) (hN : cs.size = N) (h0 : 0 < N)
    (hps : ps = MemPlace.row ⟨g, 0, none⟩ cs.size ++ p ++ q) (hpl : ∀ b off, MemPlace.cell b off ∈ ps → ∃ c t, W.heap[b]? = some (.cells c t (0, 0))) (hl : ns.length = N)
    (hv : ∀ j : Nat, j < N → cs[j]? = (ns[j]?).map fun (n : Nat) => Value.int k (Int.ofNat n)) : TabAt W g k ns := by
  have hmem : MemPlace.cell g 0 ∈ ps := by
    rw [hps]
    refine List.mem_append.2 (.inl (List.mem_append.2 (.inl ?_)))
    rw [hN]
    unfold MemPlace.row
    exact List.mem_map.2 ⟨0, List.mem_range.2 h0, by simp⟩
  obtain ⟨c, t, hc⟩ := hpl g 0 hmem
  have hcs : c = cs := by
    unfold World.var? at hvar
    rw [gN] at hvar
    simp only [Option.bind_some, hc] at hvar
    exact Option.some.inj hvar
  subst hcs
  exact ⟨c, t, hc, by omega, fun j hj => hv j (by omega)⟩

theorem tab_length : tab.length = 64 := by decide
theorem tab1_length : tab1.length = 20 := by decide
theorem tab2_length : tab2.length = 32 := by decide

/-- The tables, as they lie. -/
theorem tables_of_laid {W : World} (h : laidMet Tryz.prog Rows.verdictNamesRow.laid W) : TabAt W 0 .u8 tab ∧ TabAt W 1 .u64 tab1 ∧ TabAt W 2 .u8 tab2 := by
  obtain ⟨ps, ⟨g, t, cs, fuel, p, q, hg, ht, hvar, hd, ⟨g1, t1, cs1, fuel1, p1, q1, hg1, ht1, hvar1, hd1, ⟨g2, t2, cs2, fuel2, p2, q2, hg2, ht2, hvar2, hd2, hq2, hps2⟩, hps1⟩, hps⟩, hnd, hpl⟩ := h
  obtain rfl := Option.some.inj (gN0.symm.trans hg)
  obtain rfl := Option.some.inj (gT0.symm.trans ht)
  obtain rfl := Option.some.inj (gN1.symm.trans hg1)
  obtain rfl := Option.some.inj (gT1.symm.trans ht1)
  obtain rfl := Option.some.inj (gN2.symm.trans hg2)
  obtain rfl := Option.some.inj (gT2.symm.trans ht2)
  obtain ⟨n0, v0⟩ := tab_of_trod uT0 uE0 cE0 cT0 hd laid_tab0
  obtain ⟨n1, v1⟩ := tab_of_trod uT1 uE1 cE1 cT1 hd1 laid_tab1
  obtain ⟨n2, v2⟩ := tab_of_trod uT2 uE0 cE0 cT2 hd2 laid_tab2
  have s1 : ∀ b off, MemPlace.cell b off ∈ q → MemPlace.cell b off ∈ ps := fun b off hm => by rw [hps]; exact List.mem_append.2 (.inr hm)
  have s2 : ∀ b off, MemPlace.cell b off ∈ q1 → MemPlace.cell b off ∈ ps := fun b off hm => s1 b off (by rw [hps1]; exact List.mem_append.2 (.inr hm))
  exact ⟨tab_at gN0 hvar n0 (by omega) hps (fun b off hm => (hpl b off hm).1) tab_length v0,
    tab_at gN1 hvar1 n1 (by omega) hps1 (fun b off hm => (hpl b off (s1 b off hm)).1) tab1_length v1,
    tab_at gN2 hvar2 n2 (by omega) hps2 (fun b off hm => (hpl b off (s2 b off hm)).1) tab2_length v2⟩

/-- The tables: their kinds, their numbers. -/
def kOf (g : Nat) : IntKind := match g with | 1 => .u64 | _ => .u8
def nsOf (g : Nat) : List Nat := match g with | 0 => tab | 1 => tab1 | _ => tab2
noncomputable def avOf (g : Nat) : List AV := (nsOf g).map fun n => AV.int (kOf g) (.ofNat n)

theorem pre_at (g : Nat) (hg : g < 3) : preOf Lt.pre g = .cells (avOf g).length (T.ofList (avOf g)) [] := by
  match g, hg with
  | 0, _ | 1, _ | 2, _ => rfl
theorem post_at (g : Nat) (hg : g < 3) : Lt.post[g]? = some (.cells (avOf g)) := by
  match g, hg with
  | 0, _ | 1, _ | 2, _ => rfl

/-- The law's call. -/
theorem law_calls (W : World) (hT : ∀ g, g < 3 → TabAt W g (kOf g) (nsOf g)) :
    Calls Tryz.prog 6 #[] W fun e W' => e = .returned (.bool true) ∧ W.keptBut W' fun _ => False := by
  have hL := lem_of_run noCount mixed (extL_ok kTop) ot rt
  obtain ⟨hLh, _, hget⟩ := layH_pre (layH_ex Lt.pre 0 H.empty) (by decide)
  have hg0 : ∀ g, g < 3 → hLh.get g = .cells (avOf g).length (T.ofList (avOf g)) [] := fun g hg => (hget g).trans (pre_at g hg)
  have hlen : ∀ g, (avOf g).length = (nsOf g).length := fun g => by unfold avOf; rw [List.length_map]
  have hdead : ∀ i, ¬ i < 3 → hLh.get i = .dead := fun i hi => by
    rw [hget]
    match i, hi with
    | 3, _ | 4, _ | 5, _ | 6, _ | 7, _ => rfl
    | n + 8, _ => rfl
  have hav : ∀ g j, j < (nsOf g).length → ∃ n, (nsOf g)[j]? = some n ∧ (avOf g)[j]? = some (.int (kOf g) (.ofNat n)) := fun g j hj => by
    refine ⟨(nsOf g)[j], List.getElem?_eq_getElem hj, ?_⟩
    unfold avOf
    rw [List.getElem?_map, List.getElem?_eq_getElem hj]; rfl
  let ρ0 : Ren := fun i => if i < 3 then some ⟨i, 0, (nsOf i).length⟩ else none
  have hρ : ∀ (i : Nat) (K : AI.Loc), ρ0 i = some K → i < 3 ∧ K = ⟨i, 0, (nsOf i).length⟩ := fun i K hi => by
    have hi : (if i < 3 then some (⟨i, 0, (nsOf i).length⟩ : AI.Loc) else none) = some K := hi
    split at hi
    · rename_i e; exact ⟨e, (Option.some.inj hi).symm⟩
    · cases hi
  let E : Nat → Option Obj := fun b => if b < 3 then none else W.heap[b]?
  have hs : HS ρ0 hLh Lt.pre.length W.heap E := by
    refine ⟨fun i K hi => by obtain ⟨h1, _⟩ := hρ i K hi; show i < 8; omega, by decide, fun g K _ hi => ?_, by decide, fun i K hi hl => ?_, fun i j Ki Kj hi hj hne hKi hKj => ?_, fun b o hb => ?_, fun g _ hl => ?_⟩
    · obtain ⟨_, rfl⟩ := hρ g K hi; exact ⟨rfl, rfl⟩
    · obtain ⟨h3, rfl⟩ := hρ i K hi
      obtain ⟨cs, t, h0, hn, hv⟩ := hT i h3
      refine ⟨?_, (Array.getElem?_eq_some_iff.1 h0).1⟩
      rw [hg0 i h3]
      refine ⟨cs, t, (0, 0), h0, hn, by rw [hlen]; show 0 + (nsOf i).length ≤ cs.size; omega, fun o _ hh => by simp at hh, fun j hj => ?_⟩
      rw [hlen] at hj
      obtain ⟨n, hn1, hn2⟩ := hav i j hj
      refine ⟨_, by rw [cellOf_ofList _ _ (by rw [hlen]; exact hj)]; exact hn2, .int (kOf i) n, ?_, by simp only [VR]; rfl, trivial⟩
      show cs[0 + j]? = _
      rw [Nat.zero_add, hv j hj, hn1]; rfl
    · obtain ⟨_, rfl⟩ := hρ i Ki hKi
      obtain ⟨_, rfl⟩ := hρ j Kj hKj
      exact hne
    · have hb : (if b < 3 then none else W.heap[b]?) = some o := hb
      split at hb
      · cases hb
      · rename_i hb0
        refine ⟨hb, fun i K _ hi e => ?_⟩
        obtain ⟨h3, rfl⟩ := hρ i K hi
        exact hb0 (by rw [← e]; exact h3)
    · by_cases e : g < 3
      · exact ⟨_, if_pos e⟩
      · exact absurd (hdead g e) hl
  intro base
  obtain ⟨cv, h1, nx1, ρ1, w1, fr, hp, hsteps, hfn, hleave, hvr, hs1, hext, hso⟩ := hL.2 (cargs := #[]) hget (VRs_nil.2 rfl) hs base
  have hcv : cv = .bool true := by
    have : VR ρ1 (.bool true) cv := hvr
    simpa only [VR] using this
  subst hcv
  refine ⟨.returned (.bool true), w1, fr, ⟨rfl, hso.os, hso.output, fun i hi => ?_⟩, hsteps, hfn, hleave⟩
  by_cases e : i < 3
  · obtain ⟨cs, t, h0, hn, hv⟩ := hT i e
    obtain ⟨c', hc', hsz⟩ := hso.cells i cs t (0, 0) h0
    rw [h0, hc']
    refine ⟨rfl, rfl, hsz, fun j _ => ?_⟩
    have hρ1 : ρ1 i = some ⟨i, 0, (nsOf i).length⟩ := hext.1 i _ (if_pos e)
    obtain ⟨tt, zz, hb, hcell⟩ : SameP (h1.get i) (.cells (avOf i)) := hp i _ (post_at i e)
    obtain ⟨hB, _⟩ := hs1.live i _ hρ1 (by rw [hb]; simp)
    rw [hb] at hB
    obtain ⟨c2, e2, fr2, q1, q2, q3, q4, q5⟩ := hB
    have q1 : w1.heap[i]? = some (.cells c2 e2 fr2) := q1
    rw [hc'] at q1
    cases q1
    by_cases hj : j < (nsOf i).length
    · obtain ⟨a, ha, v, hv', hr, _⟩ := q5 j (by rw [hlen]; exact hj)
      obtain ⟨n, hn1, hn2⟩ := hav i j hj
      rw [hcell j (by rw [hlen]; exact hj), hn2] at ha
      cases ha
      have hv' : c'[0 + j]? = some v := hv'
      rw [Nat.zero_add] at hv'
      simp only [VR] at hr
      rw [hv', hr, hv j hj, hn1]
      rfl
    · rw [Array.getElem?_eq_none (by omega), Array.getElem?_eq_none (by omega)]
  · have hE : E i = W.heap[i]? := if_neg e
    obtain ⟨o, ho⟩ : ∃ o, W.heap[i]? = some o := ⟨_, Array.getElem?_eq_getElem hi⟩
    have hw1 := (hs1.ext i o (hE.trans ho)).1
    rw [ho, hw1]
    cases o <;> first | rfl | exact ⟨rfl, rfl, rfl, fun _ _ => rfl⟩ | exact .inr ⟨rfl, rfl⟩

/-- The settled world, the tables laid. -/
def layObj (vs : List Value) : Obj → Obj
  | .cells _ t frozen => .cells vs.toArray t frozen
  | o => o
noncomputable def laidWorld (os : Os) : World :=
  let w0 := World.holding Tryz.prog os ⟨#[], #[], []⟩
  { w0 with heap := ((w0.heap.modify 0 (layObj (tab.map fun (n : Nat) => Value.int .u8 (Int.ofNat n)))).modify 1 (layObj (tab1.map fun (n : Nat) => Value.int .u64 (Int.ofNat n)))).modify 2 (layObj (tab2.map fun (n : Nat) => Value.int .u8 (Int.ofNat n))) }
theorem laid_met (os : Os) (args : Array Value) : laidMet Tryz.prog Rows.verdictNamesRow.laid ((laidWorld os).forCall (fun _ _ => 0) ⟨#[], args, []⟩).memory :=
  laidMet_of_run' 8 (by kernel_rfl) (by kernel_rfl)

set_option maxRecDepth 100000 in
theorem law_lifted (os : Os) (started : os.Started) (H : Type) (enc : TypeId × Value → H) :
    ReturnsInHanded {} Tryz.checked os 6 .any (fun w args => (Rows.verdictNamesSpec.pre enc Tryz.prog Tryz.f6 Rows.verdictNamesRow.domain false w args ∧ laidMet Tryz.prog Rows.verdictNamesRow.laid w) ∧ sizedMet enc Tryz.prog Tryz.f6 (OpenSpec.ofChange Rows.verdictNamesSpec) false w args)
      (Rows.verdictNamesSpec.post enc Tryz.prog Tryz.f6 false true false false) := by
  refine returnsInHanded_of_change_and (C := Tryz.checked) (X := fun w _ => laidMet Tryz.prog Rows.verdictNamesRow.laid w) (fun _ _ _ hh h => h.of_heap hh) Tryz.own started (by kernel_rfl) Tryz.func6
    (ChangeSpec.witness_at (enc := enc) (C := Tryz.checked) (os := os) (X := fun w _ => laidMet Tryz.prog Rows.verdictNamesRow.laid w) false (laidWorld os) #[] 8 rfl (by kernel_rfl) (by kernel_rfl) (by kernel_rfl) (by kernel_rfl) (by kernel_rfl) (laid_met os _)) ?_
  intro W base args ds gs before hval0 hW _ _ hL _
  have hW' := hW
  obtain ⟨p, q, hA0, hV, rfl, hfz, hnd⟩ := hW
  have hA : DataW.TrodAll enc Tryz.prog W 0 (fun _ => true) true Tryz.f6.params.toList args.toList ds p := hA0
  rw [Tryz.params6] at hA
  obtain ⟨hargs, rfl, rfl⟩ := trodAll_none hA
  obtain ⟨rfl, rfl⟩ := trodVars_none hV
  subst hargs
  obtain ⟨t0, t1, t2⟩ := tables_of_laid hL
  refine (law_calls W fun g hg => ?_).mono fun e W' ⟨he, hk⟩ => ?_
  · match g, hg with
    | 0, _ => exact t0
    | 1, _ => exact t1
    | 2, _ => exact t2
  · subst he
    refine ⟨_, rfl, _, _, _, [], [], [], hW', ?_, ?_, rfl, World.keptBut_mono (fun _ h => h.elim) hk, fun h => by cases h⟩
    · exact trodAll_mk1 (shut_bool Tryz.underlying4 true)
    · exact trodAll_mk0

theorem row_holds : Rows.VerdictNamesSaid :=
  OpenClaim.holds_of_wide 6 Tryz.f6 rfl rfl rfl rfl rfl rfl rfl ⟨rfl, rfl, rfl, rfl, rfl⟩ rfl rfl rfl rfl rfl byName Tryz.func6 joined inst wrap
    (fun os started H enc _ => law_lifted os started H enc)
end Go.Proofs.YtfcoffpmcmhieaaGreatDoor.Ve
