/- WorldNames: called at whatever world that holds the listed table, the law returns true, and what lay there lies as it lay. -/
import Derived.Test.YtfcoffpmcmhieaaGreatDoorWoLems
import Derived.Test.YtfcoffpmcmhieaaGreatDoorWoTop
import Derived.Test.YtfcoffpmcmhieaaGreatDoorWoRowB
import Derived.ChangeMaps5
import Derived.ProofKit
import Derived.LaidLaws
import Derived.OpenShut
import Derived.Handed
namespace Go.Proofs.YtfcoffpmcmhieaaGreatDoor.Wo
open Go AI Go.ChangeShapes Go.WideShapes Go.ChangeAt Go.RowKit

theorem Tryz.own : ownKnob Tryz.prog.godebug = none := by kernel_rfl
theorem gN : Tryz.prog.globalNamed "math/bits.deBruijn64tab" = some 0 := by kernel_rfl
theorem gT : (Tryz.prog.globals[0]?).map (·.type) = some 458 := by kernel_rfl
theorem uT : Tryz.prog.underlying 458 = some (.array 64 5) := by kernel_rfl
theorem uE : Tryz.prog.underlying 5 = some (.int .u8) := by kernel_rfl
theorem cE : Tryz.prog.cellsOf 5 = 1 := by kernel_rfl
theorem cT : Tryz.prog.cellsOf 458 = 64 := by kernel_rfl
theorem laid_tab : (Rows.laid_math_bits_deBruijn64tab : DataW Unit) = .agg (tab.map fun (n : Nat) => .lit (.int .u8 (Int.ofNat n))) := by kernel_rfl

theorem int_of_trod {H : Type} {enc : TypeId × Value → H} {P : Program} {w : World} {base : Nat} {sp : Nat → Bool} {held : Bool} {fuel : Nat} {t : TypeId} {k : IntKind} {c : Value} {y : DataW H × List MemPlace}
    (ht : P.underlying t = some (.int k)) (h : DataW.trod enc P w base sp held fuel t [c] = some y) : ∃ n, c = .int k n ∧ y = (.lit (.int k n), []) := by
  cases fuel with
  | zero => simp [DataW.trod] at h
  | succ fuel =>
    cases c <;> simp [DataW.trod, ht] at h
    rename_i k' n
    obtain ⟨⟨rfl, _⟩, rfl⟩ := h
    exact ⟨n, rfl, rfl⟩

/-- The table, as it lies. -/
theorem table_of_laid {W : World} (h : laidMet Tryz.prog Rows.worldNamesRow.laid W) : ∃ cs t, W.heap[0]? = some (.cells cs t (0, 0)) ∧ cs.size = 64 ∧ ∀ j : Nat, j < 64 → cs[j]? = (tab[j]?).map fun (n : Nat) => Value.int .u8 (Int.ofNat n) := by
  obtain ⟨ps, ⟨g, t, cs, fuel, p, q, hg, ht, hvar, hd, hq, hps⟩, hnd, hpl⟩ := h
  obtain rfl := Option.some.inj (gN.symm.trans hg)
  obtain rfl := Option.some.inj (gT.symm.trans ht)
  obtain ⟨xs, m, hf, hx, hlen, hxl, hget⟩ := DataW.trod_array uT hd
  rw [cT, Array.length_toList] at hlen
  rw [cE] at hget
  have hx1 : Rows.laid_math_bits_deBruijn64tab = DataW.agg (xs.map (·.1)) := (Prod.mk.inj hx).1
  rw [laid_tab] at hx1
  have hxs : tab.map (fun (n : Nat) => DataW.lit (Lit.int .u8 (Int.ofNat n))) = xs.map (·.1) := by injection hx1
  have hmem : MemPlace.cell 0 0 ∈ ps := by
    rw [hps]
    refine List.mem_append.2 (.inl (List.mem_append.2 (.inl ?_)))
    rw [hlen]
    decide
  obtain ⟨⟨c, t, hc⟩, _⟩ := hpl 0 0 hmem
  have hcs : c = cs := by
    unfold World.var? at hvar
    rw [gN] at hvar
    simp only [Option.bind_some, hc] at hvar
    exact Option.some.inj hvar
  subst hcs
  refine ⟨c, t, hc, hlen, fun j hj => ?_⟩
  have hj' := hget j hj
  have hcj : (c.toList.drop (j * 1)).take 1 = [c[j]] := by
    rw [Nat.mul_one, List.drop_eq_getElem_cons (by simp; omega)]
    simp
  rw [hcj] at hj'
  have hxj : xs[j]? = some xs[j] := List.getElem?_eq_getElem (by omega)
  rw [hxj] at hj'
  obtain ⟨n, h1, h2⟩ := int_of_trod uE hj'
  have ht2 : (tab.map fun (n : Nat) => (DataW.lit (Lit.int .u8 (Int.ofNat n)) : DataW Unit))[j]? = (xs.map (·.1))[j]? := by rw [hxs]
  rw [List.getElem?_map, List.getElem?_map, hxj, h2] at ht2
  cases htj : tab[j]? with
  | none => rw [htj] at ht2; cases ht2
  | some q =>
    rw [htj] at ht2
    simp at ht2
    rw [Array.getElem?_eq_getElem (by omega), h1, ← ht2]
    rfl

theorem tab_length : tab.length = 64 := by decide

theorem VRs_tops {ρ : Ren} : ∀ {l : List Value} {n : Nat}, l.length = n → VRs ρ (List.replicate n .top) l
  | [], _, h => by subst h; exact VRs_nil.2 rfl
  | v :: l, _, h => by
    subst h
    exact VRs_cons_cons.2 ⟨by simp only [VR], VRs_tops rfl⟩

/-- The law's call. -/
theorem law_calls (W : World) {cs : Array Value} {t : TypeId} (h0 : W.heap[0]? = some (.cells cs t (0, 0))) (hn : cs.size = 64) (hv : ∀ j : Nat, j < 64 → cs[j]? = (tab[j]?).map fun (n : Nat) => Value.int .u8 (Int.ofNat n)) (cargs : Array Value) (hargs : cargs.toList.length = 0) :
    Calls Tryz.prog 5 cargs W fun e W' => e = .returned (.bool true) ∧ W.keptBut W' fun _ => False := by
  have hL := lem_of_run noCount mixed (extL_ok kTop) ot rt
  obtain ⟨hLh, _, hget⟩ := layH_pre (layH_ex Lt.pre 0 H.empty) (by decide)
  have hg0 : hLh.get 0 = .cells (tab.map u).length (T.ofList (tab.map u)) [] := hget 0
  have hlen : (tab.map u).length = 64 := by rw [List.length_map, tab_length]
  have hdead : ∀ i, i ≠ 0 → hLh.get i = .dead := fun i hi => by
    rw [hget]
    match i, hi with
    | 1, _ | 2, _ | 3, _ | 4, _ | 5, _ | 6, _ | 7, _ => rfl
    | n + 8, _ => rfl
  let ρ0 : Ren := fun i => if i = 0 then some ⟨0, 0, 64⟩ else none
  have hρ : ∀ (i : Nat) (K : AI.Loc), ρ0 i = some K → i = 0 ∧ K = ⟨0, 0, 64⟩ := fun i K hi => by
    have hi : (if i = 0 then some (⟨0, 0, 64⟩ : AI.Loc) else none) = some K := hi
    split at hi
    · rename_i e; exact ⟨e, (Option.some.inj hi).symm⟩
    · cases hi
  let E : Nat → Option Obj := fun b => if b = 0 then none else W.heap[b]?
  have hs : HS ρ0 hLh Lt.pre.length W.heap E := by
    refine ⟨fun i K hi => by obtain ⟨rfl, _⟩ := hρ i K hi; decide, by decide, fun g K _ hi => ?_, by decide, fun i K hi hl => ?_, fun i j Ki Kj hi hj hne _ _ => ?_, fun b o hb => ?_, fun g _ hl => ?_⟩
    · obtain ⟨rfl, rfl⟩ := hρ g K hi; exact ⟨rfl, rfl⟩
    · obtain ⟨rfl, rfl⟩ := hρ i K hi
      refine ⟨?_, (Array.getElem?_eq_some_iff.1 h0).1⟩
      rw [hg0]
      refine ⟨cs, t, (0, 0), h0, hn, by rw [hlen]; show 0 + 64 ≤ cs.size; omega, fun o _ hh => by simp at hh, fun j hj => ?_⟩
      rw [hlen] at hj
      have htj : tab[j]? = some tab[j] := List.getElem?_eq_getElem (by rw [tab_length]; exact hj)
      refine ⟨u tab[j], ?_, .int .u8 tab[j], ?_, by simp only [VR]; rfl, trivial⟩
      · rw [cellOf_ofList _ _ (by rw [hlen]; exact hj), List.getElem?_map, htj]; rfl
      · show cs[0 + j]? = _
        rw [Nat.zero_add, hv j hj, htj]; rfl
    · exfalso
      have h1 : i = 0 := by
        by_cases e : i = 0
        · exact e
        · exact absurd (hdead i e) hi
      have h2 : j = 0 := by
        by_cases e : j = 0
        · exact e
        · exact absurd (hdead j e) hj
      exact hne (h1.trans h2.symm)
    · have hb : (if b = 0 then none else W.heap[b]?) = some o := hb
      split at hb
      · cases hb
      · rename_i hb0
        refine ⟨hb, fun i K _ hi e => ?_⟩
        obtain ⟨_, rfl⟩ := hρ i K hi
        exact hb0 e.symm
    · by_cases e : g = 0
      · subst e; exact ⟨_, rfl⟩
      · exact absurd (hdead g e) hl
  intro base
  obtain ⟨cv, h1, nx1, ρ1, w1, fr, hp, hsteps, hfn, hleave, hvr, hs1, hext, hso⟩ := hL.2 (cargs := cargs) hget (VRs_tops hargs) hs base
  have hcv : cv = .bool true := by
    have : VR ρ1 (.bool true) cv := hvr
    simpa only [VR] using this
  subst hcv
  refine ⟨.returned (.bool true), w1, fr, ⟨rfl, hso.os, hso.output, fun i hi => ?_⟩, hsteps, hfn, hleave⟩
  by_cases e : i = 0
  · subst e
    obtain ⟨c', hc', hsz⟩ := hso.cells 0 cs t (0, 0) h0
    rw [h0, hc']
    refine ⟨rfl, rfl, hsz, fun j _ => ?_⟩
    have hρ1 : ρ1 0 = some ⟨0, 0, 64⟩ := hext.1 0 _ rfl
    obtain ⟨tt, zz, hb, hcell⟩ : SameP (h1.get 0) (.cells (tab.map u)) := hp 0 _ rfl
    obtain ⟨hB, _⟩ := hs1.live 0 _ hρ1 (by rw [hb]; simp)
    rw [hb] at hB
    obtain ⟨c2, e2, fr2, q1, q2, q3, q4, q5⟩ := hB
    have q1 : w1.heap[0]? = some (.cells c2 e2 fr2) := q1
    rw [hc'] at q1
    cases q1
    by_cases hj : j < 64
    · obtain ⟨a, ha, v, hv', hr, _⟩ := q5 j (by rw [hlen]; exact hj)
      have htj : tab[j]? = some tab[j] := List.getElem?_eq_getElem (by rw [tab_length]; exact hj)
      rw [hcell j (by rw [hlen]; exact hj), List.getElem?_map, htj] at ha
      cases ha
      have hv' : c'[0 + j]? = some v := hv'
      rw [Nat.zero_add] at hv'
      simp only [VR] at hr
      rw [hv', hr, hv j hj, htj]
      rfl
    · rw [Array.getElem?_eq_none (by omega), Array.getElem?_eq_none (by omega)]
  · have hE : E i = W.heap[i]? := if_neg e
    obtain ⟨o, ho⟩ : ∃ o, W.heap[i]? = some o := ⟨_, Array.getElem?_eq_getElem hi⟩
    have hw1 := (hs1.ext i o (hE.trans ho)).1
    rw [ho, hw1]
    cases o <;> first | rfl | exact ⟨rfl, rfl, rfl, fun _ _ => rfl⟩ | exact .inr ⟨rfl, rfl⟩

/-- The settled world, the tables laid. -/
def layObj (vs : List Value) : Obj → Obj
  | .cells _ t frozen => .cells vs.toArray t frozen
  | o => o
noncomputable def laidWorld (os : Os) : World :=
  let w0 := World.holding Tryz.prog os ⟨#[], #[], []⟩
  { w0 with heap := (w0.heap).modify 0 (layObj (tab.map fun (n : Nat) => Value.int .u8 (Int.ofNat n))) }
theorem laid_met (os : Os) (args : Array Value) : laidMet Tryz.prog Rows.worldNamesRow.laid ((laidWorld os).forCall (fun _ _ => 0) ⟨#[], args, []⟩).memory :=
  laidMet_of_run' 8 (by kernel_rfl) (by kernel_rfl)

set_option maxRecDepth 100000 in
theorem law_lifted (os : Os) (started : os.Started) (H : Type) (enc : TypeId × Value → H) :
    ReturnsInHanded {} Tryz.checked os 5 .any (fun w args => (Rows.worldNamesSpec.pre enc Tryz.prog Tryz.f5 Rows.worldNamesRow.domain false w args ∧ laidMet Tryz.prog Rows.worldNamesRow.laid w) ∧ sizedMet enc Tryz.prog Tryz.f5 (OpenSpec.ofChange Rows.worldNamesSpec) false w args)
      (Rows.worldNamesSpec.post enc Tryz.prog Tryz.f5 false true false false) := by
  refine returnsInHanded_of_change_and (C := Tryz.checked) (X := fun w _ => laidMet Tryz.prog Rows.worldNamesRow.laid w) (fun _ _ _ hh h => h.of_heap hh) Tryz.own started (by kernel_rfl) Tryz.func5
    (ChangeSpec.witness_at (enc := enc) (C := Tryz.checked) (os := os) (X := fun w _ => laidMet Tryz.prog Rows.worldNamesRow.laid w) false (laidWorld os) #[] 8 rfl (by kernel_rfl) (by kernel_rfl) (by kernel_rfl) (by kernel_rfl) (by kernel_rfl) (laid_met os _)) ?_
  intro W base args ds gs before hval0 hW _ _ hL _
  have hW' := hW
  obtain ⟨p, q, hA0, hV, rfl, hfz, hnd⟩ := hW
  have hA : DataW.TrodAll enc Tryz.prog W 0 (fun _ => true) true Tryz.f5.params.toList args.toList ds p := hA0
  rw [Tryz.params5] at hA
  obtain ⟨hargs, rfl, rfl⟩ := trodAll_none hA
  obtain ⟨rfl, rfl⟩ := trodVars_none hV
  subst hargs
  obtain ⟨cs, t, h0, hn, hv⟩ := table_of_laid hL
  refine (law_calls W h0 hn hv #[] rfl).mono fun e W' ⟨he, hk⟩ => ?_
  subst he
  refine ⟨_, rfl, _, _, _, [], [], [], hW', ?_, ?_, rfl, World.keptBut_mono (fun _ h => h.elim) hk, fun h => by cases h⟩
  · exact trodAll_mk1 (shut_bool Tryz.underlying4 true)
  · exact trodAll_mk0
theorem row_holds : Rows.WorldNamesSaid :=
  OpenClaim.holds_of_wide 5 Tryz.f5 rfl rfl rfl rfl rfl rfl rfl ⟨rfl, rfl, rfl, rfl, rfl⟩ rfl rfl rfl rfl rfl byName Tryz.func5 joined inst wrap
    (fun os started H enc _ => law_lifted os started H enc)
end Go.Proofs.YtfcoffpmcmhieaaGreatDoor.Wo
