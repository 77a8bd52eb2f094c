/- This proves the statement FnExactUnheld: for every engine, the program's Unheld returns the slots that the reference's Unheld returns, leaves its argument as it was, and returns memory of its own. -/
import Derived.Test.YtjodaapkfknfnaaXViewP1
import Derived.Test.YtjodaapkfknfnaaXViewP3
import Derived.Test.YtjodaapkfknfnaaXViewV6
import Derived.Test.YtjodaapkfknfnaaXViewV5
import Derived.Test.YtjodaapkfknfnaaXUnheldP1
import Derived.Test.YtjodaapkfknfnaaXViewV4
import Derived.Test.YtjodaapkfknfnaaRows
import Derived.ProofKit
set_option linter.all false

namespace Q6
open Go Go.Vm Go.Proofs
set_option maxHeartbeats 4000000
set_option synthInstance.maxSize 2000
set_option synthInstance.maxHeartbeats 400000
set_option maxRecDepth 10000
set_option linter.unusedSimpArgs false
set_option linter.unusedVariables false

set_option synthInstance.maxHeartbeats 4000000
set_option synthInstance.maxSize 20000
set_option maxHeartbeats 40000000
theorem dec4_11 : Dec Y 11 4 (Bool) := dec_ok (by kernel_rfl)
theorem dec3_11 : Dec Y 11 3 (Int) := dec_ok (by kernel_rfl)
theorem dec79_11 : Dec Y 11 79 (List ((Int × Int × Unit))) := dec_ok (by kernel_rfl)
theorem dec78_11 : Dec Y 11 78 (List ((Int × Int × Bool × Unit))) := dec_ok (by kernel_rfl)
theorem dec77_11 : Dec Y 11 77 (((List ((Int × Int × Int × Int × Int × ((Bool × ((Int × (List Int) × (List Int) × Unit)) × Unit)) × ((Bool × ((Int × (List Int) × (List Int) × Unit)) × Unit)) × Int × (List ((Int × Int × Bool × Unit))) × Unit))) × Int × Unit)) := dec_ok (by kernel_rfl)
theorem dec3_10 : Dec Y 10 3 (Int) := dec_ok (by kernel_rfl)
theorem dec4_8 : Dec Y 8 4 (Bool) := dec_ok (by kernel_rfl)
theorem dec67_6 : Dec Y 6 67 ((Bool × ((Int × (List Int) × (List Int) × Unit)) × Unit)) := dec_ok (by kernel_rfl)
theorem dec68_7 : Dec Y 7 68 ((((Bool × ((Int × (List Int) × (List Int) × Unit)) × Unit)) × ((Bool × ((Int × (List Int) × (List Int) × Unit)) × Unit)) × ((Bool × ((Int × (List Int) × (List Int) × Unit)) × Unit)) × ((Bool × ((Int × (List Int) × (List Int) × Unit)) × Unit)) × Unit)) := dec_tup (by rw [Y68]) (decL_cons dec67_6 (decL_cons dec67_6 (decL_cons dec67_6 (decL_cons dec67_6 (decL_nil)))))
theorem dec3_7 : Dec Y 7 3 (Int) := dec_ok (by kernel_rfl)
theorem dec70_8 : Dec Y 8 70 ((Int × ((((Bool × ((Int × (List Int) × (List Int) × Unit)) × Unit)) × ((Bool × ((Int × (List Int) × (List Int) × Unit)) × Unit)) × ((Bool × ((Int × (List Int) × (List Int) × Unit)) × Unit)) × ((Bool × ((Int × (List Int) × (List Int) × Unit)) × Unit)) × Unit)) × Unit)) := dec_st (by rw [Y70]) (decL_cons dec3_7 (decL_cons dec68_7 (decL_nil)))
theorem dec3_8 : Dec Y 8 3 (Int) := dec_ok (by kernel_rfl)
theorem dec215_9 : Dec Y 9 215 ((Int × ((Int × ((((Bool × ((Int × (List Int) × (List Int) × Unit)) × Unit)) × ((Bool × ((Int × (List Int) × (List Int) × Unit)) × Unit)) × ((Bool × ((Int × (List Int) × (List Int) × Unit)) × Unit)) × ((Bool × ((Int × (List Int) × (List Int) × Unit)) × Unit)) × Unit)) × Unit)) × Bool × Bool × Unit)) := dec_st (by rw [Y215]) (decL_cons dec3_8 (decL_cons dec70_8 (decL_cons dec4_8 (decL_cons dec4_8 (decL_nil)))))
theorem dec72_10 : Dec Y 10 72 (List ((Int × ((Int × ((((Bool × ((Int × (List Int) × (List Int) × Unit)) × Unit)) × ((Bool × ((Int × (List Int) × (List Int) × Unit)) × Unit)) × ((Bool × ((Int × (List Int) × (List Int) × Unit)) × Unit)) × ((Bool × ((Int × (List Int) × (List Int) × Unit)) × Unit)) × Unit)) × Unit)) × Bool × Bool × Unit))) := dec_sl dec215_9 (by rw [Y72])
theorem dec74_11 : Dec Y 11 74 (((List ((Int × ((Int × ((((Bool × ((Int × (List Int) × (List Int) × Unit)) × Unit)) × ((Bool × ((Int × (List Int) × (List Int) × Unit)) × Unit)) × ((Bool × ((Int × (List Int) × (List Int) × Unit)) × Unit)) × ((Bool × ((Int × (List Int) × (List Int) × Unit)) × Unit)) × Unit)) × Unit)) × Bool × Bool × Unit))) × Int × Unit)) := dec_st (by rw [Y74]) (decL_cons dec72_10 (decL_cons dec3_10 (decL_nil)))
theorem dec67_8 : Dec Y 8 67 ((Bool × ((Int × (List Int) × (List Int) × Unit)) × Unit)) := dec_ok (by kernel_rfl)
theorem dec68_9 : Dec Y 9 68 ((((Bool × ((Int × (List Int) × (List Int) × Unit)) × Unit)) × ((Bool × ((Int × (List Int) × (List Int) × Unit)) × Unit)) × ((Bool × ((Int × (List Int) × (List Int) × Unit)) × Unit)) × ((Bool × ((Int × (List Int) × (List Int) × Unit)) × Unit)) × Unit)) := dec_tup (by rw [Y68]) (decL_cons dec67_8 (decL_cons dec67_8 (decL_cons dec67_8 (decL_cons dec67_8 (decL_nil)))))
theorem dec3_9 : Dec Y 9 3 (Int) := dec_ok (by kernel_rfl)
theorem dec70_10 : Dec Y 10 70 ((Int × ((((Bool × ((Int × (List Int) × (List Int) × Unit)) × Unit)) × ((Bool × ((Int × (List Int) × (List Int) × Unit)) × Unit)) × ((Bool × ((Int × (List Int) × (List Int) × Unit)) × Unit)) × ((Bool × ((Int × (List Int) × (List Int) × Unit)) × Unit)) × Unit)) × Unit)) := dec_st (by rw [Y70]) (decL_cons dec3_9 (decL_cons dec68_9 (decL_nil)))
theorem dec71_11 : Dec Y 11 71 ((Arr 8 ((Int × ((((Bool × ((Int × (List Int) × (List Int) × Unit)) × Unit)) × ((Bool × ((Int × (List Int) × (List Int) × Unit)) × Unit)) × ((Bool × ((Int × (List Int) × (List Int) × Unit)) × Unit)) × ((Bool × ((Int × (List Int) × (List Int) × Unit)) × Unit)) × Unit)) × Unit)))) := dec_arr dec70_10 (by rw [Y71])
theorem dec81_12 : Dec Y 12 81 ((((Arr 8 ((Int × ((((Bool × ((Int × (List Int) × (List Int) × Unit)) × Unit)) × ((Bool × ((Int × (List Int) × (List Int) × Unit)) × Unit)) × ((Bool × ((Int × (List Int) × (List Int) × Unit)) × Unit)) × ((Bool × ((Int × (List Int) × (List Int) × Unit)) × Unit)) × Unit)) × Unit)))) × (((List ((Int × ((Int × ((((Bool × ((Int × (List Int) × (List Int) × Unit)) × Unit)) × ((Bool × ((Int × (List Int) × (List Int) × Unit)) × Unit)) × ((Bool × ((Int × (List Int) × (List Int) × Unit)) × Unit)) × ((Bool × ((Int × (List Int) × (List Int) × Unit)) × Unit)) × Unit)) × Unit)) × Bool × Bool × Unit))) × Int × Unit)) × (((List ((Int × Int × Int × Int × Int × ((Bool × ((Int × (List Int) × (List Int) × Unit)) × Unit)) × ((Bool × ((Int × (List Int) × (List Int) × Unit)) × Unit)) × Int × (List ((Int × Int × Bool × Unit))) × Unit))) × Int × Unit)) × (List ((Int × Int × Bool × Unit))) × (List ((Int × Int × Unit))) × Int × Bool × Unit)) := dec_st (by rw [Y81]) (decL_cons dec71_11 (decL_cons dec74_11 (decL_cons dec77_11 (decL_cons dec78_11 (decL_cons dec79_11 (decL_cons dec3_11 (decL_cons dec4_11 (decL_nil))))))))
end Q6

namespace Q6.Unheld
open Go Go.Vm Go.Proofs
set_option maxHeartbeats 4000000
set_option synthInstance.maxSize 2000
set_option synthInstance.maxHeartbeats 400000
set_option maxRecDepth 10000
set_option linter.unusedSimpArgs false
set_option linter.unusedVariables false

open Go.Proofs.Ytjodaapkfknfnaa
open Go.ChangeShapes Go.WideShapes Go.ChangeAt Go.RowKit
theorem own : ownKnob Try.prog.godebug = none := by kernel_rfl
theorem laidOut : laidOutB Try.prog = true := by kernel_rfl
theorem plain81 : plainT Y 12 81 = true := by kernel_rfl

set_option maxRecDepth 100000 in
theorem lifted (os : Os) (started : os.Started) (H : Type) (enc : TypeId × Value → H) :
    ReturnsInHanded {} Try.checked os 9 .any (Rows.fnExactUnheldSpec.pre6 enc Try.prog Try.f9 Rows.fnExactUnheldRow.domain false) (Rows.fnExactUnheldSpec.post enc Try.prog Try.f9 false true false false) := by
  refine returnsInHanded_of_change (C := Try.checked) own started (by kernel_rfl) Try.func9
    (ChangeSpec.witness6 (enc := enc) (C := Try.checked) false ⟨#[], #[.agg #[.int .i64 0, .bool false, .int .i64 0, .slice none 0 0, .slice none 0 0, .bool false, .int .i64 0, .slice none 0 0, .slice none 0 0, .bool false, .int .i64 0, .slice none 0 0, .slice none 0 0, .bool false, .int .i64 0, .slice none 0 0, .slice none 0 0, .int .i64 0, .bool false, .int .i64 0, .slice none 0 0, .slice none 0 0, .bool false, .int .i64 0, .slice none 0 0, .slice none 0 0, .bool false, .int .i64 0, .slice none 0 0, .slice none 0 0, .bool false, .int .i64 0, .slice none 0 0, .slice none 0 0, .int .i64 0, .bool false, .int .i64 0, .slice none 0 0, .slice none 0 0, .bool false, .int .i64 0, .slice none 0 0, .slice none 0 0, .bool false, .int .i64 0, .slice none 0 0, .slice none 0 0, .bool false, .int .i64 0, .slice none 0 0, .slice none 0 0, .int .i64 0, .bool false, .int .i64 0, .slice none 0 0, .slice none 0 0, .bool false, .int .i64 0, .slice none 0 0, .slice none 0 0, .bool false, .int .i64 0, .slice none 0 0, .slice none 0 0, .bool false, .int .i64 0, .slice none 0 0, .slice none 0 0, .int .i64 0, .bool false, .int .i64 0, .slice none 0 0, .slice none 0 0, .bool false, .int .i64 0, .slice none 0 0, .slice none 0 0, .bool false, .int .i64 0, .slice none 0 0, .slice none 0 0, .bool false, .int .i64 0, .slice none 0 0, .slice none 0 0, .int .i64 0, .bool false, .int .i64 0, .slice none 0 0, .slice none 0 0, .bool false, .int .i64 0, .slice none 0 0, .slice none 0 0, .bool false, .int .i64 0, .slice none 0 0, .slice none 0 0, .bool false, .int .i64 0, .slice none 0 0, .slice none 0 0, .int .i64 0, .bool false, .int .i64 0, .slice none 0 0, .slice none 0 0, .bool false, .int .i64 0, .slice none 0 0, .slice none 0 0, .bool false, .int .i64 0, .slice none 0 0, .slice none 0 0, .bool false, .int .i64 0, .slice none 0 0, .slice none 0 0, .int .i64 0, .bool false, .int .i64 0, .slice none 0 0, .slice none 0 0, .bool false, .int .i64 0, .slice none 0 0, .slice none 0 0, .bool false, .int .i64 0, .slice none 0 0, .slice none 0 0, .bool false, .int .i64 0, .slice none 0 0, .slice none 0 0, .slice none 0 0, .int .i64 0, .slice none 0 0, .int .i64 0, .slice none 0 0, .slice none 0 0, .int .i64 0, .bool false]], []⟩ 8 (by kernel_rfl) (by kernel_rfl) (by kernel_rfl) (by kernel_rfl)) ?_
  intro W base args ds gs before hval0 hW hcnd _
  have hval : ∀ (j : Nat) t v, Try.f9.params[j]? = some t → args[j]? = some v → Value.okWide Try.prog W .any base t v := hval0
  have hW' := hW
  obtain ⟨p, q, hA0, hV, rfl, _, _⟩ := hW
  have hA : DataW.TrodAll enc Try.prog W 0 (fun _ => true) true Try.f9.params.toList args.toList ds p := hA0
  have hV' : DataW.TrodVars enc Try.prog W (fun _ => true) [] gs q := hV
  obtain ⟨rfl, rfl⟩ := trodVars_none hV'
  rw [Try.params9] at hA hval
  have one := trodAll_one hA
  refine (calls_of hY 12 (by simp [plain81]) hA (fun j t v h1 h2 => hval j t v (by simpa using h1) (by simpa using h2)) ?_).mono ?_
  · intro us hu ht
    match us, hu with
    | [u0], _ =>
      obtain ⟨x0, rfl, hx0⟩ := dec81_12 u0 (ht 0 81 u0 rfl rfl)
      exact unheldLaw_ok x0 hx0
  · rintro e W' ⟨rfl, h1, h2⟩
    obtain ⟨v, d, _, rfl, _⟩ := one
    exact ⟨_, rfl, post_true (tb := 4) laidOut (by rw [Try.params9]; exact of_decide_eq_true (by kernel_rfl)) rfl hW' rfl rfl rfl rfl (by kernel_rfl) h1 h2⟩

theorem fnExactUnheld_holds : Rows.FnExactUnheldSaid :=
  OpenClaim.holds_of_wide 9 Try.f9 rfl rfl rfl rfl rfl rfl rfl ⟨rfl, rfl, rfl, rfl, rfl⟩ rfl rfl rfl rfl rfl (by kernel_rfl) Try.func9 (by kernel_rfl)
    (of_decide_eq_true (by kernel_rfl)) (by unfold Func.isWrapper; first | (rw [if_pos (by decide +kernel)]; kernel_rfl) | (rw [if_neg (by decide +kernel)]; exact ⟨rfl, rfl⟩))
    (fun os started H enc _ => lifted os started H enc)
end Q6.Unheld

namespace Go.Proofs.Ytjodaapkfknfnaa
/-- This proves the statement FnExactUnheld: for every engine, the program's Unheld returns the slots that the reference's Unheld returns, leaves its argument as it was, and returns memory of its own. -/
theorem fnExactUnheld_holds : Rows.FnExactUnheldSaid := Q6.Unheld.fnExactUnheld_holds
#print axioms fnExactUnheld_holds
end Go.Proofs.Ytjodaapkfknfnaa
