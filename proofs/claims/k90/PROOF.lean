import PyProof.Rows.All
import Wide.All
import OpenK.AllK
import Wide.FinOn
import KE.KStateDown
import HandS.CallLocal
import HandS.HeadHook3
import HandS.Head3
import HandS.HeadHook4
import PySem.Challenge.RW_layerballs_k90_whole_round_claims
import HandS.HeadEnd
import HandS.HeadHook1
import HandS.HeadHook2
import HandS.ForMost
import HandS.Wide
import HandS.TupAny
import HandS.Style
import HandS.Exc
import HandS.WordsExc
import HandS.Defaults
import HandS.IsInst
import HandS.Gcd
import HandS.TupMul
import HandS.Deep
import HandS.Walk
import HandS.Zip
import KE.GoesEnum
import HandS.WideBits
import HandS.ReplaceList
import HandS.ReplaceLit
import HandS.Text
import PyProof.Rows.StrCountLaw
import PyProof.StrLawsFirst
import HandS.Flow
import KE.KRevSl
import PyProof.StrReplace2
import PyProof.EnumMake
import HandS.Replace
import HandS.Conv
import PyProof.CollectStr
import PyProof.ListStr
import PyProof.TupleOfSeq
set_option Elab.async false
set_option linter.all false
set_option maxRecDepth 100000
set_option maxHeartbeats 0
namespace Pv
open PySem PySem.Spec PyProof.Rows L2
/-! ### what the head says of tables -/
/-- the pair kept at a -/
def kTup (K : PySem.W.Frag) (a : Addr) (vs : List V) : Bool := (K.lookup a).any fun o => decide (o.cls = .type "tuple") && (match o.data with
  | .seq its _ => decide (its.size ≤ sizeLine) && He.relAll vs its.toList
  | _ => false)
theorem kTup_ok {K : PySem.W.Frag} {a : Addr} {vs : List V} (h : kTup K a vs = true) (H : Hp) : SqT K H a vs := by
  unfold kTup at h
  cases q : K.lookup a with
  | none => rw [q] at h; cases h
  | some o =>
    rw [q] at h
    have h : (decide (o.cls = .type "tuple") && (match o.data with
      | .seq its _ => decide (its.size ≤ sizeLine) && He.relAll vs its.toList
      | _ => false)) = true := h
    obtain ⟨h1, h2⟩ := Bool.and_eq_true_iff.mp h
    cases e : o.data with
    | seq its n =>
      rw [e] at h2
      obtain ⟨h3, h4⟩ := Bool.and_eq_true_iff.mp h2
      exact .inr ⟨o, its, n, q, of_decide_eq_true h1, e, of_decide_eq_true h3, He.relAll_ok h4⟩
    | _ => rw [e] at h2; cases h2
def tupAd (K : PySem.W.Frag) (D key : Str) : Addr := match PySem.W.nsIn K (He.ga K D) key with
  | some (some (.ref t)) => t
  | _ => 0
def tupIn (K : PySem.W.Frag) (D key : Str) (vs : List V) : Bool := He.eqO (PySem.W.nsIn K (He.ga K D) key) (some (some (.ref (tupAd K D key)))) && kTup K (tupAd K D key) vs
theorem tupIn_ok {K : PySem.W.Frag} {D key : Str} {vs : List V} (h : tupIn K D key vs = true) : ∃ t, PySem.W.nsIn K (He.ga K D) key = some (some (.ref t)) ∧ ∀ H, SqT K H t vs := by
  obtain ⟨h1, h2⟩ := Bool.and_eq_true_iff.mp h
  exact ⟨_, He.eqO_ok h1, kTup_ok h2⟩
end Pv

namespace Lw
open PySem PySem.Spec PyProof.Rows L2
def top (i : Nat) : Stmt := PySem.Challenge.pw_layerballs_k90_whole_round_claims.main.body.getD i (.Pass ⟨0, 0, 0, 0⟩)
end Lw

namespace Hd
open PySem PySem.Spec PyProof.Rows L2 Pv Lw
def dd_law_bag : He.DefD := ⟨("_law_bag", none), "_law_bag", "_law_bag", defArgs (top 131), defBody (top 131), defScope (top 131), [], []⟩
def dd_law_draw : He.DefD := ⟨("_law_draw", none), "_law_draw", "_law_draw", defArgs (top 132), defBody (top 132), defScope (top 132), [], []⟩
def dd_law_one : He.DefD := ⟨("_law_one", none), "_law_one", "_law_one", defArgs (top 133), defBody (top 133), defScope (top 133), [], []⟩
def dd_law_further : He.DefD := ⟨("_law_further", none), "_law_further", "_law_further", defArgs (top 138), defBody (top 138), defScope (top 138), [], []⟩
def dd_law_by : He.DefD := ⟨("_law_by", none), "_law_by", "_law_by", defArgs (top 141), defBody (top 141), defScope (top 141), [], []⟩
def dd_law_stacking : He.DefD := ⟨("_law_stacking", none), "_law_stacking", "_law_stacking", defArgs (top 142), defBody (top 142), defScope (top 142), [], []⟩
def dd_law_closed : He.DefD := ⟨("_law_closed", none), "_law_closed", "_law_closed", defArgs (top 143), defBody (top 143), defScope (top 143), [], []⟩
def dd_law_steps : He.DefD := ⟨("_law_steps", none), "_law_steps", "_law_steps", defArgs (top 139), defBody (top 139), defScope (top 139), [], []⟩
def dd_law_round_steps : He.DefD := ⟨("_law_round_steps", none), "_law_round_steps", "_law_round_steps", defArgs (top 140), defBody (top 140), defScope (top 140), [], []⟩
def dd_is_text_of : He.DefD := ⟨("is_text_of", none), "is_text_of", "is_text_of", defArgs (top 6), defBody (top 6), defScope (top 6), [], []⟩
def dd_is_whole : He.DefD := ⟨("is_whole", none), "is_whole", "is_whole", defArgs (top 2), defBody (top 2), defScope (top 2), [], []⟩
def dd_is_between : He.DefD := ⟨("is_between", none), "is_between", "is_between", defArgs (top 3), defBody (top 3), defScope (top 3), [], []⟩
def dd_is_layer_number : He.DefD := ⟨("is_layer_number", none), "is_layer_number", "is_layer_number", defArgs (top 13), defBody (top 13), defScope (top 13), [], []⟩
def dd_is_stepped : He.DefD := ⟨("is_stepped", none), "is_stepped", "is_stepped", defArgs (top 17), defBody (top 17), defScope (top 17), [], []⟩
def dd_check_steps : He.DefD := ⟨("check_steps", none), "check_steps", "check_steps", defArgs (top 51), defBody (top 51), defScope (top 51), [], []⟩
def dd_worth : He.DefD := ⟨("worth", none), "worth", "worth", defArgs (top 20), defBody (top 20), defScope (top 20), [], []⟩
def dd_sum_of : He.DefD := ⟨("sum_of", none), "sum_of", "sum_of", defArgs (top 21), defBody (top 21), defScope (top 21), [], []⟩
def dd_do_go_round : He.DefD := ⟨("do_go_round", none), "do_go_round", "do_go_round", defArgs (top 27), defBody (top 27), defScope (top 27), [], []⟩
def dd_goes_round : He.DefD := ⟨("goes_round", none), "goes_round", "goes_round", defArgs (top 128), defBody (top 128), defScope (top 128), [], []⟩
def dd_law_same : He.DefD := ⟨("_law_same", none), "_law_same", "_law_same", defArgs (top 134), defBody (top 134), defScope (top 134), [], []⟩
def dd_is_letter : He.DefD := ⟨("is_letter", none), "is_letter", "is_letter", defArgs (top 14), defBody (top 14), defScope (top 14), [], []⟩
def dd_check_letter : He.DefD := ⟨("check_letter", none), "check_letter", "check_letter", defArgs (top 52), defBody (top 52), defScope (top 52), [], []⟩
def dd_number_of : He.DefD := ⟨("number_of", none), "number_of", "number_of", defArgs (top 18), defBody (top 18), defScope (top 18), [], []⟩
def dd_further : He.DefD := ⟨("further", none), "further", "further", defArgs (top 19), defBody (top 19), defScope (top 19), [], []⟩
def dd_led_by : He.DefD := ⟨("led_by", none), "led_by", "led_by", defArgs (top 26), defBody (top 26), defScope (top 26), [], []⟩
def dd_stacking_by : He.DefD := ⟨("stacking_by", none), "stacking_by", "stacking_by", defArgs (top 127), defBody (top 127), defScope (top 127), [], []⟩
def dd_is_stacked : He.DefD := ⟨("is_stacked", none), "is_stacked", "is_stacked", defArgs (top 15), defBody (top 15), defScope (top 15), [], []⟩
def dd_is_closed_one : He.DefD := ⟨("is_closed_one", none), "is_closed_one", "is_closed_one", defArgs (top 16), defBody (top 16), defScope (top 16), [], []⟩
def dd_check_closed : He.DefD := ⟨("check_closed", none), "check_closed", "check_closed", defArgs (top 50), defBody (top 50), defScope (top 50), [], []⟩
def dd_step_between : He.DefD := ⟨("step_between", none), "step_between", "step_between", defArgs (top 23), defBody (top 23), defScope (top 23), [], []⟩
def dd_steps_by : He.DefD := ⟨("steps_by", none), "steps_by", "steps_by", defArgs (top 24), defBody (top 24), defScope (top 24), [], []⟩
def dd_round_steps_by : He.DefD := ⟨("round_steps_by", none), "round_steps_by", "round_steps_by", defArgs (top 25), defBody (top 25), defScope (top 25), [], []⟩
def dd_round_steps : He.DefD := ⟨("round_steps", none), "round_steps", "round_steps", defArgs (top 126), defBody (top 126), defScope (top 126), [], []⟩
def dd_law_is_stacking : He.DefD := ⟨("_law_is_stacking", none), "_law_is_stacking", "_law_is_stacking", defArgs (top 136), defBody (top 136), defScope (top 136), [], []⟩
def dd_law_is_closed : He.DefD := ⟨("_law_is_closed", none), "_law_is_closed", "_law_is_closed", defArgs (top 137), defBody (top 137), defScope (top 137), [], []⟩
def dd_letter_further : He.DefD := ⟨("letter_further", none), "letter_further", "letter_further", defArgs (top 129), defBody (top 129), defScope (top 129), [], []⟩
def dd_certify_round : He.DefD := ⟨("certify_round", none), "certify_round", "certify_round", defArgs (top 98), defBody (top 98), defScope (top 98), [], []⟩
def dd_tells_steps : He.DefD := ⟨("tells_steps", none), "tells_steps", "tells_steps", defArgs (top 89), defBody (top 89), defScope (top 89), [], []⟩
def dd_is_claim : He.DefD := ⟨("is_claim", none), "is_claim", "is_claim", defArgs (top 96), defBody (top 96), defScope (top 96), [], []⟩
def dd_is_tuple_of : He.DefD := ⟨("is_tuple_of", none), "is_tuple_of", "is_tuple_of", defArgs (top 4), defBody (top 4), defScope (top 4), [], []⟩
def dd_is_nothing : He.DefD := ⟨("is_nothing", none), "is_nothing", "is_nothing", defArgs (top 100), defBody (top 100), defScope (top 100), [], []⟩
def dd_shows_round : He.DefD := ⟨("shows_round", none), "shows_round", "shows_round", defArgs (top 101), defBody (top 101), defScope (top 101), [], []⟩
def dd_shows_not_round : He.DefD := ⟨("shows_not_round", none), "shows_not_round", "shows_not_round", defArgs (top 102), defBody (top 102), defScope (top 102), [], []⟩
def dd_accepts : He.DefD := ⟨("accepts", none), "accepts", "accepts", defArgs (top 117), defBody (top 117), defScope (top 117), [], []⟩
def dd_law_is_whole : He.DefD := ⟨("_law_is_whole", none), "_law_is_whole", "_law_is_whole", defArgs (top 135), defBody (top 135), defScope (top 135), [], []⟩
def dd_law_steps_right : He.DefD := ⟨("_law_steps_right", none), "_law_steps_right", "_law_steps_right", defArgs (top 144), defBody (top 144), defScope (top 144), [], []⟩
def dd_law_next : He.DefD := ⟨("_law_next", none), "_law_next", "_law_next", defArgs (top 146), defBody (top 146), defScope (top 146), [], []⟩
def dd_are_marks : He.DefD := ⟨("are_marks", none), "are_marks", "are_marks", defArgs (top 78), defBody (top 78), defScope (top 78), [], []⟩
def dd_check_marks : He.DefD := ⟨("check_marks", none), "check_marks", "check_marks", defArgs (top 120), defBody (top 120), defScope (top 120), [], []⟩
def dd_other_step : He.DefD := ⟨("other_step", none), "other_step", "other_step", defArgs (top 22), defBody (top 22), defScope (top 22), [], []⟩
def dd_steps_of_marks : He.DefD := ⟨("steps_of_marks", none), "steps_of_marks", "steps_of_marks", defArgs (top 82), defBody (top 82), defScope (top 82), [], []⟩
def dd_unrolled_count_of : He.DefD := ⟨("unrolled_count_of", none), "unrolled_count_of", "unrolled_count_of", defArgs (top 83), defBody (top 83), defScope (top 83), [], []⟩
def dd_unrolled_by : He.DefD := ⟨("unrolled_by", none), "unrolled_by", "unrolled_by", defArgs (top 84), defBody (top 84), defScope (top 84), [], []⟩
def dd_unrolled : He.DefD := ⟨("unrolled", none), "unrolled", "unrolled", defArgs (top 122), defBody (top 122), defScope (top 122), [], []⟩
def dd_unrolled_count : He.DefD := ⟨("unrolled_count", none), "unrolled_count", "unrolled_count", defArgs (top 123), defBody (top 123), defScope (top 123), [], []⟩
def dd_marks_between : He.DefD := ⟨("marks_between", none), "marks_between", "marks_between", defArgs (top 79), defBody (top 79), defScope (top 79), [], []⟩
def dd_round_marks_by : He.DefD := ⟨("round_marks_by", none), "round_marks_by", "round_marks_by", defArgs (top 80), defBody (top 80), defScope (top 80), [], []⟩
def dd_round_marks : He.DefD := ⟨("round_marks", none), "round_marks", "round_marks", defArgs (top 121), defBody (top 121), defScope (top 121), [], []⟩
def dd_h_count_of : He.DefD := ⟨("h_count_of", none), "h_count_of", "h_count_of", defArgs (top 81), defBody (top 81), defScope (top 81), [], []⟩
def dd_h_count : He.DefD := ⟨("h_count", none), "h_count", "h_count", defArgs (top 124), defBody (top 124), defScope (top 124), [], []⟩
def dd_law_unrolled_right : He.DefD := ⟨("_law_unrolled_right", none), "_law_unrolled_right", "_law_unrolled_right", defArgs (top 145), defBody (top 145), defScope (top 145), [], []⟩
def dd_law : He.DefD := ⟨("law", none), "law", "law", defArgs (top 147), defBody (top 147), defScope (top 147), [], []⟩
def fn0 : List He.DefD := [dd_law_bag, dd_law_draw, dd_law_one, dd_law_further, dd_law_by, dd_law_stacking, dd_law_closed, dd_law_steps, dd_law_round_steps, dd_is_text_of, dd_is_whole, dd_is_between, dd_is_layer_number, dd_is_stepped, dd_check_steps, dd_worth, dd_sum_of, dd_do_go_round, dd_goes_round, dd_law_same, dd_is_letter, dd_check_letter, dd_number_of, dd_further, dd_led_by, dd_stacking_by, dd_is_stacked, dd_is_closed_one, dd_check_closed, dd_step_between, dd_steps_by, dd_round_steps_by, dd_round_steps, dd_law_is_stacking, dd_law_is_closed, dd_letter_further, dd_certify_round, dd_tells_steps, dd_is_claim, dd_is_tuple_of]
def fn1 : List He.DefD := [dd_is_nothing, dd_shows_round, dd_shows_not_round, dd_accepts, dd_law_is_whole, dd_law_steps_right, dd_law_next, dd_are_marks, dd_check_marks, dd_other_step, dd_steps_of_marks, dd_unrolled_count_of, dd_unrolled_by, dd_unrolled, dd_unrolled_count, dd_marks_between, dd_round_marks_by, dd_round_marks, dd_h_count_of, dd_h_count, dd_law_unrolled_right, dd_law]
def fn : List He.DefD := fn0 ++ fn1
def fa0 : List He.Fa := [.glo "_law_bag", .glo "_law_draw", .glo "_law_one", .glo "_law_further", .glo "_law_by", .glo "_law_stacking", .glo "_law_closed", .glo "_law_steps", .glo "_law_round_steps", .glo "is_text_of", .glo "is_whole", .glo "is_between", .glo "is_layer_number", .glo "is_stepped", .glo "check_steps", .glo "worth", .glo "sum_of", .glo "do_go_round", .glo "goes_round", .glo "_law_same", .glo "is_letter", .glo "check_letter", .glo "number_of", .glo "further", .glo "led_by", .glo "stacking_by", .glo "is_stacked", .glo "is_closed_one", .glo "check_closed", .glo "step_between", .glo "steps_by", .glo "round_steps_by", .glo "round_steps", .glo "_law_is_stacking", .glo "_law_is_closed", .glo "letter_further", .glo "certify_round", .glo "tells_steps", .glo "is_claim", .glo "is_tuple_of"]
def fa1 : List He.Fa := [.glo "is_nothing", .glo "shows_round", .glo "shows_not_round", .glo "accepts", .glo "_law_is_whole", .glo "_law_steps_right", .glo "_law_next", .glo "are_marks", .glo "check_marks", .glo "other_step", .glo "steps_of_marks", .glo "unrolled_count_of", .glo "unrolled_by", .glo "unrolled", .glo "unrolled_count", .glo "marks_between", .glo "round_marks_by", .glo "round_marks", .glo "h_count_of", .glo "h_count", .glo "_law_unrolled_right", .glo "law", .glo "FORMS", .glo "OF_ONE", .glo "OF_TWO", .free "abs", .free "all", .free "any", .free "bool", .free "divmod", .free "enumerate", .free "int", .free "isinstance", .free "len", .free "list", .free "max", .free "min", .free "range", .free "str", .free "sum"]
def fa2 : List He.Fa := [.free "tuple", .free "zip", .str "C" "c", .str "DOWN" "-", .str "H" "h", .str "LETTERS" "ABC", .int "LONGEST_UNROLLED" 8, .str "MARKS" "hc", .int "MOST_LAYERS" 24, .str "STEPS" "+-", .str "UP" "+"]
def fa : List He.Fa := fa0 ++ fa1 ++ fa2
def loose0 : List PySem.Str := [("__name__" : PySem.Str), ("is_whole" : PySem.Str), ("is_between" : PySem.Str), ("is_tuple_of" : PySem.Str), ("are_wholes" : PySem.Str), ("is_text_of" : PySem.Str), ("LETTERS" : PySem.Str), ("UP" : PySem.Str), ("DOWN" : PySem.Str), ("STEPS" : PySem.Str), ("MOST_LAYERS" : PySem.Str), ("is_layer_number" : PySem.Str), ("is_letter" : PySem.Str), ("is_stacked" : PySem.Str), ("is_closed_one" : PySem.Str), ("is_stepped" : PySem.Str), ("number_of" : PySem.Str), ("further" : PySem.Str), ("worth" : PySem.Str), ("sum_of" : PySem.Str), ("other_step" : PySem.Str), ("step_between" : PySem.Str), ("steps_by" : PySem.Str), ("round_steps_by" : PySem.Str), ("led_by" : PySem.Str), ("do_go_round" : PySem.Str), ("others_than" : PySem.Str), ("all_stackings" : PySem.Str), ("all_closed" : PySem.Str), ("periods_of" : PySem.Str), ("is_own_by" : PySem.Str), ("GREATEST" : PySem.Str), ("is_rule" : PySem.Str), ("row_cost" : PySem.Str), ("cost_by" : PySem.Str), ("least_by" : PySem.Str), ("least_cost_by" : PySem.Str), ("BallError" : PySem.Str), ("InvalidClosed" : PySem.Str), ("InvalidNumber" : PySem.Str)]
def loose1 : List PySem.Str := [("InvalidSteps" : PySem.Str), ("InvalidMarks" : PySem.Str), ("InvalidLetter" : PySem.Str), ("DoesNotFit" : PySem.Str), ("check_closed" : PySem.Str), ("check_steps" : PySem.Str), ("check_letter" : PySem.Str), ("count_triple" : PySem.Str), ("layer_counts_by" : PySem.Str), ("exchanged_triples" : PySem.Str), ("first_unlike" : PySem.Str), ("unlike_places_by" : PySem.Str), ("are_unlike_at" : PySem.Str), ("have_like_counts_by" : PySem.Str), ("are_names" : PySem.Str), ("is_motion_of" : PySem.Str), ("renamed_by" : PySem.Str), ("moved_by" : PySem.Str), ("motions_of" : PySem.Str), ("all_moved" : PySem.Str), ("all_alike" : PySem.Str), ("are_alike_by" : PySem.Str), ("both_ways" : PySem.Str), ("reads_alike" : PySem.Str), ("mirrors_by" : PySem.Str), ("H" : PySem.Str), ("C" : PySem.Str), ("MARKS" : PySem.Str), ("are_marks" : PySem.Str), ("marks_between" : PySem.Str), ("round_marks_by" : PySem.Str), ("h_count_of" : PySem.Str), ("steps_of_marks" : PySem.Str), ("unrolled_count_of" : PySem.Str), ("unrolled_by" : PySem.Str), ("slip_gaps_by" : PySem.Str), ("MOST_LEAST" : PySem.Str), ("tells_steps" : PySem.Str), ("tells_closed" : PySem.Str), ("tells_two_closed" : PySem.Str)]
def loose2 : List PySem.Str := [("tells_slips" : PySem.Str), ("tells_cost" : PySem.Str), ("tells_small_cost" : PySem.Str), ("FORMS" : PySem.Str), ("is_claim" : PySem.Str), ("certify_round" : PySem.Str), ("is_nothing" : PySem.Str), ("shows_round" : PySem.Str), ("shows_not_round" : PySem.Str), ("shows_alike" : PySem.Str), ("shows_not_alike" : PySem.Str), ("shows_slips" : PySem.Str), ("shows_like_counts" : PySem.Str), ("shows_unlike_counts" : PySem.Str), ("shows_mirror" : PySem.Str), ("shows_no_mirror" : PySem.Str), ("shows_least" : PySem.Str), ("shows_not_least" : PySem.Str), ("shows_own" : PySem.Str), ("shows_again" : PySem.Str), ("OF_ONE" : PySem.Str), ("OF_TWO" : PySem.Str), ("accepts" : PySem.Str), ("LONGEST_UNROLLED" : PySem.Str), ("check_marks" : PySem.Str), ("round_marks" : PySem.Str), ("unrolled" : PySem.Str), ("unrolled_count" : PySem.Str), ("h_count" : PySem.Str), ("round_steps" : PySem.Str), ("stacking_by" : PySem.Str), ("goes_round" : PySem.Str), ("letter_further" : PySem.Str), ("_law_bag" : PySem.Str), ("_law_draw" : PySem.Str), ("_law_one" : PySem.Str), ("_law_same" : PySem.Str), ("_law_is_whole" : PySem.Str), ("_law_is_stacking" : PySem.Str), ("_law_is_closed" : PySem.Str)]
def loose3 : List PySem.Str := [("_law_further" : PySem.Str), ("_law_steps" : PySem.Str), ("_law_round_steps" : PySem.Str), ("_law_by" : PySem.Str), ("_law_stacking" : PySem.Str), ("_law_closed" : PySem.Str), ("_law_steps_right" : PySem.Str), ("_law_unrolled_right" : PySem.Str), ("_law_next" : PySem.Str)]
def loose : List PySem.Str := loose0 ++ loose1 ++ loose2 ++ loose3
def ex (K : PySem.W.Frag) : Bool := tupIn K "FORMS" "round" [.int 1, .ref (He.ga K "tells_steps")] && tupIn K "FORMS" "not round" [.int 1, .ref (He.ga K "tells_steps")] && He.eqO (PySem.W.nsIn K (He.ga K "OF_ONE") "round") (some (some (.ref (He.ga K "shows_round")))) && He.eqO (PySem.W.nsIn K (He.ga K "OF_ONE") "not round") (some (some (.ref (He.ga K "shows_not_round"))))
def ts : List He.Tab := [(fun K => He.ga K "FORMS", ["round", "not round", "alike", "not alike", "slips", "like counts", "unlike counts", "mirror", "no mirror", "least", "not least", "own", "again"]), (fun K => He.ga K "OF_ONE", ["round", "not round", "mirror", "no mirror", "own", "again"]), (fun K => He.ga K "OF_TWO", ["alike", "not alike", "like counts", "unlike counts", "least", "not least"])]
abbrev R : PySem.W.OpenRow := PySem.W.OpenLaw.row PySem.Challenge.rw_layerballs_k90_whole_round_claims
abbrev hk : PySem.W.Hook := He.hookX 2 fa fn ts [] ex
def ob (s : PySem.W.SharedT) : He.AlX := He.obsX 2 fa fn ts [] ex (HandSHeadRun.getT s)
theorem ob_eq (s : PySem.W.SharedT) : ob s = hk.obs s.abs := He.obsX_eq (HandSHeadRun.getT_eq s)
theorem map3 {α β γ δ : Type} (o : Option α) (f : α → β) (g : α → γ) (h : α → δ) {b : β} {c : γ} {d : δ} (e1 : o.map (fun x => (f x, g x)) = some (b, c)) (e2 : o.map h = some d) : o.map (fun x => (f x, g x, h x)) = some (b, c, d) := by
  cases o with
  | none => cases e1
  | some x =>
    have h1 := Option.some.inj e1
    have h2 := Option.some.inj e2
    obtain ⟨h3, h4⟩ := Prod.mk.inj h1
    subst h3 h4 h2
    rfl
theorem runf1 (w : World) : (HandSHeadRun.wholeF (fun p => HandSHeadRun.stepQ (HandSHeadRun.denQ HandSHeadRun.tabQ) p (w.withFollow "special-get-raises" false)) HandSHeadRun.fenceQ 8000 R.prog).map (fun x => (HandSHeadRun.looksF R.prog x.1.heap x.2.abs, HandSHeadRun.seenQ (PySem.W.view R.prog [0, 147]) loose (PySem.importedModules R.prog.main.body) (fun s => PySem.W.xlAt (PySem.W.view R.prog [0, 147]) [] s && PySem.W.recOk R.toRowW.records s) x.2.abs)) = some (true, PySem.W.openGood (PySem.W.view R.prog [0, 147]) loose) := by kernel_rfl
theorem runf2 (w : World) : (HandSHeadRun.wholeF (fun p => HandSHeadRun.stepQ (HandSHeadRun.denQ HandSHeadRun.tabQ) p (w.withFollow "special-get-raises" false)) HandSHeadRun.fenceQ 8000 R.prog).map (fun x => ob x.2) = some (hk.val (w.withFollow "special-get-raises" false)) := by kernel_rfl
theorem runf (w : World) : HandSHeadRun.RunEqI R (PySem.W.view R.prog [0, 147]) hk ob 8000 loose (w.withFollow "special-get-raises" false) := by
  unfold HandSHeadRun.RunEqI
  exact map3 _ _ _ _ (runf1 w) (runf2 w)
theorem runt1 (w : World) : (HandSHeadRun.wholeF (fun p => HandSHeadRun.stepQ (HandSHeadRun.denQ HandSHeadRun.tabQ) p (w.withFollow "special-get-raises" true)) HandSHeadRun.fenceQ 8000 R.prog).map (fun x => (HandSHeadRun.looksF R.prog x.1.heap x.2.abs, HandSHeadRun.seenQ (PySem.W.view R.prog [0, 147]) loose (PySem.importedModules R.prog.main.body) (fun s => PySem.W.xlAt (PySem.W.view R.prog [0, 147]) [] s && PySem.W.recOk R.toRowW.records s) x.2.abs)) = some (true, PySem.W.openGood (PySem.W.view R.prog [0, 147]) loose) := by kernel_rfl
theorem runt2 (w : World) : (HandSHeadRun.wholeF (fun p => HandSHeadRun.stepQ (HandSHeadRun.denQ HandSHeadRun.tabQ) p (w.withFollow "special-get-raises" true)) HandSHeadRun.fenceQ 8000 R.prog).map (fun x => ob x.2) = some (hk.val (w.withFollow "special-get-raises" true)) := by kernel_rfl
theorem runt (w : World) : HandSHeadRun.RunEqI R (PySem.W.view R.prog [0, 147]) hk ob 8000 loose (w.withFollow "special-get-raises" true) := by
  unfold HandSHeadRun.RunEqI
  exact map3 _ _ _ _ (runt1 w) (runt2 w)
theorem run (w : World) : HandSHeadRun.RunEqI R (PySem.W.view R.prog [0, 147]) hk ob 8000 loose w := PySem.W.byRow2 "special-get-raises" (P := fun w => HandSHeadRun.RunEqI R (PySem.W.view R.prog [0, 147]) hk ob 8000 loose w) runf runt w
end Hd

/-! Pv: Python's defs as functions on plain values, over HandS. -/
namespace Pv
open PySem PySem.Spec PyProof.Rows L2

/-! ### plain values, the store, results -/
inductive PV where
  | non | bl (b : Bool) | int (i : Int) | str (x : List Nat) | tup (xs : List PV) | lst (xs : List PV) | scr (ns : List Int) | ref (n : Nat)
inductive SO where
  | lst (xs : List PV)
abbrev Sto := List SO
abbrev VEnv := List (Option PV)
inductive R (α : Type) where
  | ok (a : α) (S : Sto)
  | no
/-- go on behind a result -/
def R.to {α ρ : Type} (z : ρ) (r : R α) (k : α → Sto → ρ) : ρ := match r with
  | .ok a S => k a S
  | .no => z
theorem to_ok {α ρ : Type} (z : ρ) (a : α) (S : Sto) (k : α → Sto → ρ) : (R.ok a S).to z k = k a S := rfl
theorem to_no {α ρ : Type} (z : ρ) (k : α → Sto → ρ) : (R.no : R α).to z k = z := rfl
abbrev R.bind {α β : Type} (r : R α) (k : α → Sto → R β) : R β := r.to R.no k
inductive RS where
  | nx (env : VEnv) (S : Sto)
  | ret (v : PV) (S : Sto)
  | no
abbrev R.bindS {α : Type} (r : R α) (k : α → Sto → RS) : RS := r.to RS.no k
def SZ : Nat := 16777216
theorem SZ_eq : SZ = sizeLine := by rw [sizeLine_eq]; rfl

/-! ### what stands for what -/
section
variable (K : PySem.W.Frag)
/-- a list, a tuple that stays as it is -/
def FzT (g : List Addr) (H : Hp) (a : Addr) (vs : List V) : Prop := (Rd H a (.tup vs) ∧ a ∉ g) ∨ SqT K (fun _ => none) a vs
def FzS (g : List Addr) (H : Hp) (a : Addr) (ns : List Int) : Prop := (Rd H a (.lst (ns.map V.int)) ∧ a ∉ g) ∨ SqL K (fun _ => none) a (ns.map V.int)
def FzL (g : List Addr) (H : Hp) (a : Addr) (vs : List V) : Prop := H a = some (.lst vs) ∧ a ∉ g
mutual
inductive RepP (g : List Addr) (H : Hp) : V → PV → Prop
  | non : RepP g H .non .non
  | bl (b : Bool) : RepP g H (.bl b) (.bl b)
  | int (i : Int) : RepP g H (.int i) (.int i)
  | str (x : Str) (l : List Nat) (e : x.cps.toList = l) (hz : l.length ≤ SZ) (ho : ∀ c ∈ l, c < 1114112) : RepP g H (.str x) (.str l)
  | tup {a : Addr} {vs : List V} {xs : List PV} (h : FzT K g H a vs) (r : RepsP g H vs xs) : RepP g H (.ref a) (.tup xs)
  | lst {a : Addr} {vs : List V} {xs : List PV} (h : FzL g H a vs) (r : RepsP g H vs xs) : RepP g H (.ref a) (.lst xs)
  | scr {a : Addr} {ns : List Int} (h : FzS K g H a ns) : RepP g H (.ref a) (.scr ns)
inductive RepsP (g : List Addr) (H : Hp) : List V → List PV → Prop
  | nil : RepsP g H [] []
  | cons {v : V} {x : PV} {vs : List V} {xs : List PV} (h : RepP g H v x) (t : RepsP g H vs xs) : RepsP g H (v :: vs) (x :: xs)
end
inductive Rep (m g : List Addr) (H : Hp) : V → PV → Prop
  | p {v : V} {x : PV} (h : RepP K g H v x) : Rep m g H v x
  | r {n : Nat} {a : Addr} (h : m[n]? = some a) : Rep m g H (.ref a) (.ref n)
inductive Reps (m g : List Addr) (H : Hp) : List V → List PV → Prop
  | nil : Reps m g H [] []
  | cons {v : V} {x : PV} {vs : List V} {xs : List PV} (h : Rep K m g H v x) (t : Reps m g H vs xs) : Reps m g H (v :: vs) (x :: xs)
def CellOk (g : List Addr) (H : Hp) (a : Addr) : SO → Prop
  | .lst xs => ∃ vs, H a = some (.lst vs) ∧ RepsP K g H vs xs
structure StOk (m g : List Addr) (H : Hp) (S : Sto) : Prop where
  len : m.length = S.length
  nd : m.Nodup
  sub : ∀ a ∈ m, a ∈ g
  live : ∀ a ∈ g, H a ≠ none
  cell : ∀ (n : Nat) (a : Addr) (o : SO), m[n]? = some a → S[n]? = some o → CellOk K g H a o
structure EnvOk (m g : List Addr) (H : Hp) (σ : L2.St) (env : VEnv) : Prop where
  len : σ.length = env.length
  at_ : ∀ (i : Nat) (x : PV), env[i]? = some (some x) → ∃ v, σ[i]? = some (some v) ∧ Rep K m g H v x
end
/-- later worlds -/
structure Nx (m g : List Addr) (H : Hp) (m' g' : List Addr) (H' : Hp) : Prop where
  ext : ∀ a o, H a = some o → a ∉ m → H' a = some o
  free : ∀ a, H' a = none → H a = none
  app : ∃ new, m' = m ++ new ∧ ∀ a ∈ new, H a = none
  gs : ∀ a, a ∈ g → a ∈ g'
  gn : ∀ a, a ∈ g' → a ∈ g ∨ H a = none
theorem Nx.refl {m g : List Addr} {H : Hp} : Nx m g H m g H := ⟨fun _ _ e _ => e, fun _ e => e, ⟨[], by simp⟩, fun _ h => h, fun _ h => .inl h⟩
section
variable {K : PySem.W.Frag} {m g m' g' m2 g2 : List Addr} {H H' H2 : Hp} {S S' : Sto}
theorem Nx.trans (a : Nx m g H m' g' H') (b : Nx m' g' H' m2 g2 H2) : Nx m g H m2 g2 H2 := by
  obtain ⟨n1, e1, f1⟩ := a.app
  obtain ⟨n2, e2, f2⟩ := b.app
  refine ⟨fun c o e hm => b.ext c o (a.ext c o e hm) fun hc => ?_, fun c e => a.free c (b.free c e), ⟨n1 ++ n2, by rw [e2, e1, List.append_assoc], fun c hc => ?_⟩, fun c h => b.gs c (a.gs c h), fun c h => ?_⟩
  · rw [e1] at hc
    rcases List.mem_append.mp hc with z | z
    · exact hm z
    · rw [f1 c z] at e; cases e
  · rcases List.mem_append.mp hc with z | z
    · exact f1 c z
    · exact a.free c (f2 c z)
  · rcases b.gn c h with q | q
    · exact a.gn c q
    · exact .inr (a.free c q)
/-- what is needed to carry a plain value on -/
structure Kp (g : List Addr) (H : Hp) (g' : List Addr) (H' : Hp) : Prop where
  ext : ∀ a o, H a = some o → a ∉ g → H' a = some o
  gn : ∀ a, a ∈ g' → a ∈ g ∨ H a = none
theorem Nx.kp (a : Nx m g H m' g' H') (sub : ∀ c ∈ m, c ∈ g) : Kp g H g' H' := ⟨fun c o e h => a.ext c o e fun z => h (sub c z), a.gn⟩
theorem Kp.rd {a : Addr} {o : HO} (k : Kp g H g' H') (h : Rd H a o ∧ a ∉ g) : Rd H' a o ∧ a ∉ g' := by
  obtain ⟨h, n⟩ := h
  refine ⟨?_, fun z => ?_⟩
  · rcases h with h | ⟨o', h⟩
    · exact .inl (k.ext a _ h n)
    · exact .inr ⟨o', k.ext a _ h n⟩
  · rcases k.gn a z with q | q
    · exact n q
    · rcases h with h | ⟨o', h⟩ <;> (rw [q] at h; cases h)
theorem FzT.mono {a : Addr} {vs : List V} (k : Kp g H g' H') (h : FzT K g H a vs) : FzT K g' H' a vs := h.imp k.rd id
theorem FzL.mono {a : Addr} {vs : List V} (k : Kp g H g' H') (h : FzL g H a vs) : FzL g' H' a vs := by
  obtain ⟨h, n⟩ := h
  have q := k.rd ⟨.inl h, n⟩
  exact ⟨k.ext a _ h n, q.2⟩
theorem FzT.sq {a : Addr} {vs : List V} (h : FzT K g H a vs) : SqT K H a vs := by
  rcases h with ⟨h, _⟩ | h
  · exact .inl h
  · rcases h with h | h
    · rcases h with h | ⟨_, h⟩ <;> cases h
    · exact .inr h
theorem FzS.sq {a : Addr} {ns : List Int} (h : FzS K g H a ns) : SqL K H a (ns.map V.int) := by
  rcases h with ⟨h, _⟩ | h
  · exact .inl h
  · rcases h with h | h
    · rcases h with h | ⟨_, h⟩ <;> cases h
    · exact .inr h
mutual
theorem RepP.mono (k : Kp g H g' H') : ∀ {v : V} {x : PV}, RepP K g H v x → RepP K g' H' v x
  | _, _, .non => .non
  | _, _, .bl b => .bl b
  | _, _, .int i => .int i
  | _, _, .str x l e hz ho => .str x l e hz ho
  | _, _, .tup h r => .tup (h.mono k) (RepsP.mono k r)
  | _, _, .lst h r => .lst (h.mono k) (RepsP.mono k r)
  | _, _, .scr h => .scr (h.imp k.rd id)
theorem RepsP.mono (k : Kp g H g' H') : ∀ {vs : List V} {xs : List PV}, RepsP K g H vs xs → RepsP K g' H' vs xs
  | _, _, .nil => .nil
  | _, _, .cons h t => .cons (RepP.mono k h) (RepsP.mono k t)
end
theorem Rep.mono (a : Nx m g H m' g' H') (sub : ∀ c ∈ m, c ∈ g) {v : V} {x : PV} (h : Rep K m g H v x) : Rep K m' g' H' v x := by
  cases h with
  | p h => exact .p (h.mono (a.kp sub))
  | r h =>
    obtain ⟨new, e, _⟩ := a.app
    refine .r ?_
    rw [e, List.getElem?_append_left (List.getElem?_eq_some_iff.mp h).1]
    exact h
theorem Reps.mono (a : Nx m g H m' g' H') (sub : ∀ c ∈ m, c ∈ g) : ∀ {vs : List V} {xs : List PV}, Reps K m g H vs xs → Reps K m' g' H' vs xs
  | _, _, .nil => .nil
  | _, _, .cons h t => .cons (h.mono a sub) (Reps.mono a sub t)
theorem EnvOk.mono (a : Nx m g H m' g' H') (sub : ∀ c ∈ m, c ∈ g) {σ : L2.St} {env : VEnv} (h : EnvOk K m g H σ env) : EnvOk K m' g' H' σ env :=
  ⟨h.len, fun i x e => let ⟨v, e1, r⟩ := h.at_ i x e; ⟨v, e1, r.mono a sub⟩⟩
theorem Reps.length : ∀ {vs : List V} {xs : List PV}, Reps K m g H vs xs → vs.length = xs.length
  | _, _, .nil => rfl
  | _, _, .cons _ t => congrArg Nat.succ t.length
theorem RepsP.length : ∀ {vs : List V} {xs : List PV}, RepsP K g H vs xs → vs.length = xs.length
  | _, _, .nil => rfl
  | _, _, .cons _ t => congrArg Nat.succ t.length
theorem EnvOk.set {σ : L2.St} {env : VEnv} (h : EnvOk K m g H σ env) {v : V} {x : PV} (r : Rep K m g H v x) (i : Nat) : EnvOk K m g H (σ.set i (some v)) (env.set i (some x)) := by
  refine ⟨by simp [h.len], fun j y e => ?_⟩
  by_cases hj : i = j
  · subst hj
    by_cases hl : i < env.length
    · rw [List.getElem?_set_self hl] at e
      cases e
      exact ⟨v, by rw [List.getElem?_set_self (by rw [h.len]; exact hl)], r⟩
    · rw [List.getElem?_eq_none (by simpa using hl)] at e; cases e
  · rw [List.getElem?_set_ne hj] at e ⊢
    exact h.at_ j y e

/-! ### what is wanted of a result -/
def PostV (K : PySem.W.Frag) (m g : List Addr) (H : Hp) (r : R PV) (Q : V → Hp → Prop) : Prop := match r with
  | .ok x S' => ∀ v m' g' H', Nx m g H m' g' H' → StOk K m' g' H' S' → Rep K m' g' H' v x → Q v H'
  | .no => False
def PostL (K : PySem.W.Frag) (m g : List Addr) (H : Hp) (r : R (List PV)) (Q : List V → Hp → Prop) : Prop := match r with
  | .ok xs S' => ∀ vs m' g' H', Nx m g H m' g' H' → StOk K m' g' H' S' → Reps K m' g' H' vs xs → Q vs H'
  | .no => False
def PostB (K : PySem.W.Frag) (m g : List Addr) (H : Hp) (r : R Bool) (Q : Bool → Hp → Prop) : Prop := match r with
  | .ok b S' => ∀ m' g' H', Nx m g H m' g' H' → StOk K m' g' H' S' → Q b H'
  | .no => False
def PostS (K : PySem.W.Frag) (m g : List Addr) (H : Hp) (r : RS) (D : Ends) : Prop := match r with
  | .nx env' S' => ∀ σ' m' g' H', Nx m g H m' g' H' → StOk K m' g' H' S' → EnvOk K m' g' H' σ' env' → D.nx σ' H'
  | .ret x S' => ∀ v m' g' H', Nx m g H m' g' H' → StOk K m' g' H' S' → Rep K m' g' H' v x → D.rt v H'
  | .no => False
theorem PostV.mono {r : R PV} {Q : V → Hp → Prop} (h : PostV K m g H r Q) (a : Nx m g H m' g' H') : PostV K m' g' H' r Q := by
  cases r with
  | ok x S' => exact fun v m2 g2 H2 b so rp => h v m2 g2 H2 (a.trans b) so rp
  | no => exact h
theorem PostL.mono {r : R (List PV)} {Q : List V → Hp → Prop} (h : PostL K m g H r Q) (a : Nx m g H m' g' H') : PostL K m' g' H' r Q := by
  cases r with
  | ok x S' => exact fun v m2 g2 H2 b so rp => h v m2 g2 H2 (a.trans b) so rp
  | no => exact h
theorem PostB.mono {r : R Bool} {Q : Bool → Hp → Prop} (h : PostB K m g H r Q) (a : Nx m g H m' g' H') : PostB K m' g' H' r Q := by
  cases r with
  | ok x S' => exact fun m2 g2 H2 b so => h m2 g2 H2 (a.trans b) so
  | no => exact h
theorem PostS.mono {r : RS} {D : Ends} (h : PostS K m g H r D) (a : Nx m g H m' g' H') : PostS K m' g' H' r D := by
  cases r with
  | nx x S' => exact fun v m2 g2 H2 b so rp => h v m2 g2 H2 (a.trans b) so rp
  | ret x S' => exact fun v m2 g2 H2 b so rp => h v m2 g2 H2 (a.trans b) so rp
  | no => exact h
end

/-! ### readings -/
abbrev FE := VEnv → Sto → R PV
abbrev FT := VEnv → Sto → R Bool
abbrev FA := VEnv → Sto → R (List PV)
abbrev FS := VEnv → Sto → RS
def tO (K : PySem.W.Frag) (f : FE) : TE := fun σ H Q => ∃ m g S env, StOk K m g H S ∧ EnvOk K m g H σ env ∧ PostV K m g H (f env S) Q
def tT (K : PySem.W.Frag) (f : FT) : TT := fun σ H Q => ∃ m g S env, StOk K m g H S ∧ EnvOk K m g H σ env ∧ PostB K m g H (f env S) Q
def tA (K : PySem.W.Frag) (f : FA) : TA := fun σ H Q => ∃ m g S env, StOk K m g H S ∧ EnvOk K m g H σ env ∧ PostL K m g H (f env S) Q
def tS (K : PySem.W.Frag) (f : FS) : TS := fun D σ H => ∃ m g S env, StOk K m g H S ∧ EnvOk K m g H σ env ∧ PostS K m g H (f env S) D
/-- an expression, a test, arguments, a statement, a block reads so -/
def SE (X : Cx) (e : Expr) (f : FE) : Prop := PE X e (tO X.K f)
def ST (X : Cx) (e : Expr) (f : FT) : Prop := PT X e (tT X.K f)
def SW (X : Cx) (e : Expr) (f : FT) : Prop := PW X e (tT X.K f)
def SA (X : Cx) (es : List Expr) (f : FA) : Prop := PA X es (tA X.K f)
def SS (X : Cx) (st : Stmt) (f : FS) : Prop := PS X st (tS X.K f)
def SSs (X : Cx) (st : List Stmt) (f : FS) : Prop := PSs X st (tS X.K f)
theorem imE {X : Cx} {e : Expr} {t t' : TE} (h : PE X e t) (w : ∀ σ H Q, t' σ H Q → t σ H Q) : PE X e t' := ⟨fun pins s σ H Q I q => h.run pins s σ H Q I (w σ H Q q)⟩
theorem imT {X : Cx} {e : Expr} {t t' : TT} (h : PT X e t) (w : ∀ σ H Q, t' σ H Q → t σ H Q) : PT X e t' := ⟨fun pins s σ H Q I q => h.run pins s σ H Q I (w σ H Q q)⟩
theorem imW {X : Cx} {e : Expr} {t t' : TT} (h : PW X e t) (w : ∀ σ H Q, t' σ H Q → t σ H Q) : PW X e t' := ⟨fun wh pins s σ H Q I q => h.run wh pins s σ H Q I (w σ H Q q)⟩
theorem imA {X : Cx} {es : List Expr} {t t' : TA} (h : PA X es t) (w : ∀ σ H Q, t' σ H Q → t σ H Q) : PA X es t' := ⟨fun pos pins s σ H Q I q => h.run pos pins s σ H Q I (w σ H Q q)⟩
theorem imS {X : Cx} {st : Stmt} {t t' : TS} (h : PS X st t) (w : ∀ D σ H, t' D σ H → t D σ H) : PS X st t' := ⟨fun pins s σ H D I q => h.run pins s σ H D I (w D σ H q)⟩
theorem imSs {X : Cx} {st : List Stmt} {t t' : TS} (h : PSs X st t) (w : ∀ D σ H, t' D σ H → t D σ H) : PSs X st t' := ⟨fun pins s σ H D I q => h.run pins s σ H D I (w D σ H q)⟩

/-! ### one part behind another -/
section
variable {K : PySem.W.Frag} {m g : List Addr} {H : Hp} {S : Sto} {env : VEnv} {σ : L2.St}
/-- an expression, then whatever goes on -/
theorem seqV {ρ : Type} {z : ρ} {f : FE} {k : PV → Sto → ρ} {P : List Addr → List Addr → Hp → ρ → Prop} (hno : ∀ m g H, ¬ P m g H z) (hm : ∀ {m g H m' g' H'} {r : ρ}, P m g H r → Nx m g H m' g' H' → P m' g' H' r)
    (so : StOk K m g H S) (eo : EnvOk K m g H σ env) (h : P m g H ((f env S).to z k)) {Q : V → Hp → Prop}
    (go : ∀ x S' v m' g' H', Nx m g H m' g' H' → StOk K m' g' H' S' → EnvOk K m' g' H' σ env → Rep K m' g' H' v x → P m' g' H' (k x S') → Q v H') : tO K f σ H Q := by
  refine ⟨m, g, S, env, so, eo, ?_⟩
  unfold PostV
  cases e : f env S with
  | ok x S' =>
    rw [e] at h
    exact fun v m' g' H' nx so' r => go x S' v m' g' H' nx so' (eo.mono nx so.sub) r (hm h nx)
  | no =>
    rw [e] at h
    exact absurd h (hno m g H)
theorem seqB {ρ : Type} {z : ρ} {f : FT} {k : Bool → Sto → ρ} {P : List Addr → List Addr → Hp → ρ → Prop} (hno : ∀ m g H, ¬ P m g H z) (hm : ∀ {m g H m' g' H'} {r : ρ}, P m g H r → Nx m g H m' g' H' → P m' g' H' r)
    (so : StOk K m g H S) (eo : EnvOk K m g H σ env) (h : P m g H ((f env S).to z k)) {Q : Bool → Hp → Prop}
    (go : ∀ x S' m' g' H', Nx m g H m' g' H' → StOk K m' g' H' S' → EnvOk K m' g' H' σ env → P m' g' H' (k x S') → Q x H') : tT K f σ H Q := by
  refine ⟨m, g, S, env, so, eo, ?_⟩
  unfold PostB
  cases e : f env S with
  | ok x S' =>
    rw [e] at h
    exact fun m' g' H' nx so' => go x S' m' g' H' nx so' (eo.mono nx so.sub) (hm h nx)
  | no =>
    rw [e] at h
    exact absurd h (hno m g H)
theorem seqL {ρ : Type} {z : ρ} {f : FA} {k : List PV → Sto → ρ} {P : List Addr → List Addr → Hp → ρ → Prop} (hno : ∀ m g H, ¬ P m g H z) (hm : ∀ {m g H m' g' H'} {r : ρ}, P m g H r → Nx m g H m' g' H' → P m' g' H' r)
    (so : StOk K m g H S) (eo : EnvOk K m g H σ env) (h : P m g H ((f env S).to z k)) {Q : List V → Hp → Prop}
    (go : ∀ x S' v m' g' H', Nx m g H m' g' H' → StOk K m' g' H' S' → EnvOk K m' g' H' σ env → Reps K m' g' H' v x → P m' g' H' (k x S') → Q v H') : tA K f σ H Q := by
  refine ⟨m, g, S, env, so, eo, ?_⟩
  unfold PostL
  cases e : f env S with
  | ok x S' =>
    rw [e] at h
    exact fun v m' g' H' nx so' r => go x S' v m' g' H' nx so' (eo.mono nx so.sub) r (hm h nx)
  | no =>
    rw [e] at h
    exact absurd h (hno m g H)
end
/-- more wishes -/
def PostF (K : PySem.W.Frag) (m g : List Addr) (H : Hp) (r : R (List PV)) (Q : V → Hp → Prop) : Prop := match r with
  | .ok xs S' => ∀ p vs m' g' H', Nx m g H m' g' H' → p ∉ g' → p ∉ m' → H p = none → StOk K m' (p :: g') H' S' → H' p = some (.lst vs) → RepsP K (p :: g') H' vs xs → Q (.ref p) H'
  | .no => False
theorem PostF.mono {K : PySem.W.Frag} {m g m' g' : List Addr} {H H' : Hp} {r : R (List PV)} {Q : V → Hp → Prop} (h : PostF K m g H r Q) (a : Nx m g H m' g' H') : PostF K m' g' H' r Q := by
  cases r with
  | ok x S' => exact fun p vs m2 g2 H2 b np nm hp => h p vs m2 g2 H2 (a.trans b) np nm (a.free p hp)
  | no => exact h
section
variable {K : PySem.W.Frag} {m g : List Addr} {H : Hp} {S : Sto} {env : VEnv} {σ : L2.St}
theorem vV {f : FE} {k : PV → Sto → R PV} {W : V → Hp → Prop} (so : StOk K m g H S) (eo : EnvOk K m g H σ env) (h : PostV K m g H ((f env S).to R.no k) W) {Q : V → Hp → Prop} (go : ∀ x S' v m' g' H', Nx m g H m' g' H' → StOk K m' g' H' S' → EnvOk K m' g' H' σ env → Rep K m' g' H' v x → PostV K m' g' H' (k x S') W → Q v H') : tO K f σ H Q :=
  seqV (z := R.no) (P := fun m g H r => PostV K m g H r W) (fun _ _ _ h => h) (fun h a => PostV.mono h a) so eo h go
theorem vB {f : FE} {k : PV → Sto → R Bool} {W : Bool → Hp → Prop} (so : StOk K m g H S) (eo : EnvOk K m g H σ env) (h : PostB K m g H ((f env S).to R.no k) W) {Q : V → Hp → Prop} (go : ∀ x S' v m' g' H', Nx m g H m' g' H' → StOk K m' g' H' S' → EnvOk K m' g' H' σ env → Rep K m' g' H' v x → PostB K m' g' H' (k x S') W → Q v H') : tO K f σ H Q :=
  seqV (z := R.no) (P := fun m g H r => PostB K m g H r W) (fun _ _ _ h => h) (fun h a => PostB.mono h a) so eo h go
theorem vL {f : FE} {k : PV → Sto → R (List PV)} {W : List V → Hp → Prop} (so : StOk K m g H S) (eo : EnvOk K m g H σ env) (h : PostL K m g H ((f env S).to R.no k) W) {Q : V → Hp → Prop} (go : ∀ x S' v m' g' H', Nx m g H m' g' H' → StOk K m' g' H' S' → EnvOk K m' g' H' σ env → Rep K m' g' H' v x → PostL K m' g' H' (k x S') W → Q v H') : tO K f σ H Q :=
  seqV (z := R.no) (P := fun m g H r => PostL K m g H r W) (fun _ _ _ h => h) (fun h a => PostL.mono h a) so eo h go
theorem vF {f : FE} {k : PV → Sto → R (List PV)} {W : V → Hp → Prop} (so : StOk K m g H S) (eo : EnvOk K m g H σ env) (h : PostF K m g H ((f env S).to R.no k) W) {Q : V → Hp → Prop} (go : ∀ x S' v m' g' H', Nx m g H m' g' H' → StOk K m' g' H' S' → EnvOk K m' g' H' σ env → Rep K m' g' H' v x → PostF K m' g' H' (k x S') W → Q v H') : tO K f σ H Q :=
  seqV (z := R.no) (P := fun m g H r => PostF K m g H r W) (fun _ _ _ h => h) (fun h a => PostF.mono h a) so eo h go
theorem vS {f : FE} {k : PV → Sto → RS} {W : Ends} (so : StOk K m g H S) (eo : EnvOk K m g H σ env) (h : PostS K m g H ((f env S).to RS.no k) W) {Q : V → Hp → Prop} (go : ∀ x S' v m' g' H', Nx m g H m' g' H' → StOk K m' g' H' S' → EnvOk K m' g' H' σ env → Rep K m' g' H' v x → PostS K m' g' H' (k x S') W → Q v H') : tO K f σ H Q :=
  seqV (z := RS.no) (P := fun m g H r => PostS K m g H r W) (fun _ _ _ h => h) (fun h a => PostS.mono h a) so eo h go
theorem bV {f : FT} {k : Bool → Sto → R PV} {W : V → Hp → Prop} (so : StOk K m g H S) (eo : EnvOk K m g H σ env) (h : PostV K m g H ((f env S).to R.no k) W) {Q : Bool → Hp → Prop} (go : ∀ x S' m' g' H', Nx m g H m' g' H' → StOk K m' g' H' S' → EnvOk K m' g' H' σ env → PostV K m' g' H' (k x S') W → Q x H') : tT K f σ H Q :=
  seqB (z := R.no) (P := fun m g H r => PostV K m g H r W) (fun _ _ _ h => h) (fun h a => PostV.mono h a) so eo h go
theorem bB {f : FT} {k : Bool → Sto → R Bool} {W : Bool → Hp → Prop} (so : StOk K m g H S) (eo : EnvOk K m g H σ env) (h : PostB K m g H ((f env S).to R.no k) W) {Q : Bool → Hp → Prop} (go : ∀ x S' m' g' H', Nx m g H m' g' H' → StOk K m' g' H' S' → EnvOk K m' g' H' σ env → PostB K m' g' H' (k x S') W → Q x H') : tT K f σ H Q :=
  seqB (z := R.no) (P := fun m g H r => PostB K m g H r W) (fun _ _ _ h => h) (fun h a => PostB.mono h a) so eo h go
theorem bL {f : FT} {k : Bool → Sto → R (List PV)} {W : List V → Hp → Prop} (so : StOk K m g H S) (eo : EnvOk K m g H σ env) (h : PostL K m g H ((f env S).to R.no k) W) {Q : Bool → Hp → Prop} (go : ∀ x S' m' g' H', Nx m g H m' g' H' → StOk K m' g' H' S' → EnvOk K m' g' H' σ env → PostL K m' g' H' (k x S') W → Q x H') : tT K f σ H Q :=
  seqB (z := R.no) (P := fun m g H r => PostL K m g H r W) (fun _ _ _ h => h) (fun h a => PostL.mono h a) so eo h go
theorem bF {f : FT} {k : Bool → Sto → R (List PV)} {W : V → Hp → Prop} (so : StOk K m g H S) (eo : EnvOk K m g H σ env) (h : PostF K m g H ((f env S).to R.no k) W) {Q : Bool → Hp → Prop} (go : ∀ x S' m' g' H', Nx m g H m' g' H' → StOk K m' g' H' S' → EnvOk K m' g' H' σ env → PostF K m' g' H' (k x S') W → Q x H') : tT K f σ H Q :=
  seqB (z := R.no) (P := fun m g H r => PostF K m g H r W) (fun _ _ _ h => h) (fun h a => PostF.mono h a) so eo h go
theorem bS {f : FT} {k : Bool → Sto → RS} {W : Ends} (so : StOk K m g H S) (eo : EnvOk K m g H σ env) (h : PostS K m g H ((f env S).to RS.no k) W) {Q : Bool → Hp → Prop} (go : ∀ x S' m' g' H', Nx m g H m' g' H' → StOk K m' g' H' S' → EnvOk K m' g' H' σ env → PostS K m' g' H' (k x S') W → Q x H') : tT K f σ H Q :=
  seqB (z := RS.no) (P := fun m g H r => PostS K m g H r W) (fun _ _ _ h => h) (fun h a => PostS.mono h a) so eo h go
theorem lV {f : FA} {k : List PV → Sto → R PV} {W : V → Hp → Prop} (so : StOk K m g H S) (eo : EnvOk K m g H σ env) (h : PostV K m g H ((f env S).to R.no k) W) {Q : List V → Hp → Prop} (go : ∀ x S' v m' g' H', Nx m g H m' g' H' → StOk K m' g' H' S' → EnvOk K m' g' H' σ env → Reps K m' g' H' v x → PostV K m' g' H' (k x S') W → Q v H') : tA K f σ H Q :=
  seqL (z := R.no) (P := fun m g H r => PostV K m g H r W) (fun _ _ _ h => h) (fun h a => PostV.mono h a) so eo h go
theorem lB {f : FA} {k : List PV → Sto → R Bool} {W : Bool → Hp → Prop} (so : StOk K m g H S) (eo : EnvOk K m g H σ env) (h : PostB K m g H ((f env S).to R.no k) W) {Q : List V → Hp → Prop} (go : ∀ x S' v m' g' H', Nx m g H m' g' H' → StOk K m' g' H' S' → EnvOk K m' g' H' σ env → Reps K m' g' H' v x → PostB K m' g' H' (k x S') W → Q v H') : tA K f σ H Q :=
  seqL (z := R.no) (P := fun m g H r => PostB K m g H r W) (fun _ _ _ h => h) (fun h a => PostB.mono h a) so eo h go
theorem lL {f : FA} {k : List PV → Sto → R (List PV)} {W : List V → Hp → Prop} (so : StOk K m g H S) (eo : EnvOk K m g H σ env) (h : PostL K m g H ((f env S).to R.no k) W) {Q : List V → Hp → Prop} (go : ∀ x S' v m' g' H', Nx m g H m' g' H' → StOk K m' g' H' S' → EnvOk K m' g' H' σ env → Reps K m' g' H' v x → PostL K m' g' H' (k x S') W → Q v H') : tA K f σ H Q :=
  seqL (z := R.no) (P := fun m g H r => PostL K m g H r W) (fun _ _ _ h => h) (fun h a => PostL.mono h a) so eo h go
theorem lF {f : FA} {k : List PV → Sto → R (List PV)} {W : V → Hp → Prop} (so : StOk K m g H S) (eo : EnvOk K m g H σ env) (h : PostF K m g H ((f env S).to R.no k) W) {Q : List V → Hp → Prop} (go : ∀ x S' v m' g' H', Nx m g H m' g' H' → StOk K m' g' H' S' → EnvOk K m' g' H' σ env → Reps K m' g' H' v x → PostF K m' g' H' (k x S') W → Q v H') : tA K f σ H Q :=
  seqL (z := R.no) (P := fun m g H r => PostF K m g H r W) (fun _ _ _ h => h) (fun h a => PostF.mono h a) so eo h go
theorem lS {f : FA} {k : List PV → Sto → RS} {W : Ends} (so : StOk K m g H S) (eo : EnvOk K m g H σ env) (h : PostS K m g H ((f env S).to RS.no k) W) {Q : List V → Hp → Prop} (go : ∀ x S' v m' g' H', Nx m g H m' g' H' → StOk K m' g' H' S' → EnvOk K m' g' H' σ env → Reps K m' g' H' v x → PostS K m' g' H' (k x S') W → Q v H') : tA K f σ H Q :=
  seqL (z := RS.no) (P := fun m g H r => PostS K m g H r W) (fun _ _ _ h => h) (fun h a => PostS.mono h a) so eo h go
end
end Pv

namespace Pv
open PySem PySem.Spec PyProof.Rows L2
section
variable {X : Cx} {e a b c : Expr} {es rest : List Expr} {fa fb fc : FE} {pos : Pos}

/-! ### names, constants -/
def eVar (i : Nat) : FE := fun env S => match env[i]? with
  | some (some v) => .ok v S
  | _ => .no
def eCon (v : PV) : FE := fun _ S => .ok v S
theorem s_var (i : Nat) {x : Str} (hN : X.N[i]? = some x := by rfl) (hv : Vis X.env.scope x := by first | exact Or.inl rfl | exact Or.inr (Or.inl rfl) | exact Or.inr (Or.inr rfl)) (hd : (x == ("__debug__" : Str)) = false := by decide)
    (hcd : (x == ("__classdict__" : Str)) = false := by decide) : SE X (.Name x pos) (eVar i) := by
  refine imE (pe_var (i := i) hN hv hd hcd) fun σ H Q h => ?_
  obtain ⟨m, g, S, env, so, eo, h⟩ := h
  unfold eVar at h
  split at h
  · rename_i v e
    obtain ⟨u, e1, r⟩ := eo.at_ i v e
    exact ⟨u, e1, h u m g H .refl so r⟩
  · exact h.elim
theorem s_con {t : TE} {v : V} {x : PV} (h : PE X e (tC v)) (r : ∀ g H, RepP X.K g H v x) : SE X e (eCon x) := by
  refine imE h fun σ H Q h => ?_
  obtain ⟨m, g, S, env, so, eo, h⟩ := h
  exact h v m g H .refl so (.p (r g H))
theorem s_int {i : Int} {j} : SE X (.Constant (.int i) j pos) (eCon (.int i)) := s_con (t := tC (.int i)) pe_int fun _ _ => .int i
theorem s_bl {i : Bool} {j} : SE X (.Constant (.bool i) j pos) (eCon (.bl i)) := s_con (t := tC (.bl i)) pe_bl fun _ _ => .bl i
theorem s_non {j} : SE X (.Constant .none j pos) (eCon .non) := s_con (t := tC .non) pe_non fun _ _ => .non
def strOkL (l : List Nat) : Bool := decide (l.length ≤ SZ) && l.all fun c => decide (c < 1114112)
theorem rep_str {K : PySem.W.Frag} {g : List Addr} {H : Hp} {x : Str} {l : List Nat} (e : x.cps.toList = l) (h : strOkL l = true) : RepP K g H (.str x) (.str l) := by
  obtain ⟨h1, h2⟩ := Bool.and_eq_true_iff.mp h
  exact .str x l e (of_decide_eq_true h1) fun c hc => of_decide_eq_true (List.all_eq_true.mp h2 c hc)
theorem s_str {x : Str} {l : List Nat} {j} (e : x.cps.toList = l := by rfl) (h : strOkL l = true := by rfl) : SE X (.Constant (.str x) j pos) (eCon (.str l)) := s_con (t := tC (.str x)) pe_str fun _ _ => rep_str e h
/-- a module's int, text -/
theorem s_gI {x : Str} {i : Int} (hm : ∃ t, X.mg x = some (.int i t)) (hg : Gl X x := by rfl) (hd : (x == ("__debug__" : Str)) = false := by decide) : SE X (.Name x pos) (eCon (.int i)) := by
  obtain ⟨t, hm⟩ := hm
  exact s_con (t := tC (.int i)) (pe_glob (v := .int i) hg hm ⟨_, rfl⟩ hd) fun _ _ => .int i
theorem s_gS {x z : Str} {l : List Nat} (hm : ∃ t, X.mg x = some (.str z t)) (hg : Gl X x := by rfl) (e : z.cps.toList = l := by rfl) (h : strOkL l = true := by rfl) (hd : (x == ("__debug__" : Str)) = false := by decide) : SE X (.Name x pos) (eCon (.str l)) := by
  obtain ⟨t, hm⟩ := hm
  exact s_con (t := tC (.str z)) (pe_glob (v := .str z) hg hm ⟨_, rfl⟩ hd) fun _ _ => rep_str e h

/-! ### operators -/
abbrev F2 := PV → PV → Sto → R PV
def rO (K : PySem.W.Frag) (g : F2) : R2 := fun x y H Q => ∃ m gg S px py, StOk K m gg H S ∧ Rep K m gg H x px ∧ Rep K m gg H y py ∧ PostV K m gg H (g px py S) Q
def Op2 (X : Cx) (f : Value → Value → Sem Value) (g : F2) : Prop := OpR X f (rO X.K g)
def eBin (g : F2) (fa fb : FE) : FE := fun env S => (fa env S).bind fun x S => (fb env S).bind fun y S => g x y S
theorem tOp_of {K : PySem.W.Frag} {g : F2} {σ : L2.St} {H : Hp} {Q : VK} (h : tO K (eBin g fa fb) σ H Q) : tOp (rO K g) (tO K fa) (tO K fb) σ H Q := by
  obtain ⟨m, gg, S, env, so, eo, h⟩ := h
  refine vV so eo h fun x S1 u m1 g1 H1 n1 so1 eo1 r1 h1 => ?_
  refine vV so1 eo1 h1 fun y S2 w m2 g2 H2 n2 so2 eo2 r2 h2 => ?_
  exact ⟨m2, g2, S2, x, y, so2, r1.mono n2 so1.sub, r2, h2⟩
theorem s_bin {op : Operator} {g : F2} (ho : Op2 X (binaryOp op) g) (ha : SE X a fa) (hb : SE X b fb) : SE X (.BinOp a op b pos) (eBin g fa fb) := imE (pe_op ho ha hb) fun _ _ _ h => tOp_of h
theorem s_cmp {op : CmpOp} {g : F2} (ho : Op2 X (compareOp op) g) (ha : SE X a fa) (hb : SE X b fb) (hm : behindInMarks op b = false := by first | exact nomark _ | rfl) : SE X (.Compare a [op] [b] pos) (eBin g fa fb) := imE (pe_cmpR ho ha hb hm) fun _ _ _ h => tOp_of h
/-- an answer as a test -/
def toT (f : FE) : FT := fun env S => (f env S).bind fun x S => match x with
  | .bl b => .ok b S
  | _ => .no
theorem tTest_of {K : PySem.W.Frag} {t : TE} {f : FE} (w : ∀ σ H Q, tO K f σ H Q → t σ H Q) {σ : L2.St} {H : Hp} {Q : Bool → Hp → Prop} (h : tT K (toT f) σ H Q) : tTest t σ H Q := by
  obtain ⟨m, g, S, env, so, eo, h⟩ := h
  refine w _ _ _ (vB so eo h fun x S1 u m1 g1 H1 n1 so1 eo1 r1 h1 => ?_)
  cases x with
  | bl b =>
    cases r1 with
    | p r1 =>
      cases r1
      exact ⟨b, rfl, h1 m1 g1 H1 .refl so1⟩
  | _ => exact h1.elim
theorem t_cmp {op : CmpOp} {g : F2} (ho : Op2 X (compareOp op) g) (ha : SE X a fa) (hb : SE X b fb) (hm : behindInMarks op b = false := by first | exact nomark _ | rfl) : ST X (.Compare a [op] [b] pos) (toT (eBin g fa fb)) :=
  imT (pt_cmpR ho ha hb hm) fun _ _ _ h => tTest_of (fun _ _ _ h => tOp_of h) h
theorem t_val (h : SE X e fa) (he : ∀ whole, isTrue e X.env whole = (do let v ← whole; standAt e.pos; holding [v] (truthy v)) := by intro _; rfl) : ST X e (toT fa) :=
  imT (pt_val h he) fun _ _ _ h => tTest_of (fun _ _ _ h => h) h
def eChain (g g' : F2) (fa fb fc : FE) : FE := fun env S => (fa env S).bind fun x S => (fb env S).bind fun y S => (g x y S).bind fun z S => match z with
  | .bl true => (fc env S).bind fun w S => g' y w S
  | .bl false => .ok (.bl false) S
  | _ => .no
theorem tChain_of {K : PySem.W.Frag} {g g' : F2} {σ : L2.St} {H : Hp} {Q : VK} (h : tO K (eChain g g' fa fb fc) σ H Q) : tChain (rO K g) (rO K g') (tO K fa) (tO K fb) (tO K fc) σ H Q := by
  obtain ⟨m, gg, S, env, so, eo, h⟩ := h
  refine vV so eo h fun x S1 u m1 g1 H1 n1 so1 eo1 r1 h1 => ?_
  refine vV so1 eo1 h1 fun y S2 w m2 g2 H2 n2 so2 eo2 r2 h2 => ?_
  refine ⟨m2, g2, S2, x, y, so2, r1.mono n2 so1.sub, r2, ?_⟩
  cases e : g x y S2 with
  | no => rw [e] at h2; exact h2.elim
  | ok z S3 =>
    rw [e] at h2
    intro zv m3 g3 H3 n3 so3 r3
    cases z with
    | bl k =>
      cases r3 with
      | p r3 =>
        cases r3
        refine ⟨k, rfl, ?_⟩
        have h3 := PostV.mono (K := K) (Q := Q) h2 n3
        cases k with
        | true =>
          rw [if_pos rfl]
          refine vV so3 (eo2.mono n3 so2.sub) h3 fun w' S4 wv m4 g4 H4 n4 so4 eo4 r4 h4 => ?_
          exact ⟨m4, g4, S4, y, w', so4, (r2.mono n3 so2.sub).mono n4 so3.sub, r4, h4⟩
        | false =>
          rw [if_neg Bool.false_ne_true]
          exact h3 _ m3 g3 H3 .refl so3 (.p (.bl false))
    | _ => exact absurd h2 id
theorem s_chain {op op' : CmpOp} {g g' : F2} (ho : Op2 X (compareOp op) g) (ho' : Op2 X (compareOp op') g') (ha : SE X a fa) (hb : SE X b fb) (hc : SE X c fc) (hm : lastMarks [op, op'] [b, c] = false := by with_unfolding_all rfl) :
    SE X (.Compare a [op, op'] [b, c] pos) (eChain g g' fa fb fc) := imE (pe_chain ho ho' ha hb hc hm) fun _ _ _ h => tChain_of h
theorem t_chain {op op' : CmpOp} {g g' : F2} (ho : Op2 X (compareOp op) g) (ho' : Op2 X (compareOp op') g') (ha : SE X a fa) (hb : SE X b fb) (hc : SE X c fc) (hm : lastMarks [op, op'] [b, c] = false := by with_unfolding_all rfl) :
    ST X (.Compare a [op, op'] [b, c] pos) (toT (eChain g g' fa fb fc)) := imT (pt_chain ho ho' ha hb hc hm) fun _ _ _ h => tTest_of (fun _ _ _ h => tChain_of h) h

/-! ### and, or, not, a if t else b -/
variable {ta tb : FT}
def tAnd' (f g : FT) : FT := fun env S => (f env S).bind fun b S => if b = true then g env S else .ok false S
def tOr' (f g : FT) : FT := fun env S => (f env S).bind fun b S => if b = true then .ok true S else g env S
def tNot' (f : FT) : FT := fun env S => (f env S).bind fun b S => .ok (!b) S
theorem t_and1 (ha : ST X a ta) : SW X (.BoolOp .And [a] pos) ta := pw_and1 ha
theorem t_or1 (ha : ST X a ta) : SW X (.BoolOp .Or [a] pos) ta := pw_or1 ha
theorem t_and (ha : ST X a ta) (hb : SW X (.BoolOp .And (b :: rest) pos) tb) : SW X (.BoolOp .And (a :: b :: rest) pos) (tAnd' ta tb) := imW (pw_and ha hb) fun σ H Q h => by
  obtain ⟨m, g, S, env, so, eo, h⟩ := h
  refine bB so eo h fun x S1 m1 g1 H1 n1 so1 eo1 h1 => ?_
  cases x with
  | true => rw [if_pos rfl]; exact ⟨m1, g1, S1, env, so1, eo1, h1⟩
  | false => rw [if_neg Bool.false_ne_true]; exact h1 m1 g1 H1 .refl so1
theorem t_or (ha : ST X a ta) (hb : SW X (.BoolOp .Or (b :: rest) pos) tb) : SW X (.BoolOp .Or (a :: b :: rest) pos) (tOr' ta tb) := imW (pw_or ha hb) fun σ H Q h => by
  obtain ⟨m, g, S, env, so, eo, h⟩ := h
  refine bB so eo h fun x S1 m1 g1 H1 n1 so1 eo1 h1 => ?_
  cases x with
  | true => rw [if_pos rfl]; exact h1 m1 g1 H1 .refl so1
  | false => rw [if_neg Bool.false_ne_true]; exact ⟨m1, g1, S1, env, so1, eo1, h1⟩
theorem t_w (h : SW X e ta) : ST X e ta := PW.pt h
theorem t_not (ha : ST X a ta) : ST X (.UnaryOp .Not a pos) (tNot' ta) := imT (pt_not ha) fun σ H Q h => by
  obtain ⟨m, g, S, env, so, eo, h⟩ := h
  exact bB so eo h fun x S1 m1 g1 H1 n1 so1 eo1 h1 => h1 m1 g1 H1 .refl so1
/-- as values -/
def eAnd (f g : FE) : FE := fun env S => (f env S).bind fun x S => match x with
  | .bl true => g env S
  | .bl false => .ok (.bl false) S
  | _ => .no
def eOr (f g : FE) : FE := fun env S => (f env S).bind fun x S => match x with
  | .bl true => .ok (.bl true) S
  | .bl false => g env S
  | _ => .no
def eNot (f : FE) : FE := fun env S => (f env S).bind fun x S => match x with
  | .bl b => .ok (.bl (!b)) S
  | _ => .no
theorem s_one {op} (h : SE X a fa) : SE X (.BoolOp op [a] pos) fa := pe_one h
theorem s_and (ha : SE X a fa) (hb : SE X (.BoolOp .And (b :: rest) pos) fb) : SE X (.BoolOp .And (a :: b :: rest) pos) (eAnd fa fb) := imE (pe_and ha hb) fun σ H Q h => by
  obtain ⟨m, g, S, env, so, eo, h⟩ := h
  refine vV so eo h fun x S1 u m1 g1 H1 n1 so1 eo1 r1 h1 => ?_
  cases x with
  | bl k =>
    cases r1 with
    | p r1 =>
      cases r1
      refine ⟨k, rfl, ?_⟩
      cases k with
      | true => rw [if_pos rfl]; exact ⟨m1, g1, S1, env, so1, eo1, h1⟩
      | false => rw [if_neg Bool.false_ne_true]; exact h1 _ m1 g1 H1 .refl so1 (.p (.bl false))
  | _ => exact h1.elim
theorem s_or (ha : SE X a fa) (hb : SE X (.BoolOp .Or (b :: rest) pos) fb) : SE X (.BoolOp .Or (a :: b :: rest) pos) (eOr fa fb) := imE (pe_or ha hb) fun σ H Q h => by
  obtain ⟨m, g, S, env, so, eo, h⟩ := h
  refine vV so eo h fun x S1 u m1 g1 H1 n1 so1 eo1 r1 h1 => ?_
  cases x with
  | bl k =>
    cases r1 with
    | p r1 =>
      cases r1
      refine ⟨k, rfl, ?_⟩
      cases k with
      | true => rw [if_pos rfl]; exact h1 _ m1 g1 H1 .refl so1 (.p (.bl true))
      | false => rw [if_neg Bool.false_ne_true]; exact ⟨m1, g1, S1, env, so1, eo1, h1⟩
  | _ => exact h1.elim
theorem s_not (ha : SE X a fa) : SE X (.UnaryOp .Not a pos) (eNot fa) := imE (pe_not ha) fun σ H Q h => by
  obtain ⟨m, g, S, env, so, eo, h⟩ := h
  refine vV so eo h fun x S1 u m1 g1 H1 n1 so1 eo1 r1 h1 => ?_
  cases x with
  | bl k =>
    cases r1 with
    | p r1 =>
      cases r1
      exact ⟨k, rfl, h1 _ m1 g1 H1 .refl so1 (.p (.bl _))⟩
  | _ => exact h1.elim
def eIf (t : FT) (f g : FE) : FE := fun env S => (t env S).bind fun b S => if b = true then f env S else g env S
theorem s_if {t : Expr} (ht : ST X t ta) (ha : SE X a fa) (hb : SE X b fb) : SE X (.IfExp t a b pos) (eIf ta fa fb) := imE (pe_ifExp ht ha hb) fun σ H Q h => by
  obtain ⟨m, g, S, env, so, eo, h⟩ := h
  refine bV so eo h fun x S1 m1 g1 H1 n1 so1 eo1 h1 => ?_
  cases x with
  | true => rw [if_pos rfl]; exact ⟨m1, g1, S1, env, so1, eo1, h1⟩
  | false => rw [if_neg Bool.false_ne_true]; exact ⟨m1, g1, S1, env, so1, eo1, h1⟩

/-! ### arguments, displays -/
def aNil : FA := fun _ S => .ok [] S
def aCons (f : FE) (r : FA) : FA := fun env S => (f env S).bind fun x S => (r env S).bind fun xs S => .ok (x :: xs) S
theorem a_nil : SA X [] aNil := imA pa_nil fun σ H Q h => by
  obtain ⟨m, g, S, env, so, eo, h⟩ := h
  exact h [] m g H .refl so .nil
theorem a_cons {r : FA} (ha : SE X a fa) (hr : SA X es r) (hs : starEach (a :: es) X.env = (false, eval a X.env) :: starEach es X.env := by rfl) : SA X (a :: es) (aCons fa r) := imA (pa_cons ha hr hs) fun σ H Q h => by
  obtain ⟨m, g, S, env, so, eo, h⟩ := h
  refine vL so eo h fun x S1 u m1 g1 H1 n1 so1 eo1 r1 h1 => ?_
  refine lL so1 eo1 h1 fun xs S2 us m2 g2 H2 n2 so2 eo2 r2 h2 => ?_
  exact h2 _ m2 g2 H2 .refl so2 (.cons (r1.mono n2 so1.sub) r2)
def isP : PV → Bool
  | .ref _ => false
  | _ => true
theorem Rep.pure {K : PySem.W.Frag} {m g : List Addr} {H : Hp} {v : V} {x : PV} (h : Rep K m g H v x) (p : isP x = true) : RepP K g H v x := by
  cases h with
  | p h => exact h
  | r h => cases p
theorem Reps.pure {K : PySem.W.Frag} {m g : List Addr} {H : Hp} : ∀ {vs : List V} {xs : List PV}, Reps K m g H vs xs → xs.all isP = true → RepsP K g H vs xs
  | _, _, .nil, _ => .nil
  | _, _, .cons h t, p => by
    rw [List.all_cons] at p
    obtain ⟨p1, p2⟩ := Bool.and_eq_true_iff.mp p
    exact .cons (h.pure p1) (t.pure p2)
theorem RepsP.reps {K : PySem.W.Frag} {m g : List Addr} {H : Hp} : ∀ {vs : List V} {xs : List PV}, RepsP K g H vs xs → Reps K m g H vs xs
  | _, _, .nil => .nil
  | _, _, .cons h t => .cons (.p h) t.reps
/-- a new object is laid -/
theorem nx_new {m g : List Addr} {H : Hp} {p : Addr} {o : HO} (hp : H p = none) : Nx m g H m g (upd H p o) :=
  ⟨fun a u e _ => by rw [upd_ne (ne_of_none e hp)]; exact e, fun a e => by
    by_cases h : a = p
    · subst h; exact hp
    · rw [upd_ne h] at e; exact e, ⟨[], by simp⟩, fun _ h => h, fun _ h => .inl h⟩
theorem CellOk.mono {K : PySem.W.Frag} {g g' : List Addr} {H H' : Hp} {a : Addr} {o : SO} (h : CellOk K g H a o) (k : Kp g H g' H') (e : ∀ u, H a = some u → H' a = some u) : CellOk K g' H' a o := by
  cases o with
  | lst xs =>
    obtain ⟨vs, h1, h2⟩ := h
    exact ⟨vs, e _ h1, h2.mono k⟩
theorem so_new {K : PySem.W.Frag} {m g : List Addr} {H : Hp} {S : Sto} {p : Addr} {o : HO} (so : StOk K m g H S) (hp : H p = none) : StOk K m g (upd H p o) S := by
  have ne : ∀ a, a ∈ g → a ≠ p := fun a h e => so.live a h (by rw [e]; exact hp)
  refine ⟨so.len, so.nd, so.sub, fun a h e => so.live a h (by rw [upd_ne (ne a h)] at e; exact e), fun n a o h1 h2 => (so.cell n a o h1 h2).mono ((nx_new (m := m) hp).kp so.sub) fun u e => ?_⟩
  rw [upd_ne (ne_of_none e hp)]
  exact e
def eTup (f : FA) : FE := fun env S => (f env S).bind fun xs S => if (decide (xs.length ≤ SZ) && xs.all isP) = true then .ok (.tup xs) S else .no
theorem s_tup {f : FA} {x1} (h : SA X es f) : SE X (.Tuple es x1 pos) (eTup f) := imE (pe_tup h) fun σ H Q h => by
  obtain ⟨m, g, S, env, so, eo, h⟩ := h
  refine lV so eo h fun xs S1 us m1 g1 H1 n1 so1 eo1 r1 h1 => ?_
  split at h1
  · rename_i hp
    obtain ⟨hz, hp⟩ := Bool.and_eq_true_iff.mp hp
    refine ⟨by rw [r1.length, ← SZ_eq]; exact of_decide_eq_true hz, fun p np => h1 _ m1 g1 _ (nx_new np) (so_new so1 np) (.p (.tup (.inl ⟨.inl upd_same, fun hg => so1.live p hg np⟩) (((r1.pure hp).mono ((nx_new (m := m1) np).kp so1.sub)))))⟩
  · exact h1.elim

/-! ### new lists -/
def tF (K : PySem.W.Frag) (f : FA) : TE := fun σ H Q => ∃ m g S env, StOk K m g H S ∧ EnvOk K m g H σ env ∧ PostF K m g H (f env S) Q
/-- e makes a new list -/
def SF (X : Cx) (e : Expr) (f : FA) : Prop := PE X e (tF X.K f)
/-- fewer things are kept apart -/
theorem StOk.less {K : PySem.W.Frag} {m g : List Addr} {H : Hp} {S : Sto} {p : Addr} (h : StOk K m (p :: g) H S) (hm : ∀ a ∈ m, a ∈ g) : StOk K m g H S :=
  ⟨h.len, h.nd, hm, fun a z => h.live a (List.mem_cons_of_mem _ z), fun n a o h1 h2 => (h.cell n a o h1 h2).mono ⟨fun _ _ e _ => e, fun a z => .inl (List.mem_cons_of_mem _ z)⟩ fun _ e => e⟩
def eFrz (f : FA) : FE := fun env S => (f env S).bind fun xs S => .ok (.lst xs) S
def eCell (f : FA) : FE := fun env S => (f env S).bind fun xs S => .ok (.ref S.length) (S ++ [.lst xs])
theorem Nx.subs {K : PySem.W.Frag} {m g m' g' : List Addr} {H H' : Hp} {S S' : Sto} {p : Addr} (n : Nx m g H m' g' H') (so : StOk K m g H S) (np : p ∉ g') (hp : H p = none) (so' : StOk K m' (p :: g') H' S') (hp' : p ∉ m') : ∀ a ∈ m', a ∈ g' := fun a h => by
  rcases List.mem_cons.mp (so'.sub a h) with e | e
  · exact absurd (e ▸ h) hp'
  · exact e
end
end Pv

namespace Pv
open PySem PySem.Spec PyProof.Rows L2
section
variable {X : Cx} {e a b c : Expr} {es rest : List Expr} {fa fb fc : FE} {pos : Pos}
theorem s_frz {f : FA} (h : SF X e f) : SE X e (eFrz f) := imE h fun σ H Q h => by
  obtain ⟨m, g, S, env, so, eo, h⟩ := h
  refine ⟨m, g, S, env, so, eo, ?_⟩
  unfold eFrz at h
  unfold PostF
  cases ef : f env S with
  | no => rw [ef] at h; exact h
  | ok xs S' =>
    rw [ef] at h
    intro p vs m' g' H' nx np nm hp so' hp' r
    have sb := nx.subs so np hp so' nm
    exact h _ m' g' H' nx (so'.less sb) (.p (.lst ⟨hp', np⟩ (r.mono ⟨fun _ _ e _ => e, fun a z => .inl (List.mem_cons_of_mem _ z)⟩)))
theorem s_cell {f : FA} (h : SF X e f) : SE X e (eCell f) := imE h fun σ H Q h => by
  obtain ⟨m, g, S, env, so, eo, h⟩ := h
  refine ⟨m, g, S, env, so, eo, ?_⟩
  unfold eCell at h
  unfold PostF
  cases ef : f env S with
  | no => rw [ef] at h; exact h
  | ok xs S' =>
    rw [ef] at h
    intro p vs m' g' H' nx np nm hp so' hp' r
    have sb := nx.subs so np hp so' nm
    obtain ⟨new, e1, e2⟩ := nx.app
    have el : m'.length = S'.length := so'.len
    refine h (.ref p) (m' ++ [p]) (p :: g') H' ⟨nx.ext, nx.free, ⟨new ++ [p], by rw [e1, List.append_assoc], fun a ha => ?_⟩, fun a z => List.mem_cons_of_mem _ (nx.gs a z), fun a z => ?_⟩ ⟨by simp [el], ?_, fun a z => ?_, so'.live, fun n a o h1 h2 => ?_⟩ (.r ?_)
    · rcases List.mem_append.mp ha with z | z
      · exact e2 a z
      · rw [List.mem_singleton.mp z]; exact hp
    · rcases List.mem_cons.mp z with z | z
      · rw [z]; exact .inr hp
      · exact nx.gn a z
    · rw [List.nodup_append]
      refine ⟨so'.nd, by simp, fun a ha b hb => ?_⟩
      rw [List.mem_singleton.mp hb]
      rintro rfl
      exact nm ha
    · rcases List.mem_append.mp z with z | z
      · exact so'.sub a z
      · rw [List.mem_singleton.mp z]; exact List.mem_cons_self
    · by_cases hn : n < m'.length
      · rw [List.getElem?_append_left hn] at h1
        rw [List.getElem?_append_left (by omega)] at h2
        exact so'.cell n a o h1 h2
      · have hn2 : n = m'.length := by
          have := (List.getElem?_eq_some_iff.mp h1).1
          simp at this
          omega
        subst hn2
        rw [List.getElem?_append_right (by omega)] at h1
        rw [List.getElem?_append_right (by omega)] at h2
        have z1 : m'.length - S'.length = 0 := by omega
        simp [z1] at h1 h2
        subst h1 h2
        exact ⟨vs, hp', r⟩
    · show (m' ++ [p])[S'.length]? = some p
      rw [← el]
      simp
def lDisp (f : FA) : FA := fun env S => (f env S).bind fun xs S => if (decide (xs.length ≤ SZ) && xs.all isP) = true then .ok xs S else .no
/-- the world behind a new list at p -/
theorem post_new {K : PySem.W.Frag} {m g m1 g1 : List Addr} {H H1 : Hp} {S1 : Sto} {xs : List PV} {vs : List V} {Q : V → Hp → Prop} {p : Addr} (h : PostF K m g H (.ok xs S1) Q) (nx : Nx m g H m1 g1 H1) (so1 : StOk K m1 g1 H1 S1) (r : RepsP K g1 H1 vs xs) (np : H1 p = none) : Q (.ref p) (upd H1 p (.lst vs)) := by
  have n2 : Nx m1 g1 H1 m1 g1 (upd H1 p (.lst vs)) := nx_new np
  have hg : p ∉ g1 := fun hg => so1.live p hg np
  have hm : p ∉ m1 := fun h => hg (so1.sub p h)
  have so2 : StOk K m1 g1 (upd H1 p (.lst vs)) S1 := so_new so1 np
  have kp : Kp g1 H1 (p :: g1) (upd H1 p (.lst vs)) := ⟨(n2.kp so1.sub).ext, fun a z => by
    rcases List.mem_cons.mp z with z | z
    · rw [z]; exact .inr np
    · exact .inl z⟩
  refine h p vs m1 g1 _ (nx.trans n2) hg hm (nx.free p np) ⟨so2.len, so2.nd, fun a z => List.mem_cons_of_mem _ (so2.sub a z), fun a z => ?_, fun n a o h1 h2 => ?_⟩ upd_same (r.mono kp)
  · rcases List.mem_cons.mp z with z | z
    · rw [z, upd_same]; exact fun z => nomatch z
    · exact so2.live a z
  · exact (so1.cell n a o h1 h2).mono kp fun u e => by rw [upd_ne (ne_of_none e np)]; exact e
theorem f_lst {f : FA} (h : SA X es f) : SF X (.List es pos) (lDisp f) := imE (pe_lst h) fun σ H Q h => by
  obtain ⟨m, g, S, env, so, eo, h⟩ := h
  refine lF so eo h fun xs S1 us m1 g1 H1 n1 so1 eo1 r1 h1 => ?_
  split at h1
  · rename_i hp
    obtain ⟨hz, hp⟩ := Bool.and_eq_true_iff.mp hp
    exact ⟨by rw [r1.length, ← SZ_eq]; exact of_decide_eq_true hz, fun p np => post_new h1 .refl so1 (r1.pure hp) np⟩
  · exact h1.elim

/-! ### reading a list, kept or a cell -/
def dl (S : Sto) : PV → Option (List PV)
  | .lst xs => some xs
  | .ref n => match S[n]? with
    | some (.lst xs) => some xs
    | _ => none
  | _ => none
theorem dl_ok {K : PySem.W.Frag} {m g : List Addr} {H : Hp} {S : Sto} {v : V} {x : PV} {xs : List PV} (so : StOk K m g H S) (r : Rep K m g H v x) (h : dl S x = some xs) : ∃ a vs, v = .ref a ∧ H a = some (.lst vs) ∧ RepsP K g H vs xs := by
  cases r with
  | p r =>
    cases r with
    | lst h1 r1 =>
      cases h
      exact ⟨_, _, rfl, h1.1, r1⟩
    | _ => cases h
  | @r n a h1 =>
    have hn : n < S.length := by rw [← so.len]; exact (List.getElem?_eq_some_iff.mp h1).1
    obtain ⟨o, e⟩ : ∃ o, S[n]? = some o := ⟨_, List.getElem?_eq_getElem hn⟩
    have h : (match S[n]? with
      | some (.lst xs) => some xs
      | _ => none) = some xs := h
    rw [e] at h
    have c := so.cell n a _ h1 e
    cases o with
    | lst ys =>
      obtain ⟨vs, c1, c2⟩ := c
      cases h
      exact ⟨a, vs, rfl, c1, c2⟩
end
end Pv

namespace Pv
open PySem PySem.Spec PyProof.Rows L2
section
variable {K : PySem.W.Frag} {m g : List Addr} {H : Hp} {S : Sto}
theorem RepsP.append {vs ws : List V} {xs ys : List PV} : RepsP K g H vs xs → RepsP K g H ws ys → RepsP K g H (vs ++ ws) (xs ++ ys)
  | .nil, h => h
  | .cons a t, h => .cons a (t.append h)
theorem RepsP.drop : ∀ (n : Nat) {vs : List V} {xs : List PV}, RepsP K g H vs xs → RepsP K g H (vs.drop n) (xs.drop n)
  | 0, _, _, h => h
  | _ + 1, _, _, .nil => .nil
  | n + 1, _, _, .cons _ t => RepsP.drop n t
theorem RepsP.take : ∀ (n : Nat) {vs : List V} {xs : List PV}, RepsP K g H vs xs → RepsP K g H (vs.take n) (xs.take n)
  | 0, _, _, _ => .nil
  | _ + 1, _, _, .nil => .nil
  | n + 1, _, _, .cons a t => .cons a (RepsP.take n t)
theorem RepsP.reverse {vs : List V} {xs : List PV} (h : RepsP K g H vs xs) : RepsP K g H vs.reverse xs.reverse := by
  induction vs generalizing xs with
  | nil => cases h; exact .nil
  | cons v vs ih =>
    cases h with
    | cons a t => rw [List.reverse_cons, List.reverse_cons]; exact (ih t).append (.cons a .nil)
theorem RepsP.get {i : Nat} {x : PV} : ∀ {vs : List V} {xs : List PV}, RepsP K g H vs xs → xs[i]? = some x → ∃ v, vs[i]? = some v ∧ RepP K g H v x := by
  induction i with
  | zero =>
    intro vs xs h e
    cases h with
    | nil => cases e
    | cons a t => cases e; exact ⟨_, rfl, a⟩
  | succ n ih =>
    intro vs xs h e
    cases h with
    | nil => cases e
    | cons a t => exact ih t (by simpa using e)
theorem RepsP.set : ∀ (i : Nat) {v : V} {x : PV} {vs : List V} {xs : List PV}, RepP K g H v x → RepsP K g H vs xs → RepsP K g H (vs.set i v) (xs.set i x)
  | _, _, _, _, _, _, .nil => .nil
  | 0, _, _, _, _, r, .cons _ t => .cons r t
  | n + 1, _, _, _, _, r, .cons a t => .cons a (RepsP.set n r t)
theorem RepsP.rep {vs : List V} {xs : List PV} (h : RepsP K g H vs xs) : ∀ n : Nat, RepsP K g H (List.replicate n vs).flatten (List.replicate n xs).flatten
  | 0 => .nil
  | n + 1 => by
    rw [List.replicate_succ, List.flatten_cons, List.replicate_succ, List.flatten_cons]
    exact h.append (h.rep n)
theorem RepP.int_inv {v : V} {i : Int} (h : RepP K g H v (.int i)) : v = .int i := by cases h; rfl
theorem RepP.bl_inv {v : V} {i : Bool} (h : RepP K g H v (.bl i)) : v = .bl i := by cases h; rfl
theorem Rep.int_inv {v : V} {i : Int} (h : Rep K m g H v (.int i)) : v = .int i := by
  cases h with
  | p h => exact h.int_inv
theorem Rep.bl_inv {v : V} {i : Bool} (h : Rep K m g H v (.bl i)) : v = .bl i := by
  cases h with
  | p h => exact h.bl_inv
theorem Rep.non_inv {v : V} (h : Rep K m g H v .non) : v = .non := by
  cases h with
  | p h => cases h; rfl
theorem Rep.str_inv {v : V} {l : List Nat} (h : Rep K m g H v (.str l)) : ∃ x : Str, v = .str x ∧ x.cps.toList = l ∧ l.length ≤ SZ ∧ ∀ c ∈ l, c < 1114112 := by
  cases h with
  | p h => cases h with | str x l e hz ho => exact ⟨x, rfl, e, hz, ho⟩
theorem Rep.tup_inv {v : V} {xs : List PV} (h : Rep K m g H v (.tup xs)) : ∃ a vs, v = .ref a ∧ FzT K g H a vs ∧ RepsP K g H vs xs := by
  cases h with
  | p h => cases h with | tup h r => exact ⟨_, _, rfl, h, r⟩
theorem str_len {x : Str} {l : List Nat} (e : x.cps.toList = l) : x.length = l.length := by subst e; rfl
theorem app_cps (x y : Str) : (x ++ y).cps.toList = x.cps.toList ++ y.cps.toList := by
  show (x.cps ++ y.cps).toList = _
  simp
theorem ints_inv : ∀ {ns : List Int} {vs : List V}, RepsP K g H vs (ns.map PV.int) → vs = ns.map V.int
  | [], _, .nil => rfl
  | _ :: _, _, .cons h t => by
    rw [List.map_cons, h.int_inv, ints_inv t]
theorem bls_inv : ∀ {ns : List Bool} {vs : List V}, RepsP K g H vs (ns.map PV.bl) → vs = ns.map V.bl
  | [], _, .nil => rfl
  | _ :: _, _, .cons h t => by
    rw [List.map_cons, h.bl_inv, bls_inv t]
/-- the answer, nothing laid -/
theorem post_p {x : PV} {v : V} {Q : V → Hp → Prop} (h : PostV K m g H (.ok x S) Q) (so : StOk K m g H S) (r : RepP K g H v x) : Q v H := h v m g H .refl so (.p r)
/-- a new tuple, a new list is the answer -/
theorem post_t {xs : List PV} {vs : List V} {p : Addr} {Q : V → Hp → Prop} (h : PostV K m g H (.ok (.tup xs) S) Q) (so : StOk K m g H S) (r : RepsP K g H vs xs) (np : H p = none) : Q (.ref p) (upd H p (.tup vs)) :=
  h _ m g _ (nx_new np) (so_new so np) (.p (.tup (.inl ⟨.inl upd_same, fun hg => so.live p hg np⟩) (r.mono ((nx_new (m := m) np).kp so.sub))))
theorem post_l {xs : List PV} {vs : List V} {p : Addr} {Q : V → Hp → Prop} (h : PostV K m g H (.ok (.lst xs) S) Q) (so : StOk K m g H S) (r : RepsP K g H vs xs) (np : H p = none) : Q (.ref p) (upd H p (.lst vs)) :=
  h _ m g _ (nx_new np) (so_new so np) (.p (.lst ⟨upd_same, fun hg => so.live p hg np⟩ (r.mono ((nx_new (m := m) np).kp so.sub))))
theorem rep_app {x y : Str} {a b : List Nat} (ex : x.cps.toList = a) (ey : y.cps.toList = b) (ha : ∀ c ∈ a, c < 1114112) (hb : ∀ c ∈ b, c < 1114112) (hz : a.length + b.length ≤ SZ) : RepP K g H (.str (x ++ y)) (.str (a ++ b)) := by
  refine .str _ _ (by rw [app_cps, ex, ey]) (by rw [List.length_append]; exact hz) fun c hc => ?_
  rcases List.mem_append.mp hc with h | h
  · exact ha c h
  · exact hb c h
end
section
variable {X : Cx}
def oAdd : F2 := fun x y S => match x, y with
  | .int i, .int j => .ok (.int (i + j)) S
  | .str a, .str b => if a.length + b.length ≤ SZ then .ok (.str (a ++ b)) S else .no
  | .tup a, .tup b => if a.length + b.length ≤ SZ then .ok (.tup (a ++ b)) S else .no
  | x, y => match dl S x, dl S y with
    | some a, some b => if a.length + b.length ≤ SZ then .ok (.lst (a ++ b)) S else .no
    | _, _ => .no
theorem o_add : Op2 X (binaryOp .Add) oAdd := by
  intro pins s σ H x y v u Q I rx ry h
  obtain ⟨m, g, S, px, py, so, r1, r2, h⟩ := h
  unfold oAdd at h
  split at h
  · obtain rfl := r1.int_inv
    obtain rfl := r2.int_inv
    exact op_add pins s σ H _ _ v u Q I rx ry ⟨_, _, rfl, rfl, post_p h so (.int _)⟩
  · split at h
    · rename_i hz
      obtain ⟨x, rfl, e1, _, o1⟩ := r1.str_inv
      obtain ⟨y, rfl, e2, _, o2⟩ := r2.str_inv
      exact op_add_str pins s σ H _ _ v u Q I rx ry ⟨_, _, rfl, rfl, by rw [str_len e1, str_len e2, ← SZ_eq]; exact hz, post_p h so (rep_app e1 e2 o1 o2 hz)⟩
    · exact h.elim
  · split at h
    · rename_i hz
      obtain ⟨a, vs, rfl, f1, q1⟩ := r1.tup_inv
      obtain ⟨b, ws, rfl, f2, q2⟩ := r2.tup_inv
      refine op_catA pins s σ H _ _ v u Q I rx ry ⟨_, _, _, _, rfl, rfl, f1.sq, f2.sq, by rw [q1.length, q2.length, ← SZ_eq]; exact hz, fun e => ?_, fun _ e => ?_, fun _ _ p np => ?_⟩
      · subst e
        cases q1
        exact post_p h so (.tup f2 q2)
      · subst e
        cases q2
        rw [List.append_nil] at h
        exact post_p h so (.tup f1 q1)
      · exact post_t h so (q1.append q2) np
    · exact h.elim
  · split at h
    · rename_i a b e1 e2
      split at h
      · rename_i hz
        obtain ⟨p, vs, rfl, f1, q1⟩ := dl_ok so r1 e1
        obtain ⟨q, ws, rfl, f2, q2⟩ := dl_ok so r2 e2
        exact op_cat pins s σ H _ _ v u Q I rx ry ⟨_, _, _, _, rfl, rfl, f1, f2, by rw [q1.length, q2.length, ← SZ_eq]; exact hz, fun p np => post_l h so (q1.append q2) np⟩
      · exact h.elim
    · exact h.elim
def oI (C : Int → Int → Bool) (f : Int → Int → PV) : F2 := fun x y S => match x, y with
  | .int i, .int j => if C i j = true then .ok (f i j) S else .no
  | _, _ => .no
theorem o_I {f : Value → Value → Sem Value} {C : Int → Int → Bool} {D : Int → Int → Prop} {k : Int → Int → PV} {l : Int → Int → V} (h : OpR X f (rI D l)) (hc : ∀ i j, C i j = true → D i j) (hl : ∀ K g H i j, RepP K g H (l i j) (k i j)) : Op2 X f (oI C k) := by
  intro pins s σ H x y v u Q I rx ry q
  obtain ⟨m, g, S, px, py, so, r1, r2, q⟩ := q
  unfold oI at q
  split at q
  · split at q
    · rename_i hz
      obtain rfl := r1.int_inv
      obtain rfl := r2.int_inv
      exact h pins s σ H _ _ v u Q I rx ry ⟨_, _, rfl, rfl, hc _ _ hz, post_p q so (hl _ _ _ _ _)⟩
    · exact q.elim
  · exact q.elim
theorem rI0_of {f : Value → Value → Sem Value} {l : Int → Int → V} (h : OpR X f (rI0 l)) : OpR X f (rI (fun _ _ => True) l) := fun pins s σ H x y v u Q I rx ry q => by
  obtain ⟨i, j, e1, e2, _, q⟩ := q
  exact h pins s σ H x y v u Q I rx ry ⟨i, j, e1, e2, q⟩
def oSub : F2 := oI (fun _ _ => true) fun i j => .int (i - j)
theorem o_sub : Op2 X (binaryOp .Sub) oSub := o_I (rI0_of op_sub) (fun _ _ _ => trivial) fun _ _ _ _ _ => .int _
def oMod : F2 := oI (fun _ j => decide (0 < j)) fun i j => .int (i % j)
theorem o_mod : Op2 X (binaryOp .Mod) oMod := o_I op_mod (fun _ _ h => of_decide_eq_true h) fun _ _ _ _ _ => .int _
def divOk (_ j : Int) : Bool := decide (0 < j) && decide (j.natAbs.log2 < 9000)
def oDiv : F2 := oI divOk fun i j => .int (i / j)
theorem o_div : Op2 X (binaryOp .FloorDiv) oDiv := o_I op_fdivW (fun _ _ h => by
  obtain ⟨h1, h2⟩ := Bool.and_eq_true_iff.mp h
  exact ⟨of_decide_eq_true h1, of_decide_eq_true h2⟩) fun _ _ _ _ _ => .int _
def powOk (i j : Int) : Bool := decide (0 ≤ j) && decide (j ≤ 1000000) && decide (i.natAbs < 2 ^ 64)
def oPow : F2 := oI powOk fun i j => .int (i ^ j.toNat)
theorem powOk_of {i j : Int} (h : powOk i j = true) : CPow i j := by
  obtain ⟨h1, h2⟩ := Bool.and_eq_true_iff.mp h
  obtain ⟨h0, h1⟩ := Bool.and_eq_true_iff.mp h1
  exact ⟨of_decide_eq_true h0, of_decide_eq_true h1, of_decide_eq_true h2⟩
theorem o_pow : Op2 X (binaryOp .Pow) oPow := o_I op_pow (fun _ _ h => powOk_of h) fun _ _ _ _ _ => .int _
def oShl : F2 := oI powOk fun i j => .int (i * 2 ^ j.toNat)
theorem o_shl : Op2 X (binaryOp .LShift) oShl := o_I op_shl (fun _ _ h => powOk_of h) fun _ _ _ _ _ => .int _
def oShr : F2 := oI (fun _ j => decide (0 ≤ j)) fun i j => .int (i / 2 ^ j.toNat)
theorem o_shr : Op2 X (binaryOp .RShift) oShr := o_I op_shr (fun _ _ h => of_decide_eq_true h) fun _ _ _ _ _ => .int _
def mulOk (i j : Int) : Bool := decide (-(2 ^ 64) < i ∧ i < 2 ^ 64) || decide (-(2 ^ 64) < j ∧ j < 2 ^ 64) || decide (i.natAbs.log2 + j.natAbs.log2 < 1000000)
def mulRep (n : Nat) (k : Int) : Bool := decide (-(2 ^ 63) ≤ k) && decide (k < 2 ^ 63) && decide (n * k.toNat ≤ SZ)
def oMul : F2 := fun x y S => match x, y with
  | .int i, .int j => if mulOk i j = true then .ok (.int (i * j)) S else .no
  | .str a, .int k => if mulRep a.length k = true then .ok (.str (List.replicate k.toNat a).flatten) S else .no
  | .tup a, .int k => if (decide (2 ≤ k) && decide (k ≤ 1000) && decide (a.length ≤ 1000) && !a.isEmpty) = true then .ok (.tup (List.replicate k.toNat a).flatten) S else .no
  | x, .int k => match dl S x with
    | some a => if mulRep a.length k = true then .ok (.lst (List.replicate k.toNat a).flatten) S else .no
    | _ => .no
  | _, _ => .no
theorem mulOk_cases {i j : Int} (h : mulOk i j = true) : CMul i j ∨ CMulW i j := by
  unfold mulOk at h
  simp only [Bool.or_eq_true, decide_eq_true_eq] at h
  rcases h with (h | h) | h
  · exact .inl (.inl h)
  · exact .inl (.inr h)
  · exact .inr h
theorem mulRep_of {n : Nat} {k : Int} (h : mulRep n k = true) : -(2 ^ 63) ≤ k ∧ k < 2 ^ 63 ∧ n * k.toNat ≤ SZ := by
  unfold mulRep at h
  simp only [Bool.and_eq_true, decide_eq_true_eq] at h
  exact ⟨h.1.1, h.1.2, h.2⟩
theorem foldl_cps (x : Array Nat) : ∀ (n : Nat) (acc : Array Nat), ((List.replicate n x).foldl (· ++ ·) acc).toList = acc.toList ++ (List.replicate n x.toList).flatten
  | 0, acc => by simp
  | n + 1, acc => by
    rw [List.replicate_succ, List.foldl_cons, foldl_cps x n, List.replicate_succ, List.flatten_cons]
    simp
theorem op_mul_str : OpR X (binaryOp .Mult) (fun x y H Q => ∃ (z : Str) (k : Int), x = .str z ∧ y = .int k ∧ -(2 ^ 63) ≤ k ∧ k < 2 ^ 63 ∧ z.length * k.toNat ≤ SZ ∧ ∀ w : Str, w.cps.toList = (List.replicate k.toNat z.cps.toList).flatten → Q (.str w) H) := by
  intro pins s σ H x y v u Q I rx ry h
  obtain ⟨z, k, rfl, rfl, h1, h2, h3, q⟩ := h
  obtain ⟨t, rfl⟩ := rx
  obtain ⟨t', rfl⟩ := ry
  have hs : SZ = 16777216 := rfl
  have tl : ¬ k < 1 → Builtin.Str.tooLong (z.length * k.toNat) = false := fun _ => by
    have := sizeLine_eq
    unfold Builtin.Str.tooLong
    exact decide_eq_false (by omega)
  refine P.mul_str (by rw [decide_eq_false (by omega), decide_eq_false (by omega)]; rfl) (fun hk hn => ?_) (fun hk _ => tl hk) ?_
  · have hk1 : 1 ≤ k := by omega
    obtain ⟨n, rfl⟩ : ∃ n : Nat, k = n := ⟨k.toNat, by omega⟩
    have e : ((n : Int)).toNat = n := by simp
    rw [e] at h3
    have h4 : ((z.length * n : Nat) : Int) ≤ 16777216 := by omega
    rw [Int.natCast_mul] at h4
    have h5 : (z.length : Int) ≤ (2 ^ 63 - 1) / (n : Int) := by
      rw [Int.le_ediv_iff_mul_le (by omega)]
      omega
    omega
  · split
    · rename_i hk
      refine ⟨by decide, .str Str.empty, H, I.tok _, ⟨_, rfl⟩, q _ ?_⟩
      have : k.toNat = 0 := by omega
      rw [this]
      rfl
    · split
      · rename_i hk hn
        refine ⟨.str z, H, I, ⟨_, rfl⟩, q _ ?_⟩
        rcases (Bool.or_eq_true _ _).mp hn with e | e
        · have e1 : k = 1 := eq_of_beq e
          subst e1
          simp
        · have e1 : z.length = 0 := eq_of_beq e
          have e2 : z.cps.toList = [] := List.eq_nil_of_length_eq_zero (by rw [Array.length_toList]; exact e1)
          rw [e2]
          symm
          rw [List.flatten_eq_nil_iff]
          intro l hl
          exact (List.eq_of_mem_replicate hl)
      · rename_i hk hn
        have e := foldl_cps z.cps k.toNat #[]
        refine ⟨?_, .str _, H, I.tok _, ⟨_, rfl⟩, q _ ?_⟩
        · show ((List.replicate k.toNat z.cps).foldl (· ++ ·) #[]).size ≤ sizeLine
          rw [← Array.length_toList, e]
          have : (List.replicate k.toNat z.cps.toList).flatten.length = k.toNat * z.length := by
            rw [List.length_flatten, List.map_replicate, List.sum_replicate_nat, Array.length_toList]
            rfl
          rw [show (#[] : Array Nat).toList = [] from rfl, List.nil_append, this, ← SZ_eq, Nat.mul_comm]
          exact h3
        · rw [e]
          rfl
theorem o_mul : Op2 X (binaryOp .Mult) oMul := by
  intro pins s σ H x y v u Q I rx ry h
  obtain ⟨m, g, S, px, py, so, r1, r2, h⟩ := h
  unfold oMul at h
  split at h
  · split at h
    · rename_i hz
      obtain rfl := r1.int_inv
      obtain rfl := r2.int_inv
      rcases mulOk_cases hz with hz | hz
      · exact op_mul pins s σ H _ _ v u Q I rx ry ⟨_, _, rfl, rfl, hz, post_p h so (.int _)⟩
      · exact op_mulW pins s σ H _ _ v u Q I rx ry ⟨_, _, rfl, rfl, hz, post_p h so (.int _)⟩
    · exact h.elim
  · split at h
    · rename_i hz
      obtain ⟨x, rfl, e1, z1, o1⟩ := r1.str_inv
      obtain rfl := r2.int_inv
      obtain ⟨a1, a2, a3⟩ := mulRep_of hz
      refine op_mul_str pins s σ H _ _ v u Q I rx ry ⟨_, _, rfl, rfl, a1, a2, by rw [str_len e1]; exact a3, fun w ew => post_p h so (.str _ _ (by rw [ew, e1]) ?_ fun c hc => ?_)⟩
      · rw [List.length_flatten, List.map_replicate, List.sum_replicate_nat, Nat.mul_comm]
        exact a3
      · obtain ⟨l, hl, hc⟩ := List.mem_flatten.mp hc
        exact o1 c (List.eq_of_mem_replicate hl ▸ hc)
    · exact h.elim
  · split at h
    · rename_i hz
      simp only [Bool.and_eq_true, decide_eq_true_eq, Bool.not_eq_true'] at hz
      obtain ⟨⟨⟨a1, a2⟩, a3⟩, a4⟩ := hz
      obtain ⟨a, vs, rfl, f1, q1⟩ := r1.tup_inv
      obtain rfl := r2.int_inv
      refine op_repT pins s σ H _ _ v u Q I rx ry ⟨_, _, _, rfl, rfl, f1.sq, fun e => ?_, a1, a2, by rw [q1.length]; exact a3, fun p np => post_t h so (q1.rep _) np⟩
      subst e
      cases q1
      cases a4
    · exact h.elim
  · split at h
    · rename_i a e1
      split at h
      · rename_i hz
        obtain ⟨p, vs, rfl, f1, q1⟩ := dl_ok so r1 e1
        obtain rfl := r2.int_inv
        obtain ⟨a1, a2, a3⟩ := mulRep_of hz
        exact op_rep pins s σ H _ _ v u Q I rx ry ⟨_, _, _, rfl, rfl, f1, a1, a2, by rw [q1.length, ← SZ_eq]; exact a3, fun p np => post_l h so (q1.rep _) np⟩
      · exact h.elim
    · exact h.elim
  · exact h.elim
end
end Pv

namespace Pv
open PySem PySem.Spec PyProof.Rows L2
mutual
def toD : PV → PyData
  | .non => .none
  | .bl b => .bool b
  | .int i => .int i
  | .str l => .str ⟨l.toArray⟩
  | .tup xs => .tuple (toDs xs)
  | .lst xs => .list (toDs xs)
  | .scr _ => .none
  | .ref _ => .none
def toDs : List PV → List PyData
  | [] => []
  | x :: xs => toD x :: toDs xs
end
mutual
def dpt : PV → Nat
  | .non => 0
  | .bl _ => 0
  | .int _ => 0
  | .str _ => 0
  | .tup xs => dpts xs + 1
  | .lst xs => dpts xs + 1
  | .scr _ => 1000
  | .ref _ => 1000
def dpts : List PV → Nat
  | [] => 0
  | x :: xs => max (dpt x) (dpts xs)
end
mutual
def eqPV : PV → PV → Bool
  | .non, .non => true
  | .bl a, .bl b => a == b
  | .bl a, .int j => (if a then 1 else 0) == j
  | .int i, .bl b => i == (if b then 1 else 0)
  | .int i, .int j => i == j
  | .str x, .str y => x == y
  | .lst xs, .lst ys => eqPVs xs ys
  | .tup xs, .tup ys => eqPVs xs ys
  | _, _ => false
def eqPVs : List PV → List PV → Bool
  | [], [] => true
  | x :: xs, y :: ys => eqPV x y && eqPVs xs ys
  | _, _ => false
end
theorem str_beq (a b : List Nat) : ((⟨a.toArray⟩ : Str) == ⟨b.toArray⟩) = (a == b) := by
  rw [Bool.eq_iff_iff, beq_iff_eq, beq_iff_eq]
  constructor
  · intro h
    injection h with h
    simpa using h
  · rintro rfl
    rfl
mutual
theorem eqv_toD : ∀ x y : PV, dpt x ≤ 64 → dpt y ≤ 64 → PyData.eqv (toD x) (toD y) = eqPV x y
  | .non, y, _, hy => by cases y <;> simp [toD, PyData.eqv, eqPV, dpt] at hy ⊢
  | .bl a, y, _, hy => by cases y <;> simp [toD, PyData.eqv, eqPV, dpt] at hy ⊢
  | .int a, y, _, hy => by cases y <;> simp [toD, PyData.eqv, eqPV, dpt] at hy ⊢
  | .str a, y, _, hy => by
    cases y with
    | str b =>
      show ((⟨a.toArray⟩ : Str) == ⟨b.toArray⟩) = (a == b)
      exact str_beq a b
    | _ => simp [toD, PyData.eqv, eqPV, dpt] at hy ⊢
  | .lst a, y, hx, hy => by
    cases y with
    | lst b =>
      show PyData.eqvAll (toDs a) (toDs b) = eqPVs a b
      exact eqv_toDs a b (by simp only [dpt] at hx; omega) (by simp only [dpt] at hy; omega)
    | _ => simp [toD, PyData.eqv, eqPV, dpt] at hy ⊢
  | .tup a, y, hx, hy => by
    cases y with
    | tup b =>
      show PyData.eqvAll (toDs a) (toDs b) = eqPVs a b
      exact eqv_toDs a b (by simp only [dpt] at hx; omega) (by simp only [dpt] at hy; omega)
    | _ => simp [toD, PyData.eqv, eqPV, dpt] at hy ⊢
  | .scr a, y, hx, hy => by simp [dpt] at hx
  | .ref a, y, hx, hy => by simp [dpt] at hx
theorem eqv_toDs : ∀ xs ys : List PV, dpts xs ≤ 64 → dpts ys ≤ 64 → PyData.eqvAll (toDs xs) (toDs ys) = eqPVs xs ys
  | [], [], _, _ => rfl
  | [], _ :: _, _, _ => rfl
  | _ :: _, [], _, _ => rfl
  | x :: xs, y :: ys, hx, hy => by
    simp only [dpts] at hx hy
    show (PyData.eqv (toD x) (toD y) && PyData.eqvAll (toDs xs) (toDs ys)) = (eqPV x y && eqPVs xs ys)
    rw [eqv_toD x y (by omega) (by omega), eqv_toDs xs ys (by omega) (by omega)]
end
mutual
theorem depth_toD : ∀ x : PV, dpt x ≤ 64 → (toD x).depth = dpt x
  | .non, _ => rfl
  | .bl _, _ => rfl
  | .int _, _ => rfl
  | .str _, _ => rfl
  | .tup xs, h => by
    simp only [dpt] at h
    show PyData.depthAll (toDs xs) + 1 = dpts xs + 1
    rw [depth_toDs xs (by omega)]
  | .lst xs, h => by
    simp only [dpt] at h
    show PyData.depthAll (toDs xs) + 1 = dpts xs + 1
    rw [depth_toDs xs (by omega)]
  | .scr _, h => by simp [dpt] at h
  | .ref _, h => by simp [dpt] at h
theorem depth_toDs : ∀ xs : List PV, dpts xs ≤ 64 → PyData.depthAll (toDs xs) = dpts xs
  | [], _ => rfl
  | x :: xs, h => by
    simp only [dpts] at h
    show max (toD x).depth (PyData.depthAll (toDs xs)) = max (dpt x) (dpts xs)
    rw [depth_toD x (by omega), depth_toDs xs (by omega)]
end
section
variable {K : PySem.W.Frag} {m g : List Addr} {H : Hp} {S : Sto}
mutual
theorem RepP.dp : ∀ {x : PV} {v : V}, RepP K g H v x → dpt x ≤ 64 → Dp K H v (toD x) ∧ (toD x).canLay0 = true
  | .non, _, h, _ => by cases h; exact ⟨.non, rfl⟩
  | .bl b, _, h, _ => by cases h; exact ⟨.bl b, rfl⟩
  | .int i, _, h, _ => by cases h; exact ⟨.int i, rfl⟩
  | .str l, _, h, _ => by
    cases h with
    | str x l e hz ho =>
      subst e
      refine ⟨.str x, ?_⟩
      show PyData.canLay0 (.str x) = true
      simp only [PyData.canLay0, PyData.strOk]
      rw [Array.all_eq_true']
      intro c hc
      exact decide_eq_true (ho c (by simpa using hc))
  | .tup xs, _, h, hd => by
    cases h with
    | tup h1 r =>
      simp only [dpt] at hd
      obtain ⟨d1, d2⟩ := RepsP.dp r (by omega)
      exact ⟨.tup h1.sq d1, d2⟩
  | .lst xs, _, h, hd => by
    cases h with
    | lst h1 r =>
      simp only [dpt] at hd
      obtain ⟨d1, d2⟩ := RepsP.dp r (by omega)
      exact ⟨.lst (.of h1.1) d1, d2⟩
  | .scr _, _, _, hd => by simp [dpt] at hd
  | .ref _, _, _, hd => by simp [dpt] at hd
theorem RepsP.dp : ∀ {xs : List PV} {vs : List V}, RepsP K g H vs xs → dpts xs ≤ 64 → DpAll K H vs (toDs xs) ∧ PyData.canLayAll0 (toDs xs) = true
  | [], _, h, _ => by cases h; exact ⟨.nil, rfl⟩
  | x :: xs, _, h, hd => by
    cases h with
    | cons h1 h2 =>
      simp only [dpts] at hd
      obtain ⟨a1, a2⟩ := RepP.dp h1 (by omega)
      obtain ⟨b1, b2⟩ := RepsP.dp h2 (by omega)
      refine ⟨.cons a1 b1, ?_⟩
      show (PyData.canLay0 (toD x) && PyData.canLayAll0 (toDs xs)) = true
      rw [a2, b2]
      rfl
end
/-- a cell read as a list -/
def dv (S : Sto) : PV → PV
  | .ref n => match S[n]? with
    | some (.lst xs) => .lst xs
    | _ => .ref n
  | x => x
theorem dv_dp {v : V} {x : PV} (so : StOk K m g H S) (r : Rep K m g H v x) (hd : dpt (dv S x) ≤ 64) : Dp K H v (toD (dv S x)) ∧ (toD (dv S x)).canLay0 = true := by
  cases r with
  | p r =>
    have e : dv S x = x := by cases r <;> rfl
    rw [e] at hd ⊢
    exact r.dp hd
  | @r n a h1 =>
    have hn : n < S.length := by rw [← so.len]; exact (List.getElem?_eq_some_iff.mp h1).1
    obtain ⟨o, e⟩ : ∃ o, S[n]? = some o := ⟨_, List.getElem?_eq_getElem hn⟩
    have c := so.cell n a _ h1 e
    cases o with
    | lst ys =>
      obtain ⟨vs, c1, c2⟩ := c
      have e2 : dv S (.ref n) = .lst ys := by
        show (match S[n]? with
          | some (.lst xs) => PV.lst xs
          | _ => .ref n) = _
        rw [e]
      rw [e2] at hd ⊢
      simp only [dpt] at hd
      obtain ⟨d1, d2⟩ := c2.dp (by omega)
      exact ⟨.lst (.of c1) d1, d2⟩
theorem dv_shaped {v : V} {x : PV} (so : StOk K m g H S) (r : Rep K m g H v x) (hd : dpt (dv S x) ≤ 64) : SeqAt.shaped (toD (dv S x)) = true := by
  unfold SeqAt.shaped
  rw [(dv_dp so r hd).2, depth_toD _ hd]
  exact decide_eq_true hd
end
section
variable {X : Cx}
def oEq : F2 := fun x y S => if (decide (dpt (dv S x) ≤ 64) && decide (dpt (dv S y) ≤ 64)) = true then .ok (.bl (eqPV (dv S x) (dv S y))) S else .no
def oNe : F2 := fun x y S => if (decide (dpt (dv S x) ≤ 64) && decide (dpt (dv S y) ≤ 64)) = true then .ok (.bl (!eqPV (dv S x) (dv S y))) S else .no
theorem o_eq (hu : X.A.units + 64 < cLine) : Op2 X (compareOp .Eq) oEq := by
  intro pins s σ H x y v u Q I rx ry h
  obtain ⟨m, g, S, px, py, so, r1, r2, h⟩ := h
  unfold oEq at h
  split at h
  · rename_i hd
    simp only [Bool.and_eq_true, decide_eq_true_eq] at hd
    refine op_eqD hu pins s σ H _ _ v u Q I rx ry ⟨_, _, (dv_dp so r1 hd.1).1, (dv_dp so r2 hd.2).1, dv_shaped so r1 hd.1, dv_shaped so r2 hd.2, ?_⟩
    rw [eqv_toD _ _ hd.1 hd.2]
    exact post_p h so (.bl _)
  · exact h.elim
theorem o_ne (hu : X.A.units + 64 < cLine) : Op2 X (compareOp .NotEq) oNe := by
  intro pins s σ H x y v u Q I rx ry h
  obtain ⟨m, g, S, px, py, so, r1, r2, h⟩ := h
  unfold oNe at h
  split at h
  · rename_i hd
    simp only [Bool.and_eq_true, decide_eq_true_eq] at hd
    refine op_neD hu pins s σ H _ _ v u Q I rx ry ⟨_, _, (dv_dp so r1 hd.1).1, (dv_dp so r2 hd.2).1, dv_shaped so r1 hd.1, dv_shaped so r2 hd.2, ?_⟩
    rw [eqv_toD _ _ hd.1 hd.2]
    exact post_p h so (.bl _)
  · exact h.elim
/-- order of ints, of texts -/
def oOrd (f : Int → Int → Bool) (k : List Nat → List Nat → Bool) : F2 := fun x y S => match x, y with
  | .int i, .int j => .ok (.bl (f i j)) S
  | .str a, .str b => .ok (.bl (k a b)) S
  | _, _ => .no
theorem o_ord {op : CmpOp} {f : Int → Int → Bool} {k : List Nat → List Nat → Bool} (h1 : OpR X (compareOp op) (rI0 fun i j => .bl (f i j)))
    (h2 : OpR X (compareOp op) (fun x y H Q => ∃ i j, x = .str i ∧ y = .str j ∧ Q (.bl (k i.cps.toList j.cps.toList)) H)) : Op2 X (compareOp op) (oOrd f k) := by
  intro pins s σ H x y v u Q I rx ry h
  obtain ⟨m, g, S, px, py, so, r1, r2, h⟩ := h
  unfold oOrd at h
  split at h
  · obtain rfl := r1.int_inv
    obtain rfl := r2.int_inv
    exact h1 pins s σ H _ _ v u Q I rx ry ⟨_, _, rfl, rfl, post_p h so (.bl _)⟩
  · obtain ⟨x, rfl, e1, _, _⟩ := r1.str_inv
    obtain ⟨y, rfl, e2, _, _⟩ := r2.str_inv
    subst e1 e2
    exact h2 pins s σ H _ _ v u Q I rx ry ⟨_, _, rfl, rfl, post_p h so (.bl _)⟩
  · exact h.elim
def oLt : F2 := oOrd (fun i j => decide (i < j)) fun a b => decide (a < b)
theorem o_lt : Op2 X (compareOp .Lt) oLt := o_ord op_lt op_lt_str
def oLe : F2 := oOrd (fun i j => decide (i ≤ j)) fun a b => !decide (b < a)
theorem o_le : Op2 X (compareOp .LtE) oLe := o_ord op_le op_le_str
def oGt : F2 := oOrd (fun i j => decide (j < i)) fun a b => decide (b < a)
theorem o_gt : Op2 X (compareOp .Gt) oGt := o_ord op_gt op_gt_str
def oGe : F2 := oOrd (fun i j => decide (j ≤ i)) fun a b => !decide (a < b)
theorem o_ge : Op2 X (compareOp .GtE) oGe := o_ord op_ge op_ge_str
/-- is None -/
def isNon : PV → Bool
  | .non => true
  | _ => false
def oIs : F2 := fun x y S => match y with
  | .non => .ok (.bl (isNon x)) S
  | _ => .no
def oIsNot : F2 := fun x y S => match y with
  | .non => .ok (.bl (!isNon x)) S
  | _ => .no
theorem isNon_of {K : PySem.W.Frag} {m g : List Addr} {H : Hp} {v : V} {x : PV} (r : Rep K m g H v x) : decide (v = .non) = isNon x := by
  cases r with
  | p r => cases r <;> simp [isNon]
  | r h => simp [isNon]
theorem o_is : Op2 X (compareOp .Is) oIs := by
  intro pins s σ H x y v u Q I rx ry h
  obtain ⟨m, g, S, px, py, so, r1, r2, h⟩ := h
  unfold oIs at h
  split at h
  · obtain rfl := r2.non_inv
    refine op_isN pins s σ H _ _ v u Q I rx ry ⟨rfl, ?_⟩
    rw [isNon_of r1]
    exact post_p h so (.bl _)
  · exact h.elim
theorem o_isnot : Op2 X (compareOp .IsNot) oIsNot := by
  intro pins s σ H x y v u Q I rx ry h
  obtain ⟨m, g, S, px, py, so, r1, r2, h⟩ := h
  unfold oIsNot at h
  split at h
  · obtain rfl := r2.non_inv
    refine op_notN pins s σ H _ _ v u Q I rx ry ⟨rfl, ?_⟩
    rw [isNon_of r1]
    exact post_p h so (.bl _)
  · exact h.elim
end
end Pv

namespace Pv
open PySem PySem.Spec PyProof.Rows L2
theorem any_toDs (x : PV) (hx : dpt x ≤ 64) : ∀ ys : List PV, dpts ys ≤ 64 → (toDs ys).any (fun z => PyData.eqv z (toD x)) = ys.any fun z => eqPV z x
  | [], _ => rfl
  | y :: ys, h => by
    simp only [dpts] at h
    show (PyData.eqv (toD y) (toD x) || (toDs ys).any (fun z => PyData.eqv z (toD x))) = _
    rw [eqv_toD y x (by omega) hx, any_toDs x hx ys (by omega)]
    rfl
section
variable {X : Cx} {e a b : Expr} {fa fb : FE} {pos p2 : Pos}
/-- one sign in a text; something in a list, in a tuple -/
def inPV (S : Sto) (x y : PV) : Option Bool := match x, y with
  | .str [c], .str l => some (decide (c ∈ l))
  | x, y => match dv S y with
    | .lst ys => if (decide (dpt (dv S x) ≤ 64) && decide (dpts ys ≤ 63)) = true then some (ys.any fun z => eqPV z (dv S x)) else none
    | .tup ys => if (decide (dpt (dv S x) ≤ 64) && decide (dpts ys ≤ 63)) = true then some (ys.any fun z => eqPV z (dv S x)) else none
    | _ => none
def oIn : F2 := fun x y S => match inPV S x y with
  | some b => .ok (.bl b) S
  | none => .no
def oNotIn : F2 := fun x y S => match inPV S x y with
  | some b => .ok (.bl (!b)) S
  | none => .no
theorem op_inDT (hu : X.A.units + 65 < cLine) : OpR X (compareOp .In) (fun x y H Q => ∃ d ds, Dp X.K H x d ∧ Dp X.K H y (.tuple ds) ∧ SeqAt.shaped d = true ∧ SeqAt.shaped (.tuple ds) = true ∧ Q (.bl (ds.any fun z => PyData.eqv z d)) H) := by
  intro pins s σ H x y v u Q I rx ry h
  obtain ⟨d, ds, hd, he, sd, se, q⟩ := h
  obtain ⟨as, r1⟩ := Dp.reads I d x v hd rx
  obtain ⟨bs, r2⟩ := Dp.reads I (.tuple ds) y u he ry
  exact SeqAt.in_tuple_reads r2 r1 (SeqAt.canLay_of_shaped se) (SeqAt.canLay_of_shaped sd) (room_in_shaped sd hu) ⟨.bl _, H, I, rfl, q⟩
theorem op_notInDT (hu : X.A.units + 65 < cLine) : OpR X (compareOp .NotIn) (fun x y H Q => ∃ d ds, Dp X.K H x d ∧ Dp X.K H y (.tuple ds) ∧ SeqAt.shaped d = true ∧ SeqAt.shaped (.tuple ds) = true ∧ Q (.bl (!ds.any fun z => PyData.eqv z d)) H) := by
  intro pins s σ H x y v u Q I rx ry h
  obtain ⟨d, ds, hd, he, sd, se, q⟩ := h
  obtain ⟨as, r1⟩ := Dp.reads I d x v hd rx
  obtain ⟨bs, r2⟩ := Dp.reads I (.tuple ds) y u he ry
  exact SeqAt.notIn_tuple_reads r2 r1 (SeqAt.canLay_of_shaped se) (SeqAt.canLay_of_shaped sd) (room_in_shaped sd hu) ⟨.bl _, H, I, rfl, q⟩
/-- what the two rules ask, from inPV's answer -/
theorem inPV_ok {K : PySem.W.Frag} {m g : List Addr} {H : Hp} {S : Sto} {v u : V} {x y : PV} {k : Bool} (so : StOk K m g H S) (r1 : Rep K m g H v x) (r2 : Rep K m g H u y) (h : inPV S x y = some k) :
    (∃ (c : Nat) (z : Str), v = .str ⟨#[c]⟩ ∧ u = .str z ∧ decide (c ∈ z.cps.toList) = k) ∨
    (∃ d ds, Dp K H v d ∧ Dp K H u (.list ds) ∧ SeqAt.shaped d = true ∧ SeqAt.shaped (.list ds) = true ∧ (ds.any fun z => PyData.eqv z d) = k) ∨
    (∃ d ds, Dp K H v d ∧ Dp K H u (.tuple ds) ∧ SeqAt.shaped d = true ∧ SeqAt.shaped (.tuple ds) = true ∧ (ds.any fun z => PyData.eqv z d) = k) := by
  unfold inPV at h
  split at h
  · rename_i c l
    obtain ⟨z1, rfl, e1, _, _⟩ := r1.str_inv
    obtain ⟨z2, rfl, e2, _, _⟩ := r2.str_inv
    refine .inl ⟨c, z2, ?_, rfl, ?_⟩
    · congr 1
      obtain ⟨arr⟩ := z1
      congr 1
      apply Array.toList_inj.mp
      simpa using e1
    · subst e2
      exact Option.some.inj h
  · split at h
    · rename_i ys ey
      split at h
      · rename_i hd
        simp only [Bool.and_eq_true, decide_eq_true_eq] at hd
        have hy : dpt (dv S y) ≤ 64 := by rw [ey]; simp only [dpt]; omega
        have d1 := dv_dp so r1 hd.1
        have d2 := dv_dp so r2 hy
        have s2 := dv_shaped so r2 hy
        rw [ey] at d2 s2
        exact .inr (.inl ⟨_, toDs ys, d1.1, d2.1, dv_shaped so r1 hd.1, s2, by rw [any_toDs _ hd.1 ys (by omega)]; exact Option.some.inj h⟩)
      · cases h
    · rename_i ys ey
      split at h
      · rename_i hd
        simp only [Bool.and_eq_true, decide_eq_true_eq] at hd
        have hy : dpt (dv S y) ≤ 64 := by rw [ey]; simp only [dpt]; omega
        have d1 := dv_dp so r1 hd.1
        have d2 := dv_dp so r2 hy
        have s2 := dv_shaped so r2 hy
        rw [ey] at d2 s2
        exact .inr (.inr ⟨_, toDs ys, d1.1, d2.1, dv_shaped so r1 hd.1, s2, by rw [any_toDs _ hd.1 ys (by omega)]; exact Option.some.inj h⟩)
      · cases h
    · cases h
theorem o_in (hu : X.A.units + 65 < cLine) : Op2 X (compareOp .In) oIn := by
  intro pins s σ H x y v u Q I rx ry h
  obtain ⟨m, g, S, px, py, so, r1, r2, h⟩ := h
  unfold oIn at h
  split at h
  · rename_i k hk
    rcases inPV_ok so r1 r2 hk with ⟨c, z, rfl, rfl, e⟩ | ⟨d, ds, a1, a2, a3, a4, e⟩ | ⟨d, ds, a1, a2, a3, a4, e⟩
    · exact op_in_sign pins s σ H _ _ v u Q I rx ry ⟨c, z, rfl, rfl, by rw [e]; exact post_p h so (.bl _)⟩
    · exact op_inD hu pins s σ H _ _ v u Q I rx ry ⟨d, ds, a1, a2, a3, a4, by rw [e]; exact post_p h so (.bl _)⟩
    · exact op_inDT hu pins s σ H _ _ v u Q I rx ry ⟨d, ds, a1, a2, a3, a4, by rw [e]; exact post_p h so (.bl _)⟩
  · exact h.elim
theorem o_notin (hu : X.A.units + 65 < cLine) : Op2 X (compareOp .NotIn) oNotIn := by
  intro pins s σ H x y v u Q I rx ry h
  obtain ⟨m, g, S, px, py, so, r1, r2, h⟩ := h
  unfold oNotIn at h
  split at h
  · rename_i k hk
    rcases inPV_ok so r1 r2 hk with ⟨c, z, rfl, rfl, e⟩ | ⟨d, ds, a1, a2, a3, a4, e⟩ | ⟨d, ds, a1, a2, a3, a4, e⟩
    · exact op_notIn_sign pins s σ H _ _ v u Q I rx ry ⟨c, z, rfl, rfl, by rw [e]; exact post_p h so (.bl _)⟩
    · exact op_notInD hu pins s σ H _ _ v u Q I rx ry ⟨d, ds, a1, a2, a3, a4, by rw [e]; exact post_p h so (.bl _)⟩
    · exact op_notInDT hu pins s σ H _ _ v u Q I rx ry ⟨d, ds, a1, a2, a3, a4, by rw [e]; exact post_p h so (.bl _)⟩
  · exact h.elim
theorem in_mark {op : CmpOp} {x : Str} {pos' : Pos} : behindInMarks op (.Name x pos') = false := by cases op <;> rfl

/-! ### subscripts -/
def oIx : F2 := fun x y S => match x, y with
  | .str l, .int i => match atI l i with
    | some c => .ok (.str [c]) S
    | none => .no
  | .tup xs, .int i => match atI xs i with
    | some v => .ok v S
    | none => .no
  | .scr ns, .int i => match atI ns i with
    | some v => .ok (.int v) S
    | none => .no
  | x, .int i => match dl S x with
    | some xs => match atI xs i with
      | some v => .ok v S
      | none => .no
    | none => .no
  | _, _ => .no
theorem RepsP.at {K : PySem.W.Frag} {g : List Addr} {H : Hp} {vs : List V} {xs : List PV} {i : Int} {x : PV} (r : RepsP K g H vs xs) (h : atI xs i = some x) : ∃ v, atI vs i = some v ∧ RepP K g H v x := by
  unfold atI at h ⊢
  rw [r.length]
  cases e : ixN xs.length i with
  | none => rw [e] at h; cases h
  | some j =>
    rw [e] at h
    obtain ⟨v, h1, h2⟩ := r.get (i := j) (x := x) h
    exact ⟨v, h1, h2⟩
theorem i_ix : IxR X (rO X.K oIx) := by
  intro value slice pins s σ H x y v u Q I rx ry h
  obtain ⟨m, g, S, px, py, so, r1, r2, h⟩ := h
  unfold oIx at h
  split at h
  · rename_i l i
    split at h
    · rename_i c hc
      obtain ⟨z, rfl, e, hz, ho⟩ := r1.str_inv
      obtain rfl := r2.int_inv
      subst e
      have hm : c ∈ z.cps.toList := by
        unfold atI at hc
        cases e2 : ixN z.cps.toList.length i with
        | none => rw [e2] at hc; cases hc
        | some j => rw [e2] at hc; exact List.mem_of_getElem? hc
      refine ix_seq value slice pins s σ H _ _ v u Q I rx ry (.inr (.inr ⟨z, i, c, rfl, rfl, by rw [← SZ_eq]; exact (by rw [str_len rfl]; exact hz), hc, post_p h so (.str _ _ rfl (by show (1 : Nat) ≤ SZ; decide) fun d hd => ?_)⟩))
      rw [List.mem_singleton.mp hd]
      exact ho c hm
    · exact h.elim
  · rename_i xs i
    split at h
    · rename_i x hx
      obtain ⟨a, vs, rfl, f, q⟩ := r1.tup_inv
      obtain rfl := r2.int_inv
      obtain ⟨w, h1, h2⟩ := q.at hx
      exact ix_seq value slice pins s σ H _ _ v u Q I rx ry (.inr (.inl ⟨a, vs, i, w, rfl, rfl, f.sq, h1, post_p h so h2⟩))
    · exact h.elim
  · rename_i ns i
    split at h
    · rename_i n hn
      cases r1 with
      | p r1 =>
        cases r1 with
        | scr hq =>
          obtain rfl := r2.int_inv
          refine ix_seq value slice pins s σ H _ _ v u Q I rx ry (.inl ⟨_, _, i, .int n, rfl, rfl, hq.sq, ?_, post_p h so (.int _)⟩)
          unfold atI at hn ⊢
          rw [List.length_map]
          cases e2 : ixN ns.length i with
          | none => rw [e2] at hn; cases hn
          | some j =>
            rw [e2] at hn
            show (ns.map V.int)[j]? = _
            rw [List.getElem?_map]
            have hn : ns[j]? = some n := hn
            rw [hn]
            rfl
    · exact h.elim
  · split at h
    · rename_i xs hxs
      split at h
      · rename_i x hx
        obtain ⟨a, vs, rfl, f, q⟩ := dl_ok so r1 hxs
        obtain rfl := r2.int_inv
        obtain ⟨w, h1, h2⟩ := q.at hx
        exact ix_seq value slice pins s σ H _ _ v u Q I rx ry (.inl ⟨a, vs, _, w, rfl, rfl, .of f, h1, post_p h so h2⟩)
      · exact h.elim
    · exact h.elim
  · exact h.elim
theorem s_ix (ha : SE X a fa) (hb : SE X b fb) (hs : PlainIx b := by exact fun _ _ => rfl) : SE X (.Subscript a b pos) (eBin oIx fa fb) := imE (pe_ix i_ix ha hb hs) fun _ _ _ h => tOp_of h

/-! ### slices -/
abbrev FO := VEnv → Sto → R (Option Int)
def oNone : FO := fun _ S => .ok none S
def oSome (f : FE) : FO := fun env S => (f env S).bind fun x S => match x with
  | .int i => .ok (some i) S
  | _ => .no
def PostO (K : PySem.W.Frag) (m g : List Addr) (H : Hp) (r : R (Option Int)) (Q : Option Int → Hp → Prop) : Prop := match r with
  | .ok b S' => ∀ m' g' H', Nx m g H m' g' H' → StOk K m' g' H' S' → Q b H'
  | .no => False
def tOp' (K : PySem.W.Frag) (f : FO) : TO := fun σ H Q => ∃ m g S env, StOk K m g H S ∧ EnvOk K m g H σ env ∧ PostO K m g H (f env S) Q
def SO' (X : Cx) (e : Option Expr) (f : FO) : Prop := PO X e (tOp' X.K f)
theorem so_none : SO' X none oNone := ⟨fun pins s σ H Q I h => po_none.run pins s σ H Q I (by
  obtain ⟨m, g, S, env, so, eo, h⟩ := h
  exact h m g H .refl so)⟩
theorem so_some (ha : SE X a fa) : SO' X (some a) (oSome fa) := ⟨fun pins s σ H Q I h => (po_some ha).run pins s σ H Q I (by
  obtain ⟨m, g, S, env, so, eo, h⟩ := h
  refine ⟨m, g, S, env, so, eo, ?_⟩
  unfold oSome at h
  unfold PostV
  cases e : fa env S with
  | no => rw [e] at h; exact h
  | ok x S' =>
    rw [e] at h
    intro v m' g' H' nx so' r
    cases x with
    | int i =>
      obtain rfl := r.int_inv
      exact ⟨i, rfl, h m' g' H' nx so'⟩
    | _ => exact absurd h id)⟩
def cut {α : Type} (xs : List α) (lo hi : Option Int) : List α := (xs.drop (HT.sIx xs.length 0 lo)).take (HT.sIx xs.length xs.length hi - HT.sIx xs.length 0 lo)
def oSl (x : PV) (lo hi : Option Int) (S : Sto) : R PV := match x with
  | .str l => .ok (.str (cut l lo hi)) S
  | .tup xs => .ok (.tup (cut xs lo hi)) S
  | .scr ns => .ok (.lst ((cut ns lo hi).map .int)) S
  | x => match dl S x with
    | some xs => .ok (.lst (cut xs lo hi)) S
    | none => .no
theorem RepsP.cut {K : PySem.W.Frag} {g : List Addr} {H : Hp} {vs : List V} {xs : List PV} (r : RepsP K g H vs xs) (lo hi : Option Int) : RepsP K g H (cutV vs lo hi) (Pv.cut xs lo hi) := by
  unfold cutV Pv.cut
  rw [r.length]
  exact (r.drop _).take _
theorem cut_len {α : Type} (xs : List α) (lo hi : Option Int) : (cut xs lo hi).length ≤ xs.length := by
  unfold cut
  rw [List.length_take, List.length_drop]
  omega
theorem cut_mem {α : Type} {xs : List α} {lo hi : Option Int} {c : α} (h : c ∈ cut xs lo hi) : c ∈ xs := List.mem_of_mem_drop (List.mem_of_mem_take h)
theorem ints_rep {K : PySem.W.Frag} {g : List Addr} {H : Hp} : ∀ ns : List Int, RepsP K g H (ns.map V.int) (ns.map PV.int)
  | [] => .nil
  | n :: ns => .cons (.int n) (ints_rep ns)
theorem sl_ok : SlR X (fun x lo hi H Q => ∃ m g S px, StOk X.K m g H S ∧ Rep X.K m g H x px ∧ PostV X.K m g H (oSl px lo hi S) Q) := by
  intro pins s σ H x v vl vu lo hi sl Q I rx hs pl pu h
  obtain ⟨m, g, S, px, so, r, h⟩ := h
  unfold oSl at h
  split at h
  · obtain ⟨z, rfl, e, hz, ho⟩ := r.str_inv
    subst e
    refine sl_str pins s σ H _ v vl vu lo hi sl Q I rx hs pl pu ⟨z, rfl, by rw [← SZ_eq, str_len rfl]; exact hz, post_p h so (.str _ _ ?_ (Nat.le_trans (cut_len _ _ _) hz) fun c hc => ho c (cut_mem hc))⟩
    show ((z.cps.toList.drop (HT.sIx z.length 0 lo)).take (HT.sIx z.length z.length hi - HT.sIx z.length 0 lo)).toArray.toList = _
    rw [List.toList_toArray]
    rfl
  · obtain ⟨a, vs, rfl, f, q⟩ := r.tup_inv
    refine sl_tupA pins s σ H _ v vl vu lo hi sl Q I rx hs pl pu ⟨a, vs, rfl, f.sq, fun hw => ?_, fun hw p np => post_t h so (q.cut lo hi) np⟩
    have e : ∀ {α : Type} (xs : List α), HT.sIx xs.length 0 lo = 0 ∧ HT.sIx xs.length xs.length hi = xs.length → Pv.cut xs lo hi = xs := fun xs h => by
      unfold Pv.cut
      rw [h.1, h.2, List.drop_zero, Nat.sub_zero, List.take_length]
    rw [q.length] at hw
    rw [e _ hw] at h
    exact post_p h so (.tup f q)
  · rename_i ns
    cases r with
    | p r =>
      cases r with
      | scr hq =>
        refine sl_list pins s σ H _ v vl vu lo hi sl Q I rx hs pl pu ⟨_, _, rfl, hq.sq, fun p np => post_l h so ?_ np⟩
        have e : cutV (ns.map V.int) lo hi = (Pv.cut ns lo hi).map V.int := by
          unfold cutV Pv.cut
          rw [List.length_map, List.map_take, List.map_drop]
        rw [e]
        exact ints_rep _
  · split at h
    · rename_i xs hxs
      obtain ⟨a, vs, rfl, f, q⟩ := dl_ok so r hxs
      exact sl_list pins s σ H _ v vl vu lo hi sl Q I rx hs pl pu ⟨_, _, rfl, .of f, fun p np => post_l h so (q.cut lo hi) np⟩
    · exact h.elim
def eSl (f : FE) (lo hi : FO) : FE := fun env S => (f env S).bind fun x S => (lo env S).bind fun l S => (hi env S).bind fun h S => oSl x l h S
theorem s_sl {lo hi : Option Expr} {fl fh : FO} (ha : SE X a fa) (hl : SO' X lo fl) (hh : SO' X hi fh) : SE X (.Subscript a (.Slice lo hi none p2) pos) (eSl fa fl fh) := imE (pe_slice sl_ok ha hl hh) fun σ H Q h => by
  obtain ⟨m, g, S, env, so, eo, h⟩ := h
  refine vV so eo h fun x S1 v m1 g1 H1 n1 so1 eo1 r1 h1 => ?_
  refine ⟨m1, g1, S1, env, so1, eo1, ?_⟩
  unfold PostO
  cases e1 : fl env S1 with
  | no => rw [e1] at h1; exact h1
  | ok l S2 =>
    rw [e1] at h1
    intro m2 g2 H2 n2 so2
    refine ⟨m2, g2, S2, env, so2, eo1.mono n2 so1.sub, ?_⟩
    replace h1 : PostV X.K m2 g2 H2 ((fh env S2).bind fun h S => oSl x l h S) Q := PostV.mono (K := X.K) (Q := Q) h1 n2
    unfold PostO
    cases e2 : fh env S2 with
    | no => rw [e2] at h1; exact h1
    | ok hv S3 =>
      rw [e2] at h1
      intro m3 g3 H3 n3 so3
      exact ⟨m3, g3, S3, x, so3, (r1.mono n2 so1.sub).mono n3 so2.sub, PostV.mono (K := X.K) (Q := Q) h1 n3⟩
end
end Pv

namespace Pv
open PySem PySem.Spec PyProof.Rows L2

/-! ### defs: called, shown -/
abbrev FF := List PV → Sto → R PV
/-- what a def promises -/
def spOf (K : PySem.W.Frag) (F : FF) : Sp := fun vs H Q E => ∃ m g S xs, StOk K m g H S ∧ Reps K m g H vs xs ∧ PostV K m g H (F xs S) Q
/-- the def x stands, and does F -/
structure DefOk (P : Program) (w : World) (K : PySem.W.Frag) (mg : Str → Option Value) (base : Heap) (CX : CXT) (x : Str) (ps : List Str) (k : Nat) (F : FF) : Prop where
  ex : ∃ (f : Addr) (fd : FuncData), mg x = some (.ref f) ∧ PySem.W.keepIn K (.ref f) = true ∧ Binds K fd ps [] ∧ FnOk P w K mg base CX k f fd ps (spOf K F)
section
variable {X : Cx} {e a b : Expr} {es : List Expr} {fa fb : FE} {pos p : Pos} {CX : CXT} {k : Nat} {x : Str} {ps : List Str} {F : FF}
def eCall (F : FF) (f : FA) : FE := fun env S => (f env S).bind fun xs S => F xs S
theorem DefOk.mono {P : Program} {w : World} {K : PySem.W.Frag} {mg : Str → Option Value} {base : Heap} {j : Nat} (D : DefOk P w K mg base CX x ps j F) (h : j ≤ k) : DefOk P w K mg base CX x ps k F := by
  obtain ⟨f, fd, h1, h2, h3, h4⟩ := D.ex
  exact ⟨f, fd, h1, h2, h3, h4.mono h⟩
theorem eCall_sp {K : PySem.W.Frag} {fs : FA} {σ : L2.St} {H : Hp} {Q : V → Hp → Prop} {E : XK} (h : tO K (eCall F fs) σ H Q) : tA K fs σ H (fun vs H1 => spOf K F vs H1 Q E) := by
  obtain ⟨m, g, S, env, so, eo, h⟩ := h
  exact lV so eo h fun xs S' vs m' g' H' nx so' eo' r h => ⟨m', g', S', xs, so', r, h⟩
/-- a def of the text is called, positionally -/
theorem s_call {fs : FA} (D : DefOk X.prog X.w X.K X.mg X.base CX x ps k F) (hr : Room k X.A) (hx : Passes CX X E0) (ha : SA X (e :: es) fs) (hg : Gl X x := by rfl)
    (hdb : (x == ("__debug__" : Str)) = false := by decide) (he : starEach (e :: es) X.env = (false, eval e X.env) :: starEach es X.env := by rfl) (hpl : (backTo pos (starEach es X.env)).any (·.1) = false := by rfl) : SE X (.Call (.Name x p) (e :: es) [] pos) (eCall F fs) := by
  obtain ⟨f, fd, h1, h2, h3, h4⟩ := D.ex
  refine imE (pe_call h4 hr hg h1 h2 h3 .nil hx ha hdb he hpl) fun σ H Q h => ?_
  have q := eCall_sp (E := E0) h
  show tA X.K fs σ H (fun vs H1 => spOf X.K F (vs ++ []) H1 Q E0)
  simp only [List.append_nil]
  exact q

/-! ### what a def does -/
def startE (N : Nat) (xs : List PV) : VEnv := xs.map some ++ List.replicate (N - xs.length) none
def out (n0 : Nat) (v : PV) (S : Sto) : R PV := match v with
  | .ref n => if n < n0 then .ok (.ref n) (S.take n0) else match S[n]? with
    | some (.lst xs) => .ok (.lst xs) (S.take n0)
    | _ => .no
  | v => .ok v (S.take n0)
def outS (n0 : Nat) (r : RS) : R PV := match r with
  | .nx _ S => .ok .non (S.take n0)
  | .ret v S => out n0 v S
  | .no => .no
/-- a def of np parameters and N slots; its own lists are let go (or handed out, for good) -/
def fnOf (np N : Nat) (body : FS) : FF := fun xs S => if xs.length = np then outS S.length (body (startE N xs) S) else .no
/-- .. that hands out a list to be changed -/
def fnKeep (np N : Nat) (body : FS) : FF := fun xs S => if xs.length = np then (match body (startE N xs) S with
  | .nx _ S' => .ok .non S'
  | .ret v S' => .ok v S'
  | .no => .no) else .no
theorem Nx.back {m g m' g' : List Addr} {H H' : Hp} (n : Nx m g H m' g' H') : Nx m g H m g H' := ⟨n.ext, n.free, ⟨[], by simp⟩, fun _ h => h, fun _ h => .inl h⟩
theorem StOk.back {K : PySem.W.Frag} {m g m' g' : List Addr} {H H' : Hp} {S S' : Sto} (so : StOk K m g H S) (n : Nx m g H m' g' H') (so' : StOk K m' g' H' S') : StOk K m g H' (S'.take S.length) := by
  obtain ⟨new, e, f⟩ := n.app
  have hl : m'.length = S'.length := so'.len
  have hl2 : m.length ≤ m'.length := by rw [e, List.length_append]; omega
  refine ⟨by rw [List.length_take, ← hl, ← so.len]; omega, so.nd, so.sub, fun a h => so'.live a (n.gs a h), fun i a o h1 h2 => ?_⟩
  have hi : i < m.length := (List.getElem?_eq_some_iff.mp h1).1
  have h1' : m'[i]? = some a := by rw [e, List.getElem?_append_left hi]; exact h1
  have h2' : S'[i]? = some o := by
    rw [List.getElem?_take] at h2
    split at h2
    · exact h2
    · cases h2
  exact (so'.cell i a o h1' h2').mono ⟨fun _ _ e _ => e, fun a z => .inl (n.gs a z)⟩ fun _ e => e
theorem RepP.back {K : PySem.W.Frag} {m g m' g' : List Addr} {H H' : Hp} {v : V} {x : PV} (n : Nx m g H m' g' H') (r : RepP K g' H' v x) : RepP K g H' v x := r.mono ⟨fun _ _ e _ => e, fun a z => .inl (n.gs a z)⟩
theorem start_ok {K : PySem.W.Frag} {m g : List Addr} {H : Hp} {N : List Str} {vs : List V} {xs : List PV} (r : Reps K m g H vs xs) : EnvOk K m g H (L2.start N vs) (startE N.length xs) := by
  refine ⟨by unfold L2.start startE; simp [r.length], fun i x e => ?_⟩
  unfold startE at e
  by_cases hi : i < xs.length
  · rw [List.getElem?_append_left (by simpa using hi), List.getElem?_map] at e
    have : ∀ {i : Nat} {vs : List V} {xs : List PV}, Reps K m g H vs xs → xs[i]? = some x → ∃ v, vs[i]? = some v ∧ Rep K m g H v x := by
      intro i
      induction i with
      | zero =>
        intro vs xs h e
        cases h with
        | nil => cases e
        | cons a t => cases e; exact ⟨_, rfl, a⟩
      | succ n ih =>
        intro vs xs h e
        cases h with
        | nil => cases e
        | cons a t => exact ih t (by simpa using e)
    cases q : xs[i]? with
    | none => rw [q] at e; cases e
    | some y =>
      rw [q] at e
      cases e
      obtain ⟨v, h1, h2⟩ := this r q
      refine ⟨v, ?_, h2⟩
      unfold L2.start
      rw [List.getElem?_append_left (by rw [List.length_map, r.length]; exact hi), List.getElem?_map, h1]
      rfl
  · rw [List.getElem?_append_right (by simp; omega)] at e
    rw [List.getElem?_replicate] at e
    split at e <;> cases e
theorem fn_sp {K : PySem.W.Frag} {N : List Str} {np : Nat} {body : FS} {vs : List V} {H : Hp} {Q : VK} {E : XK} (h : spOf K (fnOf np N.length body) vs H Q E) : tS K body { nx := fun _ H' => Q .non H', rt := Q } (L2.start N vs) H := by
  obtain ⟨m, g, S, xs, so, r, h⟩ := h
  refine ⟨m, g, S, _, so, start_ok r, ?_⟩
  unfold fnOf at h
  split at h
  · unfold outS at h
    unfold PostS
    split at h
    · rename_i env S' eb
      try rw [eb]
      exact fun σ' m' g' H' nx so' eo' => h .non m g H' nx.back (so.back nx so') (.p .non)
    · rename_i v S' eb
      try rw [eb]
      intro u m' g' H' nx so' r'
      unfold out at h
      split at h
      · rename_i n
        cases r' with
        | p r' => cases r'
        | r hm =>
          rename_i a
          obtain ⟨new, e, f⟩ := nx.app
          split at h
          · rename_i hn
            refine h (.ref a) m g H' nx.back (so.back nx so') (.r ?_)
            rw [e, List.getElem?_append_left (by rw [so.len]; exact hn)] at hm
            exact hm
          · rename_i hn
            split at h
            · rename_i ys es
              obtain ⟨ws, c1, c2⟩ := so'.cell n a _ hm es
              refine h (.ref a) m g H' nx.back (so.back nx so') (.p (.lst ⟨c1, fun hg => ?_⟩ (c2.mono ⟨fun _ _ e _ => e, fun a z => .inl (nx.gs a z)⟩)))
              rw [e, List.getElem?_append_right (by rw [so.len]; omega)] at hm
              exact so.live a hg (f a (List.mem_of_getElem? hm))
            · exact h.elim
      · rename_i hv
        cases r' with
        | p r' => exact h u m g H' nx.back (so.back nx so') (.p (r'.back nx))
        | r hm => exact (hv _ rfl).elim
    · exact h.elim
  · exact h.elim
theorem fk_sp {K : PySem.W.Frag} {N : List Str} {np : Nat} {body : FS} {vs : List V} {H : Hp} {Q : VK} {E : XK} (h : spOf K (fnKeep np N.length body) vs H Q E) : tS K body { nx := fun _ H' => Q .non H', rt := Q } (L2.start N vs) H := by
  obtain ⟨m, g, S, xs, so, r, h⟩ := h
  refine ⟨m, g, S, _, so, start_ok r, ?_⟩
  unfold fnKeep at h
  split at h
  · unfold PostS
    split at h
    · rename_i env S' eb
      try rw [eb]
      exact fun σ' m' g' H' nx so' eo' => h .non m' g' H' nx so' (.p .non)
    · rename_i v S' eb
      try rw [eb]
      exact fun u m' g' H' nx so' r' => h u m' g' H' nx so' r'
    · exact h.elim
  · exact h.elim
theorem sp_len {K : PySem.W.Frag} {F : FF} {np : Nat} (hF : ∀ xs S, xs.length ≠ np → F xs S = .no) : ∀ vs H Q E, spOf K F vs H Q E → vs.length = np := fun vs H Q E ⟨m, g, S, xs, so, r, h⟩ => by
  rw [r.length]
  refine Classical.byContradiction fun hn => ?_
  rw [hF xs S hn] at h
  exact h
theorem fnOf_len {np N : Nat} {body : FS} : ∀ xs S, xs.length ≠ np → fnOf np N body xs S = .no := fun xs S h => if_neg h
theorem fnKeep_len {np N : Nat} {body : FS} : ∀ xs S, xs.length ≠ np → fnKeep np N body xs S = .no := fun xs S h => if_neg h
/-- the context of a def's body -/
abbrev bodyCx (P : Program) (w : World) (K : PySem.W.Frag) (mg : Str → Option Value) (base : Heap) (N : List Str) (qual : Str) (scope : Scope) (f : Addr) (cdv : Value) (A : Around) (outer : List Env) (s : Shared) (H : Hp) (E : XK) : Cx :=
  (cxOf CX0 P w K mg base N qual scope f cdv A outer s H E).nox
section
variable {P : Program} {w : World} {K : PySem.W.Frag} {mg : Str → Option Value} {base : Heap} {qual : Str} {params : Arguments} {body : List Stmt} {scope : Scope} {f : Addr} {fd : FuncData} {N : List Str}
theorem def_ok {fs : FS} (D : FunD K x qual params body scope [] [] f fd) (hm : mg x = some (.ref f)) (S : FnScope N ps scope)
    (hb : ∀ (kV doc pm : Value) (an : Option Addr) (cdv ct : Value) (us : List Value), us.length = ps.length → bindArgs (PySem.W.fnOf x qual params body scope .none kV doc pm an cdv ct) ⟨us, []⟩ = pure (ps.zip us))
    (h : ∀ (cdv : Value) (A : Around) (outer : List Env) (s : Shared) (H : Hp) (E : XK), Room k (A.deeper (envOfC qual scope s.heap.objs.size f cdv)) → SSs (bodyCx P w K mg base N qual scope f cdv A outer s H E) body fs) :
    DefOk P w K mg base CX0 x ps (k + 1) (fnOf ps.length N.length fs) :=
  ⟨f, fd, hm, D.kp, D.bindsN hb, D.ok S (sp_len fnOf_len) fun cdv A outer s H vs Q E hr hsp => ⟨tS K fs, PSs.nox (h cdv A outer s H E hr), fn_sp hsp⟩⟩
theorem def_keep {fs : FS} (D : FunD K x qual params body scope [] [] f fd) (hm : mg x = some (.ref f)) (S : FnScope N ps scope)
    (hb : ∀ (kV doc pm : Value) (an : Option Addr) (cdv ct : Value) (us : List Value), us.length = ps.length → bindArgs (PySem.W.fnOf x qual params body scope .none kV doc pm an cdv ct) ⟨us, []⟩ = pure (ps.zip us))
    (h : ∀ (cdv : Value) (A : Around) (outer : List Env) (s : Shared) (H : Hp) (E : XK), Room k (A.deeper (envOfC qual scope s.heap.objs.size f cdv)) → SSs (bodyCx P w K mg base N qual scope f cdv A outer s H E) body fs) :
    DefOk P w K mg base CX0 x ps (k + 1) (fnKeep ps.length N.length fs) :=
  ⟨f, fd, hm, D.kp, D.bindsN hb, D.ok S (sp_len fnKeep_len) fun cdv A outer s H vs Q E hr hsp => ⟨tS K fs, PSs.nox (h cdv A outer s H E hr), fk_sp hsp⟩⟩
/-- a def's meaning by another function, where that says something -/
theorem DefOk.imp {F' : FF} (D : DefOk P w K mg base CX x ps k F) (h : ∀ xs S v S', F' xs S = .ok v S' → F xs S = .ok v S') : DefOk P w K mg base CX x ps k F' := by
  obtain ⟨f, fd, h1, h2, h3, h4⟩ := D.ex
  refine ⟨f, fd, h1, h2, h3, h4.imp fun vs H Q E ⟨m, g, S, xs, so, r, q⟩ => ⟨m, g, S, xs, so, r, ?_⟩⟩
  cases e : F' xs S with
  | no => rw [e] at q; exact q.elim
  | ok v S' => rw [h _ _ _ _ e, ← e]; exact q
end

/-! ### statements -/
variable {st : Stmt} {rest : List Stmt} {fs gs : FS}
def sNil : FS := fun env S => .nx env S
def sSeq (f g : FS) : FS := fun env S => match f env S with
  | .nx env' S' => g env' S'
  | .ret v S' => .ret v S'
  | .no => .no
theorem ss_nil : SSs X [] sNil := imSs pss_nil fun D σ H h => by
  obtain ⟨m, g, S, env, so, eo, h⟩ := h
  exact h σ m g H .refl so eo
theorem ss_cons (h1 : SS X st fs) (h2 : SSs X rest gs) : SSs X (st :: rest) (sSeq fs gs) := imSs (pss_cons h1 h2) fun D σ H h => by
  obtain ⟨m, g, S, env, so, eo, h⟩ := h
  refine ⟨m, g, S, env, so, eo, ?_⟩
  unfold sSeq at h
  unfold PostS
  cases e : fs env S with
  | nx env' S' =>
    rw [e] at h
    exact fun σ' m' g' H' nx so' eo' => ⟨m', g', S', env', so', eo', PostS.mono (K := X.K) (D := D) h nx⟩
  | ret v S' =>
    rw [e] at h
    exact h
  | no =>
    rw [e] at h
    exact h
theorem ss_one (h1 : SS X st fs) : SSs X [st] fs := pss_one h1
def sRet (f : FE) : FS := fun env S => (f env S).bindS fun x S => .ret x S
theorem ss_ret (ha : SE X e fa) : SS X (.Return (some e) pos) (sRet fa) := imS (ps_ret ha) fun D σ H h => by
  obtain ⟨m, g, S, env, so, eo, h⟩ := h
  exact vS so eo h fun x S' v m' g' H' nx so' eo' r h => h v m' g' H' .refl so' r
def sExpr (f : FE) : FS := fun env S => (f env S).bindS fun _ S => .nx env S
theorem ss_expr (ha : SE X e fa) (hs : swapsWith e none pos.line X.env = pure false := by rfl) : SS X (.Expr e pos) (sExpr fa) := imS (ps_expr ha hs) fun D σ H h => by
  obtain ⟨m, g, S, env, so, eo, h⟩ := h
  exact vS so eo h fun x S' v m' g' H' nx so' eo' r h => h σ m' g' H' .refl so' eo'
def sSet (i : Nat) (f : FE) : FS := fun env S => (f env S).bindS fun x S => .nx (env.set i (some x)) S
theorem ss_set (i : Nat) {pos' : Pos} (hN : X.N.Nodup) (ha : SE X e fa) (hi : X.N[i]? = some x := by rfl) (hx : Loc X.env.scope x := by first | exact Or.inl rfl | exact Or.inr rfl) (hs : swapsWith e (some (.Name x pos')) pos.line X.env = pure false := by rfl)
    (hf : X.fn x = true ∨ X.env.scope.names.lookup x = some .local := by first | exact .inl rfl | exact .inr rfl | assumption) : SS X (.Assign [.Name x pos'] e pos) (sSet i fa) := imS (ps_set hN hi hx ha hs hf) fun D σ H h => by
  obtain ⟨m, g, S, env, so, eo, h⟩ := h
  exact vS so eo h fun x S' v m' g' H' nx so' eo' r h => h _ m' g' H' .refl so' (eo'.set r i)
def sIf (t : FT) (f g : FS) : FS := fun env S => (t env S).bindS fun b S => if b = true then f env S else g env S
theorem ss_if {c : Expr} {A B : List Stmt} {t : FT} (hc : ST X c t) (ha : SSs X A fs) (hb : SSs X B gs) : SS X (.If c A B pos) (sIf t fs gs) := imS (ps_if hc ha hb) fun D σ H h => by
  obtain ⟨m, g, S, env, so, eo, h⟩ := h
  refine bS so eo h fun b S' m' g' H' nx so' eo' h => ?_
  cases b with
  | true => rw [if_pos rfl]; exact ⟨m', g', S', env, so', eo', h⟩
  | false => rw [if_neg Bool.false_ne_true]; exact ⟨m', g', S', env, so', eo', h⟩
/-- never come to -/
def sNo : FS := fun _ _ => .no
theorem ss_no : SS X st sNo := imS ps_never fun D σ H h => by
  obtain ⟨m, g, S, env, so, eo, h⟩ := h
  exact h
theorem ss_pass : SS X (.Pass pos) sNil := imS ps_pass fun D σ H h => by
  obtain ⟨m, g, S, env, so, eo, h⟩ := h
  exact h σ m g H .refl so eo
end
end Pv

namespace Pv
open PySem PySem.Spec PyProof.Rows L2

/-! ### targets -/
inductive Pat where
  | nm (i : Nat)
  | tp (ps : List Pat)
mutual
def setPat : Pat → PV → VEnv → Option VEnv
  | .nm i, x, env => some (env.set i (some x))
  | .tp ps, .tup xs, env => setPats ps xs env
  | .tp _, _, _ => none
def setPats : List Pat → List PV → VEnv → Option VEnv
  | [], [], env => some env
  | p :: ps, x :: xs, env => match setPat p x env with
    | some env' => setPats ps xs env'
    | none => none
  | _, _, _ => none
end
mutual
def gPat (K : PySem.W.Frag) : Pat → TG
  | .nm i => gName i
  | .tp ps => gTup K ps.length (gPats K ps)
def gPats (K : PySem.W.Frag) : List Pat → TGs
  | [] => gNil
  | p :: ps => gCons (gPat K p) (gPats K ps)
end
mutual
def slotsP : Pat → List Nat
  | .nm i => [i]
  | .tp ps => slotsPs ps
def slotsPs : List Pat → List Nat
  | [] => []
  | p :: ps => slotsP p ++ slotsPs ps
end
theorem wipe_set {σ : L2.St} {i : Nat} {x : Option V} : ∀ {vs : List Nat}, i ∈ vs → wipe (σ.set i x) vs = wipe σ vs
  | [], h => by cases h
  | v :: vs, h => by
    show (wipe (σ.set i x) vs).set v none = (wipe σ vs).set v none
    by_cases hv : i ∈ vs
    · rw [wipe_set hv]
    · have e : i = v := by
        rcases List.mem_cons.mp h with h | h
        · exact h
        · exact absurd h hv
      subst e
      have key : ∀ (σ : L2.St) (ws : List Nat), i ∉ ws → wipe (σ.set i x) ws = (wipe σ ws).set i x := by
        intro σ ws
        induction ws with
        | nil => intro _; rfl
        | cons w ws ih =>
          intro hw
          simp only [List.mem_cons, not_or] at hw
          show (wipe (σ.set i x) ws).set w none = ((wipe σ ws).set w none).set i x
          rw [ih hw.2, List.set_comm _ _ hw.1]
      rw [key σ vs hv, List.set_set]
theorem wipe_wipe {σ : L2.St} {vs : List Nat} : ∀ {ws : List Nat}, (∀ i ∈ ws, i ∈ vs) → wipe (wipe σ ws) vs = wipe σ vs
  | [], _ => rfl
  | w :: ws, h => by
    show wipe ((wipe σ ws).set w none) vs = _
    rw [wipe_set (h w List.mem_cons_self)]
    exact wipe_wipe fun i hi => h i (List.mem_cons_of_mem _ hi)
section
variable {K : PySem.W.Frag} {m g : List Addr} {H : Hp}
mutual
theorem pat_ok : ∀ (p : Pat) {x : PV} {v : V} {σ : L2.St} {env env' : VEnv} {Q : L2.St → Hp → Prop}, setPat p x env = some env' → Rep K m g H v x → EnvOk K m g H σ env →
    (∀ σ', EnvOk K m g H σ' env' → (∀ vs, (∀ i ∈ slotsP p, i ∈ vs) → wipe σ' vs = wipe σ vs) → Q σ' H) → gPat K p v σ H Q
  | .nm i, x, v, σ, env, env', Q, h, r, eo, q => by
    cases h
    exact q _ (eo.set r i) fun vs hv => wipe_set (hv i (by simp [slotsP]))
  | .tp ps, x, v, σ, env, env', Q, h, r, eo, q => by
    cases x with
    | tup xs =>
      obtain ⟨a, vs, rfl, f, rp⟩ := r.tup_inv
      have hl : ∀ (ps : List Pat) (xs : List PV) (env env' : VEnv), setPats ps xs env = some env' → xs.length = ps.length := by
        intro ps
        induction ps with
        | nil => intro xs env env' h; cases xs with
          | nil => rfl
          | cons _ _ => cases h
        | cons p ps ih => intro xs env env' h; cases xs with
          | nil => cases h
          | cons x xs =>
            have h : (match setPat p x env with
              | some env' => setPats ps xs env'
              | none => none) = some env' := h
            split at h
            · exact congrArg Nat.succ (ih _ _ _ h)
            · cases h
      refine ⟨a, vs, rfl, f.sq, ?_, ?_⟩
      · rw [rp.length]; exact hl ps xs env env' h
      · exact pats_ok ps (show setPats ps xs env = some env' from h) rp eo q
    | _ => cases h
theorem pats_ok : ∀ (ps : List Pat) {xs : List PV} {vs : List V} {σ : L2.St} {env env' : VEnv} {Q : L2.St → Hp → Prop}, setPats ps xs env = some env' → RepsP K g H vs xs → EnvOk K m g H σ env →
    (∀ σ', EnvOk K m g H σ' env' → (∀ vs, (∀ i ∈ slotsPs ps, i ∈ vs) → wipe σ' vs = wipe σ vs) → Q σ' H) → gPats K ps vs σ H Q
  | [], xs, vs, σ, env, env', Q, h, r, eo, q => by
    cases xs with
    | nil =>
      cases r
      cases h
      exact ⟨rfl, q σ eo fun _ _ => rfl⟩
    | cons x xs => cases h
  | p :: ps, xs, vs, σ, env, env', Q, h, r, eo, q => by
    cases xs with
    | nil => cases h
    | cons x xs =>
      cases r with
      | cons r1 r2 =>
        have h : (match setPat p x env with
          | some env' => setPats ps xs env'
          | none => none) = some env' := h
        split at h
        · rename_i env1 e1
          refine ⟨_, _, rfl, pat_ok p e1 (.p r1) eo fun σ1 eo1 w1 => ?_⟩
          refine pats_ok ps h r2 eo1 fun σ2 eo2 w2 => ?_
          exact q σ2 eo2 fun vs hv => (w2 vs fun i hi => hv i (by simp only [slotsPs]; exact List.mem_append_right _ hi)).trans (w1 vs fun i hi => hv i (by simp only [slotsPs]; exact List.mem_append_left _ hi))
        · cases h
end
end
section
variable {X : Cx} {e a b : Expr} {es : List Expr} {fa fb : FE} {pos p : Pos} {k : Nat} {x : Str}
def GP (X : Cx) (tg : Expr) (p : Pat) : Prop := PG X tg (gPat X.K p)
def GPs (X : Cx) (tgs : List Expr) (ps : List Pat) : Prop := PGs X tgs (gPats X.K ps)
theorem g_nm (i : Nat) (hN : X.N.Nodup) (hi : X.N[i]? = some x := by rfl) (hx : Loc X.env.scope x := by first | exact Or.inl rfl | exact Or.inr rfl) (hf : X.fn x = true ∨ X.env.scope.names.lookup x = some .local := by first | exact .inl rfl | exact .inr rfl | assumption) : GP X (.Name x pos) (.nm i) := pg_name hN hi hx hf
theorem g_nil : GPs X [] [] := pgs_nil
theorem g_cons {p : Pat} {ps : List Pat} (h1 : GP X e p) (h2 : GPs X es ps) (hs : (assignEach (e :: es) X.env).map (·.2) = assign e X.env :: (assignEach es X.env).map (·.2) := by rfl) : GPs X (e :: es) (p :: ps) := pgs_cons h1 h2 hs
theorem g_tup {ps : List Pat} (hc : X.calm = true) (h : GPs X es ps) (hn : (assignEach es X.env).length = ps.length := by rfl) (hst : (assignEach es X.env).findIdx? (·.1) = none := by rfl) : GP X (.Tuple es k pos) (.tp ps) := pg_tup hc h hn hst
/-- target = value -/
def sAsg (p : Pat) (f : FE) : FS := fun env S => (f env S).bindS fun x S => match setPat p x env with
  | some env' => .nx env' S
  | none => .no
theorem ss_asg {tg : Expr} {p : Pat} (ha : SE X e fa) (hg : GP X tg p) (hs : swapsWithSole [tg] e pos.line X.env = pure false := by rfl) (hw : swappedStores [tg] e X.env = pure none := by rfl)
    (h1 : (assignEach [tg] X.env).map (·.2) = [assign tg X.env] := by rfl) : SS X (.Assign [tg] e pos) (sAsg p fa) := imS (ps_asg ha hg hs hw h1) fun D σ H h => by
  obtain ⟨m, g, S, env, so, eo, h⟩ := h
  refine vS so eo h fun x S' v m' g' H' nx so' eo' r h => ?_
  split at h
  · rename_i env' e1
    exact pat_ok p e1 r eo' fun σ' eo2 _ => h σ' m' g' H' .refl so' eo2
  · exact h.elim
/-- x, y = a, b -/
def sPar (i j : Nat) (f : FA) : FS := fun env S => (f env S).bindS fun xs S => match xs with
  | [x, y] => .nx ((env.set i (some x)).set j (some y)) S
  | _ => .no
theorem ss_par (i j : Nat) {f : FA} {y : Str} {px py pt : Pos} {kt k2 pt2} (hc : X.calm = true) (hN : X.N.Nodup) (ha : SA X [a, b] f) (hij : i ≠ j := by decide) (hi : X.N[i]? = some x := by rfl) (hj : X.N[j]? = some y := by rfl)
    (hx : X.env.scope.names.lookup x = some .local := by rfl) (hy : X.env.scope.names.lookup y = some .local := by rfl)
    (hw : swappedStores [.Tuple [.Name x px, .Name y py] kt pt] (.Tuple [a, b] k2 pt2) X.env = pure (some [x, y]) := by rfl)
    (hs : swapsWithSole [.Tuple [.Name x px, .Name y py] kt pt] (.Tuple [a, b] k2 pt2) pos.line X.env = pure false := by rfl) :
    SS X (.Assign [.Tuple [.Name x px, .Name y py] kt pt] (.Tuple [a, b] k2 pt2) pos) (sPar i j f) := imS (ps_par hc hN hi hj hij hx hy ha hw hs) fun D σ H h => by
  obtain ⟨m, g, S, env, so, eo, h⟩ := h
  refine lS so eo h fun xs S' vs m' g' H' nx so' eo' r h => ?_
  split at h
  · cases r with
    | cons r1 r =>
      cases r with
      | cons r2 r =>
        cases r
        exact ⟨_, _, rfl, h _ m' g' H' .refl so' ((eo'.set r1 i).set r2 j)⟩
  · exact h.elim
/-- x, y, z = a, b, c -/
def sPar3 (i j l : Nat) (f : FA) : FS := fun env S => (f env S).bindS fun xs S => match xs with
  | [x, y, z] => .nx (((env.set i (some x)).set j (some y)).set l (some z)) S
  | _ => .no
theorem ss_par3 (i j l : Nat) {f : FA} {c : Expr} {y z : Str} {px py pz pt : Pos} {kt k2 pt2} (hc : X.calm = true) (hN : X.N.Nodup) (ha : SA X [a, b, c] f) (hij : i ≠ j := by decide) (hil : i ≠ l := by decide) (hjl : j ≠ l := by decide) (hi : X.N[i]? = some x := by rfl) (hj : X.N[j]? = some y := by rfl) (hl : X.N[l]? = some z := by rfl)
    (hx : X.env.scope.names.lookup x = some .local := by rfl) (hy : X.env.scope.names.lookup y = some .local := by rfl) (hz : X.env.scope.names.lookup z = some .local := by rfl)
    (hw : swappedStores [.Tuple [.Name x px, .Name y py, .Name z pz] kt pt] (.Tuple [a, b, c] k2 pt2) X.env = pure (some [x, y, z]) := by rfl)
    (hs : swapsWithSole [.Tuple [.Name x px, .Name y py, .Name z pz] kt pt] (.Tuple [a, b, c] k2 pt2) pos.line X.env = pure false := by rfl) :
    SS X (.Assign [.Tuple [.Name x px, .Name y py, .Name z pz] kt pt] (.Tuple [a, b, c] k2 pt2) pos) (sPar3 i j l f) := imS (ps_par3 hc hN hi hj hl hij hil hjl hx hy hz ha hw hs) fun D σ H h => by
  obtain ⟨m, g, S, env, so, eo, h⟩ := h
  refine lS so eo h fun xs S' vs m' g' H' nx so' eo' r h => ?_
  split at h
  · cases r with
    | cons r1 r =>
      cases r with
      | cons r2 r =>
        cases r with
        | cons r3 r =>
          cases r
          exact ⟨_, _, _, rfl, h _ m' g' H' .refl so' (((eo'.set r1 i).set r2 j).set r3 l)⟩
  · exact h.elim
end

/-! ### what is walked -/
structure ItOk (K : PySem.W.Frag) (J : It) (m g : List Addr) (H : Hp) (items : List PV) : Prop where
  go : ∀ (i : Nat) m' g' H', Nx m g H m' g' H' → i < items.length → J.go i H'
  stop : ∀ (i : Nat) m' g' H', Nx m g H m' g' H' → i = items.length → J.stop i H'
  yld : ∀ (i : Nat) m' g' H' v H'', Nx m g H m' g' H' → (∀ a ∈ m', a ∈ g') → (∀ a ∈ g', H' a ≠ none) → J.yld i H' v H'' → ∃ x, (i < items.length → items[i]? = some x) ∧ (i < items.length → RepP K g' H'' v x) ∧ (H'' = H' ∨ ∃ T o, H' T = none ∧ H'' = upd H' T o)
abbrev FI := VEnv → Sto → R (List PV)
def tI (K : PySem.W.Frag) (f : FI) : TI := fun σ H Q => ∃ m g S env, StOk K m g H S ∧ EnvOk K m g H σ env ∧ match f env S with
  | .ok items S' => ∀ J m' g' H', Nx m g H m' g' H' → StOk K m' g' H' S' → ItOk K J m' g' H' items → Q J H'
  | .no => False
def SI (X : Cx) (tg it : Expr) (f : FI) : Prop := PI X tg it (tI X.K f)
theorem imI {X : Cx} {tg e : Expr} {t t' : TI} (h : PI X tg e t) (w : ∀ σ H Q, t' σ H Q → t σ H Q) : PI X tg e t' := ⟨fun pins s σ H R I q => h.run pins s σ H R I (w σ H R q)⟩

/-! ### for -/
def forGo (p : Pat) (body : FS) : List PV → VEnv → Sto → RS
  | [], env, S => .nx env S
  | x :: xs, env, S => match setPat p x env with
    | none => .no
    | some env1 => match body env1 S with
      | .nx env2 S2 => forGo p body xs env2 S2
      | .ret v S2 => .ret v S2
      | .no => .no
def sFor (p : Pat) (f : FI) (body : FS) : FS := fun env S => (f env S).bindS fun items S => forGo p body items env S
section
variable {X : Cx} {pos : Pos}
theorem ss_for {tg it : Expr} {body : List Stmt} {p : Pat} {f : FI} {fb : FS} (hp : PassesOwn (model X.prog X.w) X.A X.env X.xe) (hc : X.calm = true) (hi : SI X tg it f) (hg : GP X tg p) (hb : SSs X body fb)
    (hs : ∀ x, foldedSetIterable it X.env x = pure x := by intro _; rfl) : SS X (.For tg it body [] pos) (sFor p f fb) := imS (ps_for hp hc hi hg hb hs) fun D σ H h => by
  obtain ⟨m, g, S, env, so, eo, h⟩ := h
  refine ⟨m, g, S, env, so, eo, ?_⟩
  unfold sFor at h
  cases e : f env S with
  | no => rw [e] at h; exact h
  | ok items S1 =>
    rw [e] at h
    intro J m1 g1 H1 n1 so1 ok
    refine ⟨fun i me σ' H' => me = items.length - i ∧ i ≤ items.length ∧ ∃ m' g' S' env', Nx m1 g1 H1 m' g' H' ∧ StOk X.K m' g' H' S' ∧ EnvOk X.K m' g' H' σ' env' ∧ PostS X.K m' g' H' (forGo p fb (items.drop i) env' S') D,
      ⟨_, rfl, Nat.zero_le _, m1, g1, S1, env, .refl, so1, eo.mono n1 so.sub, PostS.mono (K := X.K) (D := D) h n1⟩, ?_⟩
    rintro i me σ' H' ⟨rfl, hi, m', g', S', env', n', so', eo', h'⟩
    by_cases hlt : i < items.length
    · refine .inr ⟨ok.go i m' g' H' n' hlt, _, fun σ2 H2 q => ⟨items.length - (i + 1), by omega, q⟩, fun v H2 hy => ?_⟩
      obtain ⟨x, hx, r, hh⟩ := ok.yld i m' g' H' v H2 n' so'.sub so'.live hy
      replace hx := hx hlt
      replace r := r hlt
      have ed : items.drop i = x :: items.drop (i + 1) := by
        rw [List.drop_eq_getElem_cons hlt]
        rw [List.getElem?_eq_getElem hlt] at hx
        rw [Option.some.inj hx]
      rw [ed] at h'
      have nn : Nx m' g' H' m' g' H2 ∧ StOk X.K m' g' H2 S' := by
        rcases hh with rfl | ⟨T, o, hT, rfl⟩
        · exact ⟨.refl, so'⟩
        · exact ⟨nx_new hT, so_new so' hT⟩
      obtain ⟨n2, so2⟩ := nn
      have eo2 := eo'.mono n2 so'.sub
      unfold forGo at h'
      cases es : setPat p x env' with
      | none => rw [es] at h'; exact h'.elim
      | some env1 =>
        rw [es] at h'
        refine pat_ok p es (.p r) eo2 fun σ3 eo3 _ => ⟨m', g', S', env1, so2, eo3, ?_⟩
        have h' : PostS X.K m' g' H' (match fb env1 S' with
          | .nx env2 S2 => forGo p fb (items.drop (i + 1)) env2 S2
          | .ret v S2 => .ret v S2
          | .no => .no) D := h'
        unfold PostS
        cases eb : fb env1 S' with
        | nx env2 S2 =>
          rw [eb] at h'
          exact fun σ4 m4 g4 H4 n4 so4 eo4 => ⟨rfl, hlt, m4, g4, S2, env2, (n'.trans n2).trans n4, so4, eo4, PostS.mono (K := X.K) (D := D) h' (n2.trans n4)⟩
        | ret v S2 =>
          rw [eb] at h'
          exact fun u m4 g4 H4 n4 so4 r4 => PostS.mono (K := X.K) (D := D) h' n2 u m4 g4 H4 n4 so4 r4
        | no => rw [eb] at h'; exact h'
    · have ei : i = items.length := by omega
      subst ei
      rw [List.drop_length] at h'
      exact .inl ⟨ok.stop _ m' g' H' n' rfl, h' σ' m' g' H' .refl so' eo'⟩
end

/-! ### comprehensions -/
def wipeE (env : VEnv) : List Nat → VEnv
  | [] => env
  | v :: vs => (wipeE env vs).set v none
def lcGo (p : Pat) (t : FT) (elt : FE) (env : VEnv) (n0 : Nat) : List PV → Sto → R (List PV)
  | [], S => .ok [] S
  | x :: xs, S => match setPat p x env with
    | none => .no
    | some env1 => (t env1 S).bind fun b S1 => if b = true then (elt env1 S1).bind fun y S2 => if isP y = true then (lcGo p t elt env n0 xs (S2.take n0)).bind fun ys S3 => .ok (y :: ys) S3 else .no
      else lcGo p t elt env n0 xs (S1.take n0)
def fLc (p : Pat) (f : FI) (t : FT) (elt : FE) (vs : List Nat) : FA := fun env S => (f env S).bind fun items S => if items.length < SZ then lcGo p t elt (wipeE env vs) S.length items S else .no
def tYes' : FT := fun _ S => .ok true S
def STs (X : Cx) (ifs : List Expr) (t : FT) : Prop := PTs X ifs (tT X.K t)
section
variable {X : Cx} {pos : Pos}
theorem sts_nil : STs X [] tYes' := ⟨fun pins s σ H Q I h => pts_nil.run pins s σ H Q I (by
  obtain ⟨m, g, S, env, so, eo, h⟩ := h
  exact h m g H .refl so)⟩
theorem sts_one {c : Expr} {t : FT} (h : ST X c t) : STs X [c] t := pts_one h
theorem wipe_ok {K : PySem.W.Frag} {m g : List Addr} {H : Hp} {σ : L2.St} {env : VEnv} (eo : EnvOk K m g H σ env) : ∀ vs : List Nat, EnvOk K m g H (wipe σ vs) (wipeE env vs)
  | [] => eo
  | v :: vs => by
    have ih := wipe_ok eo vs
    refine ⟨by show ((wipe σ vs).set v none).length = ((wipeE env vs).set v none).length; simp [ih.len], fun i x e => ?_⟩
    have e : ((wipeE env vs).set v none)[i]? = some (some x) := e
    by_cases hv : v = i
    · subst hv
      by_cases hl : v < (wipeE env vs).length
      · rw [List.getElem?_set_self hl] at e; cases e
      · rw [List.getElem?_eq_none (by simpa using hl)] at e; cases e
    · rw [List.getElem?_set_ne hv] at e
      obtain ⟨u, e1, r⟩ := ih.at_ i x e
      refine ⟨u, ?_, r⟩
      show ((wipe σ vs).set v none)[i]? = _
      rw [List.getElem?_set_ne hv]
      exact e1
theorem lc_read {K : PySem.W.Frag} {p : Pat} {f : FI} {t : FT} {elt : FE} {vs : List Nat} (hsl : ∀ i ∈ slotsP p, i ∈ vs) {σ : L2.St} {H : Hp} {Q : V → Hp → Prop} (h : tF K (fLc p f t elt vs) σ H Q) : tLc (tI K f) (gPat K p) (tT K t) (tO K elt) vs σ H Q := by
  obtain ⟨m, g, S, env, so, eo, h⟩ := h
  refine ⟨m, g, S, env, so, eo, ?_⟩
  unfold fLc at h
  cases e : f env S with
  | no => rw [e] at h; exact h
  | ok items S1 =>
    rw [e] at h
    intro J m1 g1 H1 n1 so1 ok D hD
    have h : PostF K m g H (if items.length < SZ then lcGo p t elt (wipeE env vs) S1.length items S1 else .no) Q := h
    split at h
    · rename_i hz
      have hDg : D ∉ g1 := fun z => so1.live D z hD
      have hDm : D ∉ m1 := fun z => hDg (so1.sub D z)
      have hDH : H D = none := n1.free D hD
      -- a turn's state
      refine ⟨fun i me H' => me = items.length - i ∧ i ≤ items.length ∧ ∃ acc done S', Nx m1 g1 H1 m1 (D :: g1) H' ∧ StOk K m1 (D :: g1) H' S' ∧ S'.length = S1.length ∧ H' D = some (.lst acc) ∧ RepsP K (D :: g1) H' acc done ∧ done.length ≤ i ∧
        PostF K m1 g1 H1 ((lcGo p t elt (wipeE env vs) S1.length (items.drop i) S').bind fun ys S'' => .ok (done ++ ys) S'') Q, ⟨_, rfl, Nat.zero_le _, [], [], S1, ?_, ?_, rfl, upd_same, .nil, Nat.le_refl _, ?_⟩, ?_⟩
      · have n2 : Nx m1 g1 H1 m1 g1 (upd H1 D (.lst [])) := nx_new hD
        exact ⟨n2.ext, n2.free, n2.app, fun a z => List.mem_cons_of_mem _ z, fun a z => by
          rcases List.mem_cons.mp z with z | z
          · rw [z]; exact .inr hD
          · exact .inl z⟩
      · have so2 : StOk K m1 g1 (upd H1 D (.lst [])) S1 := so_new so1 hD
        refine ⟨so2.len, so2.nd, fun a z => List.mem_cons_of_mem _ (so2.sub a z), fun a z => ?_, fun n a o h1 h2 => ?_⟩
        · rcases List.mem_cons.mp z with z | z
          · rw [z, upd_same]; exact fun z => nomatch z
          · exact so2.live a z
        · refine (so1.cell n a o h1 h2).mono ⟨fun a o e hg => by rw [upd_ne (ne_of_none e hD)]; exact e, fun a z => ?_⟩ fun u e => by rw [upd_ne (ne_of_none e hD)]; exact e
          rcases List.mem_cons.mp z with z | z
          · rw [z]; exact .inr hD
          · exact .inl z
      · have h := PostF.mono (K := K) (Q := Q) h n1
        rw [List.drop_zero]
        cases el : lcGo p t elt (wipeE env vs) S1.length items S1 with
        | no => rw [el] at h; exact h
        | ok ys S'' => rw [el] at h; exact h
      · rintro i me H' ⟨rfl, hi, acc, done, S', n', so', hS', hA, rA, hdl, h'⟩
        by_cases hlt : i < items.length
        · refine .inr ⟨ok.go i m1 (D :: g1) H' n' hlt, _, fun H2 q => ⟨items.length - (i + 1), by omega, q⟩, fun v H2 hy => ?_⟩
          obtain ⟨x, hx, r, hh⟩ := ok.yld i m1 (D :: g1) H' v H2 n' so'.sub so'.live hy
          replace hx := hx hlt
          replace r := r hlt
          have ed : items.drop i = x :: items.drop (i + 1) := by
            rw [List.drop_eq_getElem_cons hlt]
            rw [List.getElem?_eq_getElem hlt] at hx
            rw [Option.some.inj hx]
          rw [ed] at h'
          have nn : Nx m1 (D :: g1) H' m1 (D :: g1) H2 ∧ StOk K m1 (D :: g1) H2 S' := by
            rcases hh with rfl | ⟨T, o, hT, rfl⟩
            · exact ⟨.refl, so'⟩
            · exact ⟨nx_new hT, so_new so' hT⟩
          obtain ⟨n2, so2⟩ := nn
          have n02 := n'.trans n2
          have eo2 : EnvOk K m1 (D :: g1) H2 σ env := (eo.mono n1 so.sub).mono n02 so1.sub
          unfold lcGo at h'
          cases es : setPat p x (wipeE env vs) with
          | none => rw [es] at h'; exact h'.elim
          | some env1 =>
            rw [es] at h'
            refine pat_ok p es (.p r) (wipe_ok eo2 vs) fun σ3 eo3 w3 => ⟨?_, m1, D :: g1, S', env1, so2, eo3, ?_⟩
            · exact (w3 vs hsl).trans (wipe_wipe (fun i h => h))
            have h' : PostF K m1 g1 H1 (((t env1 S').bind fun b S1' => if b = true then (elt env1 S1').bind fun y S2 => if isP y = true then (lcGo p t elt (wipeE env vs) S1.length (items.drop (i + 1)) (S2.take S1.length)).bind fun ys S3 => .ok (y :: ys) S3 else .no
              else lcGo p t elt (wipeE env vs) S1.length (items.drop (i + 1)) (S1'.take S1.length)).bind fun ys S'' => .ok (done ++ ys) S'') Q := h'
            unfold PostB
            cases et : t env1 S' with
            | no => rw [et] at h'; exact h'
            | ok bb S3 =>
              rw [et] at h'
              intro m3 g3 H3 n3 so3
              have hA3 : H3 D = some (.lst acc) := n3.ext D _ (n2.ext D _ hA hDm) hDm
              have rA3 : RepsP K (D :: g1) H3 acc done := ((rA.mono (n2.kp so'.sub)).mono (n3.kp so2.sub)).mono ⟨fun _ _ e _ => e, fun a z => .inl (n3.gs a z)⟩
              cases bb with
              | false =>
                rw [if_neg Bool.false_ne_true]
                have sob := so2.back n3 so3
                rw [hS'] at sob
                refine ⟨rfl, hlt, acc, done, S3.take S1.length, n02.trans n3.back, sob, ?_, hA3, rA3, by omega, h'⟩
                rw [← sob.len, so1.len]
              | true =>
                rw [if_pos rfl]
                refine ⟨m3, g3, S3, env1, so3, eo3.mono n3 so2.sub, ?_⟩
                have h' : PostF K m1 g1 H1 (((elt env1 S3).bind fun y S2 => if isP y = true then (lcGo p t elt (wipeE env vs) S1.length (items.drop (i + 1)) (S2.take S1.length)).bind fun ys S3 => .ok (y :: ys) S3 else .no).bind fun ys S'' => .ok (done ++ ys) S'') Q := h'
                unfold PostV
                cases ee : elt env1 S3 with
                | no => rw [ee] at h'; exact h'
                | ok y S4 =>
                  rw [ee] at h'
                  intro u m4 g4 H4 n4 so4 r4
                  have n24 := n3.trans n4
                  have hA4 : H4 D = some (.lst acc) := n4.ext D _ hA3 (fun z => by
                    obtain ⟨new, e1, e2⟩ := n3.app
                    rw [e1] at z
                    rcases List.mem_append.mp z with z | z
                    · exact hDm z
                    · have := e2 D z
                      rw [n2.ext D _ hA hDm] at this
                      cases this)
                  have h' : PostF K m1 g1 H1 ((if isP y = true then (lcGo p t elt (wipeE env vs) S1.length (items.drop (i + 1)) (S4.take S1.length)).bind fun ys S3 => .ok (y :: ys) S3 else .no).bind fun ys S'' => .ok (done ++ ys) S'') Q := h'
                  split at h'
                  · rename_i hp
                    have sob := so2.back n24 so4
                    rw [hS'] at sob
                    have ry : RepP K (D :: g1) H4 u y := (r4.pure hp).back n24
                    have rA4 : RepsP K (D :: g1) H4 acc done := (rA.mono (n2.kp so'.sub)).mono ((n24.back).kp so2.sub)
                    refine ⟨acc, hA4, ?_, ?_⟩
                    · rw [rA.length]
                      rw [← SZ_eq]
                      omega
                    · have kD : Kp (D :: g1) H4 (D :: g1) (upd H4 D (.lst (acc ++ [u]))) := ⟨fun a o e hg => by rw [upd_ne (fun z => hg (by rw [z]; exact List.mem_cons_self))]; exact e, fun a z => .inl z⟩
                      have n04 : Nx m1 g1 H1 m1 (D :: g1) (upd H4 D (.lst (acc ++ [u]))) := by
                        have n := n02.trans n24.back
                        exact ⟨fun a o e hm => by
                          have ne : a ≠ D := ne_of_none e hD
                          rw [upd_ne ne]
                          exact n.ext a o e hm, fun a e => by
                          by_cases ha : a = D
                          · rw [ha]; exact hD
                          · rw [upd_ne ha] at e; exact n.free a e, n.app, n.gs, n.gn⟩
                      refine ⟨rfl, hlt, acc ++ [u], done ++ [y], S4.take S1.length, n04, ⟨sob.len, sob.nd, sob.sub, fun a z => ?_, fun n a o h1 h2 => ?_⟩, ?_, upd_same, ?_, ?_, ?_⟩
                      · by_cases ha : a = D
                        · rw [ha, upd_same]; exact fun z => nomatch z
                        · rw [upd_ne ha]; exact sob.live a z
                      · have ne : a ≠ D := fun z => hDm (z ▸ List.mem_of_getElem? h1)
                        exact (sob.cell n a o h1 h2).mono kD fun w e => by rw [upd_ne ne]; exact e
                      · rw [← sob.len, so1.len]
                      · exact (rA4.mono kD).append (.cons (ry.mono kD) .nil)
                      · rw [List.length_append]
                        show done.length + 1 ≤ i + 1
                        omega
                      · cases el : lcGo p t elt (wipeE env vs) S1.length (items.drop (i + 1)) (S4.take S1.length) with
                        | no => rw [el] at h'; exact h'
                        | ok ys S'' =>
                          rw [el] at h'
                          have h' : PostF K m1 g1 H1 (.ok (done ++ y :: ys) S'') Q := h'
                          show PostF K m1 g1 H1 (.ok ((done ++ [y]) ++ ys) S'') Q
                          rw [List.append_assoc]
                          exact h'
                  · exact h'.elim
        · have ei : i = items.length := by omega
          subst ei
          rw [List.drop_length] at h'
          have h' : PostF K m1 g1 H1 (.ok (done ++ []) S') Q := h'
          rw [List.append_nil] at h'
          refine .inl ⟨ok.stop _ m1 (D :: g1) H' n' rfl, h' D acc m1 g1 H' ⟨n'.ext, n'.free, n'.app, fun _ z => z, fun _ z => .inl z⟩ hDg hDm hD so' hA rA⟩
    · exact h.elim
theorem f_lc {elt tg iter : Expr} {ifs : List Expr} {scope : Scope} {own : List (Str × Nat)} {p : Pat} {f : FI} {t : FT} {fe : FE} (hc : X.calm = true) (hN : X.N.Nodup) (hi : SI X tg iter f) (ok : BlkOk X.N X.env.scope scope own) (hsl : ∀ i ∈ slotsP p, i ∈ own.map (·.2))
    (hg : ∀ (s : Shared) (H : Hp) (C : Addr) (cl : List (Str × Addr)) (fp : List Addr), GP (X.blk s H scope (compEnvC scope cl C X.env) fp) tg p) (ht : ∀ (s : Shared) (H : Hp) (C : Addr) (cl : List (Str × Addr)) (fp : List Addr), STs (X.blk s H scope (compEnvC scope cl C X.env) fp) ifs t)
    (he : ∀ (s : Shared) (H : Hp) (C : Addr) (cl : List (Str × Addr)) (fp : List Addr), SE (X.blk s H scope (compEnvC scope cl C X.env) fp) elt fe) (hs : ∀ x, foldedSetIterable iter X.env x = pure x := by intro _; rfl) :
    SF X (.ListComp elt [⟨tg, iter, ifs, 0⟩] scope pos) (fLc p f t fe (own.map (·.2))) := imE (pe_lc (wi := tI X.K f) (g := gPat X.K p) (tt := tT X.K t) (te := tO X.K fe) hc hN hi ok hg ht he hs) fun σ H Q h => lc_read hsl h
end
end Pv

namespace Pv
open PySem PySem.Spec PyProof.Rows L2

/-! ### lists, tuples, texts, walked -/
def seqI : PV → Option (List PV)
  | .lst xs => some xs
  | .tup xs => some xs
  | .str l => some (l.map fun c => .str [c])
  | .scr ns => some (ns.map .int)
  | _ => none
theorem sign_rep {K : PySem.W.Frag} {g : List Addr} {H : Hp} {c : Nat} (h : c < 1114112) : RepP K g H (.str ⟨#[c]⟩) (.str [c]) :=
  .str _ _ rfl (by show (1 : Nat) ≤ SZ; decide) fun d hd => by rw [List.mem_singleton.mp hd]; exact h
/-- what is walked, over the heap: a list, a tuple, a text -/
inductive Zs where
  | l (a : Addr) | t (a : Addr) | s (x : Str)
def Zs.val : Zs → V
  | .l a => .ref a
  | .t a => .ref a
  | .s x => .str x
def Zs.Has (K : PySem.W.Frag) (H : Hp) : Zs → List V → Prop
  | .l a, xs => SqL K H a xs
  | .t a, xs => SqT K H a xs
  | .s x, xs => xs = x.cps.toList.map fun c => V.str ⟨#[c]⟩
def Zs.At : Zs → Addr → Nat → Heap → Prop
  | .l a, it, i, h => h.IsListIter it a i
  | .t a, it, i, h => h.IsTupleIter it a i
  | .s x, it, i, h => ∃ t, h.IsStrIter it (strIterType x) x t i
def Zs.ad : Zs → List Addr
  | .l a => [a]
  | .t a => [a]
  | .s _ => []
theorem Zs.At.obj {z : Zs} {it : Addr} {i : Nat} {h : Heap} (q : z.At it i h) : ∃ o, h.get? it = some o ∧ ∀ v, o.data ≠ .cell v := by
  cases z with
  | l a => obtain ⟨o, e, _, d⟩ := q; exact ⟨o, e, fun v z => by rw [d] at z; cases z⟩
  | t a => obtain ⟨o, e, _, d⟩ := q; exact ⟨o, e, fun v z => by rw [d] at z; cases z⟩
  | s x => obtain ⟨t, o, e, _, d⟩ := q; exact ⟨o, e, fun v z => by rw [d] at z; cases z⟩
theorem Zs.At.keep {z : Zs} {it : Addr} {i : Nat} {h h' : Heap} (q : z.At it i h) (k : ∀ o, h.get? it = some o → h'.get? it = some o) : z.At it i h' := by
  cases z with
  | l a => obtain ⟨o, e, c, d⟩ := q; exact ⟨o, k o e, c, d⟩
  | t a => obtain ⟨o, e, c, d⟩ := q; exact ⟨o, k o e, c, d⟩
  | s x => obtain ⟨t, o, e, c, d⟩ := q; exact ⟨t, o, k o e, c, d⟩
theorem Zs.draws {X : Cx} {pins : List (Addr × Obj)} {σ : L2.St} {H : Hp} {s : Shared} {z : Zs} {xs : List V} {it : Addr} {i : Nat} {A : Around} (I : Inv X pins σ H s) (hh : A.handled = none) (h : z.Has X.K H xs) (hit : ∀ b ∈ z.ad, b ≠ it) (q : z.At it i s.heap) :
    ∃ (P : Nat → Value → Prop) (St : Nat → Heap → Prop), Draws X.prog X.w A it (it :: z.ad) xs.length P St ∧ (∀ i v, P i v → ∃ y, xs[i]? = some y ∧ RelV y v) ∧ St i s.heap ∧ ∀ i h, St i h → z.At it i h := by
  cases z with
  | l a =>
    obtain ⟨its, rv, p, hz⟩ := I.list h
    have D := Draws.list (prog := X.prog) (w := X.w) hh it a (hit a (by simp [Zs.ad])) its.toArray
    rw [show its.toArray.size = xs.length from by rw [List.size_toArray, rv.length]] at D
    refine ⟨_, _, D, fun i v e => ?_, ⟨q, p.isList⟩, fun i h q => q.1⟩
    have e : its[i]? = some v := by simpa using e
    have hl : i < xs.length := by rw [rv.length]; exact (List.getElem?_eq_some_iff.mp e).1
    obtain ⟨u, hu, ru⟩ := rv.get (List.getElem?_eq_getElem hl)
    rw [hu] at e
    cases e
    exact ⟨_, List.getElem?_eq_getElem hl, ru⟩
  | t a =>
    obtain ⟨its, rv, p, hz⟩ := I.tuple h
    have D := Draws.tuple (prog := X.prog) (w := X.w) hh it a (hit a (by simp [Zs.ad])) its.toArray
    rw [show its.toArray.size = xs.length from by rw [List.size_toArray, rv.length]] at D
    refine ⟨_, _, D, fun i v e => ?_, ⟨q, show s.heap.IsTuple a its.toArray from p⟩, fun i h q => q.1⟩
    have e : its[i]? = some v := by simpa using e
    have hl : i < xs.length := by rw [rv.length]; exact (List.getElem?_eq_some_iff.mp e).1
    obtain ⟨u, hu, ru⟩ := rv.get (List.getElem?_eq_getElem hl)
    rw [hu] at e
    cases e
    exact ⟨_, List.getElem?_eq_getElem hl, ru⟩
  | s x =>
    obtain ⟨t, q⟩ := q
    have D := Draws.text (prog := X.prog) (w := X.w) hh it x t
    have h : xs = x.cps.toList.map fun c => V.str ⟨#[c]⟩ := h
    rw [show x.cps.size = xs.length from by rw [h, List.length_map]; rfl] at D
    refine ⟨_, _, D, fun i v e => ?_, q, fun i h q => ⟨t, q⟩⟩
    obtain ⟨c, u, e, rfl⟩ := e
    refine ⟨.str ⟨#[c]⟩, ?_, u, rfl⟩
    rw [h, List.getElem?_map]
    have e : x.cps.toList[i]? = some c := by simpa using e
    rw [e]
    rfl

/-! ### zip -/
theorem Zs.inj {X : Cx} {pins : List (Addr × Obj)} {σ : L2.St} {H : Hp} {s : Shared} {z : Zs} {xs ys : List V} (I : Inv X pins σ H s) (h : z.Has X.K H xs) (h' : z.Has X.K H ys) : xs = ys := by
  cases z with
  | l a => exact I.list_inj h h'
  | t a => exact I.tuple_inj h h'
  | s x => exact Eq.trans h (Eq.symm h')
theorem neA {N a b : Nat} (h : a ≠ b) : N + a ≠ N + b := by omega
theorem neZ {N b : Nat} (h : 0 ≠ b) : N ≠ N + b := by omega
theorem neY {N b : Nat} (h : 0 ≠ b) : N + b ≠ N := by omega
theorem lt5 {N c z : Nat} (h : c = N + 4 ∨ c = N + 2 ∨ c = N + 3 ∨ c = N ∨ c = N + 1) (hz : N + 4 < z) : c < z := by omega
theorem le5 {N c : Nat} (h : c = N + 4 ∨ c = N + 2 ∨ c = N + 3 ∨ c = N ∨ c = N + 1) : N ≤ c := by omega
def Itg (K : PySem.W.Frag) (z1 z2 : Zs) : It :=
  ⟨fun i H => ∃ (xs ys : List V), z1.Has K H xs ∧ z2.Has K H ys ∧ i < xs.length ∧ i < ys.length,
    fun i H v H' => ∃ T x y, v = .ref T ∧ H T = none ∧ H' = upd H T (.tup [x, y]) ∧ (∀ xs, z1.Has K H xs → xs[i]? = some x) ∧ ∀ ys, z2.Has K H ys → ys[i]? = some y,
    fun i H => ∃ xs ys : List V, z1.Has K H xs ∧ z2.Has K H ys ∧ i = min xs.length ys.length⟩
theorem turn_g {P : Program} {w : World} {K : PySem.W.Frag} {elts : List Expr} {kk : Nat} {tpos : Pos} {z1 z2 : Zs} {N : Nat} (h1 : ∀ b ∈ z1.ad, b < N) (h2 : ∀ b ∈ z2.ad, b < N) :
    Turn P w K (.Tuple elts kk tpos) (Itg K z1 z2) [N + 4, N + 2, N + 3, N, N + 1] (N + 4) (fun i h => IsZip h (N + 4) (N + 2) (N + 3) .none ∧ IsTupOf2 h (N + 2) (.ref N) (.ref (N + 1)) ∧ (∃ x y, IsTupOf2 h (N + 3) x y) ∧ z1.At N i h ∧ z2.At (N + 1) i h) where
  mem := by simp
  obj := fun i h st c hc => by
    obtain ⟨hz, hTI, ⟨x, y, hTO⟩, q1, q2⟩ := st
    have e' : c = N + 4 ∨ c = N + 2 ∨ c = N + 3 ∨ c = N ∨ c = N + 1 := by simpa using hc
    rcases e' with q | q | q | q | q
    · rw [q]; exact ⟨_, hz, fun v q => nomatch q⟩
    · rw [q]; exact ⟨_, hTI, fun v q => nomatch q⟩
    · rw [q]; exact ⟨_, hTO, fun v q => nomatch q⟩
    · rw [q]; exact q1.obj
    · rw [q]; exact q2.obj
  keep := fun i h h' st k => by
    obtain ⟨hz, hTI, ⟨x, y, hTO⟩, q1, q2⟩ := st
    exact ⟨k (N + 4) (by simp) _ hz, k (N + 2) (by simp) _ hTI, ⟨x, y, k (N + 3) (by simp) _ hTO⟩, q1.keep fun o q => k N (by simp) o q, q2.keep fun o q => k (N + 1) (by simp) o q⟩
  item := by
    intro X hP hw hK hc i pins s σ H E I hf st hg
    subst hP hw hK
    obtain ⟨hz, hTI, ⟨x0, y0, hTO⟩, q1, q2⟩ := st
    obtain ⟨xs, ys, hqx, hqy, hx, hy⟩ := hg
    have hh : X.A.in1.handled = none := I.ok.hd hc
    obtain ⟨P1, St1, D1, f1, s1, g1⟩ := Zs.draws I hh hqx (it := N) (fun b hb => Nat.ne_of_lt (h1 b hb)) q1
    obtain ⟨P2, St2, D2, f2, s2, g2⟩ := Zs.draws I hh hqy (it := N + 1) (fun b hb => Nat.ne_of_lt (Nat.lt_succ_of_lt (h2 b hb))) q2
    have hzl : N + 4 < s.heap.objs.size := Heap.lt_size hz
    refine wpAny_pyNext_zipD2_item (zip_sep2 h1 h2) D1 D2 hz hTI hTO s1 s2 hx hy fun x1 x2 h' tk p1 p2 z' TO' n1 n2 hT hsz hk => ?_
    obtain ⟨y1, e1, r1⟩ := f1 i x1 p1
    obtain ⟨y2, e2, r2⟩ := f2 i x2 p2
    refine ⟨_, rfl, wpAny_letOwnedTupleGo_zip (s := { s with heap := h', toks := tk }) z' fun h'' z'' sb => ?_⟩
    have hT2 : h''.get? s.heap.objs.size = some { cls := .type "tuple", data := .seq #[x1, x2] } := (sb.2 _ (Nat.ne_of_gt hzl)).trans hT
    have new : ObjOk X.prog X.w (upd H s.heap.objs.size (.tup [y1, y2])) h'' s.heap.objs.size (.tup [y1, y2]) :=
      ⟨by show 2 ≤ sizeLine; decide, [x1, x2], .cons r1 (.cons r2 .nil), ⟨_, hT2, rfl, _, rfl⟩⟩
    have I1 : Inv X pins σ (upd H s.heap.objs.size (.tup [y1, y2])) { s with heap := h'', toks := tk } :=
      I.turnedNew (t' := tk) (ch := [N + 4, N + 2, N + 3, N, N + 1]) (fun c o hb q => (sb.2 c (fun q' => hb (by simp [q']))).trans (hk c o (fun q' => hb (by simp [q'])) (fun q' => hb (by simp [q'])) (fun q' => hb (by simp [q'])) (fun q' => hb (by simp [q'])) q)) hf (Nat.le_refl _) new
    refine ⟨.ref s.heap.objs.size, _, I1, rfl, ⟨_, y1, y2, rfl, I.hok.fresh (Nat.le_refl _), rfl, fun l hl => by rw [Zs.inj I hl hqx]; exact e1, fun l hl => by rw [Zs.inj I hl hqy]; exact e2⟩, ⟨z'', ?_, ⟨x1, x2, ?_⟩, ?_, ?_⟩, fun c hcm => ?_⟩
    · exact (sb.2 _ (neA (by decide))).trans (hk _ _ (neA (by decide)) (neA (by decide)) (neY (by decide)) (neA (by decide)) hTI)
    · exact (sb.2 _ (neA (by decide))).trans TO'
    · exact (g1 _ _ n1).keep fun o q => (sb.2 _ (neZ (by decide))).trans q
    · exact (g2 _ _ n2).keep fun o q => (sb.2 _ (neA (by decide))).trans q
    · have hlt : c < s.heap.objs.size := by
        have e' : c = N + 4 ∨ c = N + 2 ∨ c = N + 3 ∨ c = N ∨ c = N + 1 := by simpa using hcm
        exact lt5 e' hzl
      rw [upd_ne (Nat.ne_of_lt hlt)]
      exact (hf c hcm).1
  done := by
    intro X hP hw hK hc i pins s σ H E I hf st hg
    subst hP hw hK
    obtain ⟨hz, hTI, ⟨x0, y0, hTO⟩, q1, q2⟩ := st
    obtain ⟨xs, ys, hqx, hqy, hend⟩ := hg
    have hh : X.A.in1.handled = none := I.ok.hd hc
    obtain ⟨P1, St1, D1, f1, s1, g1⟩ := Zs.draws I hh hqx (it := N) (fun b hb => Nat.ne_of_lt (h1 b hb)) q1
    obtain ⟨P2, St2, D2, f2, s2, g2⟩ := Zs.draws I hh hqy (it := N + 1) (fun b hb => Nat.ne_of_lt (Nat.lt_succ_of_lt (h2 b hb))) q2
    exact wpAny_pyNext_zipD2_end (zip_sep2 h1 h2) D1 D2 hz hTI hTO s1 s2 (by omega) (by omega) (by omega) fun h' tk hk => ⟨rfl, I.turnedL (t' := tk) (ch := [N + 4, N + 2, N + 3, N, N + 1]) (fun c o hb q =>
      hk c o (fun q' => hb (by simp [q'])) (fun q' => hb (by simp [q'])) (fun q' => hb (by simp [q'])) (fun q' => hb (by simp [q'])) q) hf⟩
  self := fun A i s Q E st h => wpAny_pyIter_zip st.1 h
theorem Zs.begins {X : Cx} {pins : List (Addr × Obj)} {σ : L2.St} {H : Hp} {s : Shared} {z : Zs} {xs : List V} {v : Value} (I : Inv X pins σ H s) (h : z.Has X.K H xs) (r : RelV z.val v) :
    ∃ (o : Obj) (Hh : Heap → Prop), Begins v o Hh ∧ Hh s.heap ∧ (∀ b ∈ z.ad, b < s.heap.objs.size) ∧ ∀ (it : Addr) (h' : Heap), h'.get? it = some o → z.At it 0 h' := by
  cases z with
  | l a =>
    obtain ⟨its, rv, p, hz⟩ := I.list h
    cases r
    exact ⟨_, _, begins_list a its.toArray, p.isList, fun b hb => by rw [List.mem_singleton.mp hb]; exact p.lt, fun it h' e => ⟨_, e, rfl, rfl⟩⟩
  | t a =>
    obtain ⟨its, rv, p, hz⟩ := I.tuple h
    cases r
    obtain ⟨o1, ho1, _⟩ := id p
    exact ⟨_, _, begins_tuple a its.toArray, show s.heap.IsTuple a its.toArray from p, fun b hb => by rw [List.mem_singleton.mp hb]; exact Heap.lt_size ho1, fun it h' e => ⟨_, e, rfl, rfl⟩⟩
  | s x =>
    obtain ⟨t, rfl⟩ := r
    exact ⟨_, _, begins_text x t, trivial, (fun b hb => by cases hb), fun it h' e => ⟨t, _, e, rfl, rfl⟩⟩
def iZipG (K : PySem.W.Frag) (ta : TA) : TI := fun σ H R => ta σ H fun vs H1 => ∃ z1 z2 xs ys, vs = [Zs.val z1, Zs.val z2] ∧ z1.Has K H1 xs ∧ z2.Has K H1 ys ∧ R (Itg K z1 z2) H1
theorem pi_zipG {X : Cx} {e e2 : Expr} {ta : TA} {p pos tpos : Pos} {elts : List Expr} {kk : Nat} (hg : Gl X "zip") (hm : X.mg "zip" = none) (ha : PA X [e, e2] ta)
    (hs : starEach [e, e2] X.env = (false, eval e X.env) :: starEach [e2] X.env := by rfl) (hpl : (backTo pos (starEach [e2] X.env)).any (·.1) = false := by rfl) :
    PI X (.Tuple elts kk tpos) (.Call (.Name "zip" p) [e, e2] [] pos) (iZipG X.K ta) := by
  refine ⟨fun pins s σ H R I h => ?_⟩
  refine Call_ (ld_blt I hg hm PyProof.Rows.boot_zip (PyProof.Rows.callWith_type1 (thn (ha.run pos pins s σ H _ I h) fun us s1 ⟨vs, H1, I1, r1, q1⟩ => ?_) hs hpl))
  obtain ⟨z1, z2, xs, ys, ex, hqx, hqy, q⟩ := q1
  subst ex
  cases r1 with
  | cons r rr =>
    cases rr with
    | cons r' rr =>
      cases rr
      obtain ⟨o1, G1, B1, b1, l1, a1⟩ := Zs.begins I1 hqx r
      obtain ⟨o2, G2, B2, b2, l2, a2⟩ := Zs.begins I1 hqy r'
      refine zip_begins2 B1 B2 b1 b2 fun h' hz hTI hTO h1 h2 hsz hk => wpAny_pyIter_zip hz ?_
      have I2 : Inv X pins σ H1 { s1 with heap := h' } := I1.kept (t' := s1.toks) hk
      refine ⟨s1.heap.objs.size + 4, [s1.heap.objs.size + 4, s1.heap.objs.size + 2, s1.heap.objs.size + 3, s1.heap.objs.size, s1.heap.objs.size + 1], _, _, H1, rfl, I2, turn_g (N := s1.heap.objs.size) l1 l2, ⟨hz, hTI, ⟨_, _, hTO⟩, a1 _ _ h1, a2 _ _ h2⟩, fun c hcm => ?_, q⟩
      have e' : c = s1.heap.objs.size + 4 ∨ c = s1.heap.objs.size + 2 ∨ c = s1.heap.objs.size + 3 ∨ c = s1.heap.objs.size ∨ c = s1.heap.objs.size + 1 := by simpa using hcm
      have hle : s1.heap.objs.size ≤ c := le5 e'
      exact I1.fpOk hle (I1.hok.fresh hle)

/-! ### over plain values -/
theorem strs_rep {K : PySem.W.Frag} {g : List Addr} {H : Hp} : ∀ {l : List Nat}, (∀ c ∈ l, c < 1114112) → RepsP K g H (l.map fun c => V.str ⟨#[c]⟩) (l.map fun c => .str [c])
  | [], _ => .nil
  | c :: l, h => .cons (sign_rep (h c List.mem_cons_self)) (strs_rep fun d hd => h d (List.mem_cons_of_mem _ hd))
def kdZ : PV → Zs → Prop
  | .lst _, .l _ => True
  | .scr _, .l _ => True
  | .tup _, .t _ => True
  | .str _, .s _ => True
  | _, _ => False
theorem zs_of {K : PySem.W.Frag} {m g : List Addr} {H : Hp} {S : Sto} {v : V} {x : PV} {items : List PV} (so : StOk K m g H S) (r : Rep K m g H v x) (h : seqI x = some items) :
    ∃ (z : Zs) (vs : List V), kdZ x z ∧ v = z.val ∧ ∀ m' g' H', Nx m g H m' g' H' → z.Has K H' vs ∧ RepsP K g' H' vs items := by
  cases r with
  | r h1 => cases h
  | p r =>
    cases r with
    | @tup a vs xs f q =>
      cases h
      exact ⟨.t a, vs, trivial, rfl, fun m' g' H' n => ⟨(f.mono (n.kp so.sub)).sq, q.mono (n.kp so.sub)⟩⟩
    | @lst a vs xs f q =>
      cases h
      exact ⟨.l a, vs, trivial, rfl, fun m' g' H' n => ⟨.of (f.mono (n.kp so.sub)).1, q.mono (n.kp so.sub)⟩⟩
    | @scr a ns f =>
      cases h
      exact ⟨.l a, ns.map V.int, trivial, rfl, fun m' g' H' n => ⟨FzS.sq (f.imp (n.kp so.sub).rd id), ints_rep _⟩⟩
    | str z l e hz ho =>
      cases h
      subst e
      exact ⟨.s z, _, trivial, rfl, fun m' g' H' n => ⟨rfl, strs_rep ho⟩⟩
    | _ => cases h
section
variable {X : Cx} {e a b : Expr} {es : List Expr} {fa fb : FE} {pos p : Pos} {tg : Expr}
theorem sqL_one {K : PySem.W.Frag} {H : Hp} {a : Addr} {xs : List V} (h : SqL K H a xs) : SqL K H a xs := h
def iVal (f : FE) : FI := fun env S => (f env S).bind fun x S => match seqI x with
  | some items => .ok items S
  | none => .no
def itOf (K : PySem.W.Frag) : Zs → It
  | .l a => Itl K a
  | .t a => Itt K a
  | .s x => Its x
/-- what a walk gives, at a Zs whose items stay -/
theorem it_zs {K : PySem.W.Frag} {m g : List Addr} {H : Hp} {z : Zs} {vs : List V} {items : List PV} (h : ∀ m' g' H', Nx m g H m' g' H' → z.Has K H' vs ∧ RepsP K g' H' vs items) : ItOk K (itOf K z) m g H items := by
  have hl : vs.length = items.length := (h m g H .refl).2.length
  cases z with
  | l a =>
    refine ⟨fun i m' g' H' n hi => ⟨vs, vs[i], (h m' g' H' n).1, List.getElem?_eq_getElem (by omega)⟩, fun i m' g' H' n hi => ⟨vs, (h m' g' H' n).1, by omega⟩, fun i m' g' H' v H'' n s1 s2 hy => ?_⟩
    obtain ⟨e, hy⟩ := hy
    subst e
    obtain ⟨q1, q2⟩ := h m' g' H'' n
    have e := hy vs q1
    have hi : i < vs.length := (List.getElem?_eq_some_iff.mp e).1
    obtain ⟨x, hx⟩ : ∃ x, items[i]? = some x := ⟨_, List.getElem?_eq_getElem (by omega)⟩
    refine ⟨x, fun _ => hx, fun _ => ?_, .inl rfl⟩
    obtain ⟨u, hu, ru⟩ := q2.get hx
    rw [hu] at e
    cases e
    exact ru
  | t a =>
    refine ⟨fun i m' g' H' n hi => ⟨vs, vs[i], (h m' g' H' n).1, List.getElem?_eq_getElem (by omega)⟩, fun i m' g' H' n hi => ⟨vs, (h m' g' H' n).1, by omega⟩, fun i m' g' H' v H'' n s1 s2 hy => ?_⟩
    obtain ⟨e, hy⟩ := hy
    subst e
    obtain ⟨q1, q2⟩ := h m' g' H'' n
    have e := hy vs q1
    have hi : i < vs.length := (List.getElem?_eq_some_iff.mp e).1
    obtain ⟨x, hx⟩ : ∃ x, items[i]? = some x := ⟨_, List.getElem?_eq_getElem (by omega)⟩
    refine ⟨x, fun _ => hx, fun _ => ?_, .inl rfl⟩
    obtain ⟨u, hu, ru⟩ := q2.get hx
    rw [hu] at e
    cases e
    exact ru
  | s z =>
    have hv : vs = z.cps.toList.map fun c => V.str ⟨#[c]⟩ := (h m g H .refl).1
    have hs : z.cps.size = items.length := by rw [← hl, hv, List.length_map]; rfl
    refine ⟨fun i m' g' H' n hi => show i < z.cps.size by omega, fun i m' g' H' n hi => show z.cps.size ≤ i by omega, fun i m' g' H' v H'' n s1 s2 hy => ?_⟩
    obtain ⟨e, c, hc, rfl⟩ := hy
    subst e
    obtain ⟨q1, q2⟩ := h m' g' H'' n
    have hc2 : z.cps.toList[i]? = some c := by simpa using hc
    have hi : i < items.length := by
      rw [← hs]
      exact (List.getElem?_eq_some_iff.mp hc2).1
    obtain ⟨x, hx⟩ : ∃ x, items[i]? = some x := ⟨_, List.getElem?_eq_getElem hi⟩
    refine ⟨x, fun _ => hx, fun _ => ?_, .inl rfl⟩
    obtain ⟨u, hu, ru⟩ := q2.get hx
    rw [hv, List.getElem?_map, hc2] at hu
    cases hu
    exact ru
theorem si_val (ha : SE X e fa) : SI X tg e (iVal fa) := by
  refine ⟨fun pins s σ H R I h => ?_⟩
  obtain ⟨m, g, S, env, so, eo, h⟩ := h
  unfold iVal at h
  cases ef : fa env S with
  | no => rw [ef] at h; exact h.elim
  | ok x S1 =>
    rw [ef] at h
    cases es : seqI x with
    | none =>
      simp only [Pv.R.bind, Pv.R.to, es] at h
    | some items =>
      simp only [Pv.R.bind, Pv.R.to, es] at h
      have key : tO X.K fa σ H fun v H1 => ∃ z : Zs, kdZ x z ∧ v = z.val ∧ (∃ vs, z.Has X.K H1 vs) ∧ R (itOf X.K z) H1 := by
        refine ⟨m, g, S, env, so, eo, ?_⟩
        unfold PostV
        rw [ef]
        intro v m1 g1 H1 n1 so1 r1
        obtain ⟨z, vs, kd, ev, hz⟩ := zs_of so1 r1 es
        exact ⟨z, kd, ev, ⟨vs, (hz m1 g1 H1 .refl).1⟩, h _ m1 g1 H1 n1 so1 (it_zs hz)⟩
      have w1 : ∀ (P : V → Hp → Prop), (∀ z H1, kdZ x z → (∃ vs, z.Has X.K H1 vs) → R (itOf X.K z) H1 → P z.val H1) → tO X.K fa σ H P := fun P hP => by
        obtain ⟨m, g, S, env, so, eo, h⟩ := key
        refine ⟨m, g, S, env, so, eo, ?_⟩
        unfold PostV at h ⊢
        cases ef : fa env S with
        | no => rw [ef] at h; exact h
        | ok x S1 =>
          rw [ef] at h
          intro v m1 g1 H1 n1 so1 r1
          obtain ⟨z, kd, ev, hz, q⟩ := h v m1 g1 H1 n1 so1 r1
          rw [ev]
          exact hP z H1 kd hz q
      cases x with
      | str l =>
        refine (pi_str ha).run pins s σ H R I (w1 _ fun z H1 kd hz q => ?_)
        cases z with
        | s y => exact ⟨y, rfl, q⟩
        | _ => exact kd.elim
      | tup l =>
        refine (pi_tup ha).run pins s σ H R I (w1 _ fun z H1 kd hz q => ?_)
        cases z with
        | t a => exact ⟨a, rfl, hz, q⟩
        | _ => exact kd.elim
      | lst l =>
        refine (pi_list ha).run pins s σ H R I (w1 _ fun z H1 kd hz q => ?_)
        cases z with
        | l a => exact ⟨a, rfl, hz, q⟩
        | _ => exact kd.elim
      | scr l =>
        refine (pi_list ha).run pins s σ H R I (w1 _ fun z H1 kd hz q => ?_)
        cases z with
        | l a => exact ⟨a, rfl, hz, q⟩
        | _ => exact kd.elim
      | _ => cases es
def iZip' (f : FA) : FI := fun env S => (f env S).bind fun xs S => match xs with
  | [x, y] => match seqI x, seqI y with
    | some a, some b => .ok (List.zipWith (fun p q => .tup [p, q]) a b) S
    | _, _ => .no
  | _ => .no
theorem si_zip {f : FA} {elts : List Expr} {kk : Nat} {tpos : Pos} (hg : Gl X "zip") (hm : X.mg "zip" = none) (ha : SA X [a, b] f)
    (hs : starEach [a, b] X.env = (false, eval a X.env) :: starEach [b] X.env := by rfl) (hpl : (backTo pos (starEach [b] X.env)).any (·.1) = false := by rfl) :
    SI X (.Tuple elts kk tpos) (.Call (.Name "zip" p) [a, b] [] pos) (iZip' f) := imI (pi_zipG hg hm ha hs hpl) fun σ H R h => by
  obtain ⟨m, g, S, env, so, eo, h⟩ := h
  refine ⟨m, g, S, env, so, eo, ?_⟩
  unfold iZip' at h
  unfold PostL
  cases ef : f env S with
  | no => rw [ef] at h; exact h.elim
  | ok xs S1 =>
    rw [ef] at h
    intro vs m1 g1 H1 n1 so1 r1
    match xs, r1, h with
    | [x, y], .cons rx (.cons ry .nil), h =>
      cases ex : seqI x with
      | none => simp only [Pv.R.bind, Pv.R.to, ex] at h
      | some xs =>
        cases ey : seqI y with
        | none => simp only [Pv.R.bind, Pv.R.to, ex, ey] at h
        | some ys =>
          simp only [Pv.R.bind, Pv.R.to, ex, ey] at h
          obtain ⟨z1, v1, kd1, rfl, hz1⟩ := zs_of so1 rx ex
          obtain ⟨z2, v2, kd2, rfl, hz2⟩ := zs_of so1 ry ey
          have l1 := (hz1 m1 g1 H1 .refl).2.length
          have l2 := (hz2 m1 g1 H1 .refl).2.length
          refine ⟨z1, z2, v1, v2, rfl, (hz1 m1 g1 H1 .refl).1, (hz2 m1 g1 H1 .refl).1, h _ m1 g1 H1 n1 so1 ⟨fun i m' g' H' n hi => ⟨v1, v2, (hz1 m' g' H' n).1, (hz2 m' g' H' n).1, ?_, ?_⟩, fun i m' g' H' n hi => ⟨v1, v2, (hz1 m' g' H' n).1, (hz2 m' g' H' n).1, ?_⟩, fun i m' g' H' v H'' n s1 s2 hy => ?_⟩⟩
          · rw [List.length_zipWith] at hi; omega
          · rw [List.length_zipWith] at hi; omega
          · rw [List.length_zipWith] at hi; omega
          · obtain ⟨T, x', y', rfl, hT, rfl, f1, f2⟩ := hy
            obtain ⟨a1, b1⟩ := hz1 m' g' H' n
            obtain ⟨a2, b2⟩ := hz2 m' g' H' n
            have e1 := f1 v1 a1
            have e2 := f2 v2 a2
            have i1 := (List.getElem?_eq_some_iff.mp e1).1
            have i2 := (List.getElem?_eq_some_iff.mp e2).1
            obtain ⟨p, hp⟩ : ∃ x, xs[i]? = some x := ⟨_, List.getElem?_eq_getElem (by omega)⟩
            obtain ⟨q, hq⟩ : ∃ x, ys[i]? = some x := ⟨_, List.getElem?_eq_getElem (by omega)⟩
            refine ⟨.tup [p, q], fun _ => ?_, fun _ => ?_, .inr ⟨T, _, hT, rfl⟩⟩
            · rw [List.getElem?_zipWith, hp, hq]
            · obtain ⟨u, hu, ru⟩ := b1.get hp
              obtain ⟨w, hw, rw'⟩ := b2.get hq
              rw [hu] at e1
              rw [hw] at e2
              cases e1
              cases e2
              have kp : Kp g' H' g' (upd H' T (.tup [x', y'])) := (nx_new (m := m') hT).kp s1
              exact .tup (.inl ⟨.inl upd_same, fun hg => s2 T hg hT⟩) (.cons (ru.mono kp) (.cons (rw'.mono kp) .nil))
    | [], _, h => exact h.elim
    | [_], _, h => exact h.elim
    | _ :: _ :: _ :: _, _, h => exact h.elim
/-! ### ranges -/
def rgI (lo c : Int) (n : Nat) : List PV := (List.range n).map fun k => .int (lo + (k : Nat) * c)
theorem rg_len {lo c : Int} {n : Nat} : (rgI lo c n).length = n := by simp [rgI]
theorem rg_at {lo c : Int} {n i : Nat} (h : i < n) : (rgI lo c n)[i]? = some (.int (lo + (i : Nat) * c)) := by
  unfold rgI
  rw [List.getElem?_map, List.getElem?_range h]
  rfl
theorem it_rgC {K : PySem.W.Frag} {m g : List Addr} {H : Hp} {lo c : Int} {n : Nat} : ItOk K (Itc lo c n) m g H (rgI lo c n) := by
  refine ⟨fun i m' g' H' _ hi => by rw [rg_len] at hi; exact hi, fun i m' g' H' _ hi => by rw [rg_len] at hi; exact Nat.le_of_eq hi.symm, fun i m' g' H' v H'' _ s1 s2 hy => ?_⟩
  obtain ⟨rfl, rfl⟩ := hy
  exact ⟨_, fun hi => rg_at (by rw [rg_len] at hi; exact hi), fun _ => .int _, .inl rfl⟩
theorem it_rg {K : PySem.W.Frag} {m g : List Addr} {H : Hp} {lo : Int} {n : Nat} : ItOk K (Itr lo n) m g H (rgI lo 1 n) := by
  refine ⟨fun i m' g' H' _ hi => by rw [rg_len] at hi; exact hi, fun i m' g' H' _ hi => by rw [rg_len] at hi; exact Nat.le_of_eq hi.symm, fun i m' g' H' v H'' _ s1 s2 hy => ?_⟩
  obtain ⟨rfl, rfl⟩ := hy
  exact ⟨_, fun hi => rg_at (by rw [rg_len] at hi; exact hi), fun _ => by rw [Int.mul_one]; exact .int _, .inl rfl⟩
def smI (i : Int) : Bool := decide (-(2 ^ 62) ≤ i) && decide (i < 2 ^ 62)
def iRg (f : FA) : FI := fun env S => (f env S).bind fun xs S => match xs with
  | [.int j] => if smI j = true then .ok (rgI 0 1 j.toNat) S else .no
  | [.int i, .int j] => if (smI i && smI j) = true then .ok (rgI i 1 (j - i).toNat) S else .no
  | [.int i, .int j, .int c] => if (decide (c ≠ 0) && decide (c.natAbs < 1073741824) && Builtin.Range.small i j c && decide (Builtin.Range.rangeSize i j c = ((Builtin.Range.rangeSize i j c).toNat : Nat))) = true then .ok (rgI i c (Builtin.Range.rangeSize i j c).toNat) S else .no
  | _ => .no
theorem smI_of {i : Int} (h : smI i = true) : -(2 ^ 62) ≤ i ∧ i < 2 ^ 62 := by
  simp only [smI, Bool.and_eq_true, decide_eq_true_eq] at h
  exact h
variable {f : FA} {c : Expr}
def isA1 : List PV → Bool
  | [_] => true
  | _ => false
theorem si_range1 (hg : Gl X "range") (hm : X.mg "range" = none) (ha : SA X [a] (aCons fa aNil)) (hs : starEach [a] X.env = [(false, eval a X.env)] := by rfl) : SI X tg (.Call (.Name "range" p) [a] [] pos) (iRg (aCons fa aNil)) := imI (pi_range1 hg hm ha hs) fun σ H R h => by
  obtain ⟨m, g, S, env, so, eo, h⟩ := h
  unfold iRg aCons aNil at h
  refine ⟨m, g, S, env, so, eo, ?_⟩
  unfold PostL aCons aNil
  cases ef : fa env S with
  | no => simp only [ef, Pv.R.bind, Pv.R.to] at h
  | ok x S1 =>
    simp only [ef, Pv.R.bind, Pv.R.to] at h ⊢
    intro vs m1 g1 H1 n1 so1 r1
    match x, r1, h with
    | .int j, .cons rx .nil, h =>
      obtain rfl := rx.int_inv
      by_cases hj : smI j = true
      · simp only [hj, if_true] at h
        obtain ⟨a1, a2⟩ := smI_of hj
        exact ⟨j, rfl, a1, a2, h _ m1 g1 H1 n1 so1 it_rg⟩
      · simp only [hj] at h
        exact h.elim
theorem si_range2 (hg : Gl X "range") (hm : X.mg "range" = none) (ha : SA X [a, b] (aCons fa (aCons fb aNil))) (hs : starEach [a, b] X.env = [(false, eval a X.env), (false, eval b X.env)] := by rfl) (hs2 : starEach [b] X.env = [(false, eval b X.env)] := by rfl) : SI X tg (.Call (.Name "range" p) [a, b] [] pos) (iRg (aCons fa (aCons fb aNil))) := imI (pi_range2 hg hm ha hs hs2) fun σ H R h => by
  obtain ⟨m, g, S, env, so, eo, h⟩ := h
  unfold iRg aCons aNil at h
  refine ⟨m, g, S, env, so, eo, ?_⟩
  unfold PostL aCons aNil
  cases ef : fa env S with
  | no => simp only [ef, Pv.R.bind, Pv.R.to] at h
  | ok x S1 =>
    cases eg : fb env S1 with
    | no => simp only [ef, eg, Pv.R.bind, Pv.R.to] at h
    | ok y S2 =>
      simp only [ef, eg, Pv.R.bind, Pv.R.to] at h ⊢
      intro vs m1 g1 H1 n1 so1 r1
      match x, y, r1, h with
      | .int i, .int j, .cons rx (.cons ry .nil), h =>
        obtain rfl := rx.int_inv
        obtain rfl := ry.int_inv
        by_cases hj : (smI i && smI j) = true
        · simp only [hj, if_true] at h
          obtain ⟨k1, k2⟩ := Bool.and_eq_true_iff.mp hj
          obtain ⟨a1, a2⟩ := smI_of k1
          obtain ⟨a3, a4⟩ := smI_of k2
          exact ⟨i, j, rfl, ⟨a1, a2, a3, a4⟩, h _ m1 g1 H1 n1 so1 it_rg⟩
        · simp only [hj] at h
          exact h.elim
theorem si_range3 {fc : FE} (hg : Gl X "range") (hm : X.mg "range" = none) (ha : SA X [a, b, c] (aCons fa (aCons fb (aCons fc aNil)))) (hs : starEach [a, b, c] X.env = (false, eval a X.env) :: starEach [b, c] X.env := by rfl) (hpl : (backTo pos (starEach [b, c] X.env)).any (·.1) = false := by rfl) : SI X tg (.Call (.Name "range" p) [a, b, c] [] pos) (iRg (aCons fa (aCons fb (aCons fc aNil)))) := imI (pi_range3 hg hm ha hs hpl) fun σ H R h => by
  obtain ⟨m, g, S, env, so, eo, h⟩ := h
  unfold iRg aCons aNil at h
  refine ⟨m, g, S, env, so, eo, ?_⟩
  unfold PostL aCons aNil
  cases ef : fa env S with
  | no => simp only [ef, Pv.R.bind, Pv.R.to] at h
  | ok x S1 =>
    cases eg : fb env S1 with
    | no => simp only [ef, eg, Pv.R.bind, Pv.R.to] at h
    | ok y S2 =>
      cases eh : fc env S2 with
      | no => simp only [ef, eg, eh, Pv.R.bind, Pv.R.to] at h
      | ok z S3 =>
        simp only [ef, eg, eh, Pv.R.bind, Pv.R.to] at h ⊢
        intro vs m1 g1 H1 n1 so1 r1
        match x, y, z, r1, h with
        | .int i, .int j, .int c, .cons rx (.cons ry (.cons rz .nil)), h =>
          obtain rfl := rx.int_inv
          obtain rfl := ry.int_inv
          obtain rfl := rz.int_inv
          by_cases hj : (decide (c ≠ 0) && decide (c.natAbs < 1073741824) && Builtin.Range.small i j c && decide (Builtin.Range.rangeSize i j c = ((Builtin.Range.rangeSize i j c).toNat : Nat))) = true
          · simp only [hj, if_true] at h
            simp only [Bool.and_eq_true, decide_eq_true_eq] at hj
            obtain ⟨⟨⟨a1, a2⟩, a3⟩, a4⟩ := hj
            exact ⟨i, j, c, _, rfl, ⟨a1, a2, a3, a4⟩, h _ m1 g1 H1 n1 so1 it_rgC⟩
          · simp only [hj] at h
            exact h.elim
end
end Pv

namespace Pv
open PySem PySem.Spec PyProof.Rows L2

/-! ### built-in calls -/
/-- what a call does, over plain values -/
def rC (K : PySem.W.Frag) (G : FF) : List V → Hp → VK → Prop := fun vs H Q => ∃ m g S xs, StOk K m g H S ∧ Reps K m g H vs xs ∧ PostV K m g H (G xs S) Q
def Cal (X : Cx) (f : Value) (G : FF) : Prop := CallR X f (rC X.K G)
section
variable {X : Cx} {e a b : Expr} {es : List Expr} {fa fb : FE} {fs : FA} {pos p : Pos} {x : Str} {id : String} {G : FF}
theorem tCB_of {K : PySem.W.Frag} {σ : L2.St} {H : Hp} {Q : V → Hp → Prop} (h : tO K (eCall G fs) σ H Q) : tCB (rC K G) (tA K fs) σ H Q := by
  obtain ⟨m, g, S, env, so, eo, h⟩ := h
  exact lV so eo h fun xs S' vs m' g' H' nx so' eo' r h => ⟨m', g', S', xs, so', r, h⟩
theorem s_blt (hc : Cal X (.builtin id) G) (hv : bootBuiltins x = some (.builtin id)) (hm : X.mg x = none) (ha : SA X (e :: es) fs) (hg : Gl X x := by rfl) (hn : x ≠ "__name__" := by decide) (hdb : (x == ("__debug__" : Str)) = false := by decide)
    (he : starEach (e :: es) X.env = (false, eval e X.env) :: starEach es X.env := by rfl) (hpl : (backTo pos (starEach es X.env)).any (·.1) = false := by rfl) : SE X (.Call (.Name x p) (e :: es) [] pos) (eCall G fs) :=
  imE (pe_callB hc hg hm hv ha hn hdb he hpl) fun _ _ _ h => tCB_of h
theorem s_typ (hc : Cal X (.type id) G) (hv : bootBuiltins x = some (.type id)) (hm : X.mg x = none) (ha : SA X (e :: es) fs) (hg : Gl X x := by rfl) (hn : x ≠ "__name__" := by decide) (hdb : (x == ("__debug__" : Str)) = false := by decide)
    (he : starEach (e :: es) X.env = (false, eval e X.env) :: starEach es X.env := by rfl) (hpl : (backTo pos (starEach es X.env)).any (·.1) = false := by rfl) : SE X (.Call (.Name x p) (e :: es) [] pos) (eCall G fs) :=
  imE (pe_callTy hc hg hm hv ha hn hdb he hpl) fun _ _ _ h => tCB_of h
/-- a function that the module took from another -/
theorem s_mod (hc : Cal X (.builtin id) G) (hm : X.mg x = some (.builtin id)) (ha : SA X (e :: es) fs) (hg : Gl X x := by rfl) (hdb : (x == ("__debug__" : Str)) = false := by decide)
    (he : starEach (e :: es) X.env = (false, eval e X.env) :: starEach es X.env := by rfl) (hpl : (backTo pos (starEach es X.env)).any (·.1) = false := by rfl) : SE X (.Call (.Name x p) (e :: es) [] pos) (eCall G fs) :=
  imE (pe_callBfun hc hg hm ha hdb he hpl) fun _ _ _ h => tCB_of h

/-! ### len -/
def lenPV (S : Sto) : PV → Option Nat
  | .str l => some l.length
  | .tup xs => some xs.length
  | .scr ns => some ns.length
  | x => (dl S x).map List.length
def bLen : FF := fun xs S => match xs with
  | [x] => match lenPV S x with
    | some n => .ok (.int n) S
    | none => .no
  | _ => .no
theorem lenPV_ok {K : PySem.W.Frag} {m g : List Addr} {H : Hp} {S : Sto} {v : V} {x : PV} {n : Nat} (so : StOk K m g H S) (r : Rep K m g H v x) (h : lenPV S x = some n) : LenV K v H n := by
  unfold lenPV at h
  split at h
  · obtain ⟨z, rfl, e, hz, ho⟩ := r.str_inv
    cases h
    exact ⟨by rw [← SZ_eq, str_len rfl, e]; exact hz, by rw [str_len e]⟩
  · obtain ⟨a, vs, rfl, f, q⟩ := r.tup_inv
    cases h
    exact .inr ⟨vs, f.sq, q.length.symm⟩
  · cases r with
    | p r =>
      cases r with
      | scr hq =>
        cases h
        exact .inl ⟨_, hq.sq, by rw [List.length_map]⟩
  · cases e : dl S x with
    | none => rw [e] at h; cases h
    | some ys =>
      rw [e] at h
      cases h
      obtain ⟨a, vs, rfl, f, q⟩ := dl_ok so r e
      exact .inl ⟨vs, .of f, q.length.symm⟩
theorem c_len : Cal X (.builtin "len") bLen := by
  intro pins s σ H vs us Q I rv h
  obtain ⟨m, g, S, xs, so, r, h⟩ := h
  unfold bLen at h
  split at h
  · cases r with
    | cons r1 r2 =>
      cases r2
      split at h
      · rename_i n hn
        exact call_len pins s σ H _ us Q I rv ⟨_, n, rfl, lenPV_ok so r1 hn, post_p h so (.int _)⟩
      · exact h.elim
  · exact h.elim

/-! ### int, abs, max, min, gcd, divmod -/
def bInt : FF := fun xs S => match xs with
  | [.int i] => .ok (.int i) S
  | [.bl k] => .ok (.int (if k = true then 1 else 0)) S
  | _ => .no
theorem c_int : Cal X (.type "int") bInt := by
  intro pins s σ H vs us Q I rv h
  obtain ⟨m, g, S, xs, so, r, h⟩ := h
  unfold bInt at h
  split at h
  · cases r with
    | cons r1 r2 =>
      cases r2
      obtain rfl := r1.int_inv
      exact call_int1 pins s σ H _ us Q I rv (.inl ⟨_, rfl, post_p h so (.int _)⟩)
  · cases r with
    | cons r1 r2 =>
      cases r2
      obtain rfl := r1.bl_inv
      exact call_int1 pins s σ H _ us Q I rv (.inr ⟨_, rfl, post_p h so (.int _)⟩)
  · exact h.elim
def bAbs : FF := fun xs S => match xs with
  | [.int i] => .ok (.int (if i < 0 then -i else i)) S
  | _ => .no
theorem c_abs : Cal X (.builtin "abs") bAbs := by
  intro pins s σ H vs us Q I rv h
  obtain ⟨m, g, S, xs, so, r, h⟩ := h
  unfold bAbs at h
  split at h
  · cases r with
    | cons r1 r2 =>
      cases r2
      obtain rfl := r1.int_inv
      exact call_abs pins s σ H _ us Q I rv ⟨_, rfl, post_p h so (.int _)⟩
  · exact h.elim
def b2I (k : Int → Int → PV) (c : Int → Int → Bool) : FF := fun xs S => match xs with
  | [.int i, .int j] => if c i j = true then .ok (k i j) S else .no
  | _ => .no
def bMax2 : FF := b2I (fun i j => .int (if j > i then j else i)) fun _ _ => true
def bMin2 : FF := b2I (fun i j => .int (if j < i then j else i)) fun _ _ => true
def bGcd : FF := b2I (fun i j => .int ((Nat.gcd i.natAbs j.natAbs : Nat) : Int)) fun _ _ => true
def bDivmod : FF := b2I (fun i j => .tup [.int (i / j), .int (i % j)]) divOk
theorem c_max2 (hc : X.calm = true) : Cal X (.builtin "max") bMax2 := by
  intro pins s σ H vs us Q I rv h
  obtain ⟨m, g, S, xs, so, r, h⟩ := h
  unfold bMax2 b2I at h
  split at h
  · cases r with
    | cons r1 r2 =>
      cases r2 with
      | cons r2 r3 =>
        cases r3
        obtain rfl := r1.int_inv
        obtain rfl := r2.int_inv
        exact call_max2 hc pins s σ H _ us Q I rv ⟨_, _, rfl, post_p h so (.int _)⟩
  · exact h.elim
theorem c_min2 (hc : X.calm = true) : Cal X (.builtin "min") bMin2 := by
  intro pins s σ H vs us Q I rv h
  obtain ⟨m, g, S, xs, so, r, h⟩ := h
  unfold bMin2 b2I at h
  split at h
  · cases r with
    | cons r1 r2 =>
      cases r2 with
      | cons r2 r3 =>
        cases r3
        obtain rfl := r1.int_inv
        obtain rfl := r2.int_inv
        exact call_min2 hc pins s σ H _ us Q I rv ⟨_, _, rfl, post_p h so (.int _)⟩
  · exact h.elim
theorem c_gcd : Cal X (.builtin "math.gcd") bGcd := by
  intro pins s σ H vs us Q I rv h
  obtain ⟨m, g, S, xs, so, r, h⟩ := h
  unfold bGcd b2I at h
  split at h
  · cases r with
    | cons r1 r2 =>
      cases r2 with
      | cons r2 r3 =>
        cases r3
        obtain rfl := r1.int_inv
        obtain rfl := r2.int_inv
        exact cr_gcd pins s σ H _ us Q I rv ⟨_, _, rfl, post_p h so (.int _)⟩
  · exact h.elim
theorem divP_of {i j : Int} (h : divOk i j = true) : CDivP i j := by
  obtain ⟨h1, h2⟩ := Bool.and_eq_true_iff.mp h
  have hj := of_decide_eq_true h1
  have hl := of_decide_eq_true h2
  refine ⟨hj, ?_⟩
  show (decide ((if j == 0 then 0 else j.natAbs.log2 / 30 + 1) > 300) && _) = false
  rw [if_neg (show ¬ (j == 0) = true by simpa using (show j ≠ 0 by omega)), decide_eq_false (by omega), Bool.false_and]
theorem c_divmod : Cal X (.builtin "divmod") bDivmod := by
  intro pins s σ H vs us Q I rv h
  obtain ⟨m, g, S, xs, so, r, h⟩ := h
  unfold bDivmod b2I at h
  split at h
  · cases r with
    | cons r1 r2 =>
      cases r2 with
      | cons r2 r3 =>
        cases r3
        obtain rfl := r1.int_inv
        obtain rfl := r2.int_inv
        split at h
        · rename_i hd
          exact call_divmodW pins s σ H _ us Q I rv ⟨_, _, rfl, divP_of hd, fun p np => post_t h so (.cons (.int _) (.cons (.int _) .nil)) np⟩
        · exact h.elim
  · exact h.elim

/-! ### sum, all, any, of lists -/
def intsOf : List PV → Option (List Int)
  | [] => some []
  | .int i :: xs => (intsOf xs).map (i :: ·)
  | _ => none
def blsOf : List PV → Option (List Bool)
  | [] => some []
  | .bl i :: xs => (blsOf xs).map (i :: ·)
  | _ => none
theorem intsOf_eq : ∀ {xs : List PV} {ns : List Int}, intsOf xs = some ns → xs = ns.map .int
  | [], ns, h => by cases h; rfl
  | x :: xs, ns, h => by
    cases x with
    | int i =>
      have h : (intsOf xs).map (i :: ·) = some ns := h
      cases e : intsOf xs with
      | none => rw [e] at h; cases h
      | some ms => rw [e] at h; cases h; rw [intsOf_eq e]; rfl
    | _ => cases h
theorem blsOf_eq : ∀ {xs : List PV} {ns : List Bool}, blsOf xs = some ns → xs = ns.map .bl
  | [], ns, h => by cases h; rfl
  | x :: xs, ns, h => by
    cases x with
    | bl i =>
      have h : (blsOf xs).map (i :: ·) = some ns := h
      cases e : blsOf xs with
      | none => rw [e] at h; cases h
      | some ms => rw [e] at h; cases h; rw [blsOf_eq e]; rfl
    | _ => cases h
theorem intsOf_map (ns : List Int) : intsOf (ns.map .int) = some ns := by
  induction ns with
  | nil => rfl
  | cons n ns ih => show (intsOf (ns.map .int)).map (n :: ·) = _; rw [ih]; rfl
theorem blsOf_map (ns : List Bool) : blsOf (ns.map .bl) = some ns := by
  induction ns with
  | nil => rfl
  | cons n ns ih => show (blsOf (ns.map .bl)).map (n :: ·) = _; rw [ih]; rfl
/-- a list, the locked one too -/
def dlS (S : Sto) : PV → Option (List PV)
  | .scr ns => some (ns.map .int)
  | x => dl S x
theorem dlS_ok {K : PySem.W.Frag} {m g : List Addr} {H : Hp} {S : Sto} {v : V} {x : PV} {xs : List PV} (so : StOk K m g H S) (r : Rep K m g H v x) (h : dlS S x = some xs) : ∃ a vs, v = .ref a ∧ SqL K H a vs ∧ RepsP K g H vs xs := by
  unfold dlS at h
  split at h
  · cases h
    cases r with
    | p r =>
      cases r with
      | scr hq => exact ⟨_, _, rfl, hq.sq, ints_rep _⟩
  · obtain ⟨a, vs, rfl, f, q⟩ := dl_ok so r h
    exact ⟨a, vs, rfl, .of f, q⟩
def bSum : FF := fun xs S => match xs with
  | [x] => match (dlS S x).bind intsOf with
    | some ns => .ok (.int ns.sum) S
    | none => .no
  | _ => .no
theorem obind {α β : Type} {o : Option α} {f : α → Option β} {b : β} (h : o.bind f = some b) : ∃ a, o = some a ∧ f a = some b := by
  cases o with
  | none => cases h
  | some a => exact ⟨a, rfl, h⟩
theorem c_sum (hc : X.calm = true) : Cal X (.builtin "sum") bSum := by
  intro pins s σ H vs us Q I rv h
  obtain ⟨m, g, S, xs, so, r, h⟩ := h
  unfold bSum at h
  split at h
  · cases r with
    | cons r1 r2 =>
      cases r2
      split at h
      · rename_i ns hn
        obtain ⟨ys, e1, e2⟩ := obind hn
        obtain ⟨a, vs, rfl, f, q⟩ := dlS_ok so r1 e1
        rw [intsOf_eq e2] at q
        rw [ints_inv q] at f
        exact cr_sum hc pins s σ H _ us Q I rv ⟨_, ns, rfl, f, post_p h so (.int _)⟩
      · exact h.elim
  · exact h.elim
def bAll : FF := fun xs S => match xs with
  | [x] => match (dl S x).bind blsOf with
    | some ns => .ok (.bl (ns.all _root_.id)) S
    | none => .no
  | _ => .no
def bAny : FF := fun xs S => match xs with
  | [x] => match (dl S x).bind blsOf with
    | some ns => .ok (.bl (ns.any _root_.id)) S
    | none => .no
  | _ => .no
theorem c_all (hc : X.calm = true) : Cal X (.builtin "all") bAll := by
  intro pins s σ H vs us Q I rv h
  obtain ⟨m, g, S, xs, so, r, h⟩ := h
  unfold bAll at h
  split at h
  · cases r with
    | cons r1 r2 =>
      cases r2
      split at h
      · rename_i ns hn
        obtain ⟨ys, e1, e2⟩ := obind hn
        obtain ⟨a, vs, rfl, f, q⟩ := dl_ok so r1 e1
        rw [blsOf_eq e2] at q
        rw [bls_inv q] at f
        exact cr_all hc pins s σ H _ us Q I rv ⟨_, ns, rfl, .of f, post_p h so (.bl _)⟩
      · exact h.elim
  · exact h.elim
theorem c_any (hc : X.calm = true) : Cal X (.builtin "any") bAny := by
  intro pins s σ H vs us Q I rv h
  obtain ⟨m, g, S, xs, so, r, h⟩ := h
  unfold bAny at h
  split at h
  · cases r with
    | cons r1 r2 =>
      cases r2
      split at h
      · rename_i ns hn
        obtain ⟨ys, e1, e2⟩ := obind hn
        obtain ⟨a, vs, rfl, f, q⟩ := dl_ok so r1 e1
        rw [blsOf_eq e2] at q
        rw [bls_inv q] at f
        exact cr_any hc pins s σ H _ us Q I rv ⟨_, ns, rfl, .of f, post_p h so (.bl _)⟩
      · exact h.elim
  · exact h.elim

/-! ### isinstance(x, T) -/
def tyPV : PV → String
  | .non => "NoneType"
  | .bl _ => "bool"
  | .int _ => "int"
  | .str _ => "str"
  | .tup _ => "tuple"
  | .lst _ => "list"
  | .scr _ => "list"
  | .ref _ => "list"
theorem ty_ok {K : PySem.W.Frag} {m g : List Addr} {H : Hp} {S : Sto} {v : V} {x : PV} (so : StOk K m g H S) (r : Rep K m g H v x) : TyX K H v (.type (tyPV x)) := by
  cases r with
  | p r =>
    cases r with
    | non => exact .base .non
    | bl k => exact .base (.bl _)
    | int i => exact .base (.int _)
    | str z l e hz ho => exact .base (.str _)
    | tup f q =>
      rcases f.sq with (h | ⟨o, h⟩) | ⟨o, its, n, h, c, _⟩
      · exact .base (.tup h)
      · exact .fTuple h
      · exact .kTuple h c
    | lst f q => exact .base (.lst f.1)
    | scr f =>
      rcases f.sq with (h | ⟨o, h⟩) | ⟨o, its, n, h, c, _⟩
      · exact .base (.lst h)
      · exact .base (.frz h)
      · exact .kList h c
  | @r n a h =>
    have hn : n < S.length := by rw [← so.len]; exact (List.getElem?_eq_some_iff.mp h).1
    have c := so.cell n a _ h (List.getElem?_eq_getElem hn)
    cases e : S[n] with
    | lst ys =>
      rw [e] at c
      obtain ⟨vs, c1, c2⟩ := c
      exact .base (.lst c1)
def eIsi (T : String) (f : FE) : FE := fun env S => (f env S).bind fun x S => match kitB (tyPV x) T with
  | some b => .ok (.bl b) S
  | none => .no
theorem s_isi {T : String} {p2 : Pos} (hm : X.mg "isinstance" = none) (ha : SE X e fa) (hmT : X.mg x = none) (hvT : bootBuiltins x = some (.type T)) (hg : Gl X "isinstance" := by rfl) (hgT : Gl X x := by rfl) (hn : x ≠ "__name__" := by decide) (hd : (x == ("__debug__" : Str)) = false := by decide)
    (he : starEach [e, .Name x p2] X.env = (false, eval e X.env) :: starEach [.Name x p2] X.env := by rfl) (hpl : (backTo pos (starEach [.Name x p2] X.env)).any (·.1) = false := by rfl) (h1 : starEach [.Name x p2] X.env = (false, eval (.Name x p2) X.env) :: starEach [] X.env := by rfl) :
    SE X (.Call (.Name "isinstance" p) [e, .Name x p2] [] pos) (eIsi T fa) :=
  imE (pe_callB call_isi hg hm boot_isinstance (pa_cons ha (pa_cons (pe_bltn (v := .ty T) hgT hmT hvT rfl hn hd) pa_nil h1) he) (by decide) (by decide) he hpl) fun σ H Q h => by
    obtain ⟨m, g, S, env, so, eo, h⟩ := h
    refine vV so eo h fun y S1 v m1 g1 H1 n1 so1 eo1 r1 h1 => ?_
    split at h1
    · rename_i k hk
      exact ⟨v, .ty T, .type (tyPV y), .type T, k, rfl, .ty T, ty_ok so1 r1, kit_ty hk, post_p h1 so1 (.bl _)⟩
    · exact h1.elim
end
end Pv

namespace Pv
open PySem PySem.Spec PyProof.Rows L2

/-! ### methods -/
abbrev FM := PV → List PV → Sto → R PV
def rM (K : PySem.W.Frag) (G : FM) : V → List V → Hp → VK → Prop := fun v vs H Q => ∃ m g S x xs, StOk K m g H S ∧ Rep K m g H v x ∧ Reps K m g H vs xs ∧ PostV K m g H (G x xs S) Q
def Mth (X : Cx) (id : String) (G : FM) : Prop := MtR X id (rM X.K G)
def kdB (T : String) (S : Sto) (x : PV) : Bool := match x with
  | .str _ => T == "str"
  | .lst _ => T == "list"
  | .scr _ => T == "list"
  | .ref n => T == "list" && decide (n < S.length)
  | _ => false
theorem kdB_ok {K : PySem.W.Frag} {m g : List Addr} {H : Hp} {S : Sto} {v : V} {x : PV} {T : String} (so : StOk K m g H S) (r : Rep K m g H v x) (h : kdB T S x = true) : tyV K T v H := by
  cases r with
  | p r =>
    cases r with
    | str z l e hz ho => exact eq_of_beq h
    | lst f q => exact .inl ⟨eq_of_beq h, _, .of f.1⟩
    | scr f => exact .inl ⟨eq_of_beq h, _, f.sq⟩
    | _ => exact absurd h Bool.false_ne_true
  | @r n a hm =>
    obtain ⟨h1, h2⟩ := Bool.and_eq_true_iff.mp h
    have hn := of_decide_eq_true h2
    have c := so.cell n a _ hm (List.getElem?_eq_getElem hn)
    cases e : S[n] with
    | lst ys =>
      rw [e] at c
      obtain ⟨vs, c1, c2⟩ := c
      exact .inl ⟨eq_of_beq h1, vs, .of c1⟩
def eMeth (T : String) (G : FM) (f : FE) (fs : FA) : FE := fun env S => (f env S).bind fun x S => if kdB T S x = true then (fs env S).bind fun xs S => G x xs S else .no
section
variable {X : Cx} {o e a b : Expr} {es : List Expr} {fo fa fb : FE} {fs : FA} {pos p apos cpos : Pos} {x name : Str} {T id : String} {G : FM}
theorem s_meth (pa : PlainAttrs T) (slot : Slot T name id) (hty : typeOf (.builtin id) = pure (.type "method_descriptor")) (hm : Mth X id G) (ho : SE X o fo) (ha : SA X (e :: es) fs)
    (hbase : attributeBase o name X.env (eval o X.env) = eval o X.env := by rfl)
    (hfew : ((backTo cpos (starEach (e :: es) X.env)).all (fun x => !x.1) && (backToKw cpos (keywordEach [] X.env)).all (fun x => x.1.isSome)
      && decide ((e :: es).length + ([] : List Keyword).length + (if ([] : List Keyword).isEmpty then 0 else 1) < 30)) = true := by rfl)
    (hline : (apos.endLine == cpos.line) = true := by rfl) (hs : starEach (e :: es) X.env = (false, eval e X.env) :: starEach es X.env := by rfl) (hplain : (backTo cpos (starEach es X.env)).any (·.1) = false := by rfl) :
    SE X (.Call (.Attribute o name apos) (e :: es) [] cpos) (eMeth T G fo fs) := imE (pe_bm pa slot hty hm ho ha hbase hfew hline hs hplain) fun σ H Q h => by
  obtain ⟨m, g, S, env, so, eo, h⟩ := h
  refine vV so eo h fun y S1 v m1 g1 H1 n1 so1 eo1 r1 h1 => ?_
  split at h1
  · rename_i hk
    refine ⟨kdB_ok so1 r1 hk, lV so1 eo1 h1 fun ys S2 vs m2 g2 H2 n2 so2 eo2 r2 h2 => ?_⟩
    exact ⟨m2, g2, S2, y, ys, so2, r1.mono n2 so1.sub, r2, h2⟩
  · exact h1.elim
theorem s_meth0 (pa : PlainAttrs T) (slot : Slot T name id) (hty : typeOf (.builtin id) = pure (.type "method_descriptor")) (hm : Mth X id G) (ho : SE X o fo)
    (hbase : attributeBase o name X.env (eval o X.env) = eval o X.env := by rfl) (hline : (apos.endLine == cpos.line) = true := by rfl) : SE X (.Call (.Attribute o name apos) [] [] cpos) (eMeth T G fo aNil) := imE (pe_bm0 pa slot hty hm ho hbase hline) fun σ H Q h => by
  obtain ⟨m, g, S, env, so, eo, h⟩ := h
  refine vV so eo h fun y S1 v m1 g1 H1 n1 so1 eo1 r1 h1 => ?_
  split at h1
  · rename_i hk
    exact ⟨kdB_ok so1 r1 hk, m1, g1, S1, y, [], so1, r1, .nil, h1⟩
  · exact h1.elim

/-! text.index, text.count of one sign; sep.join(texts) -/
def bIndex : FM := fun x xs S => match x, xs with
  | .str l, [.str [c]] => if decide (c ∈ l) = true then .ok (.int (l.idxOf c)) S else .no
  | _, _ => .no
theorem sign_eq {z : Str} {c : Nat} (e : z.cps.toList = [c]) : z = ⟨#[c]⟩ := by
  obtain ⟨arr⟩ := z
  congr 1
  apply Array.toList_inj.mp
  simpa using e
theorem idx_first {c : Nat} : ∀ {l : List Nat} (i : Nat), l[i]? = some c → (∀ k, k < i → l[k]? ≠ some c) → l.idxOf c = i
  | [], i, h, _ => nomatch h
  | d :: l, 0, h, _ => by
    have h : d = c := by simpa using h
    simp [h]
  | d :: l, i + 1, h, hn => by
    have h0 : d ≠ c := fun e => hn 0 (Nat.succ_pos i) (by simp [e])
    have ih := idx_first (l := l) i (by simpa using h) fun k hk => by simpa using hn (k + 1) (Nat.succ_lt_succ hk)
    rw [List.idxOf_cons, ih, show (d == c) = false from beq_false_of_ne h0]
    rfl
theorem m_index : Mth X "str.index" bIndex := by
  intro pins s σ H v vs u us Q I rx rs h
  obtain ⟨m, g, S, y, ys, so, r1, r2, h⟩ := h
  unfold bIndex at h
  split at h
  · rename_i l c
    split at h
    · rename_i hc
      have hc := of_decide_eq_true hc
      obtain ⟨z, rfl, e, hz, ho⟩ := r1.str_inv
      cases r2 with
      | cons r2 r3 =>
        cases r3
        obtain ⟨z2, rfl, e2, _, _⟩ := r2.str_inv
        obtain rfl := sign_eq e2
        subst e
        obtain ⟨i, rest, h0, hA, hn⟩ : ∃ i r, Builtin.Str.occurrences z ⟨#[c]⟩ 0 z.length 1 = i :: r ∧ StrLaws.At z ⟨#[c]⟩ z.length i ∧ ∀ k, k < i → ¬ StrLaws.At z ⟨#[c]⟩ z.length k := by
          rcases StrLaws.occ_head z ⟨#[c]⟩ 1 (Nat.le_refl _) with ⟨_, q⟩ | q
          · obtain ⟨i, hi⟩ := List.mem_iff_getElem?.mp hc
            exact absurd ((StrLaws.subAt_one z c i).mpr hi) (q i)
          · exact q
        have hi : z.cps.toList[i]? = some c := (StrLaws.subAt_one z c i).mp hA
        have ei : z.cps.toList.idxOf c = i := idx_first i hi fun k hk q => hn k hk ((StrLaws.subAt_one z c k).mpr q)
        rw [ei] at h
        exact mt_sindex pins s σ H _ _ u us Q I rx rs ⟨z, ⟨#[c]⟩, i, rest, rfl, rfl, h0, post_p h so (.int _)⟩
    · exact h.elim
  · exact h.elim
def bCount : FM := fun x xs S => match x, xs with
  | .str l, [.str [c]] => .ok (.int (l.count c : Nat)) S
  | _, _ => .no
theorem cnt_list (c : Nat) : ∀ l : List Nat, PyProof.Rows.cnt c l = (l.count c : Nat)
  | [] => rfl
  | d :: l => by
    rw [PyProof.Rows.cnt_cons, cnt_list c l, List.count_cons]
    by_cases h : d = c <;> simp [h] <;> omega
theorem m_count : Mth X "str.count" bCount := by
  intro pins s σ H v vs u us Q I rx rs h
  obtain ⟨m, g, S, y, ys, so, r1, r2, h⟩ := h
  unfold bCount at h
  split at h
  · rename_i l c
    obtain ⟨z, rfl, e, hz, ho⟩ := r1.str_inv
    cases r2 with
    | cons r2 r3 =>
      cases r3
      obtain ⟨z2, rfl, e2, _, _⟩ := r2.str_inv
      obtain rfl := sign_eq e2
      subst e
      refine mt_count pins s σ H _ _ u us Q I rx rs ⟨z, ⟨#[c]⟩, rfl, rfl, ?_⟩
      rw [PyProof.Rows.count_is]
      have := cnt_list c z.cps.toList
      unfold PyProof.Rows.cnt at this
      rw [this]
      exact post_p h so (.int _)
  · exact h.elim
def strsOf : List PV → Option (List (List Nat))
  | [] => some []
  | .str i :: xs => (strsOf xs).map (i :: ·)
  | _ => none
theorem strsOf_eq : ∀ {xs : List PV} {ns : List (List Nat)}, strsOf xs = some ns → xs = ns.map .str
  | [], ns, h => by cases h; rfl
  | x :: xs, ns, h => by
    cases x with
    | str i =>
      have h : (strsOf xs).map (i :: ·) = some ns := h
      cases e : strsOf xs with
      | none => rw [e] at h; cases h
      | some ms => rw [e] at h; cases h; rw [strsOf_eq e]; rfl
    | _ => cases h
theorem strsOf_map (ns : List (List Nat)) : strsOf (ns.map .str) = some ns := by
  induction ns with
  | nil => rfl
  | cons n ns ih => show (strsOf (ns.map .str)).map (n :: ·) = _; rw [ih]; rfl
def joinL (z : List Nat) : List (List Nat) → List Nat
  | [] => []
  | x :: r => x ++ (r.map (z ++ ·)).flatten
theorem join_fold (z : Str) : ∀ (r : List Str) (acc : Array Nat), (r.foldl (fun acc p => acc ++ z.cps ++ p.cps) acc).toList = acc.toList ++ (r.map fun p => z.cps.toList ++ p.cps.toList).flatten
  | [], acc => by simp
  | p :: r, acc => by
    rw [List.foldl_cons, join_fold z r]
    simp
theorem join_cps (z : Str) (ys : List Str) : (Txt.join z ys).cps.toList = joinL z.cps.toList (ys.map fun y => y.cps.toList) := by
  cases ys with
  | nil => rfl
  | cons y r =>
    show (r.foldl (fun acc p => acc ++ z.cps ++ p.cps) y.cps).toList = y.cps.toList ++ ((r.map fun y => y.cps.toList).map (z.cps.toList ++ ·)).flatten
    rw [join_fold, List.map_map]
    rfl
def joinOk (z : List Nat) (ns : List (List Nat)) : Bool := decide ((ns.map List.length).sum + ns.length * z.length ≤ SZ)
def bJoin : FM := fun x xs S => match x, xs with
  | .str z, [y] => match (match y with | .tup ys => some ys | y => dl S y).bind strsOf with
    | some ns => if joinOk z ns = true then .ok (.str (joinL z ns)) S else .no
    | none => .no
  | _, _ => .no
theorem strs_inv {K : PySem.W.Frag} {g : List Addr} {H : Hp} : ∀ {ns : List (List Nat)} {vs : List V}, RepsP K g H vs (ns.map PV.str) → ∃ zs : List Str, vs = zs.map V.str ∧ zs.map (fun z => z.cps.toList) = ns ∧ ∀ n ∈ ns, ∀ c ∈ n, c < 1114112
  | [], _, .nil => ⟨[], rfl, rfl, fun n h => nomatch h⟩
  | n :: ns, _, .cons h t => by
    obtain ⟨zs, rfl, e, k⟩ := strs_inv t
    obtain ⟨z, rfl, e2, _, ho⟩ := (Rep.p (m := []) h).str_inv
    exact ⟨z :: zs, rfl, by rw [List.map_cons, e, e2], fun n' hn => by
      rcases List.mem_cons.mp hn with q | q
      · rw [q]; exact ho
      · exact k n' q⟩
theorem joinL_len (z : List Nat) : ∀ ns : List (List Nat), (joinL z ns).length ≤ (ns.map List.length).sum + ns.length * z.length
  | [] => Nat.zero_le _
  | n :: ns => by
    have : ∀ r : List (List Nat), ((r.map (z ++ ·)).flatten).length = (r.map List.length).sum + r.length * z.length := by
      intro r
      induction r with
      | nil => simp
      | cons a r ih => simp [ih, Nat.succ_mul]; omega
    unfold joinL
    rw [List.length_append, this, List.map_cons, List.sum_cons, List.length_cons, Nat.succ_mul]
    omega
theorem joinL_mem {z : List Nat} {c : Nat} : ∀ {ns : List (List Nat)}, c ∈ joinL z ns → c ∈ z ∨ ∃ n ∈ ns, c ∈ n
  | [], h => nomatch h
  | n :: ns, h => by
    unfold joinL at h
    rcases List.mem_append.mp h with h | h
    · exact .inr ⟨n, List.mem_cons_self, h⟩
    · obtain ⟨a, ha, hc⟩ := List.mem_flatten.mp h
      obtain ⟨b, hb, rfl⟩ := List.mem_map.mp ha
      rcases List.mem_append.mp hc with q | q
      · exact .inl q
      · exact .inr ⟨b, List.mem_cons_of_mem _ hb, q⟩
theorem m_join : Mth X "str.join" bJoin := by
  intro pins s σ H v vs u us Q I rx rs h
  obtain ⟨m, g, S, y, ys, so, r1, r2, h⟩ := h
  unfold bJoin at h
  split at h
  · rename_i z y
    split at h
    · rename_i ns hns
      split at h
      · rename_i hj
        obtain ⟨a, rfl, ea, hza, hoa⟩ := r1.str_inv
        cases r2 with
        | cons r2 r3 =>
          cases r3
          obtain ⟨ys, e1, e2⟩ := obind hns
          rw [strsOf_eq e2] at e1
          have key : ∀ {v0 : V}, Rep X.K m g H v0 y → ∃ p ws, (SqL X.K H p ws ∨ SqT X.K H p ws) ∧ RepsP X.K g H ws (ns.map .str) ∧ v0 = V.ref p := by
            intro v0 r2
            have e1' := e1
            split at e1'
            · cases e1'
              obtain ⟨p, ws, e, f, q⟩ := r2.tup_inv
              exact ⟨p, ws, .inr f.sq, q, e⟩
            · obtain ⟨p, ws, e, f, q⟩ := dl_ok so r2 e1'
              exact ⟨p, ws, .inl (.of f), q, e⟩
          obtain ⟨p, ws, hp, q, rfl⟩ := key r2
          obtain ⟨zs, rfl, e3, ho⟩ := strs_inv q
          have hz := of_decide_eq_true hj
          refine mt_join pins s σ H _ _ u us Q I rx rs ⟨a, p, zs, rfl, rfl, hp, ?_, post_p h so (.str _ _ ?_ (Nat.le_trans (joinL_len _ _) hz) fun c hc => ?_)⟩
          · rw [← e3, List.map_map, List.length_map] at hz
            rw [← ea] at hz
            exact hz
          · rw [join_cps, ea, e3]
          · rcases joinL_mem hc with k | ⟨n, hn, k⟩
            · exact hoa c k
            · exact ho n hn c k
      · exact h.elim
    · exact h.elim
  · exact h.elim

/-! ### cells are written -/
theorem nx_set {m g : List Addr} {H : Hp} {a : Addr} {o o' : HO} (ha : a ∈ m) (h : H a = some o) : Nx m g H m g (upd H a o') :=
  ⟨fun b u e hb => by rw [upd_ne (fun z => hb (by rw [z]; exact ha))]; exact e, fun b e => by
    by_cases hb : b = a
    · rw [hb, upd_same] at e; cases e
    · rw [upd_ne hb] at e; exact e, ⟨[], by simp⟩, fun _ h => h, fun _ h => .inl h⟩
theorem so_set {K : PySem.W.Frag} {m g : List Addr} {H : Hp} {S : Sto} {n : Nat} {a : Addr} {o : HO} {vs : List V} {xs : List PV} (so : StOk K m g H S) (hm : m[n]? = some a) (h : H a = some o) (r : RepsP K g H vs xs) : StOk K m g (upd H a (.lst vs)) (S.set n (.lst xs)) := by
  have ha : a ∈ m := List.mem_of_getElem? hm
  have kp : Kp g H g (upd H a (.lst vs)) := (nx_set (g := g) ha h).kp so.sub
  refine ⟨by rw [List.length_set]; exact so.len, so.nd, so.sub, fun b hb => ?_, fun j b u h1 h2 => ?_⟩
  · by_cases q : b = a
    · rw [q, upd_same]; exact fun z => nomatch z
    · rw [upd_ne q]; exact so.live b hb
  · by_cases hj : n = j
    · subst hj
      rw [hm] at h1
      cases h1
      have hn : n < S.length := by rw [← so.len]; exact (List.getElem?_eq_some_iff.mp hm).1
      rw [List.getElem?_set_self hn] at h2
      cases h2
      exact ⟨vs, upd_same, r.mono kp⟩
    · rw [List.getElem?_set_ne hj] at h2
      have hb : b ≠ a := fun q => by
        subst q
        have hn := (List.getElem?_eq_some_iff.mp hm)
        have hk := (List.getElem?_eq_some_iff.mp h1)
        exact hj ((List.getElem_inj so.nd).mp (hn.2.trans hk.2.symm))
      exact (so.cell j b u h1 h2).mono kp fun w e => by rw [upd_ne hb]; exact e
/-- the list at a cell -/
def cl (S : Sto) (n : Nat) : Option (List PV) := match S[n]? with
  | some (.lst xs) => some xs
  | none => none
theorem cl_ok {K : PySem.W.Frag} {m g : List Addr} {H : Hp} {S : Sto} {v : V} {n : Nat} {xs : List PV} (so : StOk K m g H S) (r : Rep K m g H v (.ref n)) (h : cl S n = some xs) : ∃ a vs, v = .ref a ∧ m[n]? = some a ∧ H a = some (.lst vs) ∧ RepsP K g H vs xs := by
  cases r with
  | p r => cases r
  | @r _ a hm =>
    unfold cl at h
    split at h
    · rename_i ys e
      cases h
      obtain ⟨vs, c1, c2⟩ := so.cell n a _ hm e
      exact ⟨a, vs, rfl, hm, c1, c2⟩
    · cases h
theorem post_w {K : PySem.W.Frag} {m g : List Addr} {H : Hp} {S : Sto} {n : Nat} {a : Addr} {vs ws : List V} {xs : List PV} {x : PV} {v : V} {Q : V → Hp → Prop} (h : PostV K m g H (.ok x (S.set n (.lst xs))) Q) (so : StOk K m g H S) (hm : m[n]? = some a) (ha : H a = some (.lst ws)) (r : RepsP K g H vs xs) (rv : RepP K g H v x) : Q v (upd H a (.lst vs)) :=
  h v m g _ (nx_set (List.mem_of_getElem? hm) ha) (so_set so hm ha r) (.p (rv.mono ((nx_set (g := g) (List.mem_of_getElem? hm) ha).kp so.sub)))
def bAppend : FM := fun x xs S => match x, xs with
  | .ref n, [y] => match cl S n with
    | some ys => if (isP y && decide (ys.length < SZ)) = true then .ok .non (S.set n (.lst (ys ++ [y]))) else .no
    | none => .no
  | _, _ => .no
theorem m_append : Mth X "list.append" bAppend := by
  intro pins s σ H v vs u us Q I rx rs h
  obtain ⟨m, g, S, y, ys, so, r1, r2, h⟩ := h
  unfold bAppend at h
  split at h
  · rename_i n y
    split at h
    · rename_i zs hz
      split at h
      · rename_i hp
        obtain ⟨h1, h2⟩ := Bool.and_eq_true_iff.mp hp
        have h2 := of_decide_eq_true h2
        cases r2 with
        | cons r2 r3 =>
          cases r3
          obtain ⟨a, ws, rfl, hm, ha, q⟩ := cl_ok so r1 hz
          exact mt_append pins s σ H _ _ u us Q I rx rs ⟨a, ws, _, rfl, rfl, ha, by rw [q.length, ← SZ_eq]; exact h2, post_w h so hm ha (q.append (.cons (r2.pure h1) .nil)) .non⟩
      · exact h.elim
    · exact h.elim
  · exact h.elim
def bPop : FM := fun x xs S => match x, xs with
  | .ref n, [] => match cl S n with
    | some ys => match ys[ys.length - 1]? with
      | some y => .ok y (S.set n (.lst ys.dropLast))
      | none => .no
    | none => .no
  | _, _ => .no
theorem RepsP.dropLast {K : PySem.W.Frag} {g : List Addr} {H : Hp} {vs : List V} {xs : List PV} (h : RepsP K g H vs xs) : RepsP K g H vs.dropLast xs.dropLast := by
  rw [List.dropLast_eq_take, List.dropLast_eq_take, h.length]
  exact h.take _
theorem m_pop : Mth X "list.pop" bPop := by
  intro pins s σ H v vs u us Q I rx rs h
  obtain ⟨m, g, S, y, ys, so, r1, r2, h⟩ := h
  unfold bPop at h
  split at h
  · rename_i n
    split at h
    · rename_i zs hz
      split at h
      · rename_i y hy
        cases r2
        obtain ⟨a, ws, rfl, hm, ha, q⟩ := cl_ok so r1 hz
        obtain ⟨w, hw, rw'⟩ := q.get hy
        exact mt_pop pins s σ H _ _ u us Q I rx rs ⟨a, ws, w, rfl, rfl, ha, by rw [q.length]; exact hw, post_w h so hm ha q.dropLast rw'⟩
      · exact h.elim
    · exact h.elim
  · exact h.elim
end
end Pv

namespace Pv
open PySem PySem.Spec PyProof.Rows L2

/-! ### while -/
def whileGo (t : FT) (b : FS) : Nat → FS
  | 0, _, _ => .no
  | n + 1, env, S => (t env S).bindS fun k S1 => if k = true then (match b env S1 with
    | .nx env2 S2 => whileGo t b n env2 S2
    | .ret v S2 => .ret v S2
    | .no => .no) else .nx env S1
section
variable {X : Cx} {o i e a b : Expr} {es : List Expr} {fo fi fa fb : FE} {fs : FA} {pos p apos cpos : Pos} {x : Str}
theorem ss_while (n : Nat) {c : Expr} {body : List Stmt} {t : FT} {fb : FS} (hp : PassesOwn (model X.prog X.w) X.A X.env X.xe) (hc : ST X c t) (hb : SSs X body fb) : SS X (.While c body [] pos) (whileGo t fb n) := imS (ps_while hp hc hb) fun D σ H h => by
  obtain ⟨m, g, S, env, so, eo, h⟩ := h
  refine ⟨fun n σ H => ∃ m g S env, StOk X.K m g H S ∧ EnvOk X.K m g H σ env ∧ PostS X.K m g H (whileGo t fb n env S) D, ⟨n, m, g, S, env, so, eo, h⟩, ?_⟩
  rintro n σ H ⟨m, g, S, env, so, eo, h⟩
  cases n with
  | zero => exact h.elim
  | succ n =>
    refine bS (W := D) (k := fun k S1 => if k = true then (match fb env S1 with
      | .nx env2 S2 => whileGo t fb n env2 S2
      | .ret v S2 => .ret v S2
      | .no => .no) else .nx env S1) so eo h fun k S1 m1 g1 H1 n1 so1 eo1 h1 => ?_
    cases k with
    | false =>
      rw [if_neg Bool.false_ne_true] at h1 ⊢
      exact h1 σ m1 g1 H1 .refl so1 eo1
    | true =>
      rw [if_pos rfl] at h1 ⊢
      refine ⟨fun σ H => ∃ m g S env, StOk X.K m g H S ∧ EnvOk X.K m g H σ env ∧ PostS X.K m g H (whileGo t fb n env S) D, fun σ' H' q => ⟨n, Nat.lt_succ_self n, q⟩, m1, g1, S1, env, so1, eo1, ?_⟩
      unfold PostS
      cases eb : fb env S1 with
      | nx env2 S2 =>
        rw [eb] at h1
        exact fun σ' m' g' H' nx so' eo' => ⟨m', g', S2, env2, so', eo', PostS.mono (K := X.K) (D := D) h1 nx⟩
      | ret v S2 =>
        rw [eb] at h1
        exact h1
      | no => rw [eb] at h1; exact h1

/-! ### o[i] = e; o[i], y = e -/
def setCl (S : Sto) (o i x : PV) : Option Sto := match o, i with
  | .ref n, .int k => match cl S n with
    | some ys => match ixN ys.length k with
      | some j => if isP x = true then some (S.set n (.lst (ys.set j x))) else none
      | none => none
    | none => none
  | _, _ => none
theorem setCl_ok {K : PySem.W.Frag} {m g : List Addr} {H : Hp} {S S' : Sto} {ov iv xv : V} {o i x : PV} (so : StOk K m g H S) (r1 : Rep K m g H ov o) (r2 : Rep K m g H iv i) (r3 : Rep K m g H xv x) (h : setCl S o i x = some S') {Q : Hp → Prop}
    (q : ∀ H', Nx m g H m g H' → StOk K m g H' S' → Q H') : rSetL ov iv xv H Q := by
  unfold setCl at h
  split at h
  · rename_i n k
    split at h
    · rename_i ys hy
      split at h
      · rename_i j hj
        split at h
        · rename_i hp
          cases h
          obtain ⟨a, ws, rfl, hm, ha, r⟩ := cl_ok so r1 hy
          obtain rfl := r2.int_inv
          refine ⟨a, ws, k, j, rfl, rfl, ha, by rw [r.length]; exact hj, q _ (nx_set (List.mem_of_getElem? hm) ha) (so_set so hm ha (RepsP.set j (r3.pure hp) r))⟩
        · cases h
      · cases h
    · cases h
  · cases h
def sSub (fo fi f : FE) : FS := fun env S => (f env S).bindS fun x S => (fo env S).bindS fun o S => (fi env S).bindS fun i S => match setCl S o i x with
  | some S' => .nx env S'
  | none => .no
theorem ss_sub {p2 : Pos} (ha : SE X e fa) (ho : SE X o fo) (hi : SE X i fi) (hs : swapsWithSole [.Subscript o i p2] e pos.line X.env = pure false := by rfl) (hw : swappedStores [.Subscript o i p2] e X.env = pure none := by rfl)
    (h1 : (assignEach [.Subscript o i p2] X.env).map (·.2) = [assign (.Subscript o i p2) X.env] := by rfl)
    (h2 : ∀ v, assign (.Subscript o i p2) X.env v = (do
      let ov ← holding [v] (eval o X.env)
      let iv ← holding [v, ov] (eval i X.env)
      standAt p2
      holding [v, ov, iv] (setItem ov iv v)
      release [v, ov, iv] []) := by intro _; rfl) : SS X (.Assign [.Subscript o i p2] e pos) (sSub fo fi fa) := imS (ps_asg ha (pg_sub ho hi set_list h2) hs hw h1) fun D σ H h => by
  obtain ⟨m, g, S, env, so, eo, h⟩ := h
  refine vS so eo h fun x S1 v m1 g1 H1 n1 so1 eo1 r1 h1 => ?_
  refine vS so1 eo1 h1 fun y S2 u m2 g2 H2 n2 so2 eo2 r2 h2 => ?_
  refine vS so2 eo2 h2 fun z S3 w m3 g3 H3 n3 so3 eo3 r3 h3 => ?_
  split at h3
  · rename_i S' e1
    exact setCl_ok so3 (r2.mono n3 so2.sub) r3 ((r1.mono n2 so1.sub).mono n3 so2.sub) e1 fun H' nx so' => h3 σ m3 g3 H' nx so' (eo3.mono nx so3.sub)
  · exact h3.elim
def sDm (fo fi : FE) (j : Nat) (f : FE) : FS := fun env S => (f env S).bindS fun x S => match x with
  | .tup [p, q] => (fo env S).bindS fun o S => (fi env S).bindS fun i S => match setCl S o i p with
    | some S' => .nx (env.set j (some q)) S'
    | none => .no
  | _ => .no
theorem ss_dm (j : Nat) {k : Nat} {p2 p3 p4 : Pos} (hc : X.calm = true) (hN : X.N.Nodup) (ha : SE X e fa) (ho : SE X o fo) (hi : SE X i fi) (hj : X.N[j]? = some x := by rfl) (hx : Loc X.env.scope x := by first | exact Or.inl rfl | exact Or.inr rfl)
    (hs : swapsWithSole [.Tuple [.Subscript o i p2, .Name x p3] k p4] e pos.line X.env = pure false := by rfl) (hw : swappedStores [.Tuple [.Subscript o i p2, .Name x p3] k p4] e X.env = pure none := by rfl)
    (h1 : (assignEach [.Tuple [.Subscript o i p2, .Name x p3] k p4] X.env).map (·.2) = [assign (.Tuple [.Subscript o i p2, .Name x p3] k p4) X.env] := by rfl)
    (h2 : ∀ v, assign (.Subscript o i p2) X.env v = (do
      let ov ← holding [v] (eval o X.env)
      let iv ← holding [v, ov] (eval i X.env)
      standAt p2
      holding [v, ov, iv] (setItem ov iv v)
      release [v, ov, iv] []) := by intro _; rfl)
    (hf : X.fn x = true ∨ X.env.scope.names.lookup x = some .local := by first | exact .inl rfl | exact .inr rfl | assumption)
    (hs2 : (assignEach [.Subscript o i p2, .Name x p3] X.env).map (·.2) = assign (.Subscript o i p2) X.env :: (assignEach [.Name x p3] X.env).map (·.2) := by rfl)
    (hs3 : (assignEach [.Name x p3] X.env).map (·.2) = assign (.Name x p3) X.env :: (assignEach [] X.env).map (·.2) := by rfl)
    (hn : (assignEach [.Subscript o i p2, .Name x p3] X.env).length = 2 := by rfl) (hst : (assignEach [.Subscript o i p2, .Name x p3] X.env).findIdx? (·.1) = none := by rfl) :
    SS X (.Assign [.Tuple [.Subscript o i p2, .Name x p3] k p4] e pos) (sDm fo fi j fa) := imS (ps_asg ha (pg_tup (n := 2) hc (pgs_cons (pg_sub ho hi set_list h2) (pgs_cons (pg_name hN hj hx hf) pgs_nil hs3) hs2) hn hst) hs hw h1) fun D σ H h => by
  obtain ⟨m, g, S, env, so, eo, h⟩ := h
  refine vS so eo h fun x S1 v m1 g1 H1 n1 so1 eo1 r1 h1 => ?_
  split at h1
  · rename_i p q
    obtain ⟨a, vs, rfl, f, rp⟩ := r1.tup_inv
    cases rp with
    | cons rp1 rp =>
      cases rp with
      | cons rp2 rp =>
        cases rp
        refine ⟨a, _, rfl, f.sq, rfl, _, _, rfl, ?_⟩
        refine vS so1 eo1 h1 fun y S2 u m2 g2 H2 n2 so2 eo2 r2 h2 => ?_
        refine vS so2 eo2 h2 fun z S3 w m3 g3 H3 n3 so3 eo3 r3 h3 => ?_
        split at h3
        · rename_i S' e1
          have n13 := n2.trans n3
          refine setCl_ok so3 (r2.mono n3 so2.sub) r3 ((Rep.p rp1).mono n13 so1.sub) e1 fun H' nx so' => ?_
          refine ⟨_, _, rfl, ?_⟩
          refine ⟨rfl, ?_⟩
          have rq : Rep X.K m3 g3 H' _ q := ((Rep.p rp2).mono n13 so1.sub).mono nx so3.sub
          exact h3 _ m3 g3 H' nx so' ((eo3.mono nx so3.sub).set rq j)
        · exact h3.elim
  · exact h1.elim

/-! ### -a -/
def eNeg (f : FE) : FE := fun env S => (f env S).bind fun x S => match x with
  | .int i => .ok (.int (-i)) S
  | _ => .no
theorem s_neg (ha : SE X a fa) : SE X (.UnaryOp .USub a pos) (eNeg fa) := imE (pe_un un_neg ha) fun σ H Q h => by
  obtain ⟨m, g, S, env, so, eo, h⟩ := h
  refine vV so eo h fun x S1 v m1 g1 H1 n1 so1 eo1 r1 h1 => ?_
  cases x with
  | int i =>
    obtain rfl := r1.int_inv
    exact ⟨i, rfl, post_p h1 so1 (.int _)⟩
  | _ => exact h1.elim

/-! ### a[::-1] -/
abbrev revIx (k : Nat) (p1 p2 p3 : Pos) : Expr := .Slice none none (some (.UnaryOp .USub (.Constant (.int 1) k p1) p2)) p3
theorem rev_text (z : Str) (t : Tok) : ((slicePicked z none none (some (-1, t))).filterMap (z.cps[·]?)) = z.cps.toList.reverse := by
  show ((Builtin.Str.strSliceIndices none none (-1) z.length).filterMap (z.cps[·]?)) = _
  have e : Builtin.Str.strSliceIndices none none (-1) z.length = sliceRange ((z.length : Int) - 1) (-1) (-1) := rfl
  rw [e, PySem.W.krv_sliceRange, PySem.W.krv_range, List.filterMap_reverse]
  exact congrArg List.reverse (PySem.W.krv_all z.cps)
def tRevS (te : TE) : TE := fun σ H Q => te σ H fun x H1 => ∃ z, x = .str z ∧ z.length ≤ sizeLine ∧ Q (.str ⟨z.cps.toList.reverse.toArray⟩) H1
theorem pe_revS {te : TE} {k : Nat} {p1 p2 p3 : Pos} (he : PE X e te) : PE X (.Subscript e (revIx k p1 p2 p3) pos) (tRevS te) := by
  refine ⟨fun pins s σ H Q I h => ?_⟩
  refine Subscript_ (thn (he.run pins s σ H _ I h) fun v s1 ⟨x, H1, I1, r1, q1⟩ => ?_)
  obtain ⟨z, ex, hz, q⟩ := q1
  subst ex
  obtain ⟨t, rfl⟩ := r1
  have hst : PO X (some (.UnaryOp .USub (.Constant (.int 1) k p1) p2)) (tPart (tUn (rU fun i => .int (-i)) (tC (.int 1)))) := po_some (pe_un un_neg pe_int)
  refine wpAny_Slice (thn (po_none.run pins s1 σ H1 (fun o H2 => o = none ∧ H2 = H1) I1 ⟨rfl, rfl⟩) fun vl s2 ⟨l, H2, I2, pl, el, e2⟩ => ?_)
  subst el e2
  refine thn (po_none.run pins s2 σ H2 (fun o H3 => o = none ∧ H3 = H2) I2 ⟨rfl, rfl⟩) fun vu s3 ⟨u, H3, I3, pu, eu, e3⟩ => ?_
  subst eu e3
  refine thn (hst.run pins s3 σ H3 (fun o H4 => o = some (-1) ∧ H4 = H3) I3 ⟨1, rfl, -1, rfl, rfl, rfl⟩) fun vs s4 ⟨o, H4, I4, ps, eo, e4⟩ => ?_
  subst eo e4
  have I5 : Inv X pins σ H4 { s4 with heap := s4.heap.push { cls := .type "slice", data := .fields #[vl, vu, vs] } } := I4.kept (t' := s4.toks) fun b ob q => Heap.get?_push_of_some _ q
  show wpAny (model X.prog X.w) X.A (subscriptTail e (revIx k p1 p2 p3) (.str z t) (.ref s4.heap.objs.size)) (EP X pins σ Q) X.xe { s4 with heap := s4.heap.push { cls := .type "slice", data := .fields #[vl, vu, vs] } }
  refine PyProof.Rows.tail_any (ops := [.str z t, .ref s4.heap.objs.size]) (typeIs_str _ z t) (PySem.F.slot_str_getitem.lookup) ?_ (by with_unfolding_all rfl)
  cases pl
  cases pu
  obtain ⟨tk, rfl⟩ : ∃ tk, vs = .int (-1) tk := by cases ps; exact ⟨_, rfl⟩
  refine wpAny_getItem_str_slice (l := none) (u := none) (st := some (-1, tk)) ⟨_, Heap.get?_push_size _ rfl, rfl, rfl⟩ rfl ?_
  unfold sliceMade
  rw [rev_text]
  rw [if_neg (by show ¬ ((decide ((-1 : Int) = 1) && _) = true); simp)]
  refine ⟨?_, .str _, H4, I5.tok _, ⟨_, rfl⟩, q⟩
  show z.cps.toList.reverse.toArray.size ≤ sizeLine
  rw [List.size_toArray, List.length_reverse]
  exact hz
def oRev (x : PV) (S : Sto) : R PV := match x with
  | .str l => .ok (.str l.reverse) S
  | x => match dlS S x with
    | some xs => .ok (.lst xs.reverse) S
    | none => .no
def eRev (f : FE) : FE := fun env S => (f env S).bind oRev
theorem s_rev {k : Nat} {p1 p2 p3 : Pos} (ha : SE X e fa) : SE X (.Subscript e (revIx k p1 p2 p3) pos) (eRev fa) := by
  refine ⟨fun pins s σ H Q I h => ?_⟩
  obtain ⟨m, g, S, env, so, eo, h⟩ := h
  unfold eRev at h
  cases ef : fa env S with
  | no => rw [ef] at h; exact h.elim
  | ok x S1 =>
    rw [ef] at h
    have h : PostV X.K m g H (oRev x S1) Q := h
    have gen : ∀ (P : V → Hp → Prop), (∀ v m1 g1 H1, StOk X.K m1 g1 H1 S1 → Rep X.K m1 g1 H1 v x → PostV X.K m1 g1 H1 (oRev x S1) Q → P v H1) → tO X.K fa σ H P := fun P hP => by
      refine ⟨m, g, S, env, so, eo, ?_⟩
      unfold PostV
      rw [ef]
      exact fun v m1 g1 H1 n1 so1 r1 => hP v m1 g1 H1 so1 r1 (PostV.mono (K := X.K) (Q := Q) h n1)
    cases ex : isP x && (match x with | .str _ => true | _ => false) with
    | true =>
      cases x with
      | str l =>
        refine (pe_revS ha).run pins s σ H Q I (gen _ fun v m1 g1 H1 so1 r1 h1 => ?_)
        obtain ⟨z, rfl, e1, hz, ho⟩ := r1.str_inv
        subst e1
        exact ⟨z, rfl, by rw [← SZ_eq, str_len rfl]; exact hz, post_p h1 so1 (.str _ _ (by simp) (by rw [List.length_reverse]; exact hz) fun c hc => ho c (List.mem_reverse.mp hc))⟩
      | _ => simp [isP] at ex
    | false =>
      refine (pe_revL ha).run pins s σ H Q I (gen _ fun v m1 g1 H1 so1 r1 h1 => ?_)
      unfold oRev at h1
      split at h1
      · simp [isP] at ex
      · split at h1
        · rename_i xs hxs
          obtain ⟨a, vs, rfl, f, q⟩ := dlS_ok so1 r1 hxs
          exact ⟨a, vs, rfl, f, fun p np => post_l h1 so1 q.reverse np⟩
        · exact h1.elim
end
end Pv

namespace Pv
open PySem PySem.Spec PyProof.Rows L2

/-! ### o.replace(t[i], ''), behind a token -/
structure SE1 (X : Cx) (e : Expr) (f : FE) : Prop where
  run : ∀ (pins : List (Addr × Obj)) (s : Shared) (σ : L2.St) (H : Hp) (Q : VK), Inv X pins σ H s → tO X.K f σ H Q → wpAny (model X.prog X.w) X.A (eval e X.env) (fun v s1 => 1 ≤ s1.toks ∧ EP X pins σ Q v s1) X.xe s
section
variable {X : Cx} {o e a b : Expr} {es : List Expr} {fo fa fb : FE} {fs : FA} {pos p apos cpos : Pos} {x : Str}
theorem SE1.se {f : FE} (h : SE1 X e f) : SE X e f := ⟨fun pins s σ H Q I q => wpAny_mono (h.run pins s σ H Q I q) (fun _ _ z => z.2) fun _ _ z => z⟩
theorem s1_str {x : Str} {l : List Nat} {j} (e : x.cps.toList = l := by rfl) (h : strOkL l = true := by rfl) : SE1 X (.Constant (.str x) j pos) (eCon (.str l)) := ⟨fun pins s σ H Q I q => by
  obtain ⟨m, g, S, env, so, eo, q⟩ := q
  exact Calls.Constant_str ⟨by show 1 ≤ s.toks + 1; omega, .str x, H, I.tok _, ⟨_, rfl⟩, post_p q so (rep_str e h)⟩⟩
theorem replL_one (c : Nat) : ∀ l : List Nat, StrLaws.replL [c] [] l = l.filter fun d => d != c
  | [] => StrLaws.replL_nil
  | d :: l => by
    by_cases h : d = c
    · subst h
      rw [StrLaws.replL_hit (by simp) (by simp), List.nil_append, List.filter_cons]
      show StrLaws.replL [d] [] l = _
      rw [replL_one]
      simp
    · rw [StrLaws.replL_miss (by simpa using h), replL_one, List.filter_cons, if_pos (by simpa using h)]
def oRep (l : List Nat) (y i : PV) (S : Sto) : R PV := match y, i with
  | .str t, .int i => match atI t i with
    | some c => .ok (.str (l.filter fun d => d != c)) S
    | none => .no
  | _, _ => .no
def eRepK (fa fb : FE) (env : VEnv) (x : PV) (S : Sto) : R PV := match x with
  | .str l => (fa env S).bind fun y S => (fb env S).bind fun i S => oRep l y i S
  | _ => .no
def eRep (fo fa fb : FE) : FE := fun env S => (fo env S).bind fun x S => eRepK fa fb env x S
theorem s_rep {z : Str} {k : Nat} {p2 c1 : Pos} (ho : SE1 X o fo) (ha : SE X a fa) (hb : SE X b fb) (hz : z.cps.toList = [] := by rfl) (hs : PlainIx b := by exact fun _ _ => rfl)
    (hst : starEach [.Subscript a b p2, .Constant (.str z) k c1] X.env = [(false, eval (.Subscript a b p2) X.env), (false, eval (.Constant (.str z) k c1) X.env)] := by rfl)
    (hbase : attributeBase o "replace" X.env (eval o X.env) = eval o X.env := by rfl) (hline : (apos.endLine == pos.line) = true := by rfl) :
    SE1 X (.Call (.Attribute o "replace" apos) [.Subscript a b p2, .Constant (.str z) k c1] [] pos) (eRep fo fa fb) := ⟨fun pins s σ H Q I h => by
  obtain ⟨m, g, S, env, so, eo, h⟩ := h
  have h0 : tO X.K fo σ H fun v H1 => ∃ m1 g1 S1 x, StOk X.K m1 g1 H1 S1 ∧ EnvOk X.K m1 g1 H1 σ env ∧ Rep X.K m1 g1 H1 v x ∧ PostV X.K m1 g1 H1 (eRepK fa fb env x S1) Q :=
    vV (W := Q) (k := fun x S1 => eRepK fa fb env x S1) so eo h fun x S1 v m1 g1 H1 n1 so1 eo1 r1 h1 => ⟨m1, g1, S1, x, so1, eo1, r1, h1⟩
  refine PySem.Call_method2 hbase hst hline (wpAny_mono (ho.run pins s σ H _ I h0) (fun v s1 q => ?_) fun _ _ z => z)
  obtain ⟨hk, v', H1, I1, rv, m1, g1, S1, x, so1, eo1, r1, h1⟩ := q
  cases x with
  | str l =>
    obtain ⟨zx, rfl, e1, hz1, ho1⟩ := r1.str_inv
    subst e1
    obtain ⟨tx, e2⟩ := rv
    subst e2
    refine ⟨"str", _, PySem.F.plainAttrs_str, PySem.F.slot_str_replace, PySem.F.type_str_replace, typeIs_str _ _ _, (fun _ e => nomatch e), Calls.callWith_builtin rfl (Calls.evalArgs_plain (Calls.spliced_cons ?_))⟩
    refine Subscript_ (wpAny_mono (PySem.wpAny_toks (ha.run pins s1 σ H1 _ I1 (vV (W := Q) (k := fun y S => (fb env S).bind fun i S => oRep zx.cps.toList y i S) so1 eo1 h1 fun y S2 u m2 g2 H2 n2 so2 eo2 r2 h2 =>
      (show ∃ m2 g2 S2 y, StOk X.K m2 g2 H2 S2 ∧ EnvOk X.K m2 g2 H2 σ env ∧ Rep X.K m2 g2 H2 u y ∧ PostV X.K m2 g2 H2 ((fb env S2).bind fun i S => oRep zx.cps.toList y i S) Q from ⟨m2, g2, S2, y, so2, eo2, r2, h2⟩)))) (fun vy s2 q => ?_) fun _ _ z => z.2)
    obtain ⟨hk2, v2, H2, I2, rv2, m2, g2, S2, y, so2, eo2, r2, h2⟩ := q
    refine wpAny_mono (PySem.wpAny_toks (hb.run pins s2 σ H2 _ I2 (vV (W := Q) (k := fun i S => oRep zx.cps.toList y i S) so2 eo2 h2 fun i S3 u m3 g3 H3 n3 so3 eo3 r3 h3 =>
      (show ∃ m3 g3 S3 i, StOk X.K m3 g3 H3 S3 ∧ Rep X.K m3 g3 H3 v2 y ∧ Rep X.K m3 g3 H3 u i ∧ PostV X.K m3 g3 H3 (oRep zx.cps.toList y i S3) Q from ⟨m3, g3, S3, i, so3, r2.mono n3 so2.sub, r3, h3⟩)))) (fun vi s3 q => ?_) fun _ _ z => z.2
    obtain ⟨hk3, v3, H3, I3, rv3, m3, g3, S3, i, so3, r3, r4, h3⟩ := q
    unfold oRep at h3
    split at h3
    · rename_i t' i'
      split at h3
      · rename_i c hc
        obtain ⟨zy, rfl, e3, hz3, ho3⟩ := r3.str_inv
        subst e3
        obtain rfl := r4.int_inv
        obtain ⟨ty, rfl⟩ := rv2
        obtain ⟨ti, rfl⟩ := rv3
        obtain ⟨j, a1, a2, a3, a4, a5⟩ := atI_get hc
        have hl : zy.cps.toList.length = zy.length := by simp [Str.length]
        rw [hl] at a1 a4 a5
        have hn := line63
        have hzz : zy.length ≤ sizeLine := by rw [← SZ_eq, str_len rfl]; exact hz3
        refine PyProof.Rows.tail_any (typeIs_str s3 zy ty) PyProof.Rows.slot_str_getitem.lookup (PyProof.Rows.getItem_str (c := c) (by
          have e1 : decide (i' < -(2 ^ 63 : Int)) = false := decide_eq_false (by omega)
          have e2 : decide (i' ≥ 2 ^ 63) = false := decide_eq_false (by omega)
          rw [e1, e2, Bool.or_false]) (by rw [a1]; simpa using a2) ?_) (hs _ _)
        refine Calls.spliced_cons (Calls.Constant_str (Calls.spliced_nil ?_))
        have ht : 1 ≤ s3.toks := by omega
        refine wpAny_with_toks (n := 1) (by show 1 ≤ s3.toks + 1 + 1; omega) ?_
        obtain rfl : z = ⟨#[]⟩ := by
          obtain ⟨arr⟩ := z
          congr 1
          apply Array.toList_inj.mp
          simpa using hz
        refine PySem.SC.replace (by show s3.toks ≠ 0; omega) (by show s3.toks + 1 ≠ 0; omega) (by show s3.toks ≠ s3.toks + 1; omega) ((str_beq [c] []).trans rfl) ?_ fun t' k hk4 => ⟨hk4, .str _, H3, (I3.tok _).tok k, ⟨t', rfl⟩, post_p h3 so3 (.str _ _ ?_ ?_ fun d hd => ?_)⟩
        · show zx.length + (zx.length + 1) * 0 ≤ SZ
          rw [Nat.mul_zero, Nat.add_zero, str_len rfl]
          exact hz1
        · rw [StrLaws.replace_list (by show 1 ≤ 1; omega), hz]
          exact replL_one c _
        · exact Nat.le_trans (List.length_filter_le _ _) hz1
        · exact ho1 d (List.mem_filter.mp hd).1
      · exact h3.elim
    · exact h3.elim
  | _ => exact h1.elim⟩

/-! ### f(k = v, ..) -/
def permL {α : Type} (is : List Nat) (l : List α) : List α := is.filterMap (l[·]?)
def SK (X : Cx) (kws : List Keyword) (f : FA) : Prop := PK X kws (tA X.K f)
theorem imK {X : Cx} {kws : List Keyword} {t t' : TA} (h : PK X kws t) (w : ∀ σ H Q, t' σ H Q → t σ H Q) : PK X kws t' := ⟨fun pos pins s σ H Q I q => h.run pos pins s σ H Q I (w σ H Q q)⟩
theorem sk_nil : SK X [] aNil := imK pk_nil fun σ H Q h => by
  obtain ⟨m, g, S, env, so, eo, h⟩ := h
  exact h [] m g H .refl so .nil
theorem sk_cons {kws : List Keyword} {nm : Option Str} {kpos : Pos} {f : FA} (ha : SE X e fa) (hr : SK X kws f) : SK X (⟨nm, e, kpos⟩ :: kws) (aCons fa f) := imK (pk_cons ha hr) fun σ H Q h => by
  obtain ⟨m, g, S, env, so, eo, h⟩ := h
  refine vL so eo h fun x S1 u m1 g1 H1 n1 so1 eo1 r1 h1 => ?_
  refine lL so1 eo1 h1 fun xs S2 us m2 g2 H2 n2 so2 eo2 r2 h2 => ?_
  exact h2 _ m2 g2 H2 .refl so2 (.cons (r1.mono n2 so1.sub) r2)
/-- the def x stands, does F, and is called so: the keywords' values, told in the order is, are its parameters' -/
structure DefKw (P : Program) (w : World) (K : PySem.W.Frag) (mg : Str → Option Value) (base : Heap) (CX : CXT) (x : Str) (ps ks : List Str) (is : List Nat) (k : Nat) (F : FF) : Prop where
  ex : ∃ (f : Addr) (fd : FuncData), mg x = some (.ref f) ∧ PySem.W.keepIn K (.ref f) = true ∧ KBn K fd ps 0 ks (fun _ ws => permL is ws) (fun _ zs => permL is zs) ∧ FnOk P w K mg base CX k f fd ps (spOf K F)
theorem Vals.perm {vs : List V} {us : List Value} (r : Vals vs us) : ∀ is : List Nat, Vals (permL is vs) (permL is us)
  | [] => .nil
  | i :: is => by
    unfold permL
    rw [List.filterMap_cons, List.filterMap_cons]
    have ih := Vals.perm r is
    have hl := r.length
    cases e : vs[i]? with
    | none =>
      have e2 : us[i]? = none := List.getElem?_eq_none (by rw [← hl]; exact List.getElem?_eq_none_iff.mp e)
      rw [e2]
      exact ih
    | some v =>
      obtain ⟨u, hu, ru⟩ := r.get e
      rw [hu]
      exact .cons ru ih
theorem Reps.get' {K : PySem.W.Frag} {m g : List Addr} {H : Hp} {i : Nat} {x : PV} : ∀ {vs : List V} {xs : List PV}, Reps K m g H vs xs → xs[i]? = some x → ∃ v, vs[i]? = some v ∧ Rep K m g H v x := by
  induction i with
  | zero =>
    intro vs xs h e
    cases h with
    | nil => cases e
    | cons a t => cases e; exact ⟨_, rfl, a⟩
  | succ n ih =>
    intro vs xs h e
    cases h with
    | nil => cases e
    | cons a t => exact ih t (by simpa using e)
theorem Reps.perm {K : PySem.W.Frag} {m g : List Addr} {H : Hp} {vs : List V} {xs : List PV} (r : Reps K m g H vs xs) : ∀ is : List Nat, Reps K m g H (permL is vs) (permL is xs)
  | [] => .nil
  | i :: is => by
    unfold permL
    rw [List.filterMap_cons, List.filterMap_cons]
    have ih := Reps.perm r is
    have hl := r.length
    cases e : xs[i]? with
    | none =>
      have e2 : vs[i]? = none := List.getElem?_eq_none (by rw [hl]; exact List.getElem?_eq_none_iff.mp e)
      rw [e2]
      exact ih
    | some v =>
      obtain ⟨u, hu, ru⟩ := r.get' e
      rw [hu]
      exact .cons ru ih
def eCallK (F : FF) (n : Nat) (is : List Nat) (f : FA) : FE := fun env S => (f env S).bind fun xs S => if xs.length = n then F (permL is xs) S else .no
theorem s_callK {CX : CXT} {k : Nat} {ps ks : List Str} {is : List Nat} {F : FF} {kws : List Keyword} {nm : Str} (D : DefKw X.prog X.w X.K X.mg X.base CX nm ps ks is k F) (hr : Room k X.A) (hx : Passes CX X E0) (hkw : SK X kws fs) (hg : Gl X nm := by rfl)
    (hall : (backToKw pos (keywordEach kws X.env)).all (·.1.isSome) = true := by rfl) (hks : (backToKw pos (keywordEach kws X.env)).filterMap (·.1) = ks := by rfl) (hdb : (nm == ("__debug__" : Str)) = false := by decide)
    (hpl : ((backTo pos (starEach [] X.env)).any (·.1) || (backToKw pos (keywordEach kws X.env)).any (·.1.isNone)) = false := by rfl) : SE X (.Call (.Name nm p) [] kws pos) (eCallK F ks.length is fs) := by
  obtain ⟨f, fd, hm, hk, hb, hF⟩ := D.ex
  refine ⟨fun pins s σ H Q I h => ?_⟩
  refine wpAny_Call_Name_kw (ld_glob I hg hm ?_ hdb)
  refine PySem.W.callWith_KW0 (h₀ := X.base) I.ok.mod.kin hk hall ?_ hpl
  have q : tA X.K fs σ H fun vs H1 => vs.length = ks.length ∧ spOf X.K F (permL is vs) H1 Q E0 := by
    obtain ⟨m, g, S, env, so, eo, h⟩ := h
    refine lV so eo h fun xs S' vs m' g' H' nx so' eo' r h => ?_
    split at h
    · rename_i hl
      exact ⟨by rw [r.length]; exact hl, m', g', S', _, so', r.perm is, h⟩
    · exact h.elim
  refine thn (hkw.run pos pins s σ H _ I q) fun ws s2 ⟨zs, H2, I2, rz, l2, q2⟩ => ⟨I2.kIn, ?_⟩
  rw [hks]
  exact run_fnN (us := []) (vs := []) hF hr hb hx I2 .nil rz rfl l2 q2
theorem FunD.kw {K : PySem.W.Frag} {qual : Str} {params : Arguments} {body : List Stmt} {scope : Scope} {f : Addr} {fd : FuncData} {ps ks : List Str} {is : List Nat} {x : Str} (D : FunD K x qual params body scope [] [] f fd)
    (h : ∀ (kV doc pm : Value) (an : Option Addr) (cdv ct : Value) (ws : List Value), ws.length = ks.length → bindArgs (PySem.W.fnOf x qual params body scope .none kV doc pm an cdv ct) ⟨[], ks.zip ws⟩ = pure (ps.zip (permL is ws))) :
    KBn K fd ps 0 ks (fun _ ws => permL is ws) (fun _ zs => permL is zs) := by
  obtain ⟨oc, od, dV, kV, doc, pm, an, cdv, ct, osl, rfl, lk, hcd, hD, hK⟩ := D.ex
  rcases hD with ⟨_, rfl⟩ | ⟨e, _⟩
  · refine ⟨fun s us ws X l1 l2 => ?_, fun r1 r2 => Vals.perm r2 is⟩
    cases us with
    | nil => exact .of_eq (h kV doc pm an cdv ct ws l2)
    | cons _ _ => cases l1
  · exact absurd rfl e
section
variable {P : Program} {w : World} {K : PySem.W.Frag} {mg : Str → Option Value} {base : Heap} {qual : Str} {params : Arguments} {body : List Stmt} {scope : Scope} {f : Addr} {fd : FuncData} {N ps ks : List Str} {k : Nat} {is : List Nat}
theorem def_run {fs : FS} (D : FunD K x qual params body scope [] [] f fd) (S : FnScope N ps scope)
    (h : ∀ (cdv : Value) (A : Around) (outer : List Env) (s : Shared) (H : Hp) (E : XK), Room k (A.deeper (envOfC qual scope s.heap.objs.size f cdv)) → SSs (bodyCx P w K mg base N qual scope f cdv A outer s H E) body fs) :
    FnOk P w K mg base CX0 (k + 1) f fd ps (spOf K (fnOf ps.length N.length fs)) := D.ok S (sp_len fnOf_len) fun cdv A outer s H vs Q E hr hsp => ⟨tS K fs, PSs.nox (h cdv A outer s H E hr), fn_sp hsp⟩
theorem kw_of {F : FF} {CX : CXT} (O : FnOk P w K mg base CX k f fd ps (spOf K F)) (D : FunD K x qual params body scope [] [] f fd) (hm : mg x = some (.ref f))
    (h : ∀ (kV doc pm : Value) (an : Option Addr) (cdv ct : Value) (ws : List Value), ws.length = ks.length → bindArgs (PySem.W.fnOf x qual params body scope .none kV doc pm an cdv ct) ⟨[], ks.zip ws⟩ = pure (ps.zip (permL is ws))) : DefKw P w K mg base CX x ps ks is k F :=
  ⟨f, fd, hm, D.kp, FunD.kw D h, O⟩
theorem DefKw.mono {F : FF} {CX : CXT} {j : Nat} (D : DefKw P w K mg base CX x ps ks is j F) (h : j ≤ k) : DefKw P w K mg base CX x ps ks is k F := by
  obtain ⟨f, fd, h1, h2, h3, h4⟩ := D.ex
  exact ⟨f, fd, h1, h2, h3, h4.mono h⟩
theorem DefKw.imp {F F' : FF} {CX : CXT} (D : DefKw P w K mg base CX x ps ks is k F) (h : ∀ xs S v S', F' xs S = .ok v S' → F xs S = .ok v S') : DefKw P w K mg base CX x ps ks is k F' := by
  obtain ⟨f, fd, h1, h2, h3, h4⟩ := D.ex
  refine ⟨f, fd, h1, h2, h3, h4.imp fun vs H Q E ⟨m, g, S, xs, so, r, q⟩ => ⟨m, g, S, xs, so, r, ?_⟩⟩
  cases e : F' xs S with
  | no => rw [e] at q; exact q.elim
  | ok v S' => rw [h _ _ _ _ e, ← e]; exact q
end
end
end Pv

namespace Pv
open PySem PySem.Spec PyProof.Rows L2
theorem frz_to {K : PySem.W.Frag} {f : FA} {σ : L2.St} {H : Hp} {Q : V → Hp → Prop} (h : tO K (eFrz f) σ H Q) : tF K f σ H Q := by
  obtain ⟨m, g, S, env, so, eo, h⟩ := h
  refine ⟨m, g, S, env, so, eo, ?_⟩
  unfold eFrz at h
  unfold PostF
  cases ef : f env S with
  | no => rw [ef] at h; exact h
  | ok xs S' =>
    rw [ef] at h
    intro p vs m' g' H' nx np nm hp so' hp' r
    have sb := nx.subs so np hp so' nm
    exact h _ m' g' H' nx (so'.less sb) (.p (.lst ⟨hp', np⟩ (r.mono ⟨fun _ _ e _ => e, fun a z => .inl (List.mem_cons_of_mem _ z)⟩)))
/-- a new list, its cell: as PvC's s_cell, of the readings alone -/
theorem cell_to {K : PySem.W.Frag} {f : FA} {σ : L2.St} {H : Hp} {Q : V → Hp → Prop} (h : tO K (eCell f) σ H Q) : tF K f σ H Q := by
  obtain ⟨m, g, S, env, so, eo, h⟩ := h
  refine ⟨m, g, S, env, so, eo, ?_⟩
  unfold eCell at h
  unfold PostF
  cases ef : f env S with
  | no => rw [ef] at h; exact h
  | ok xs S' =>
    rw [ef] at h
    intro p vs m' g' H' nx np nm hp so' hp' r
    have sb := nx.subs so np hp so' nm
    obtain ⟨new, e1, e2⟩ := nx.app
    have el : m'.length = S'.length := so'.len
    refine h (.ref p) (m' ++ [p]) (p :: g') H' ⟨nx.ext, nx.free, ⟨new ++ [p], by rw [e1, List.append_assoc], fun a ha => ?_⟩, fun a z => List.mem_cons_of_mem _ (nx.gs a z), fun a z => ?_⟩ ⟨by simp [el], ?_, fun a z => ?_, so'.live, fun n a o h1 h2 => ?_⟩ (.r ?_)
    · rcases List.mem_append.mp ha with z | z
      · exact e2 a z
      · rw [List.mem_singleton.mp z]; exact hp
    · rcases List.mem_cons.mp z with z | z
      · rw [z]; exact .inr hp
      · exact nx.gn a z
    · rw [List.nodup_append]
      refine ⟨so'.nd, by simp, fun a ha b hb => ?_⟩
      rw [List.mem_singleton.mp hb]
      rintro rfl
      exact nm ha
    · rcases List.mem_append.mp z with z | z
      · exact so'.sub a z
      · rw [List.mem_singleton.mp z]; exact List.mem_cons_self
    · by_cases hn : n < m'.length
      · rw [List.getElem?_append_left hn] at h1
        rw [List.getElem?_append_left (by omega)] at h2
        exact so'.cell n a o h1 h2
      · have hn2 : n = m'.length := by
          have := (List.getElem?_eq_some_iff.mp h1).1
          simp at this
          omega
        subst hn2
        rw [List.getElem?_append_right (by omega)] at h1
        rw [List.getElem?_append_right (by omega)] at h2
        have z1 : m'.length - S'.length = 0 := by omega
        simp [z1] at h1 h2
        subst h1 h2
        exact ⟨vs, hp', r⟩
    · show (m' ++ [p])[S'.length]? = some p
      rw [← el]
      simp
section
variable {X : Cx} {e a b : Expr} {fa fb : FE} {pos p : Pos}
theorem set_to {K : PySem.W.Frag} {i : Nat} {f : FE} {D : Ends} {σ : L2.St} {H : Hp} (h : tS K (sSet i f) D σ H) : tO K f σ H fun v H1 => D.nx (σ.set i (some v)) H1 := by
  obtain ⟨m, g, S, env, so, eo, h⟩ := h
  exact vS so eo h fun x S' v m' g' H' nx so' eo' r h => h _ m' g' H' .refl so' (eo'.set r i)
/-- name = [..] on one line -/
theorem ss_setLf (i : Nat) {y : Str} {py : Pos} {elt tg iter : Expr} {ifs : List Expr} {scope : Scope} {own : List (Str × Nat)} {spos : Pos} {pt : Pat} {f : FI} {t : FT} {fe : FE} (hc : X.calm = true) (hN : X.N.Nodup) (hi : SI X tg iter f) (ok : BlkOk X.N X.env.scope scope own) (hsl : ∀ i ∈ slotsP pt, i ∈ own.map (·.2))
    (hg : ∀ (s : Shared) (H : Hp) (C : Addr) (cl : List (Str × Addr)) (fp : List Addr), GP (X.blk s H scope (compEnvC scope cl C X.env) fp) tg pt) (ht : ∀ (s : Shared) (H : Hp) (C : Addr) (cl : List (Str × Addr)) (fp : List Addr), STs (X.blk s H scope (compEnvC scope cl C X.env) fp) ifs t)
    (he : ∀ (s : Shared) (H : Hp) (C : Addr) (cl : List (Str × Addr)) (fp : List Addr), SE (X.blk s H scope (compEnvC scope cl C X.env) fp) elt fe) (hy : X.N[i]? = some y := by rfl) (hyl : X.env.scope.names.lookup y = some .local := by rfl)
    (hsw : swapsWith (.ListComp elt [⟨tg, iter, ifs, 0⟩] scope pos) (some (.Name y py)) spos.line X.env = pure true := by exact sw_true rfl rfl rfl rfl) (hs : ∀ x, foldedSetIterable iter X.env x = pure x := by intro _; rfl) :
    SS X (.Assign [.Name y py] (.ListComp elt [⟨tg, iter, ifs, 0⟩] scope pos) spos) (sSet i (eFrz (fLc pt f t fe (own.map (·.2))))) :=
  imS (ps_setLc (wi := tI X.K f) (g := gPat X.K pt) (tt := tT X.K t) (te := tO X.K fe) hc hN hy hyl hsw hi ok hg ht he hs) fun D σ H h => lc_read (Q := fun x H1 => gName i x σ H1 D.nx) hsl (frz_to (set_to h))
theorem ss_setLc (i : Nat) {y : Str} {py : Pos} {elt tg iter : Expr} {ifs : List Expr} {scope : Scope} {own : List (Str × Nat)} {spos : Pos} {pt : Pat} {f : FI} {t : FT} {fe : FE} (hc : X.calm = true) (hN : X.N.Nodup) (hi : SI X tg iter f) (ok : BlkOk X.N X.env.scope scope own) (hsl : ∀ i ∈ slotsP pt, i ∈ own.map (·.2))
    (hg : ∀ (s : Shared) (H : Hp) (C : Addr) (cl : List (Str × Addr)) (fp : List Addr), GP (X.blk s H scope (compEnvC scope cl C X.env) fp) tg pt) (ht : ∀ (s : Shared) (H : Hp) (C : Addr) (cl : List (Str × Addr)) (fp : List Addr), STs (X.blk s H scope (compEnvC scope cl C X.env) fp) ifs t)
    (he : ∀ (s : Shared) (H : Hp) (C : Addr) (cl : List (Str × Addr)) (fp : List Addr), SE (X.blk s H scope (compEnvC scope cl C X.env) fp) elt fe) (hy : X.N[i]? = some y := by rfl) (hyl : X.env.scope.names.lookup y = some .local := by rfl)
    (hsw : swapsWith (.ListComp elt [⟨tg, iter, ifs, 0⟩] scope pos) (some (.Name y py)) spos.line X.env = pure true := by exact sw_true rfl rfl rfl rfl) (hs : ∀ x, foldedSetIterable iter X.env x = pure x := by intro _; rfl) :
    SS X (.Assign [.Name y py] (.ListComp elt [⟨tg, iter, ifs, 0⟩] scope pos) spos) (sSet i (eCell (fLc pt f t fe (own.map (·.2))))) :=
  imS (ps_setLc (wi := tI X.K f) (g := gPat X.K pt) (tt := tT X.K t) (te := tO X.K fe) hc hN hy hyl hsw hi ok hg ht he hs) fun D σ H h => lc_read (Q := fun x H1 => gName i x σ H1 D.nx) hsl (cell_to (set_to h))
theorem ss_never {st : List Stmt} : SSs X st sNo := ⟨fun pins s σ H D I h => by
  obtain ⟨m, g, S, env, so, eo, h⟩ := h
  exact h.elim⟩
theorem units65 {k : Nat} {A : Around} (r : Room k A) : A.units + 65 < cLine := by have := r.un; omega
end
end Pv

namespace Pv
open PySem PySem.Spec PyProof.Rows L2
/-! ### the readings, told step by step -/
section
variable {env : VEnv} {S : Sto} {f g h : FE} {fs : FA} {t u : FT} {a b : FS} {v : PV} {i j l : Nat}
@[simp] theorem z_ok {α ρ : Type} (z : ρ) (a : α) (S : Sto) (k : α → Sto → ρ) : (R.ok a S).to z k = k a S := rfl
@[simp] theorem z_no {α ρ : Type} (z : ρ) (k : α → Sto → ρ) : (R.no : R α).to z k = z := rfl
@[simp] theorem z_con : eCon v env S = .ok v S := rfl
@[simp] theorem z_var : eVar i env S = match env[i]? with
  | some (some v) => .ok v S
  | _ => .no := rfl
@[simp] theorem z_bin {o : F2} : eBin o f g env S = (f env S).bind fun x S => (g env S).bind fun y S => o x y S := rfl
@[simp] theorem z_nil : aNil env S = .ok [] S := rfl
@[simp] theorem z_cons : aCons f fs env S = (f env S).bind fun x S => (fs env S).bind fun xs S => .ok (x :: xs) S := rfl
@[simp] theorem z_call {F : FF} : eCall F fs env S = (fs env S).bind fun xs S => F xs S := rfl
@[simp] theorem z_callK {F : FF} {n : Nat} {is : List Nat} : eCallK F n is fs env S = (fs env S).bind fun xs S => if xs.length = n then F (permL is xs) S else .no := rfl
@[simp] theorem z_tup : eTup fs env S = (fs env S).bind fun xs S => if (decide (xs.length ≤ SZ) && xs.all isP) = true then .ok (.tup xs) S else .no := rfl
@[simp] theorem z_frz : eFrz fs env S = (fs env S).bind fun xs S => .ok (.lst xs) S := rfl
@[simp] theorem z_cell : eCell fs env S = (fs env S).bind fun xs S => .ok (.ref S.length) (S ++ [.lst xs]) := rfl
@[simp] theorem z_disp : lDisp fs env S = (fs env S).bind fun xs S => if (decide (xs.length ≤ SZ) && xs.all isP) = true then .ok xs S else .no := rfl
@[simp] theorem z_toT : toT f env S = (f env S).bind fun x S => match x with
  | .bl b => .ok b S
  | _ => .no := rfl
@[simp] theorem z_and' : tAnd' t u env S = (t env S).bind fun b S => if b = true then u env S else .ok false S := rfl
@[simp] theorem z_or' : tOr' t u env S = (t env S).bind fun b S => if b = true then .ok true S else u env S := rfl
@[simp] theorem z_not' : tNot' t env S = (t env S).bind fun b S => .ok (!b) S := rfl
@[simp] theorem z_yes' : tYes' env S = .ok true S := rfl
@[simp] theorem z_and : eAnd f g env S = (f env S).bind fun x S => match x with
  | .bl true => g env S
  | .bl false => .ok (.bl false) S
  | _ => .no := rfl
@[simp] theorem z_or : eOr f g env S = (f env S).bind fun x S => match x with
  | .bl true => .ok (.bl true) S
  | .bl false => g env S
  | _ => .no := rfl
@[simp] theorem z_not : eNot f env S = (f env S).bind fun x S => match x with
  | .bl b => .ok (.bl (!b)) S
  | _ => .no := rfl
@[simp] theorem z_neg : eNeg f env S = (f env S).bind fun x S => match x with
  | .int i => .ok (.int (-i)) S
  | _ => .no := rfl
@[simp] theorem z_if : eIf t f g env S = (t env S).bind fun b S => if b = true then f env S else g env S := rfl
@[simp] theorem z_chain {o o' : F2} : eChain o o' f g h env S = (f env S).bind fun x S => (g env S).bind fun y S => (o x y S).bind fun z S => match z with
  | .bl true => (h env S).bind fun w S => o' y w S
  | .bl false => .ok (.bl false) S
  | _ => .no := rfl
@[simp] theorem z_meth {T : String} {G : FM} : eMeth T G f fs env S = (f env S).bind fun x S => if kdB T S x = true then (fs env S).bind fun xs S => G x xs S else .no := rfl
@[simp] theorem z_sl {lo hi : FO} : eSl f lo hi env S = (f env S).bind fun x S => (lo env S).bind fun l S => (hi env S).bind fun h S => oSl x l h S := rfl
@[simp] theorem z_oN : oNone env S = .ok none S := rfl
@[simp] theorem z_oS : oSome f env S = (f env S).bind fun x S => match x with
  | .int i => .ok (some i) S
  | _ => .no := rfl
@[simp] theorem z_rev : eRev f env S = (f env S).bind oRev := rfl
@[simp] theorem z_isi {T : String} : eIsi T f env S = (f env S).bind fun x S => match kitB (tyPV x) T with
  | some b => .ok (.bl b) S
  | none => .no := rfl
@[simp] theorem z_seq : sSeq a b env S = match a env S with
  | .nx env' S' => b env' S'
  | .ret v S' => .ret v S'
  | .no => .no := rfl
@[simp] theorem z_snil : sNil env S = .nx env S := rfl
@[simp] theorem z_ret : sRet f env S = (f env S).bindS fun x S => .ret x S := rfl
@[simp] theorem z_expr : sExpr f env S = (f env S).bindS fun _ S => .nx env S := rfl
@[simp] theorem z_set : sSet i f env S = (f env S).bindS fun x S => .nx (env.set i (some x)) S := rfl
@[simp] theorem z_sif : sIf t a b env S = (t env S).bindS fun k S => if k = true then a env S else b env S := rfl
@[simp] theorem z_asg {p : Pat} : sAsg p f env S = (f env S).bindS fun x S => match setPat p x env with
  | some env' => .nx env' S
  | none => .no := rfl
@[simp] theorem z_par : sPar i j fs env S = (fs env S).bindS fun xs S => match xs with
  | [x, y] => .nx ((env.set i (some x)).set j (some y)) S
  | _ => .no := rfl
@[simp] theorem z_par3 : sPar3 i j l fs env S = (fs env S).bindS fun xs S => match xs with
  | [x, y, z] => .nx (((env.set i (some x)).set j (some y)).set l (some z)) S
  | _ => .no := rfl
@[simp] theorem z_sub : sSub f g h env S = (h env S).bindS fun x S => (f env S).bindS fun o S => (g env S).bindS fun i S => match setCl S o i x with
  | some S' => .nx env S'
  | none => .no := rfl
@[simp] theorem z_dm : sDm f g j h env S = (h env S).bindS fun x S => match x with
  | .tup [p, q] => (f env S).bindS fun o S => (g env S).bindS fun i S => match setCl S o i p with
    | some S' => .nx (env.set j (some q)) S'
    | none => .no
  | _ => .no := rfl
@[simp] theorem z_for {p : Pat} {it : FI} : sFor p it a env S = (it env S).bindS fun items S => forGo p a items env S := rfl
@[simp] theorem z_it : iVal f env S = (f env S).bind fun x S => match seqI x with
  | some items => .ok items S
  | none => .no := rfl
@[simp] theorem z_fn {np N : Nat} {xs : List PV} : fnOf np N a xs S = if xs.length = np then outS S.length (a (startE N xs) S) else .no := rfl
@[simp] theorem z_rep {fo fa fb : FE} : eRep fo fa fb env S = (fo env S).bind fun x S => eRepK fa fb env x S := rfl
@[simp] theorem z_pn {x : PV} : setPat (.nm i) x env = some (env.set i (some x)) := rfl
@[simp] theorem z_pt {ps : List Pat} {xs : List PV} : setPat (.tp ps) (.tup xs) env = setPats ps xs env := rfl
@[simp] theorem z_ps0 : setPats [] [] env = some env := rfl
@[simp] theorem z_ps1 {p : Pat} {ps : List Pat} {x : PV} {xs : List PV} : setPats (p :: ps) (x :: xs) env = match setPat p x env with
  | some env' => setPats ps xs env'
  | none => none := rfl
@[simp] theorem z_lc {p : Pat} {it : FI} {vs : List Nat} : fLc p it t f vs env S = (it env S).bind fun items S => if items.length < SZ then lcGo p t f (wipeE env vs) S.length items S else .no := rfl
@[simp] theorem z_out_nx {n : Nat} : outS n (.nx env S) = .ok .non (S.take n) := rfl
@[simp] theorem z_out_no {n : Nat} : outS n .no = .no := rfl
@[simp] theorem z_out_ret {n : Nat} : outS n (.ret v S) = out n v S := rfl
theorem out_pure {n : Nat} (h : isP v = true) : out n v S = .ok v (S.take n) := by
  cases v with
  | ref => cases h
  | _ => rfl
@[simp] theorem z_out_bl {n : Nat} {k : Bool} : out n (.bl k) S = .ok (.bl k) (S.take n) := rfl
@[simp] theorem z_out_int {n : Nat} {k : Int} : out n (.int k) S = .ok (.int k) (S.take n) := rfl
@[simp] theorem z_out_non {n : Nat} : out n .non S = .ok .non (S.take n) := rfl
@[simp] theorem z_out_str {n : Nat} {k : List Nat} : out n (.str k) S = .ok (.str k) (S.take n) := rfl
@[simp] theorem z_out_tup {n : Nat} {k : List PV} : out n (.tup k) S = .ok (.tup k) (S.take n) := rfl
@[simp] theorem z_out_lst {n : Nat} {k : List PV} : out n (.lst k) S = .ok (.lst k) (S.take n) := rfl
end
/-! ### comprehensions, loops -/
/-- a comprehension whose parts leave the store, but for what they lay and let go -/
theorem lc_pure {p : Pat} {t : FT} {elt : FE} {env : VEnv} (S : Sto) (E : PV → VEnv) (b : PV → Bool) (y : PV → PV) : ∀ (items : List PV), (∀ x ∈ items, setPat p x env = some (E x)) → (∀ x ∈ items, t (E x) S = .ok (b x) S) →
    (∀ x ∈ items, b x = true → isP (y x) = true ∧ ∃ S', elt (E x) S = .ok (y x) S' ∧ S'.take S.length = S) → lcGo p t elt env S.length items S = .ok ((items.filter b).map y) S
  | [], _, _, _ => rfl
  | x :: xs, h1, h2, h3 => by
    have ih := lc_pure S E b y xs (fun z hz => h1 z (List.mem_cons_of_mem _ hz)) (fun z hz => h2 z (List.mem_cons_of_mem _ hz)) fun z hz => h3 z (List.mem_cons_of_mem _ hz)
    unfold lcGo
    rw [h1 x List.mem_cons_self]
    show (t (E x) S).bind _ = _
    rw [h2 x List.mem_cons_self, R.bind, z_ok]
    cases hb : b x with
    | false =>
      rw [if_neg Bool.false_ne_true, List.take_length, ih, List.filter_cons, hb]
      rfl
    | true =>
      obtain ⟨hp, S', e, et⟩ := h3 x List.mem_cons_self hb
      rw [if_pos rfl, e, R.bind, z_ok, if_pos hp, et, ih, List.filter_cons, hb]
      rfl
/-- a loop by an invariant -/
theorem for_inv {p : Pat} {body : FS} (I : Nat → VEnv → Sto → Prop) (items : List PV) (hs : ∀ (i : Nat) (x : PV) env S, items[i]? = some x → I i env S → ∃ env1 env2 S2, setPat p x env = some env1 ∧ body env1 S = .nx env2 S2 ∧ I (i + 1) env2 S2)
    {env : VEnv} {S : Sto} (h0 : I 0 env S) : ∃ env' S', forGo p body items env S = .nx env' S' ∧ I items.length env' S' := by
  have go : ∀ (n i : Nat) env S, n = items.length - i → i ≤ items.length → I i env S → ∃ env' S', forGo p body (items.drop i) env S = .nx env' S' ∧ I items.length env' S' := by
    intro n
    induction n with
    | zero =>
      intro i env S hn hi h
      have e : i = items.length := by omega
      subst e
      rw [List.drop_length]
      exact ⟨env, S, rfl, h⟩
    | succ n ih =>
      intro i env S hn hi h
      have hlt : i < items.length := by omega
      obtain ⟨env1, env2, S2, e1, e2, h2⟩ := hs i items[i] env S (List.getElem?_eq_getElem hlt) h
      obtain ⟨env', S', e3, h3⟩ := ih (i + 1) env2 S2 (by omega) hlt h2
      refine ⟨env', S', ?_, h3⟩
      rw [List.drop_eq_getElem_cons hlt]
      unfold forGo
      rw [e1]
      show (match body env1 S with
        | .nx env2 S2 => forGo p body (items.drop (i + 1)) env2 S2
        | .ret v S2 => .ret v S2
        | .no => .no) = _
      rw [e2]
      exact e3
  exact go items.length 0 env S rfl (Nat.zero_le _) h0
end Pv

namespace PySem
open Sem (wp)
/-- enumerate over what begins anyhow -/
theorem enm_new {v : Value} {o : Obj} {H : Heap → Prop} (B : Begins v o H) :
    Meets (Builtin.«enumerate.__new__» ⟨[.type "enumerate", v], []⟩) (fun _ R s => H s.heap ∧
      R (.ok (.ret (.ref (s.heap.push o).objs.size))) { s with heap := (s.heap.push o).push { cls := .type "enumerate", data := .fields #[.none, .bool false, .ref s.heap.objs.size, rawInt 0, .none, .none] } }) :=
  .of_wp fun prog w A R s h => by
    obtain ⟨hp, g, d, tk, os⟩ := s
    obtain ⟨h1, h⟩ := h
    have hsub := sub_enumerate
    have q1 : ∀ {A' : Around} {E : Value → Shared → Prop} {Q : Value → Shared → Prop}, Q (.ref hp.objs.size) ⟨(hp.push o), g, d, tk, os⟩ → wpAny (model prog w) A' (pyIter v) Q E ⟨hp, g, d, tk, os⟩ :=
      fun q => B.iter prog w _ _ ⟨hp, g, d, tk, os⟩ _ h1 q
    wp_walk
    refine wpAny_stack_any fun st => wpAny_pure ?_
    split
    · rename_i c _ _ _ _ _
      cases (c == Value.type "enumerate")
      · wp_walk using q1
        exact ⟨_, rfl, h⟩
      · wp_walk using q1
        exact ⟨_, rfl, h⟩
    · wp_walk using q1
      exact ⟨_, rfl, h⟩
section
variable {prog : Program} {w : World} {A : Around} {E : Value → Shared → Prop} {s : Shared}
theorem enm_begins {v : Value} {o : Obj} {H : Heap → Prop} {Q : Value → Shared → Prop} (B : Begins v o H) (h1 : H s.heap)
    (h : ∀ h', IsEnum h' (s.heap.objs.size + 1) s.heap.objs.size 0 .none → h'.get? s.heap.objs.size = some o → h'.objs.size = s.heap.objs.size + 2 →
      (∀ b o, s.heap.get? b = some o → h'.get? b = some o) → Q (.ref (s.heap.objs.size + 1)) { s with heap := h' }) :
    wpAny (model prog w) A (call (.type "enumerate") [v]) Q E s := by
  refine callType_new F.called_enumerate (by decide) (F.typeCall_enumerate_1 _) (F.newCall_enumerate_1 _) (fun obj => F.args_object_init_2 obj _) F.entry_enumerate_new
    (enm_new B) ⟨h1, ?_⟩
  have hz : (s.heap.push o).objs.size = s.heap.objs.size + 1 := Heap.size_push ..
  show _ ∧ _
  rw [hz]
  have he : IsEnum ((s.heap.push o).push { cls := .type "enumerate", data := .fields #[.none, .bool false, .ref s.heap.objs.size, rawInt 0, .none, .none] }) (s.heap.objs.size + 1) s.heap.objs.size 0 .none := by
    have z := Heap.get?_push_size (s.heap.push o) (o := { cls := .type "enumerate", data := .fields #[.none, .bool false, .ref s.heap.objs.size, rawInt 0, .none, .none] }) rfl
    rw [hz] at z
    exact z
  exact ⟨⟨_, he, rfl⟩, h _ he (Heap.get?_push_of_some _ (Heap.get?_push_size _ B.free)) (by rw [Heap.size_push, hz]) fun b o x => Heap.get?_push_of_some _ (Heap.get?_push_of_some _ x)⟩
end
end PySem
namespace Pv
open PySem PySem.Spec PyProof.Rows L2
/-! ### enumerate -/
def Ieg (K : PySem.W.Frag) (z : Zs) : It :=
  ⟨fun i H => ∃ xs : List V, z.Has K H xs ∧ i < xs.length,
    fun i H v H' => ∃ T x, v = .ref T ∧ H T = none ∧ H' = upd H T (.tup [.int (i : Nat), x]) ∧ ∀ xs, z.Has K H xs → xs[i]? = some x,
    fun i H => ∃ xs : List V, z.Has K H xs ∧ i = xs.length⟩
theorem turn_e {P : Program} {w : World} {K : PySem.W.Frag} {elts : List Expr} {kk : Nat} {tpos : Pos} {z : Zs} {N : Nat} (hN : ∀ b ∈ z.ad, b < N) :
    Turn P w K (.Tuple elts kk tpos) (Ieg K z) [N + 1, N] (N + 1) (fun i h => (∃ old, IsEnum h (N + 1) N ((0 : Int) + (i : Nat)) old) ∧ z.At N i h) where
  mem := by simp
  obj := fun i h st c hc => by
    obtain ⟨⟨old, he⟩, q1⟩ := st
    have e' : c = N + 1 ∨ c = N := by simpa using hc
    rcases e' with q | q
    · rw [q]; exact ⟨_, he, fun v q => nomatch q⟩
    · rw [q]; exact q1.obj
  keep := fun i h h' st k => by
    obtain ⟨⟨old, he⟩, q1⟩ := st
    exact ⟨⟨old, k (N + 1) (by simp) _ he⟩, q1.keep fun o q => k N (by simp) o q⟩
  item := by
    intro X hP hw hK hc i pins s σ H E I hf st hg
    subst hP hw hK
    obtain ⟨⟨old, he⟩, q1⟩ := st
    obtain ⟨xs, hq, hx⟩ := hg
    have hh : X.A.in1.handled = none := I.ok.hd hc
    obtain ⟨P1, St1, D1, f1, s1, g1⟩ := Zs.draws I hh hq (it := N) (fun b hb => Nat.ne_of_lt (hN b hb)) q1
    have hel : N + 1 < s.heap.objs.size := Heap.lt_size he
    have hef : N + 1 ∉ N :: z.ad := fun hm => by
      rcases List.mem_cons.mp hm with e | e
      · exact absurd e (neY (by decide))
      · exact absurd (hN _ e) (Nat.not_lt_of_le (Nat.le_succ N))
    refine wpAny_pyNext_enum_itemC D1 he s1 hx (neY (by decide)) hef fun x1 h' tk p1 ho n1 hT hsz hk => ?_
    obtain ⟨y1, e1, r1⟩ := f1 i x1 p1
    refine ⟨_, rfl, wpAny_letOwnedTupleGo_enum (s := { s with heap := h', toks := tk + 1 }) ho fun h'' z'' sb => ?_⟩
    have hT2 : h''.get? s.heap.objs.size = some { cls := .type "tuple", data := .seq #[.int ((0 : Int) + (i : Nat)) tk, x1] } := (sb.2 _ (Nat.ne_of_gt hel)).trans hT
    have e0 : (0 : Int) + ((i : Nat) : Int) = (i : Nat) := Int.zero_add _
    have new : ObjOk X.prog X.w (upd H s.heap.objs.size (.tup [.int (i : Nat), y1])) h'' s.heap.objs.size (.tup [.int (i : Nat), y1]) :=
      ⟨by show 2 ≤ sizeLine; decide, [.int ((0 : Int) + (i : Nat)) tk, x1], .cons ⟨tk, by rw [e0]⟩ (.cons r1 .nil), ⟨_, hT2, rfl, _, rfl⟩⟩
    have I1 : Inv X pins σ (upd H s.heap.objs.size (.tup [.int (i : Nat), y1])) { s with heap := h'', toks := tk + 1 } :=
      I.turnedNew (t' := tk + 1) (ch := [N + 1, N]) (fun c o hb q => (sb.2 c (fun q' => hb (by simp [q']))).trans (hk c o (fun q' => hb (by simp [q'])) (fun q' => hb (by simp [q'])) q)) hf (Nat.le_refl _) new
    refine ⟨.ref s.heap.objs.size, _, I1, rfl, ⟨_, y1, rfl, I.hok.fresh (Nat.le_refl _), rfl, fun l hl => by rw [Zs.inj I hl hq]; exact e1⟩, ⟨⟨x1, ?_⟩, ?_⟩, fun c hcm => ?_⟩
    · have e2 : (0 : Int) + ((i + 1 : Nat) : Int) = (0 : Int) + (i : Nat) + 1 := by omega
      rw [e2]
      exact z''
    · exact (g1 _ _ n1).keep fun o q => (sb.2 _ (neZ (by decide))).trans q
    · have hlt : c < s.heap.objs.size := by
        have e' : c = N + 1 ∨ c = N := by simpa using hcm
        rcases e' with q | q
        · rw [q]; exact hel
        · rw [q]; exact Nat.lt_of_succ_lt hel
      rw [upd_ne (Nat.ne_of_lt hlt)]
      exact (hf c hcm).1
  done := by
    intro X hP hw hK hc i pins s σ H E I hf st hg
    subst hP hw hK
    obtain ⟨⟨old, he⟩, q1⟩ := st
    obtain ⟨xs, hq, hend⟩ := hg
    have hh : X.A.in1.handled = none := I.ok.hd hc
    obtain ⟨P1, St1, D1, f1, s1, g1⟩ := Zs.draws I hh hq (it := N) (fun b hb => Nat.ne_of_lt (hN b hb)) q1
    subst hend
    exact wpAny_pyNext_enum_endD D1 he s1 fun h' hx => ⟨rfl, I.turnedL (t' := s.toks) (ch := [N + 1, N]) (fun c o hb q => hx c o (fun q' => hb (by simp [q'])) q) hf⟩
  self := fun A i s Q E st h => let ⟨⟨_, he⟩, _⟩ := st; wpAny_pyIter_enum he h
def iEnG (K : PySem.W.Frag) (ta : TA) : TI := fun σ H R => ta σ H fun vs H1 => ∃ z xs, vs = [Zs.val z] ∧ z.Has K H1 xs ∧ R (Ieg K z) H1
theorem pi_enumG {X : Cx} {e : Expr} {ta : TA} {p pos tpos : Pos} {elts : List Expr} {kk : Nat} (hg : Gl X "enumerate") (hm : X.mg "enumerate" = none) (ha : PA X [e] ta) (hs : starEach [e] X.env = [(false, eval e X.env)] := by rfl) :
    PI X (.Tuple elts kk tpos) (.Call (.Name "enumerate" p) [e] [] pos) (iEnG X.K ta) := by
  refine ⟨fun pins s σ H R I h => ?_⟩
  refine Call_ (ld_blt I hg hm boot_enumerate (PyProof.Rows.callWith_type1 (thn (ha.run pos pins s σ H _ I h) fun us s1 ⟨vs, H1, I1, r1, q1⟩ => ?_) hs rfl))
  obtain ⟨z, xs, ex, hq, q⟩ := q1
  subst ex
  cases r1 with
  | cons r rr =>
    cases rr
    obtain ⟨o1, G1, B1, b1, l1, a1⟩ := Zs.begins I1 hq r
    refine enm_begins B1 b1 fun h' he h1 hsz hk => wpAny_pyIter_enum he ?_
    have I2 : Inv X pins σ H1 { s1 with heap := h' } := I1.kept (t' := s1.toks) hk
    refine ⟨s1.heap.objs.size + 1, [s1.heap.objs.size + 1, s1.heap.objs.size], _, _, H1, rfl, I2, turn_e (N := s1.heap.objs.size) l1, ⟨⟨.none, he⟩, a1 _ _ h1⟩, fun c hcm => ?_, q⟩
    have e' : c = s1.heap.objs.size + 1 ∨ c = s1.heap.objs.size := by simpa using hcm
    have hle : s1.heap.objs.size ≤ c := by
      rcases e' with q | q
      · rw [q]; exact Nat.le_succ _
      · rw [q]; exact Nat.le_refl _
    exact I1.fpOk hle (I1.hok.fresh hle)
def iEnum' (f : FE) : FI := fun env S => (f env S).bind fun x S => match seqI x with
  | some items => .ok (items.zipIdx.map fun p => .tup [.int (p.2 : Nat), p.1]) S
  | none => .no
section
variable {X : Cx} {e a : Expr} {fa : FE} {pos p : Pos}
theorem si_enum {elts : List Expr} {kk : Nat} {tpos : Pos} (hg : Gl X "enumerate") (hm : X.mg "enumerate" = none) (ha : SE X a fa) (hs : starEach [a] X.env = [(false, eval a X.env)] := by rfl) (h1 : starEach [a] X.env = (false, eval a X.env) :: starEach [] X.env := by rfl) :
    SI X (.Tuple elts kk tpos) (.Call (.Name "enumerate" p) [a] [] pos) (iEnum' fa) := imI (pi_enumG hg hm (a_cons ha a_nil h1) hs) fun σ H R h => by
  obtain ⟨m, g, S, env, so, eo, h⟩ := h
  refine ⟨m, g, S, env, so, eo, ?_⟩
  unfold iEnum' at h
  unfold PostL aCons aNil
  cases ef : fa env S with
  | no => rw [ef] at h; exact h.elim
  | ok x S1 =>
    cases ex : seqI x with
    | none => simp only [ef, Pv.R.bind, Pv.R.to, ex] at h
    | some xs =>
      simp only [ef, Pv.R.bind, Pv.R.to, ex] at h ⊢
      intro vs m1 g1 H1 n1 so1 r1
      cases r1 with
      | cons rx rr =>
        cases rr
        obtain ⟨z1, v1, kd1, rfl, hz1⟩ := zs_of so1 rx ex
        have l1 := (hz1 m1 g1 H1 .refl).2.length
        refine ⟨z1, v1, rfl, (hz1 m1 g1 H1 .refl).1, h _ m1 g1 H1 n1 so1 ⟨fun i m' g' H' n hi => ⟨v1, (hz1 m' g' H' n).1, ?_⟩, fun i m' g' H' n hi => ⟨v1, (hz1 m' g' H' n).1, ?_⟩, fun i m' g' H' v H'' n s1 s2 hy => ?_⟩⟩
        · rw [List.length_map, List.length_zipIdx] at hi; omega
        · rw [List.length_map, List.length_zipIdx] at hi; omega
        · obtain ⟨T, x', rfl, hT, rfl, f1⟩ := hy
          obtain ⟨a1, b1⟩ := hz1 m' g' H' n
          have e1 := f1 v1 a1
          have i1 := (List.getElem?_eq_some_iff.mp e1).1
          obtain ⟨p, hp⟩ : ∃ x, xs[i]? = some x := ⟨_, List.getElem?_eq_getElem (by omega)⟩
          refine ⟨.tup [.int (i : Nat), p], fun _ => ?_, fun _ => ?_, .inr ⟨T, _, hT, rfl⟩⟩
          · rw [List.getElem?_map, List.getElem?_zipIdx, hp]
            simp
          · obtain ⟨u, hu, ru⟩ := b1.get hp
            rw [hu] at e1
            cases e1
            have kp : Kp g' H' g' (upd H' T (.tup [.int (i : Nat), x'])) := (nx_new (m := m') hT).kp s1
            exact .tup (.inl ⟨.inl upd_same, fun hg => s2 T hg hT⟩) (.cons (.int _) (.cons (ru.mono kp) .nil))

/-! ### tuple(x), list(x) -/
def bTuple : FF := fun xs S => match xs with
  | [.tup xs] => .ok (.tup xs) S
  | [x] => match dlS S x with
    | some xs => .ok (.tup xs) S
    | none => .no
  | _ => .no
theorem c_tuple : Cal X (.type "tuple") bTuple := by
  intro pins s σ H vs us Q I rv h
  obtain ⟨m, g, S, xs, so, r, h⟩ := h
  unfold bTuple at h
  split at h
  · cases r with
    | cons r1 r2 =>
      cases r2
      obtain ⟨a, ws, rfl, f, q⟩ := r1.tup_inv
      exact call_tuple_of pins s σ H _ us Q I rv ⟨a, ws, rfl, .inr ⟨f.sq, post_p h so (.tup f q)⟩⟩
  · cases r with
    | cons r1 r2 =>
      cases r2
      split at h
      · rename_i ys hys
        obtain ⟨a, ws, rfl, f, q⟩ := dlS_ok so r1 hys
        exact call_tuple_of pins s σ H _ us Q I rv ⟨a, ws, rfl, .inl ⟨f, fun p np => post_t h so q np⟩⟩
      · exact h.elim
  · exact h.elim
def bList : FF := fun xs S => match xs with
  | [.tup xs] => .ok (.lst xs) S
  | [x] => match dlS S x with
    | some xs => .ok (.lst xs) S
    | none => .no
  | _ => .no
theorem c_list : Cal X (.type "list") bList := by
  intro pins s σ H vs us Q I rv h
  obtain ⟨m, g, S, xs, so, r, h⟩ := h
  unfold bList at h
  split at h
  · cases r with
    | cons r1 r2 =>
      cases r2
      obtain ⟨a, ws, rfl, f, q⟩ := r1.tup_inv
      exact call_list_of pins s σ H _ us Q I rv ⟨a, ws, rfl, .inr f.sq, fun p np => post_l h so q np⟩
  · cases r with
    | cons r1 r2 =>
      cases r2
      split at h
      · rename_i ys hys
        obtain ⟨a, ws, rfl, f, q⟩ := dlS_ok so r1 hys
        exact call_list_of pins s σ H _ us Q I rv ⟨a, ws, rfl, .inl f, fun p np => post_l h so q np⟩
      · exact h.elim
  · exact h.elim
end
end Pv

namespace Pv
open PySem PySem.Spec PyProof.Rows L2
/-! ### def f(letter): return G.replace(letter, ''), called with a fresh sign -/
def OthRun (P : Program) (w : World) (K : PySem.W.Frag) (mg : Str → Option Value) (base : Heap) (CX : CXT) (k : Nat) (f : Addr) (x : Str) : Prop :=
  ∀ (A : Around) (outer : List Env) (s : Shared) (H : Hp) (c : Nat) (u : Tok) (Q : VK) (E : XK), Room k A → Env0 P w K mg base A outer s H → 1 ≤ u → u < s.toks → Q (.str (Txt.replace x ⟨#[c]⟩ ⟨#[]⟩)) H →
    codeAny (model P w) A (.call (.ref f) ⟨[.str ⟨#[c]⟩ u], []⟩) (CR CX outer P w H s Q E) s
theorem oth_run {CX : CXT} {P : Program} {w : World} {K : PySem.W.Frag} {mg : Str → Option Value} {base : Heap} {k : Nat} {f : Addr} {fd : FuncData} {qual name x g a0 : Str} {tx : Tok} {params : Arguments} {scope : Scope}
    {N : List Str} {p1 p2 c1 apos cpos rpos : Pos} {kz : Nat} {body : List Stmt} (D : FunD K name qual params body scope [] [] f fd) (hbd : body = [.Return (some (.Call (.Attribute (.Name g p1) "replace" apos) [.Name a0 p2, .Constant (.str ⟨#[]⟩) kz c1] [] cpos)) rpos])
    (S : FnScope N [a0] scope) (hb : ∀ (kV doc pm : Value) (an : Option Addr) (cdv ct : Value) (us : List Value), us.length = 1 → bindArgs (PySem.W.fnOf name qual params body scope .none kV doc pm an cdv ct) ⟨us, []⟩ = pure ([a0].zip us))
    (h0 : scope.names.lookup a0 = some .local) (hg : ∀ n f cdv, (envOfC qual scope n f cdv).kindOf g = some .globalImplicit) (hm : mg g = some (.str x tx)) (hx : x.length ≤ SZ)
    (d0 : (a0 == ("__debug__" : Str)) = false) (dg : (g == ("__debug__" : Str)) = false) (hline : (apos.endLine == cpos.line) = true) : OthRun P w K mg base CX (k + 1) f x := by
  obtain ⟨oc, od, dV, kV, doc, pm, an, cdv, ct, osl, rfl, lk, hcd, hD, hK⟩ := D.ex
  rcases hD with ⟨_, rfl⟩ | ⟨e, _⟩
  · intro A outer s H c u Q E hr e0 hu1 hu2 q
    subst hbd
    have KX : K.In s.heap := e0.mod.kin.keeps fun b o e => (e0.bs b o e).1
    have lim : s.heap.NoLimit := e0.mod.nolimit.keeps fun b o e => (e0.bs b o e).1
    have hkind : ∀ v ∈ [a0].zip [Value.str ⟨#[c]⟩ u], scope.names.lookup v.1 = some .local ∨ (scope.names.lookup v.1 = some .cell ∧ ((cellsFrom (s.heap.objs.size + 1) scope.names []).lookup v.1).isSome = true) := fun ⟨n, v⟩ hy => by
      rcases S.par n (List.of_mem_zip hy).1 with q | q
      · exact .inl q
      · exact .inr ⟨q, PySem.W.cellsFrom_some _ _ _ (.inl q)⟩
    refine codeAny_call_function hr.depth (KX _ _ lk) rfl S.co S.gen rfl (PySem.W.codeRec_of KX hcd) (BindsTo.of_eq (hb kV doc pm an cdv ct [.str ⟨#[c]⟩ u] rfl) _ _ _ _ ?_)
    refine wpAny_with_toks (n := u + 1) hu2 ?_
    refine wpAny_newFunctionEnv_cells S.kind hkind fun env he s1 xx => ?_
    intro ht1
    subst he
    refine ⟨lim.keeps xx.toInCall.keep, codeAny_func ?_⟩
    have rv : Vals [V.str ⟨#[c]⟩] [Value.str ⟨#[c]⟩ u] := .cons ⟨u, rfl⟩ .nil
    have I : Inv (cxOf CX P w K mg base N qual scope f cdv A outer s H E) [] (start N [.str ⟨#[c]⟩]) H s1 := inv_start S hr.hd e0 rfl rv xx
    have hn := xx.toInCall.ns
    have m0 := bindL_get (kindOf := (envOfC qual scope s.heap.objs.size f cdv).kindOf) (x := a0) (v := Value.str ⟨#[c]⟩ u) (P := [a0]) (vs := [.str ⟨#[c]⟩ u]) (i := 0) (m := fun _ => none) (by simp) rfl rfl h0
    have fin : ∀ {σ' : L2.St} {H' : Hp} {v : V} {r : Value} {s' : Shared}, Inv (cxOf CX P w K mg base N qual scope f cdv A outer s H E) [] σ' H' s' → RelV v r → Q v H' → CE outer P w H s Q r s' :=
      fun {σ' H' v r s'} J rv q => ⟨v, H', J.os, J.bare, J.base, J.hok, rv, q⟩
    refine wpAny_execs_cons (wpAny_Return_some (PySem.Call_method2 rfl rfl hline (ld_glob I (hg _ _ _) hm ?_ dg)))
    refine ⟨"str", _, F.plainAttrs_str, F.slot_str_replace, F.type_str_replace, typeIs_str _ _ _, (fun _ e => nomatch e), Calls.callWith_builtin rfl (Calls.evalArgs_plain (Calls.spliced_cons ?_))⟩
    refine wpAny_Name (wpAny_loadName_local S.kind h0 hn m0 ?_) d0
    refine Calls.spliced_cons (Calls.Constant_str (Calls.spliced_nil ?_))
    exact PySem.SC.replace (show u ≠ 0 from Nat.pos_iff_ne_zero.mp hu1) (show s1.toks ≠ 0 from Nat.pos_iff_ne_zero.mp (Nat.lt_of_lt_of_le (Nat.succ_pos u) ht1)) (show u ≠ s1.toks from Nat.ne_of_lt ht1) ((str_beq [c] []).trans rfl) (by show x.length + (x.length + 1) * 0 ≤ SZ; omega) fun t' k => fin (v := V.str (Txt.replace x ⟨#[c]⟩ ⟨#[]⟩)) (r := Value.str _ t') ((I.tok _).tok k) ⟨t', rfl⟩ q
  · exact absurd rfl e
section
variable {X : Cx} {a : Expr} {fa : FE} {pos p : Pos}
def oOth2 (l : List Nat) (o : Option Nat) (S : Sto) : R PV := match o with
  | some c => .ok (.str (l.filter fun d => d != c)) S
  | none => .no
def oOth (l : List Nat) (i : Int) (x : PV) (S : Sto) : R PV := match x with
  | .str t => oOth2 l (atI t i) S
  | _ => .no
def eOth (l : List Nat) (i : Int) (f : FE) : FE := fun env S => (f env S).bind fun x S => oOth l i x S
/-- f(t[i]), t a text, i written -/
theorem s_oth {CX : CXT} {k : Nat} {f : Addr} {nm x : Str} {l : List Nat} {i : Int} {j : Nat} {p2 cp : Pos} (O : OthRun X.prog X.w X.K X.mg X.base CX k f x) (hl : x.cps.toList = l) (hok : strOkL l = true) (hr : Room k X.A) (hx : Passes CX X E0) (hm : X.mg nm = some (.ref f)) (hk : PySem.W.keepIn X.K (.ref f) = true) (ha : SE X a fa)
    (hg : Gl X nm := by rfl) (hdb : (nm == ("__debug__" : Str)) = false := by decide) (hs : PlainIx (.Constant (.int i) j cp) := by exact fun _ _ => rfl)
    (he : starEach [.Subscript a (.Constant (.int i) j cp) p2] X.env = (false, eval (.Subscript a (.Constant (.int i) j cp) p2) X.env) :: starEach [] X.env := by rfl) (hpl : (backTo pos (starEach [] X.env)).any (·.1) = false := by rfl) :
    SE X (.Call (.Name nm p) [.Subscript a (.Constant (.int i) j cp) p2] [] pos) (eOth l i fa) := by
  refine ⟨fun pins s σ H Q I h => ?_⟩
  obtain ⟨m, g, S, env, so, eo, h⟩ := h
  refine wpAny_Call_Name_kw (ld_glob I hg hm ?_ hdb)
  refine PySem.W.callWith_K (h₀ := X.base) I.ok.mod.kin hk ?_ he hpl
  rw [he]
  refine Calls.spliced_cons ?_
  refine Subscript_ (thn (ha.run pins s σ H _ I (vV (W := Q) (k := fun x S => oOth l i x S) so eo h fun x S1 v m1 g1 H1 n1 so1 eo1 r1 h1 =>
      (show ∃ m1 g1 S1 x, StOk X.K m1 g1 H1 S1 ∧ Rep X.K m1 g1 H1 v x ∧ PostV X.K m1 g1 H1 (oOth l i x S1) Q from ⟨m1, g1, S1, x, so1, r1, h1⟩))) fun vy s1 ⟨v1, H1, I1, rv, m1, g1, S1, y, so1, r1, h1⟩ => ?_)
  refine wpAny_Constant_int ?_
  cases y with
  | str t =>
    have h2 : PostV X.K m1 g1 H1 (oOth2 l (atI t i) S1) Q := h1
    cases hc : atI t i with
    | none => rw [hc] at h2; exact h2.elim
    | some c =>
      rw [hc] at h2
      have h2 : PostV X.K m1 g1 H1 (R.ok (PV.str (l.filter fun d => d != c)) S1) Q := h2
      obtain ⟨zy, rfl, e3, hz3, ho3⟩ := r1.str_inv
      subst e3
      obtain ⟨ty, rfl⟩ := rv
      obtain ⟨n, a1, a2, a3, a4, a5⟩ := atI_get hc
      have hlz : zy.cps.toList.length = zy.length := by simp [Str.length]
      rw [hlz] at a1 a4 a5
      have hn := line63
      have hzz : zy.length ≤ sizeLine := by rw [← SZ_eq, str_len rfl]; exact hz3
      refine PyProof.Rows.tail_any (typeIs_str _ zy ty) PyProof.Rows.slot_str_getitem.lookup (PyProof.Rows.getItem_str (c := c) (by
        have e1 : decide (i < -(2 ^ 63 : Int)) = false := decide_eq_false (by omega)
        have e2 : decide (i ≥ 2 ^ 63) = false := decide_eq_false (by omega)
        rw [e1, e2, Bool.or_false]) (by rw [a1]; simpa using a2) ?_) (hs _ _)
      refine Calls.spliced_nil ?_
      have I2 := (I1.tok (s1.toks + 1)).tok (s1.toks + 1 + 1)
      refine ⟨I2.kIn, wpAny_call (codeAny_mono (O X.A X.stack _ H1 c (s1.toks + 1) Q E0 hr I2.env0 (Nat.succ_pos _) (Nat.lt_succ_self _) (post_p h2 so1 (.str _ _ ?_ ?_ fun d hd => ?_))) fun r s' hq => ?_)⟩
      · rw [StrLaws.replace_list (by show 1 ≤ 1; omega), hl]
        exact replL_one c _
      · exact Nat.le_trans (List.length_filter_le _ _) (of_decide_eq_true (Bool.and_eq_true_iff.mp hok).1)
      · exact of_decide_eq_true (List.all_eq_true.mp (Bool.and_eq_true_iff.mp hok).2 d (List.mem_filter.mp hd).1)
      · cases r with
        | error e => exact hx pins σ H1 _ e s' I2 hq
        | ok fl =>
          cases fl with
          | ret u => exact I2.after hq
          | next => exact False.elim hq
          | brk => exact False.elim hq
          | cont => exact False.elim hq
  | _ => exact h1.elim
end
end Pv

namespace Pv
open PySem PySem.Spec PyProof.Rows L2
/-! ### tables of the module: texts are keys -/
structure Tab (K : PySem.W.Frag) (w : World) (d : Addr) (ks : List Str) : Prop where
  kd : ∃ es n, KDict K w d es n
  out : ∀ z, z ∉ ks → PySem.W.nsIn K d z = some none
  in_ : ∀ z, z ∈ ks → ∃ u, PySem.W.nsIn K d z = some (some u)
theorem keys_of {P : Params} : ∀ {l : List DictEntry} {ks : List Str}, l.map He.keyOf = He.keysIn P ks → ∀ z, (z ∉ ks → l.find? (·.key.isStr z) = none ∧ l.any (·.refKey) = false) ∧ (z ∈ ks → ∃ e, l.find? (·.key.isStr z) = some e)
  | [], [], _, z => ⟨fun _ => ⟨rfl, rfl⟩, fun h => by cases h⟩
  | [], k :: ks, h, z => by cases h
  | e :: r, [], h, z => by cases h
  | e :: r, k :: ks, h, z => by
    have h1 : He.keyOf e :: r.map He.keyOf = some (k, PyData.keyHash P k) :: He.keysIn P ks := h
    injection h1 with h2 h3
    have ih := keys_of h3 z
    have hk : ∃ t, e.key = .str k t := by
      unfold He.keyOf at h2
      split at h2
      · rename_i x t q
        have h4 := Option.some.inj h2
        obtain ⟨h5, h6⟩ := Prod.mk.inj h4
        exact ⟨t, by rw [q, h5]⟩
      · cases h2
    obtain ⟨t, hk⟩ := hk
    have he : e.key.isStr z = (k == z) := by rw [hk]; rfl
    have hr : e.refKey = false := by unfold DictEntry.refKey; rw [hk]
    constructor
    · intro hz
      simp only [List.mem_cons, not_or] at hz
      obtain ⟨i1, i2⟩ := ih.1 hz.2
      rw [List.find?_cons, he, List.any_cons, hr, i2, i1]
      have : (k == z) = false := beq_false_of_ne fun q => hz.1 q.symm
      rw [this]
      exact ⟨rfl, rfl⟩
    · intro hz
      rw [List.find?_cons, he]
      by_cases q : k = z
      · rw [beq_iff_eq.mpr q]; exact ⟨e, rfl⟩
      · rw [beq_false_of_ne q]
        rcases List.mem_cons.mp hz with q2 | hz
        · exact absurd q2.symm q
        · exact ih.2 hz
theorem tab_of {K : PySem.W.Frag} {w : World} {d : Addr} {ks : List Str} (h : He.dicW K d = some (He.keysIn w.params ks)) : Tab K w d ks := by
  obtain ⟨es, n, D⟩ := He.dicW_ok h
  have hl : es.toList.map He.keyOf = He.keysIn w.params ks := by
    have e := D.at_
    unfold He.dicW at h
    rw [e] at h
    have h : (match decide ("dict" = "dict") && ((#[] : Array (Option Value)).isEmpty && !(d == sysModules)) with
      | true => some (es.toList.map He.keyOf)
      | false => none) = some (He.keysIn w.params ks) := h
    split at h
    · exact Option.some.inj h
    · cases h
  have q := fun z => keys_of hl z
  refine ⟨⟨es, n, D⟩, fun z hz => ?_, fun z hz => ?_⟩
  · obtain ⟨q1, q2⟩ := (q z).1 hz
    unfold PySem.W.nsIn
    rw [D.at_]
    show (match es.toList.find? (·.key.isStr z) with
      | some e => some (some e.val)
      | none => if es.toList.any (·.refKey) then none else some none) = _
    rw [q1, q2]
    rfl
  · obtain ⟨e, q1⟩ := (q z).2 hz
    unfold PySem.W.nsIn
    rw [D.at_]
    refine ⟨e.val, ?_⟩
    show (match es.toList.find? (·.key.isStr z) with
      | some e => some (some e.val)
      | none => if es.toList.any (·.refKey) then none else some none) = _
    rw [q1]
theorem str_ext {a b : Str} (h : a.cps.toList = b.cps.toList) : a = b := by
  obtain ⟨a⟩ := a
  obtain ⟨b⟩ := b
  congr 1
  exact Array.toList_inj.mp h
def codesOf (ks : List Str) : List (List Nat) := ks.map fun z => z.cps.toList
theorem mem_codes {ks : List Str} {z : Str} : z.cps.toList ∈ codesOf ks ↔ z ∈ ks := by
  unfold codesOf
  constructor
  · intro h
    obtain ⟨y, hy, e⟩ := List.mem_map.mp h
    rw [← str_ext e]
    exact hy
  · exact fun h => List.mem_map_of_mem h
def eInT (ks : List (List Nat)) (f : FE) : FE := fun env S => (f env S).bind fun x S => match x with
  | .str l => .ok (.bl (decide (l ∈ ks))) S
  | _ => .no
section
variable {X : Cx} {a e ew : Expr} {es : List Expr} {fa fw : FE} {fs : FA} {pos p : Pos} {D : Str} {d : Addr} {ks : List Str}
theorem inT_of (T : Tab X.K X.w d ks) {σ : L2.St} {H : Hp} {Q : VK} (h : tO X.K (eInT (codesOf ks) fa) σ H Q) : tO X.K fa σ H fun x H1 => ∃ (z : Str) (r : Option Value), x = .str z ∧ V.ref d = .ref d ∧ PySem.W.nsIn X.K d z = some r ∧ Q (.bl r.isSome) H1 := by
  obtain ⟨m, g, S, env, so, eo, h⟩ := h
  refine vV so eo h fun x S1 u m1 g1 H1 n1 so1 eo1 r1 h1 => ?_
  cases x with
  | str l =>
    obtain ⟨z, rfl, e1, _, _⟩ := r1.str_inv
    subst e1
    have h1 : PostV X.K m1 g1 H1 (.ok (.bl (decide (z.cps.toList ∈ codesOf ks))) S1) Q := h1
    by_cases hz : z ∈ ks
    · obtain ⟨v, hv⟩ := T.in_ z hz
      rw [decide_eq_true (mem_codes.mpr hz)] at h1
      exact ⟨z, _, rfl, rfl, hv, h1 _ m1 g1 H1 .refl so1 (.p (.bl true))⟩
    · rw [decide_eq_false (fun q => hz (mem_codes.mp q))] at h1
      exact ⟨z, _, rfl, rfl, T.out z hz, h1 _ m1 g1 H1 .refl so1 (.p (.bl false))⟩
  | _ => exact h1.elim
theorem t_inT (T : Tab X.K X.w d ks) (hm : X.mg D = some (.ref d)) (ha : SE X a fa) (hg : Gl X D := by rfl) (hd : (D == ("__debug__" : Str)) = false := by decide) : ST X (.Compare a [.In] [.Name D p] pos) (toT (eInT (codesOf ks) fa)) := by
  obtain ⟨es, n, kd⟩ := T.kd
  exact imT (pt_cmpR (op_in_kd kd) ha (pe_glob (v := .ref d) hg hm rfl hd) in_mark) fun _ _ _ h => tTest_of (fun _ _ _ h => inT_of T h) h
def eNInT (ks : List (List Nat)) (f : FE) : FE := fun env S => (f env S).bind fun x S => match x with
  | .str l => .ok (.bl (!decide (l ∈ ks))) S
  | _ => .no
theorem ninT_of (T : Tab X.K X.w d ks) {σ : L2.St} {H : Hp} {Q : VK} (h : tO X.K (eNInT (codesOf ks) fa) σ H Q) : tO X.K fa σ H fun x H1 => ∃ (z : Str) (r : Option Value), x = .str z ∧ V.ref d = .ref d ∧ PySem.W.nsIn X.K d z = some r ∧ Q (.bl (!r.isSome)) H1 := by
  obtain ⟨m, g, S, env, so, eo, h⟩ := h
  refine vV so eo h fun x S1 u m1 g1 H1 n1 so1 eo1 r1 h1 => ?_
  cases x with
  | str l =>
    obtain ⟨z, rfl, e1, _, _⟩ := r1.str_inv
    subst e1
    have h1 : PostV X.K m1 g1 H1 (.ok (.bl (!decide (z.cps.toList ∈ codesOf ks))) S1) Q := h1
    by_cases hz : z ∈ ks
    · obtain ⟨v, hv⟩ := T.in_ z hz
      rw [decide_eq_true (mem_codes.mpr hz)] at h1
      exact ⟨z, _, rfl, rfl, hv, h1 _ m1 g1 H1 .refl so1 (.p (.bl false))⟩
    · rw [decide_eq_false (fun q => hz (mem_codes.mp q))] at h1
      exact ⟨z, _, rfl, rfl, T.out z hz, h1 _ m1 g1 H1 .refl so1 (.p (.bl true))⟩
  | _ => exact h1.elim
theorem t_ninT (T : Tab X.K X.w d ks) (hm : X.mg D = some (.ref d)) (ha : SE X a fa) (hg : Gl X D := by rfl) (hd : (D == ("__debug__" : Str)) = false := by decide) : ST X (.Compare a [.NotIn] [.Name D p] pos) (toT (eNInT (codesOf ks) fa)) := by
  obtain ⟨es, n, kd⟩ := T.kd
  exact imT (pt_cmpR (op_notIn_kd kd) ha (pe_glob (v := .ref d) hg hm rfl hd) in_mark) fun _ _ _ h => tTest_of (fun _ _ _ h => ninT_of T h) h

/-! ### a local that holds a def -/
/-- the def at f does F -/
structure AtF (P : Program) (w : World) (K : PySem.W.Frag) (mg : Str → Option Value) (base : Heap) (A : Around) (f : Addr) (F : FF) : Prop where
  ex : ∃ (k : Nat) (fd : FuncData) (ps : List Str), FnOk P w K mg base CX0 k f fd ps (spOf K F) ∧ Room k A ∧ PySem.W.keepIn K (.ref f) = true ∧ Binds K fd ps []
theorem AtF.of {P : Program} {w : World} {K : PySem.W.Frag} {mg : Str → Option Value} {base : Heap} {A : Around} {x : Str} {ps : List Str} {k : Nat} {f : Addr} {F : FF} (D : DefOk P w K mg base CX0 x ps k F) (hm : mg x = some (.ref f)) (hr : Room k A) : AtF P w K mg base A f F := by
  obtain ⟨f', fd, h1, h2, h3, h4⟩ := D.ex
  rw [hm] at h1
  cases h1
  exact ⟨k, fd, ps, h4, hr, h2, h3⟩
def tCallV (X : Cx) (i : Nat) (t : TA) : TE := fun σ H Q => ∃ f F, AtF X.prog X.w X.K X.mg X.base X.A f F ∧ σ[i]? = some (some (.ref f)) ∧ t σ H fun vs H1 => spOf X.K F vs H1 Q E0
theorem pe_callV {t : TA} {i : Nat} {x : Str} (hx : Passes CX0 X E0) (hN : X.N[i]? = some x) (hv : Vis X.env.scope x) (ha : PA X (e :: es) t)
    (hdb : (x == ("__debug__" : Str)) = false := by decide) (hcd : (x == ("__classdict__" : Str)) = false := by decide)
    (he : starEach (e :: es) X.env = (false, eval e X.env) :: starEach es X.env := by rfl) (hpl : (backTo pos (starEach es X.env)).any (·.1) = false := by rfl) : PE X (.Call (.Name x p) (e :: es) [] pos) (tCallV X i t) := by
  refine ⟨fun pins s σ H Q I h => ?_⟩
  obtain ⟨f, F, ⟨k, fd, ps, h1, h2, h3, h4⟩, hs, ht⟩ := h
  refine (pe_callL (i := i) (f := f) (sp := spOf X.K F) (dvs := []) (E := E0) h1 h2 hN hv h3 h4 .nil hx ha hdb hcd he hpl).run pins s σ H Q I ⟨hs, ?_⟩
  simp only [List.append_nil]
  exact ht
/-- j = D[e]; return j(es) -/
def sDisp (tab : List Nat → Option FF) (fw : FE) (fs : FA) : FS := fun env S => (fw env S).bindS fun x S => match x with
  | .str l => (match tab l with
    | some F => ((fs env S).bind fun xs S => F xs S).bindS fun v S => .ret v S
    | none => .no)
  | _ => .no
theorem EnvOk.drop {K : PySem.W.Frag} {m g : List Addr} {H : Hp} {σ : L2.St} {env : VEnv} (h : EnvOk K m g H σ env) (i : Nat) (v : Option V) (hi : ∀ x, env[i]? ≠ some (some x)) : EnvOk K m g H (σ.set i v) env := by
  refine ⟨by rw [List.length_set]; exact h.len, fun j x e => ?_⟩
  have hj : i ≠ j := fun q => hi x (q ▸ e)
  rw [List.getElem?_set_ne hj]
  exact h.at_ j x e
/-- the slot is let go -/
def dropE (i : Nat) (f : FS) : FS := fun env S => if i < env.length then f (env.set i none) S else .no
theorem drop_no {env : VEnv} {i : Nat} (x : PV) : (env.set i none)[i]? ≠ some (some x) := by
  intro q
  by_cases hl : i < env.length
  · rw [List.getElem?_set_self hl] at q; cases q
  · rw [List.getElem?_eq_none (by simpa using hl)] at q; cases q
theorem EnvOk.less {K : PySem.W.Frag} {m g : List Addr} {H : Hp} {σ : L2.St} {env : VEnv} (h : EnvOk K m g H σ env) (i : Nat) : EnvOk K m g H σ (env.set i none) := by
  refine ⟨by rw [List.length_set]; exact h.len, fun j x e => ?_⟩
  by_cases hj : i = j
  · subst hj; exact absurd e (drop_no x)
  · rw [List.getElem?_set_ne hj] at e
    exact h.at_ j x e
theorem ss_disp (j : Nat) {x : Str} {p1 p2 p3 p4 p5 p6 : Pos} {tab : List Nat → Option FF} (T : Tab X.K X.w d ks) (hm : X.mg D = some (.ref d)) (hN : X.N.Nodup) (hw : SE X ew fw) (ha : SA X (e :: es) fs) (hx : Passes CX0 X E0)
    (ht : ∀ l F, tab l = some F → ∃ (z : Str) (f : Addr), z.cps.toList = l ∧ PySem.W.nsIn X.K d z = some (some (.ref f)) ∧ AtF X.prog X.w X.K X.mg X.base X.A f F)
    (hj : X.N[j]? = some x := by rfl) (hl : Loc X.env.scope x := by first | exact Or.inl rfl | exact Or.inr rfl) (hv : Vis X.env.scope x := by first | rfl | exact Or.inl rfl | exact Or.inr rfl | decide +kernel) (hs : PlainIx ew := by exact fun _ _ => rfl) (hg : Gl X D := by rfl) (hd : (D == ("__debug__" : Str)) = false := by decide)
    (hsw : swapsWith (.Subscript (.Name D p3) ew p4) (some (.Name x p1)) p2.line X.env = pure false := by rfl) (hf : X.fn x = true ∨ X.env.scope.names.lookup x = some .local := by first | exact .inl rfl | exact .inr rfl | assumption)
    (hdb : (x == ("__debug__" : Str)) = false := by decide) (hcd : (x == ("__classdict__" : Str)) = false := by decide)
    (he : starEach (e :: es) X.env = (false, eval e X.env) :: starEach es X.env := by rfl) (hpl : (backTo p6 (starEach es X.env)).any (·.1) = false := by rfl) :
    SSs X [.Assign [.Name x p1] (.Subscript (.Name D p3) ew p4) p2, .Return (some (.Call (.Name x p5) (e :: es) [] p6)) pos] (dropE j (sDisp tab fw fs)) := by
  obtain ⟨es', n, kd⟩ := T.kd
  refine imSs (pss_cons (ps_set hN hj hl (pe_ix ix_kdict (pe_glob (v := .ref d) hg hm rfl hd) hw hs) hsw hf) (pss_one (ps_ret (pe_callV (i := j) hx hj hv ha hdb hcd he hpl)))) fun Ds σ H h => ?_
  obtain ⟨m, g, S, env, so, eo, h⟩ := h
  have hlj : j < env.length := by
    refine Classical.byContradiction fun q => ?_
    unfold dropE at h
    rw [if_neg q] at h
    exact h
  have h : PostS X.K m g H (sDisp tab fw fs (env.set j none) S) Ds := by
    unfold dropE at h
    rw [if_pos hlj] at h
    exact h
  have hlj : j < σ.length := by rw [eo.len]; exact hlj
  have eo' := eo.less j
  have hno : ∀ y, (env.set j none)[j]? ≠ some (some y) := drop_no
  refine vS so eo' (show PostS X.K m g H ((fw (env.set j none) S).bindS _) Ds from h) fun y S1 u m1 g1 H1 n1 so1 eo1 r1 h1 => ?_
  cases y with
  | str l =>
    obtain ⟨z, rfl, e1, _, _⟩ := r1.str_inv
    have h1 : PostS X.K m1 g1 H1 (match tab l with
      | some F => ((fs (env.set j none) S1).bind fun xs S => F xs S).bindS fun v S => .ret v S
      | none => .no) Ds := h1
    cases et : tab l with
    | none => rw [et] at h1; exact h1.elim
    | some F =>
      rw [et] at h1
      obtain ⟨z', f, q1, q2, q3⟩ := ht l F et
      obtain rfl : z' = z := str_ext (q1.trans e1.symm)
      refine ⟨d, z', .ref f, rfl, rfl, ⟨es', n, .ref f, kd.at_, kd.lit, q2, rfl⟩, ?_⟩
      have eo2 : EnvOk X.K m1 g1 H1 (σ.set j (some (.ref f))) (env.set j none) := eo1.drop j _ hno
      refine ⟨f, F, q3, by rw [List.getElem?_set_self hlj], ?_⟩
      have : tO X.K (eCall F fs) (σ.set j (some (.ref f))) H1 Ds.rt := vS so1 eo2 (f := eCall F fs) (k := fun v S => .ret v S) h1 fun y S2 v m2 g2 H2 n2 so2 eo2 r2 h2 => h2 v m2 g2 H2 .refl so2 r2
      exact eCall_sp this
  | _ => exact h1.elim
/-- i, j = D[e]; return a and j(es) -/
def sForm (tab : List Nat → Option (Int × FF)) (fw : FE) (i : Nat) (fa : FE) (fs : FA) : FS := fun env S => (fw env S).bindS fun x S => match x with
  | .str l => (match tab l with
    | some r => (eAnd fa (eCall r.2 fs) (env.set i (some (.int r.1))) S).bindS fun v S => .ret v S
    | none => .no)
  | _ => .no
theorem ss_form (i j : Nat) {y x : Str} {k : Nat} {p0 p1 p2 p3 p4 p5 p6 p7 p8 : Pos} {tab : List Nat → Option (Int × FF)} (T : Tab X.K X.w d ks) (hm : X.mg D = some (.ref d)) (hc : X.calm = true) (hN : X.N.Nodup) (hw : SE X ew fw) (hA : SE X a fa) (ha : SA X (e :: es) fs) (hx : Passes CX0 X E0)
    (ht : ∀ l r, tab l = some r → ∃ (z : Str) (t f : Addr), z.cps.toList = l ∧ PySem.W.nsIn X.K d z = some (some (.ref t)) ∧ (∀ H, SqT X.K H t [.int r.1, .ref f]) ∧ AtF X.prog X.w X.K X.mg X.base X.A f r.2)
    (hij : i ≠ j := by decide) (hi : X.N[i]? = some y := by rfl) (hj : X.N[j]? = some x := by rfl) (hl : Loc X.env.scope x := by first | exact Or.inl rfl | exact Or.inr rfl) (hli : Loc X.env.scope y := by first | exact Or.inl rfl | exact Or.inr rfl) (hv : Vis X.env.scope x := by first | rfl | exact Or.inl rfl | exact Or.inr rfl | decide +kernel) (hs : PlainIx ew := by exact fun _ _ => rfl) (hg : Gl X D := by rfl) (hd : (D == ("__debug__" : Str)) = false := by decide)
    (hfi : X.fn y = true ∨ X.env.scope.names.lookup y = some .local := by first | exact .inl rfl | exact .inr rfl | assumption) (hf : X.fn x = true ∨ X.env.scope.names.lookup x = some .local := by first | exact .inl rfl | exact .inr rfl | assumption)
    (hs2 : swapsWithSole [.Tuple [.Name y p0, .Name x p1] k p8] (.Subscript (.Name D p3) ew p4) p2.line X.env = pure false := by rfl) (hw2 : swappedStores [.Tuple [.Name y p0, .Name x p1] k p8] (.Subscript (.Name D p3) ew p4) X.env = pure none := by rfl)
    (h1 : (assignEach [.Tuple [.Name y p0, .Name x p1] k p8] X.env).map (·.2) = [assign (.Tuple [.Name y p0, .Name x p1] k p8) X.env] := by rfl)
    (hdb : (x == ("__debug__" : Str)) = false := by decide) (hcd : (x == ("__classdict__" : Str)) = false := by decide)
    (he : starEach (e :: es) X.env = (false, eval e X.env) :: starEach es X.env := by rfl) (hpl : (backTo p6 (starEach es X.env)).any (·.1) = false := by rfl) :
    SSs X [.Assign [.Tuple [.Name y p0, .Name x p1] k p8] (.Subscript (.Name D p3) ew p4) p2, .Return (some (.BoolOp .And [a, .Call (.Name x p5) (e :: es) [] p6] p7)) pos] (dropE j (sForm tab fw i fa fs)) := by
  obtain ⟨es', n, kd⟩ := T.kd
  refine imSs (pss_cons (ps_asg (pe_ix ix_kdict (pe_glob (v := .ref d) hg hm rfl hd) hw hs) (pg_tup hc (pgs_cons (pg_name hN hi hli hfi) (pgs_cons (pg_name hN hj hl hf) pgs_nil))) hs2 hw2 h1)
    (pss_one (ps_ret (pe_and hA (pe_one (pe_callV (i := j) hx hj hv ha hdb hcd he hpl)))))) fun Ds σ H h => ?_
  obtain ⟨m, g, S, env, so, eo, h⟩ := h
  have hlj : j < env.length := by
    refine Classical.byContradiction fun q => ?_
    unfold dropE at h
    rw [if_neg q] at h
    exact h
  have h : PostS X.K m g H (sForm tab fw i fa fs (env.set j none) S) Ds := by
    unfold dropE at h
    rw [if_pos hlj] at h
    exact h
  have hlj : j < σ.length := by rw [eo.len]; exact hlj
  have eo' := eo.less j
  have hno : ∀ y, (env.set j none)[j]? ≠ some (some y) := drop_no
  refine vS so eo' (show PostS X.K m g H ((fw (env.set j none) S).bindS _) Ds from h) fun y S1 u m1 g1 H1 n1 so1 eo1 r1 h1 => ?_
  cases y with
  | str l =>
    obtain ⟨z, rfl, e1, _, _⟩ := r1.str_inv
    have h1 : PostS X.K m1 g1 H1 (match tab l with
      | some r => (eAnd fa (eCall r.2 fs) ((env.set j none).set i (some (.int r.1))) S1).bindS fun v S => .ret v S
      | none => .no) Ds := h1
    cases et : tab l with
    | none => rw [et] at h1; exact h1.elim
    | some r =>
      rw [et] at h1
      obtain ⟨z', t, f, q1, q2, q3, q4⟩ := ht l r et
      obtain rfl : z' = z := str_ext (q1.trans e1.symm)
      refine ⟨d, z', .ref t, rfl, rfl, ⟨es', n, .ref t, kd.at_, kd.lit, q2, rfl⟩, ?_⟩
      refine ⟨t, _, rfl, q3 H1, rfl, _, _, rfl, _, _, rfl, rfl, ?_⟩
      have eo2 : EnvOk X.K m1 g1 H1 ((σ.set i (some (.int r.1))).set j (some (.ref f))) ((env.set j none).set i (some (.int r.1))) := by
        refine (eo1.set (.p (.int r.1)) i).drop j _ fun x q => ?_
        rw [List.getElem?_set_ne hij] at q
        exact hno x q
      have hsj : ((σ.set i (some (V.int r.1))).set j (some (.ref f)))[j]? = some (some (.ref f)) := by rw [List.getElem?_set_self (by rw [List.length_set]; exact hlj)]
      have key : tO X.K (eAnd fa (eCall r.2 fs)) ((σ.set i (some (V.int r.1))).set j (some (.ref f))) H1 Ds.rt := vS so1 eo2 (f := eAnd fa (eCall r.2 fs)) (k := fun v S => .ret v S) h1 fun y S2 v m2 g2 H2 n2 so2 eo2 r2 h2 => h2 v m2 g2 H2 .refl so2 r2
      obtain ⟨m3, g3, S3, env3, so3, eo3, h3⟩ := key
      refine vV so3 eo3 h3 fun x S4 w m4 g4 H4 n4 so4 eo4 r4 h4 => ?_
      cases x with
      | bl b =>
        cases r4 with
        | p r4 =>
          cases r4
          refine ⟨b, rfl, ?_⟩
          cases b with
          | true =>
            rw [if_pos rfl]
            exact ⟨f, r.2, q4, hsj, eCall_sp ⟨m4, g4, S4, env3, so4, eo4, h4⟩⟩
          | false => rw [if_neg Bool.false_ne_true]; exact h4 _ m4 g4 H4 .refl so4 (.p (.bl false))
      | _ => exact h4.elim
  | _ => exact h1.elim
end
end Pv

namespace Pv
open PySem PySem.Spec PyProof.Rows L2
/-! ### list(range(..)) -/
def okRg (a b : Int) : Bool := decide (-(2 ^ 62) ≤ a) && decide (a < 2 ^ 62) && decide (-(2 ^ 62) ≤ b) && decide (b < 2 ^ 62) && decide ((b - a).toNat ≤ 2 ^ 24)
theorem okRg_of {a b : Int} (h : okRg a b = true) : RgOk a b := by
  unfold okRg at h
  simp only [Bool.and_eq_true, decide_eq_true_eq] at h
  exact ⟨h.1.1.1.1, h.1.1.1.2, h.1.1.2, h.1.2, h.2⟩
theorem rg_reps {K : PySem.W.Frag} {g : List Addr} {H : Hp} {a b : Int} : RepsP K g H (rgV a b) (rgI a 1 (b - a).toNat) := by
  unfold rgV rgI
  generalize (b - a).toNat = n
  generalize List.range n = l
  induction l with
  | nil => exact .nil
  | cons k l ih =>
    rw [List.map_cons, List.map_cons]
    refine .cons ?_ ih
    rw [Int.mul_one]
    exact .int _
def lRg1 (f : FE) : FA := fun env S => (f env S).bind fun x S => match x with
  | .int n => if okRg 0 n = true then .ok (rgI 0 1 (n - 0).toNat) S else .no
  | _ => .no
def lRg2 (f g : FE) : FA := fun env S => (f env S).bind fun x S => (g env S).bind fun y S => match x, y with
  | .int m, .int n => if okRg m n = true then .ok (rgI m 1 (n - m).toNat) S else .no
  | _, _ => .no
section
variable {X : Cx} {a b : Expr} {fa fb : FE} {pos p p2 pos2 : Pos}
theorem f_lrg1 (hc : X.calm = true) (hl : X.mg "list" = none) (hr : X.mg "range" = none) (ha : SE X a fa) (hgl : Gl X "list" := by rfl) (hgr : Gl X "range" := by rfl) (na : starEach [a] X.env = (false, eval a X.env) :: starEach [] X.env := by rfl) : SF X (.Call (.Name "list" p) [.Call (.Name "range" p2) [a] [] pos2] [] pos) (lRg1 fa) := imE (pe_listRg hc hgl hl (prg_1 hgr hr ha na)) fun σ H Q h => by
  obtain ⟨m, g, S, env, so, eo, h⟩ := h
  refine vF so eo h fun x S1 u m1 g1 H1 n1 so1 eo1 r1 h1 => ?_
  cases x with
  | int n =>
    obtain rfl := r1.int_inv
    have h1 : PostF X.K m1 g1 H1 (if okRg 0 n = true then .ok (rgI 0 1 (n - 0).toNat) S1 else .no) Q := h1
    by_cases hk : okRg 0 n = true
    · rw [if_pos hk] at h1
      exact ⟨n, rfl, okRg_of hk, fun q np => post_new h1 .refl so1 rg_reps np⟩
    · rw [if_neg hk] at h1
      exact h1.elim
  | _ => exact h1.elim
theorem f_lrg2 (hc : X.calm = true) (hl : X.mg "list" = none) (hr : X.mg "range" = none) (ha : SE X a fa) (hb : SE X b fb) (hgl : Gl X "list" := by rfl) (hgr : Gl X "range" := by rfl) (na : starEach [a, b] X.env = (false, eval a X.env) :: starEach [b] X.env := by rfl) (nb : starEach [b] X.env = (false, eval b X.env) :: starEach [] X.env := by rfl) (hpl : (backTo pos2 (starEach [b] X.env)).any (·.1) = false := by rfl) : SF X (.Call (.Name "list" p) [.Call (.Name "range" p2) [a, b] [] pos2] [] pos) (lRg2 fa fb) := imE (pe_listRg hc hgl hl (prg_2 hgr hr ha hb na nb hpl)) fun σ H Q h => by
  obtain ⟨m, g, S, env, so, eo, h⟩ := h
  refine vF so eo h fun x S1 u m1 g1 H1 n1 so1 eo1 r1 h1 => ?_
  refine vF so1 eo1 h1 fun y S2 w m2 g2 H2 n2 so2 eo2 r2 h2 => ?_
  cases x with
  | int i =>
    cases y with
    | int j =>
      obtain rfl := r1.int_inv
      obtain rfl := r2.int_inv
      have h2 : PostF X.K m2 g2 H2 (if okRg i j = true then .ok (rgI i 1 (j - i).toNat) S2 else .no) Q := h2
      by_cases hk : okRg i j = true
      · rw [if_pos hk] at h2
        exact ⟨i, j, rfl, rfl, okRg_of hk, fun q np => post_new h2 .refl so2 rg_reps np⟩
      · rw [if_neg hk] at h2
        exact h2.elim
    | _ => exact h2.elim
  | _ => exact h2.elim
end
end Pv

namespace PySem
open Sem (wp)
section
variable {prog : Program} {w : World} {A : Around} {E : Value → Shared → Prop} {s : Shared}
/-- tuple(x), x a text, within tuple.__new__ -/
theorem tns_code {Z : Value → Shared → Prop} (hd : A.handled = none) (x : Str) (t : Tok) (hn : x.cps.size ≤ sizeLine)
    (go : ∀ (s' : Shared) (acc : Array Value), (∀ b o, s.heap.get? b = some o → s'.heap.get? b = some o) → s'.gens = s.gens → s'.drawn = s.drawn → s'.os = s.os → ItemsOf (SignAt x) acc x.cps.size →
      Z (.ref s'.heap.objs.size) { s' with heap := s'.heap.push { cls := .type "tuple", data := .seq acc } }) :
    codeAny (model prog w) A (.call (.builtin "tuple.__new__") ⟨[.type "tuple", .str x t], []⟩) (wants Z E) s := by
  refine codeAny_of_tree ?_
  show wpAny _ A.in1 (do checkBuiltinCall "tuple.__new__" ⟨[.type "tuple", .str x t], []⟩; again (.builtin "tuple.__new__" ⟨[.type "tuple", .str x t], []⟩)) _ _ s
  refine wpAny_bind (wpAny_of_eq (F.newCall_tuple_1 _) (wpAny_pure ⟨plainId_quiet F.plain_tuple_new _, codeAny_builtin F.entry_tuple_new ?_⟩))
  rw [Around.under_plainId F.plain_tuple_new _]
  have k1 := sub_tuple_self
  have k2 := init_tuple_lookup
  have k3 := madeHere_tuple
  have k4 : s.TypeIs (.str x t) "str" := rfl
  have k5 : A.in1.handled = none := hd
  have k6 := fun {Q : List Value → Shared → Prop} q => wpAny_collect_str (prog := prog) (w := w) (A := A.in1) (E := E) (s := s) (Q := Q) k5 x t q hn
  wp_walk using wpAny_typeOf k4, k6
  intro s' acc a1 a2 a3 a4 a5
  show wpAny _ _ (Builtin.Tuple.tupleExact acc.toList.toArray >>= fun v => ret v) _ _ _
  have k7 : acc.toList.toArray = acc := by simp
  rw [k7]
  unfold Builtin.Tuple.tupleExact
  refine wpAny_bind (wpAny_newObj_type (wpAny_pure (go s' acc a1 a2 a3 a4 a5)) ?_)
  show acc.size ≤ sizeLine
  rw [a5.1]; exact hn
theorem tns_call {Q : Value → Shared → Prop} (hd : A.handled = none) (x : Str) (t : Tok) (hn : x.cps.size ≤ sizeLine)
    (go : ∀ (s' : Shared) (acc : Array Value), (∀ b o, s.heap.get? b = some o → s'.heap.get? b = some o) → s'.gens = s.gens → s'.drawn = s.drawn → s'.os = s.os → ItemsOf (SignAt x) acc x.cps.size →
      Q (.ref s'.heap.objs.size) { s' with heap := s'.heap.push { cls := .type "tuple", data := .seq acc } }) :
    wpAny (model prog w) A (call (.type "tuple") [.str x t]) Q E s := by
  refine callType_codes (Q₁ := fun v s1 => s1.TypeIs v "tuple" ∧ Q v s1) F.called_tuple (F.typeCall_tuple_1 _) F.entry_object_init
    (tns_code (A := A.in1) hd x t hn fun s' acc a1 a2 a3 a4 a5 => ⟨⟨_, Heap.get?_push_size _ rfl, rfl⟩, go s' acc a1 a2 a3 a4 a5⟩) fun v s1 z => ?_
  exact ⟨z.1, F.args_object_init_2 v _, object_init_meets F.called_tuple.init.lookup F.called_tuple.made (by decide) prog w A.in1 _ s1 ⟨z.1, rfl, z.2⟩⟩
end
end PySem
namespace Pv
open PySem PySem.Spec PyProof.Rows L2
/-! ### list(x), tuple(x), x a text -/
theorem signs_vals {x : Str} {acc : Array Value} (h : ItemsOf (SignAt x) acc x.cps.size) : Vals (x.cps.toList.map fun c => V.str ⟨#[c]⟩) acc.toList := by
  refine L2.vals_of_at (by rw [List.length_map, Array.length_toList, Array.length_toList]; exact h.1.symm) fun j y u e1 e2 => ?_
  rw [List.getElem?_map] at e1
  have hj : acc[j]? = some u := by rw [← Array.getElem?_toList]; exact e2
  obtain ⟨c, k, e3, rfl⟩ := h.2 j u hj
  have e4 : x.cps.toList[j]? = some c := by rw [Array.getElem?_toList]; exact e3
  rw [e4] at e1
  cases e1
  exact ⟨k, rfl⟩
def bTupleX : FF := fun xs S => match xs with
  | [.str l] => .ok (.tup (l.map fun c => .str [c])) S
  | xs => bTuple xs S
def bListX : FF := fun xs S => match xs with
  | [.str l] => .ok (.lst (l.map fun c => .str [c])) S
  | xs => bList xs S
section
variable {X : Cx}
theorem c_listX (hc : X.calm = true) : Cal X (.type "list") bListX := by
  intro pins s σ H vs us Q I rv h
  obtain ⟨m, g, S, xs, so, r, h⟩ := h
  unfold bListX at h
  split at h
  · rename_i l
    cases r with
    | cons r1 r2 =>
      cases r2
      obtain ⟨z, rfl, e1, hz, ho⟩ := r1.str_inv
      obtain ⟨u, rfl, ru⟩ := vals1 rv
      obtain ⟨t, rfl⟩ := ru
      have hs : z.cps.size ≤ sizeLine := by rw [← Array.length_toList, e1, ← SZ_eq]; exact hz
      refine call_list_str (I.ok.hd hc) z t (fun h' tk acc c' hk hS ha => ?_) hs
      refine ⟨.ref s.heap.objs.size, upd H s.heap.objs.size (.lst (z.cps.toList.map fun c => V.str ⟨#[c]⟩)), I.laid hk (Nat.le_refl _) (show ObjOk X.prog X.w _ _ _ (.lst _) from ⟨?_, acc.toList, c', signs_vals ha, ?_⟩), rfl, ?_⟩
      · rw [List.length_map, Array.length_toList]; exact hs
      · rw [Array.toArray_toList]; exact hS
      · subst e1
        exact post_l h so (strs_rep ho) (I.hok.fresh (Nat.le_refl _))
  · exact c_list pins s σ H vs us Q I rv ⟨m, g, S, _, so, r, h⟩
theorem c_tupleX (hc : X.calm = true) : Cal X (.type "tuple") bTupleX := by
  intro pins s σ H vs us Q I rv h
  obtain ⟨m, g, S, xs, so, r, h⟩ := h
  unfold bTupleX at h
  split at h
  · rename_i l
    cases r with
    | cons r1 r2 =>
      cases r2
      obtain ⟨z, rfl, e1, hz, ho⟩ := r1.str_inv
      obtain ⟨u, rfl, ru⟩ := vals1 rv
      obtain ⟨t, rfl⟩ := ru
      have hs : z.cps.size ≤ sizeLine := by rw [← Array.length_toList, e1, ← SZ_eq]; exact hz
      refine tns_call (I.ok.hd hc) z t hs fun s' acc a1 a2 a3 a4 a5 => ?_
      have es : s' = { s with heap := s'.heap, toks := s'.toks } := by
        obtain ⟨h1, g1, d1, t1, o1⟩ := s'
        obtain ⟨h2, g2, d2, t2, o2⟩ := s
        simp only at a2 a3 a4
        subst a2 a3 a4
        rfl
      have I2 : Inv X pins σ H { s with heap := s'.heap, toks := s'.toks } := I.kept a1
      rw [es]
      refine ⟨.ref s'.heap.objs.size, upd H s'.heap.objs.size (.tup (z.cps.toList.map fun c => V.str ⟨#[c]⟩)), I2.laid (t' := s'.toks) (fun c o e => Heap.get?_push_of_some _ e) (Nat.le_refl _) (show ObjOk X.prog X.w _ _ _ (.tup _) from ⟨?_, acc.toList, signs_vals a5, ?_⟩), rfl, ?_⟩
      · rw [List.length_map, Array.length_toList]; exact hs
      · rw [Array.toArray_toList]; exact IsTup.new _ _
      · subst e1
        exact post_t h so (strs_rep ho) (I2.hok.fresh (Nat.le_refl _))
  · exact c_tuple pins s σ H vs us Q I rv ⟨m, g, S, _, so, r, h⟩
end
end Pv

namespace Pv
theorem lc_map {α : Type} {p : Pat} {t : FT} {elt : FE} {env : VEnv} (S : Sto) (φ : α → PV) (E : α → VEnv) (b : α → Bool) (y : α → PV) : ∀ (items : List α), (∀ x ∈ items, setPat p (φ x) env = some (E x)) → (∀ x ∈ items, t (E x) S = .ok (b x) S) →
    (∀ x ∈ items, b x = true → isP (y x) = true ∧ ∃ S', elt (E x) S = .ok (y x) S' ∧ S'.take S.length = S) → lcGo p t elt env S.length (items.map φ) S = .ok ((items.filter b).map y) S
  | [], _, _, _ => rfl
  | x :: xs, h1, h2, h3 => by
    have ih := lc_map S φ E b y xs (fun z hz => h1 z (List.mem_cons_of_mem _ hz)) (fun z hz => h2 z (List.mem_cons_of_mem _ hz)) fun z hz => h3 z (List.mem_cons_of_mem _ hz)
    rw [List.map_cons]
    unfold lcGo
    rw [h1 x List.mem_cons_self]
    show (t (E x) S).bind _ = _
    rw [h2 x List.mem_cons_self, R.bind, z_ok]
    cases hb : b x with
    | false =>
      rw [if_neg Bool.false_ne_true, List.take_length, ih, List.filter_cons, hb]
      rfl
    | true =>
      obtain ⟨hp, S', e, et⟩ := h3 x List.mem_cons_self hb
      rw [if_pos rfl, e, R.bind, z_ok, if_pos hp, et, ih, List.filter_cons, hb]
      rfl
theorem lc_all {α : Type} {p : Pat} {elt : FE} {env : VEnv} (S : Sto) (φ : α → PV) (E : α → VEnv) (y : α → PV) (items : List α) (h1 : ∀ x ∈ items, setPat p (φ x) env = some (E x))
    (h3 : ∀ x ∈ items, isP (y x) = true ∧ ∃ S', elt (E x) S = .ok (y x) S' ∧ S'.take S.length = S) : lcGo p tYes' elt env S.length (items.map φ) S = .ok (items.map y) S := by
  have h := lc_map (p := p) (t := tYes') (elt := elt) S φ E (fun _ => true) y items h1 (fun _ _ => rfl) fun x hx _ => h3 x hx
  rw [h, List.filter_eq_self.mpr (fun _ _ => rfl)]
theorem lc_all1 {α : Type} {p : Pat} {elt : FE} {env : VEnv} (S : Sto) (φ : α → PV) (E : α → VEnv) (y : α → PV) (items : List α) (h1 : ∀ x ∈ items, setPat p (φ x) env = some (E x))
    (h3 : ∀ x ∈ items, isP (y x) = true ∧ elt (E x) S = .ok (y x) S) : lcGo p tYes' elt env S.length (items.map φ) S = .ok (items.map y) S :=
  lc_all S φ E y items h1 fun x hx => ⟨(h3 x hx).1, S, (h3 x hx).2, List.take_length⟩
theorem bls_map {α : Type} (f : α → Bool) (xs : List α) : blsOf (xs.map fun x => .bl (f x)) = some (xs.map f) := by
  rw [← blsOf_map (xs.map f), List.map_map]
  rfl
theorem strs_map {α : Type} (f : α → List Nat) (xs : List α) : strsOf (xs.map fun x => .str (f x)) = some (xs.map f) := by
  rw [← strsOf_map (xs.map f), List.map_map]
  rfl
def zz {α β : Type} (k : Nat) (f : α → α → β) (l : List α) : List β := List.zipWith f l (l.drop k)
theorem zz_len {α β : Type} (k : Nat) (f : α → α → β) (l : List α) : (zz k f l).length = l.length - k := by
  unfold zz
  rw [List.length_zipWith, List.length_drop]
  omega
theorem zz_get {α β : Type} (k : Nat) (f : α → α → β) (l : List α) (i : Nat) : (zz k f l)[i]? = match l[i]?, l[i + k]? with
  | some a, some b => some (f a b)
  | _, _ => none := by
  unfold zz
  rw [List.getElem?_zipWith, List.getElem?_drop, Nat.add_comm k i]
  cases l[i]? <;> cases l[i + k]? <;> rfl
theorem zz_map {α β γ : Type} (k : Nat) (f : β → β → γ) (g : α → β) (l : List α) : zz k f (l.map g) = zz k (fun a b => f (g a) (g b)) l := by
  unfold zz
  rw [← List.map_drop, List.zipWith_map]
theorem map_zz {α β γ : Type} (k : Nat) (f : α → α → β) (g : β → γ) (l : List α) : (zz k f l).map g = zz k (fun a b => g (f a b)) l := by
  unfold zz
  rw [List.map_zipWith]
theorem zz_ext {α β : Type} (k : Nat) (f g : α → α → β) (l : List α) (h : ∀ i a b, l[i]? = some a → l[i + k]? = some b → f a b = g a b) : zz k f l = zz k g l := by
  apply List.ext_getElem?
  intro i
  rw [zz_get, zz_get]
  cases e1 : l[i]? with
  | none => rfl
  | some a =>
    cases e2 : l[i + k]? with
    | none => rfl
    | some b => exact congrArg some (h i a b e1 e2)
theorem zz_rev {α β : Type} (k : Nat) (f : α → α → β) (l : List α) : zz k f l.reverse = (zz k (fun a b => f b a) l).reverse := by
  apply List.ext_getElem?
  intro i
  have hl := zz_len k (fun a b => f b a) l
  by_cases hi : i < l.length - k
  · rw [zz_get, List.getElem?_reverse (by omega), List.getElem?_reverse (by omega), List.getElem?_reverse (by rw [hl]; omega), hl, zz_get]
    have e1 : l.length - 1 - (i + k) = l.length - k - 1 - i := by omega
    have e2 : l.length - k - 1 - i + k = l.length - 1 - i := by omega
    rw [e1, e2, List.getElem?_eq_getElem (by omega), List.getElem?_eq_getElem (by omega)]
  · rw [List.getElem?_eq_none (by rw [zz_len, List.length_reverse]; omega), List.getElem?_eq_none (by rw [List.length_reverse, hl]; omega)]
theorem zz_snoc {α β : Type} (k : Nat) (f : α → α → β) (l : List α) (x : α) (hk : 1 ≤ k) (a : α) (ha : l[l.length - k]? = some a) (hl : k ≤ l.length) : zz k f (l ++ [x]) = zz k f l ++ [f a x] := by
  apply List.ext_getElem?
  intro i
  have hn := zz_len k f l
  rw [zz_get]
  by_cases h1 : i < l.length - k
  · rw [List.getElem?_append_left (by omega), List.getElem?_append_left (by omega), List.getElem?_append_left (by rw [hn]; exact h1), zz_get]
  · by_cases h2 : i = l.length - k
    · subst h2
      have e : l.length - k + k = l.length := by omega
      rw [e, List.getElem?_append_left (by omega), ha, List.getElem?_append_right (by omega), List.getElem?_append_right (by omega), hn]
      simp
    · rw [List.getElem?_eq_none (l := l ++ [x]) (i := i + k) (by simp; omega), List.getElem?_eq_none (l := zz k f l ++ [f a x]) (by simp [hn]; omega)]
      split <;> simp_all
theorem zz_none {α β : Type} (k : Nat) (f : α → α → β) (l : List α) (h : l.length ≤ k) : zz k f l = [] := List.eq_nil_of_length_eq_zero (by rw [zz_len]; omega)
end Pv

namespace Pv
open L2
section
variable {S : Sto} {i j : Int} {a b : List Nat} {xs ys : List PV}
@[simp] theorem q_addI : oAdd (.int i) (.int j) S = .ok (.int (i + j)) S := rfl
@[simp] theorem q_addS : oAdd (.str a) (.str b) S = if a.length + b.length ≤ SZ then .ok (.str (a ++ b)) S else .no := by
  by_cases h : a.length + b.length ≤ SZ <;> simp [oAdd, h]
@[simp] theorem q_addL : oAdd (.lst xs) (.lst ys) S = if xs.length + ys.length ≤ SZ then .ok (.lst (xs ++ ys)) S else .no := by
  by_cases h : xs.length + ys.length ≤ SZ <;> simp [oAdd, dl, h]
@[simp] theorem q_subI : oSub (.int i) (.int j) S = .ok (.int (i - j)) S := rfl
theorem q_mulI (h : mulOk i j = true) : oMul (.int i) (.int j) S = .ok (.int (i * j)) S := by simp [oMul, h]
@[simp] theorem q_modI (h : 0 < j) : oMod (.int i) (.int j) S = .ok (.int (i % j)) S := by simp [oMod, oI, h]
theorem q_divI (h : divOk i j = true) : oDiv (.int i) (.int j) S = .ok (.int (i / j)) S := by simp [oDiv, oI, h]
@[simp] theorem q_ltI : oLt (.int i) (.int j) S = .ok (.bl (decide (i < j))) S := rfl
@[simp] theorem q_leI : oLe (.int i) (.int j) S = .ok (.bl (decide (i ≤ j))) S := rfl
@[simp] theorem q_gtI : oGt (.int i) (.int j) S = .ok (.bl (decide (j < i))) S := rfl
@[simp] theorem q_geI : oGe (.int i) (.int j) S = .ok (.bl (decide (j ≤ i))) S := rfl
@[simp] theorem q_eqI : oEq (.int i) (.int j) S = .ok (.bl (i == j)) S := by simp [oEq, dv, dpt, eqPV]
@[simp] theorem q_neI : oNe (.int i) (.int j) S = .ok (.bl (i != j)) S := by simp [oNe, dv, dpt, eqPV, bne]
@[simp] theorem q_eqS : oEq (.str a) (.str b) S = .ok (.bl (a == b)) S := by simp [oEq, dv, dpt, eqPV]
@[simp] theorem q_neS : oNe (.str a) (.str b) S = .ok (.bl (a != b)) S := by simp [oNe, dv, dpt, eqPV, bne]
theorem q_ixS {c : Nat} (h : atI a i = some c) : oIx (.str a) (.int i) S = .ok (.str [c]) S := by simp [oIx, h]
theorem q_ixT {c : PV} (h : atI xs i = some c) : oIx (.tup xs) (.int i) S = .ok c S := by simp [oIx, h]
theorem q_ixL {c : PV} (h : atI xs i = some c) : oIx (.lst xs) (.int i) S = .ok c S := by simp [oIx, dl, h]
theorem q_ixR {n : Nat} {c : PV} (hn : S[n]? = some (.lst xs)) (h : atI xs i = some c) : oIx (.ref n) (.int i) S = .ok c S := by simp [oIx, dl, hn, h]
theorem q_ixC {ns : List Int} {c : Int} (h : atI ns i = some c) : oIx (.scr ns) (.int i) S = .ok (.int c) S := by simp [oIx, h]
@[simp] theorem q_lenS : bLen [.str a] S = .ok (.int a.length) S := rfl
@[simp] theorem q_lenT : bLen [.tup xs] S = .ok (.int xs.length) S := rfl
@[simp] theorem q_lenL : bLen [.lst xs] S = .ok (.int xs.length) S := rfl
@[simp] theorem q_lenC {ns : List Int} : bLen [.scr ns] S = .ok (.int ns.length) S := rfl
@[simp] theorem q_int : bInt [.int i] S = .ok (.int i) S := rfl
@[simp] theorem q_abs : bAbs [.int i] S = .ok (.int (if i < 0 then -i else i)) S := rfl
@[simp] theorem q_max : bMax2 [.int i, .int j] S = .ok (.int (if j > i then j else i)) S := rfl
@[simp] theorem q_min : bMin2 [.int i, .int j] S = .ok (.int (if j < i then j else i)) S := rfl
@[simp] theorem q_gcd : bGcd [.int i, .int j] S = .ok (.int ((Nat.gcd i.natAbs j.natAbs : Nat) : Int)) S := rfl
theorem q_divmod (h : divOk i j = true) : bDivmod [.int i, .int j] S = .ok (.tup [.int (i / j), .int (i % j)]) S := by simp [bDivmod, b2I, h]
theorem q_all {bs : List Bool} (h : blsOf xs = some bs) : bAll [.lst xs] S = .ok (.bl (bs.all _root_.id)) S := by simp [bAll, dl, h]
theorem q_join {z : List Nat} {ns : List (List Nat)} (h : strsOf xs = some ns) (hj : joinOk z ns = true) : bJoin (.str z) [.lst xs] S = .ok (.str (joinL z ns)) S := by simp [bJoin, dl, h, hj]
@[simp] theorem q_cnt {c : Nat} : bCount (.str a) [.str [c]] S = .ok (.int (a.count c : Nat)) S := rfl
@[simp] theorem q_kdS : kdB "str" S (.str a) = true := rfl
@[simp] theorem q_revS : oRev (.str a) S = .ok (.str a.reverse) S := rfl
theorem at_nat {α : Type} {l : List α} {k : Nat} {c : α} (h : l[k]? = some c) : atI l (k : Nat) = some c := by
  have hk := (List.getElem?_eq_some_iff.mp h).1
  unfold atI ixN
  rw [if_pos (by omega), if_pos (by omega)]
  simpa using h
theorem at_neg {α : Type} {l : List α} {k : Nat} {c : α} (hk : 1 ≤ k) (hl : k ≤ l.length) (h : l[l.length - k]? = some c) : atI l (-(k : Nat)) = some c := by
  unfold atI ixN
  rw [if_neg (by omega), if_pos (by omega)]
  have e : (-(k : Int) + (l.length : Nat)).toNat = l.length - k := by omega
  rw [e]
  exact h
theorem at_last {α : Type} {l : List α} {c : α} (h : l.getLast? = some c) : atI l (-1) = some c := by
  have hne : l ≠ [] := fun e => by rw [e] at h; cases h
  have hl : 1 ≤ l.length := List.length_pos_iff.mpr hne
  refine at_neg (k := 1) (Nat.le_refl _) hl ?_
  rw [← List.getLast?_eq_getElem?]
  exact h
theorem join_flat (ns : List (List Nat)) : joinL [] ns = ns.flatten := by
  cases ns with
  | nil => rfl
  | cons n r =>
    show n ++ (r.map fun x => [] ++ x).flatten = n ++ r.flatten
    simp
theorem flat_one {α : Type} (f : α → Nat) (l : List α) : (l.map fun x => [f x]).flatten = l.map f := by
  induction l with
  | nil => rfl
  | cons a l ih => simp [ih]
theorem q_joinS {α : Type} (f : α → Nat) (l : List α) (h : l.length ≤ SZ) : bJoin (.str []) [.lst (l.map fun x => .str [f x])] S = .ok (.str (l.map f)) S := by
  have e : joinOk [] (l.map fun x => [f x]) = true := by
    unfold joinOk
    refine decide_eq_true ?_
    have e1 : ((l.map fun x => [f x]).map List.length).sum = l.length := by
      rw [List.map_map]
      induction l with
      | nil => rfl
      | cons a l ih => simp at ih ⊢; rw [ih (by simp at h; omega)]; omega
    rw [e1]
    simpa using h
  rw [q_join (strs_map (fun x => [f x]) l) e, join_flat, flat_one]
end
theorem irg1 {f : FA} {env : VEnv} {S S' : Sto} {j : Int} (h : f env S = .ok [.int j] S') (hs : smI j = true) : iRg f env S = .ok (rgI 0 1 j.toNat) S' := by
  unfold iRg
  rw [h]
  show (if smI j = true then _ else _) = _
  rw [if_pos hs]
theorem irg2 {f : FA} {env : VEnv} {S S' : Sto} {i j : Int} (h : f env S = .ok [.int i, .int j] S') (hi : smI i = true) (hj : smI j = true) : iRg f env S = .ok (rgI i 1 (j - i).toNat) S' := by
  unfold iRg
  rw [h]
  show (if (smI i && smI j) = true then _ else _) = _
  rw [hi, hj]
  rfl
theorem smI_nat {n : Nat} (h : n < 4611686018427387904) : smI (n : Int) = true := by
  unfold smI
  rw [decide_eq_true (show -(2 ^ 62) ≤ (n : Int) by omega), decide_eq_true (show (n : Int) < 2 ^ 62 by omega)]
  rfl
theorem zb {α β : Type} (a : α) (S : Sto) (k : α → Sto → R β) : (R.ok a S).bind k = k a S := rfl
theorem zbS {α : Type} (a : α) (S : Sto) (k : α → Sto → RS) : (R.ok a S).bindS k = k a S := rfl
theorem ev_neg {f : FE} {env : VEnv} {S S' : Sto} {x c : PV} {k : Int} (h : f env S = .ok x S') (hc : oIx x (.int (-k)) S' = .ok c S') : eBin oIx f (eNeg (eCon (.int k))) env S = .ok c S' := by
  rw [z_bin, h, zb, z_neg, z_con, zb, zb, hc]
theorem fn_eq {np N : Nat} {a : FS} {xs : List PV} {S : Sto} (h : xs.length = np) : fnOf np N a xs S = outS S.length (a (startE N xs) S) := if_pos h
end Pv

namespace Lw
open Pv L2
def Lt (c : Nat) : Prop := c = 65 ∨ c = 66 ∨ c = 67
theorem kit_ss : L2.kitB "str" "str" = some true := by decide +kernel
theorem sz1 : ∀ c : Nat, strOkL [c] = true → c < 1114112 := fun c h => by simp [strOkL] at h; exact h.2
theorem cut1 {α : Type} (l : List α) : cut l (some 1) none = l.drop 1 := by
  unfold cut
  have e1 : HT.sIx l.length 0 (some 1) = min 1 l.length := HT.sIx_nat l.length 0 1
  rw [e1]
  show (l.drop (min 1 l.length)).take (l.length - min 1 l.length) = _
  cases l with
  | nil => rfl
  | cons a l => simp
theorem zip_next (l : List Nat) : List.zipWith (fun p q : PV => PV.tup [p, q]) (l.map fun c => .str [c]) ((cut l (some 1) none).map fun c => .str [c]) = (zz 1 Prod.mk l).map fun p => .tup [.str [p.1], .str [p.2]] := by
  rw [cut1, map_zz, List.zipWith_map]
  rfl
theorem izip_next {fs : FA} {env : VEnv} {l : List Nat} {S : Sto} (h : fs env S = .ok [.str l, .str (cut l (some 1) none)] S) : iZip' fs env S = .ok ((zz 1 Prod.mk l).map fun p => .tup [.str [p.1], .str [p.2]]) S := by
  unfold iZip'
  rw [h]
  show R.ok (List.zipWith _ _ _) S = _
  rw [zip_next]
theorem dl_lst (S : Sto) (xs : List PV) : dl S (.lst xs) = some xs := rfl
theorem zz_len1 {β : Type} (f : Nat → Nat → β) (l : List Nat) (h : l.length < SZ) : (zz 1 f l).length < SZ := by rw [zz_len]; omega
theorem mem_zz {l : List Nat} {p : Nat × Nat} (h : p ∈ zz 1 Prod.mk l) : p.1 ∈ l ∧ p.2 ∈ l := by
  unfold zz at h
  exact ⟨(List.of_mem_zip h).1, List.mem_of_mem_drop (List.of_mem_zip h).2⟩
def Stk (l : List Nat) : Prop := (∀ c ∈ l, Lt c) ∧ 1 ≤ l.length ∧ l.length ≤ 24 ∧ ∀ b ∈ zz 1 (fun a b => a != b) l, b = true
theorem oNe_s (a b : List Nat) (S : Sto) : oNe (.str a) (.str b) S = .ok (.bl (a != b)) S := by
  simp [oNe, dv, dpt, eqPV, bne]
theorem oEq_s (a b : List Nat) (S : Sto) : oEq (.str a) (.str b) S = .ok (.bl (a == b)) S := by
  simp [oEq, dv, dpt, eqPV]
theorem oEq_i (a b : Int) (S : Sto) : oEq (.int a) (.int b) S = .ok (.bl (a == b)) S := by
  simp [oEq, dv, dpt, eqPV]
theorem oNe_i (a b : Int) (S : Sto) : oNe (.int a) (.int b) S = .ok (.bl (a != b)) S := by
  simp [oNe, dv, dpt, eqPV, bne]
theorem lt_in {c : Nat} (h : Lt c) : c = 65 ∨ c = 66 ∨ c = 67 := h
end Lw

namespace Lw
open Pv L2
def stp (a b : Nat) : Nat := if (a - 65 + 1) % 3 = b - 65 then 43 else 45
theorem ix3 (S : Sto) : oIx (.str [65, 66, 67]) (.int 0) S = .ok (.str [65]) S ∧ oIx (.str [65, 66, 67]) (.int 1) S = .ok (.str [66]) S ∧ oIx (.str [65, 66, 67]) (.int 2) S = .ok (.str [67]) S := ⟨rfl, rfl, rfl⟩
end Lw

namespace Lw
open Pv L2
def mark (s t : Nat) : Nat := if s = t then 99 else 104
def hs (l : List Nat) : List Bool := zz 2 (fun a c => a == c) l
def mc (b : Bool) : Nat := if b = true then 104 else 99
theorem stp_stp {a b c : Nat} (ha : Lt a) (hb : Lt b) (hc : Lt c) (h1 : a ≠ b) (h2 : b ≠ c) : mark (stp a b) (stp b c) = mc (a == c) := by
  rcases ha with rfl | rfl | rfl <;> rcases hb with rfl | rfl | rfl <;> rcases hc with rfl | rfl | rfl <;> first | rfl | exact absurd rfl h1 | exact absurd rfl h2
theorem Stk.at {l : List Nat} (h : Stk l) {i : Nat} {a b : Nat} (ha : l[i]? = some a) (hb : l[i + 1]? = some b) : a ≠ b := by
  have hm : (a != b) ∈ zz 1 (fun a b => a != b) l := List.mem_of_getElem? (i := i) (by rw [zz_get, ha, hb])
  simpa using h.2.2.2 _ hm
theorem mk_hs {l : List Nat} (h : Stk l) : zz 1 mark (zz 1 stp l) = (hs l).map mc := by
  apply List.ext_getElem?
  intro i
  unfold hs
  rw [zz_get, zz_get, zz_get, List.getElem?_map, zz_get]
  cases ea : l[i]? with
  | none => rfl
  | some a =>
    cases eb : l[i + 1]? with
    | none =>
      have e2 : l[i + 2]? = none := List.getElem?_eq_none (by have := List.getElem?_eq_none_iff.mp eb; omega)
      rw [e2]
      rfl
    | some b =>
      cases ec : l[i + 2]? with
      | none =>
        rfl
      | some c =>
        have e3 : l[i + 1 + 1]? = some c := ec
        exact congrArg some (stp_stp (h.1 a (List.mem_of_getElem? ea)) (h.1 b (List.mem_of_getElem? eb)) (h.1 c (List.mem_of_getElem? ec)) (h.at ea eb) (h.at eb e3))
end Lw

namespace Lw
open Pv L2
def pw (b n : Nat) : List PV := (List.range (n + 1)).map fun k => .int ((b ^ k : Nat) : Int)
theorem mul_small {i j : Int} (h : -(2 ^ 64) < j ∧ j < 2 ^ 64) : mulOk i j = true := by
  unfold mulOk
  rw [decide_eq_true h, Bool.or_true, Bool.true_or]
end Lw

namespace Lw
open Pv L2
def red (N D : Nat) : Nat × Nat := (N / Nat.gcd N D, D / Nat.gcd N D)
def fr (r : Nat × Nat) : PV := .tup [.int (r.1 : Int), .int (r.2 : Int)]
theorem div_ok {g : Nat} (h0 : 0 < g) (h1 : g < 2 ^ 8000) (i : Int) : divOk i (g : Int) = true := by
  unfold divOk
  rw [decide_eq_true (show (0 : Int) < (g : Int) by omega), Bool.true_and]
  refine decide_eq_true ?_
  have e : ((g : Int)).natAbs = g := Int.natAbs_natCast g
  rw [e]
  have h2 : g.log2 < 8000 := (Nat.log2_lt (by omega)).mpr h1
  omega
theorem gcd_lt {N D B : Nat} (h0 : 0 < D) (h1 : D < B) : 0 < Nat.gcd N D ∧ Nat.gcd N D < B :=
  ⟨Nat.gcd_pos_of_pos_right _ h0, Nat.lt_of_le_of_lt (Nat.gcd_le_right _ h0) h1⟩
theorem cast_div (a b : Nat) : (a : Int) / (b : Int) = ((a / b : Nat) : Int) := (Int.natCast_ediv a b).symm
theorem sz_2 : (2 : Nat) ≤ SZ := by decide
theorem tup2 (x y : PV) (hx : isP x = true) (hy : isP y = true) : (decide (([x, y]).length ≤ SZ) && ([x, y]).all isP) = true := by
  rw [List.all_cons, List.all_cons, List.all_nil, hx, hy, decide_eq_true (show ([x, y]).length ≤ SZ from sz_2)]
  rfl
def hN (l : List Nat) : Nat := (hs l).count true
def nN (l : List Nat) : Nat := (hs l).length
def fst3 (l : List Nat) : Nat := if 1 < l.length then 6 else 3
def num (l : List Nat) (p q : Nat) : Nat := p ^ hN l * (q - p) ^ (nN l - hN l)
def den (l : List Nat) (q : Nat) : Nat := fst3 l * q ^ nN l
structure Ch (p q : Nat) : Prop where
  le : p ≤ q
  pos : 1 ≤ q
  top : q ≤ 100000
def chp (p q : Nat) : PV := .tup [.int (p : Int), .int (q : Int)]
theorem nN_le {l : List Nat} (h : Stk l) : nN l ≤ 22 := by
  unfold nN hs
  rw [zz_len]
  have := h.2.2.1
  omega
theorem hN_le (l : List Nat) : hN l ≤ nN l := List.count_le_length
theorem cnt_mc (bs : List Bool) : (bs.map mc).count 104 = bs.count true := by
  induction bs with
  | nil => rfl
  | cons b bs ih => cases b <;> simp [mc, ih]
end Lw

namespace Lw
open Pv L2
theorem pw_at (b n k : Nat) (h : k ≤ n) : atI (pw b n) (k : Int) = some (.int ((b ^ k : Nat) : Int)) := at_nat (by
  unfold pw
  rw [List.getElem?_map, List.getElem?_range (by omega)]
  rfl)
theorem pw_last (b n : Nat) : atI (pw b n) (-1) = some (.int ((b ^ n : Nat) : Int)) := at_last (by
  have hl : (pw b n).length = n + 1 := by simp [pw]
  rw [List.getLast?_eq_getElem?, hl]
  simp [pw])
theorem pow_lt {b k : Nat} (hb : b ≤ 100000) (hk : k ≤ 22) : b ^ k < 2 ^ 400 := by
  have h1 : b ^ k ≤ (2 ^ 17) ^ k := Nat.pow_le_pow_left (Nat.le_trans hb (by decide)) k
  have h2 : (2 ^ 17) ^ k ≤ (2 ^ 17) ^ 22 := Nat.pow_le_pow_right (by decide) hk
  have h3 : (2 ^ 17) ^ 22 < 2 ^ 400 := by decide
  omega
theorem log_lt {a n : Nat} (h : a < 2 ^ n) (hn : 1 ≤ n) : a.log2 < n := by
  by_cases ha : a = 0
  · subst ha
    rw [show Nat.log2 0 = 0 from rfl]
    exact hn
  · exact (Nat.log2_lt ha).mpr h
theorem mul_big {a b n : Nat} (ha : a < 2 ^ n) (hb : b < 2 ^ n) (hn : 1 ≤ n) (hn2 : n ≤ 10000) : mulOk (a : Int) (b : Int) = true := by
  unfold mulOk
  have h1 := log_lt ha hn
  have h2 := log_lt hb hn
  rw [Int.natAbs_natCast, Int.natAbs_natCast, decide_eq_true (show a.log2 + b.log2 < 1000000 by omega), Bool.or_true]
theorem o_mulN {a b n : Nat} (ha : a < 2 ^ n) (hb : b < 2 ^ n) (hn : 1 ≤ n) (hn2 : n ≤ 10000) (S : Sto) : oMul (.int (a : Int)) (.int (b : Int)) S = .ok (.int ((a * b : Nat) : Int)) S := by
  rw [q_mulI (mul_big ha hb hn hn2), Int.natCast_mul]
theorem o_subN {a b : Nat} (h : b ≤ a) (S : Sto) : oSub (.int (a : Int)) (.int (b : Int)) S = .ok (.int ((a - b : Nat) : Int)) S := by
  rw [q_subI, Int.ofNat_sub h]
end Lw

namespace Lw
open Pv L2
abbrev euT : FT := tAnd' (toT (eBin oNe (eVar 3) (eCon (.int 0)))) (toT (eBin oLt (eVar 4) (eCon (.int 20000))))
abbrev euB : FS := sPar3 2 3 4 (aCons (eVar 3) (aCons (eBin oMod (eCall bInt (aCons (eVar 2) aNil)) (eVar 3)) (aCons (eBin oAdd (eVar 4) (eCon (.int 1))) aNil)))
abbrev euE (x y : PV) (a b t : Nat) : VEnv := [some x, some y, some (.int (a : Int)), some (.int (b : Int)), some (.int (t : Int))]
theorem eu_ev (x y : PV) (a b t : Nat) (S : Sto) : eVar 2 (euE x y a b t) S = .ok (.int (a : Int)) S ∧ eVar 3 (euE x y a b t) S = .ok (.int (b : Int)) S ∧ eVar 4 (euE x y a b t) S = .ok (.int (t : Int)) S := ⟨rfl, rfl, rfl⟩
theorem eu_stop (x y : PV) (a t : Nat) (S : Sto) (n : Nat) : whileGo euT euB (n + 1) (euE x y a 0 t) S = .nx (euE x y a 0 t) S := by
  obtain ⟨v2, v3, v4⟩ := eu_ev x y a 0 t S
  have e1 : euT (euE x y a 0 t) S = .ok false S := by
    unfold euT
    rw [z_and', z_toT, z_bin, v3, zb, z_con, zb, q_neI, zb]
    rfl
  rw [show whileGo euT euB (n + 1) (euE x y a 0 t) S = (euT (euE x y a 0 t) S).bindS fun k S1 => if k = true then (match euB (euE x y a 0 t) S1 with
    | .nx env2 S2 => whileGo euT euB n env2 S2
    | .ret v S2 => .ret v S2
    | .no => .no) else .nx (euE x y a 0 t) S1 from rfl, e1, zbS, if_neg Bool.false_ne_true]
theorem eu_step (x y : PV) (a b t : Nat) (S : Sto) (n : Nat) (hb : 0 < b) (ht : t < 20000) : whileGo euT euB (n + 1) (euE x y a b t) S = whileGo euT euB n (euE x y b (a % b) (t + 1)) S := by
  obtain ⟨v2, v3, v4⟩ := eu_ev x y a b t S
  have e1 : euT (euE x y a b t) S = .ok true S := by
    unfold euT
    rw [z_and', z_toT, z_bin, v3, zb, z_con, zb, q_neI, zb]
    have hne : ((b : Int) != 0) = true := bne_iff_ne.mpr (by omega)
    show (if ((b : Int) != 0) = true then _ else _) = _
    rw [if_pos hne, z_toT, z_bin, v4, zb, z_con, zb, q_ltI, zb, decide_eq_true (show (t : Int) < 20000 by omega)]
  have e2 : euB (euE x y a b t) S = .nx (euE x y b (a % b) (t + 1)) S := by
    have em : ((a : Int) % (b : Int)) = ((a % b : Nat) : Int) := (Int.natCast_emod a b).symm
    unfold euB
    rw [z_par3, z_cons, v3, zb, z_cons, z_bin, z_call, z_cons, v2, zb, z_nil, zb, zb, q_int, zb, v3, zb, q_modI (by omega), zb, z_cons, z_bin, v4, zb, z_con, zb, q_addI, zb, z_nil, zb, zb, zb, zbS, em]
    rfl
  rw [show whileGo euT euB (n + 1) (euE x y a b t) S = (euT (euE x y a b t) S).bindS fun k S1 => if k = true then (match euB (euE x y a b t) S1 with
    | .nx env2 S2 => whileGo euT euB n env2 S2
    | .ret v S2 => .ret v S2
    | .no => .no) else .nx (euE x y a b t) S1 from rfl, e1, zbS, if_pos rfl, e2]
theorem eu_run (x y : PV) (S : Sto) : ∀ (k a b t n : Nat), b < 2 ^ k → t + 2 * k ≤ 20000 → 2 * k + 1 ≤ n → ∃ t', whileGo euT euB n (euE x y a b t) S = .nx (euE x y (Nat.gcd a b) 0 t') S
  | k, a, 0, t, n, hb, ht, hn => by
    obtain ⟨m, rfl⟩ : ∃ m, n = m + 1 := ⟨n - 1, by omega⟩
    rw [Nat.gcd_zero_right]
    exact ⟨t, eu_stop x y a t S m⟩
  | 0, a, b + 1, t, n, hb, ht, hn => by
    exfalso
    simp at hb
  | k + 1, a, b + 1, t, n, hb, ht, hn => by
    obtain ⟨m, rfl⟩ : ∃ m, n = m + 1 := ⟨n - 1, by omega⟩
    rw [eu_step x y a (b + 1) t S m (Nat.succ_pos b) (by omega)]
    by_cases h0 : a % (b + 1) = 0
    · obtain ⟨m2, rfl⟩ : ∃ m2, m = m2 + 1 := ⟨m - 1, by omega⟩
      rw [h0]
      refine ⟨t + 1, ?_⟩
      rw [eu_stop]
      have e : Nat.gcd a (b + 1) = b + 1 := by
        rw [Nat.gcd_comm, Nat.gcd_rec, h0, Nat.gcd_zero_left]
      rw [e]
    · obtain ⟨m2, rfl⟩ : ∃ m2, m = m2 + 1 := ⟨m - 1, by omega⟩
      have hr := Nat.mod_lt a (Nat.succ_pos b)
      rw [eu_step x y (b + 1) (a % (b + 1)) (t + 1) S m2 (by omega) (by omega)]
      have h2 : (b + 1) % (a % (b + 1)) < 2 ^ k := by
        have hpow : 2 ^ (k + 1) = 2 * 2 ^ k := by rw [Nat.pow_succ, Nat.mul_comm]
        rw [hpow] at hb
        have hr0 : 0 < a % (b + 1) := by omega
        revert hr hr0 hb
        generalize a % (b + 1) = r
        generalize 2 ^ k = P
        intro hb hr hr0
        have hlt := Nat.mod_lt (b + 1) hr0
        by_cases hh : r ≤ P
        · omega
        · rw [Nat.mod_eq_sub_mod (show r ≤ b + 1 by omega), Nat.mod_eq_of_lt (by omega)]
          omega
      obtain ⟨t', e⟩ := eu_run x y S k (a % (b + 1)) ((b + 1) % (a % (b + 1))) (t + 1 + 1) m2 h2 (by omega) (by omega)
      refine ⟨t', ?_⟩
      rw [e]
      have g1 : Nat.gcd a (b + 1) = Nat.gcd (a % (b + 1)) (b + 1) := by
        rw [Nat.gcd_comm, Nat.gcd_rec]
      have g2 : Nat.gcd (a % (b + 1)) (b + 1) = Nat.gcd ((b + 1) % (a % (b + 1))) (a % (b + 1)) := Nat.gcd_rec _ _
      rw [g1, g2, Nat.gcd_comm]
end Lw

namespace Lw
open Pv L2
def wp (bs : List Bool) (p q : Nat) : Nat := p ^ bs.count true * (q - p) ^ (bs.length - bs.count true)
theorem wp_snoc (bs : List Bool) (b : Bool) (p q : Nat) : wp (bs ++ [b]) p q = wp bs p q * (if b = true then p else q - p) := by
  unfold wp
  have hle : bs.count true ≤ bs.length := List.count_le_length
  rw [List.count_append, List.length_append]
  cases b with
  | true =>
    rw [if_pos rfl]
    have e1 : ([true] : List Bool).count true = 1 := rfl
    have e2 : ([true] : List Bool).length = 1 := rfl
    rw [e1, e2, Nat.pow_succ, show bs.length + 1 - (bs.count true + 1) = bs.length - bs.count true by omega]
    rw [Nat.mul_assoc, Nat.mul_assoc, Nat.mul_comm p]
  | false =>
    rw [if_neg Bool.false_ne_true]
    have e1 : ([false] : List Bool).count true = 0 := rfl
    have e2 : ([false] : List Bool).length = 1 := rfl
    rw [e1, e2, Nat.add_zero, show bs.length + 1 - bs.count true = (bs.length - bs.count true) + 1 by omega, Nat.pow_succ, Nat.mul_assoc]
theorem num_wp (l : List Nat) (p q : Nat) : num l p q = wp (hs l) p q := rfl
theorem wp_lt {bs : List Bool} {p q : Nat} (h : Ch p q) (hl : bs.length ≤ 22) : wp bs p q < 2 ^ 900 := by
  unfold wp
  have hle : bs.count true ≤ bs.length := List.count_le_length
  have h1 := pow_lt (b := p) (k := bs.count true) (Nat.le_trans h.le h.top) (by omega)
  have h2 := pow_lt (b := q - p) (k := bs.length - bs.count true) (by have := h.top; omega) (by omega)
  have h3 := Nat.mul_le_mul (Nat.le_of_lt h1) (Nat.le_of_lt h2)
  exact Nat.lt_of_le_of_lt h3 (by decide)
theorem den_lt {l : List Nat} (hl : Stk l) {p q : Nat} (h : Ch p q) : 0 < den l q ∧ den l q < 2 ^ 900 := by
  unfold den
  constructor
  · have := Nat.pow_pos (n := nN l) (show 0 < q from h.pos)
    unfold fst3
    split <;> omega
  · have h1 := pow_lt h.top (nN_le hl)
    have h2 : fst3 l ≤ 6 := by unfold fst3; split <;> decide
    have h3 : fst3 l * q ^ nN l ≤ 6 * 2 ^ 400 := Nat.mul_le_mul h2 (Nat.le_of_lt h1)
    exact Nat.lt_of_le_of_lt h3 (by decide)
theorem up900 {n : Nat} (h : n < 2 ^ 900) : n < 2 ^ 8000 := Nat.lt_of_lt_of_le h (Nat.pow_le_pow_right (by decide) (by decide))
def lowAt (q i : Nat) : Nat := if i = 0 then 3 else 6 * q ^ (i - 1)
abbrev chB : FS := (sIf (toT (eBin oEq (eVar 4) (eCon (.int 1)))) (sSet 3 (eBin oMul (eCon (.int 2)) (eVar 3))) (sSeq (sSet 2 (eBin oMul (eVar 2) (eIf (toT (eBin oEq (eBin oIx (eVar 0) (eVar 4)) (eBin oIx (eVar 0) (eBin oSub (eVar 4) (eCon (.int 2)))))) (eBin oIx (eVar 1) (eCon (.int 0))) (eBin oSub (eBin oIx (eVar 1) (eCon (.int 1))) (eBin oIx (eVar 1) (eCon (.int 0))))))) (sSet 3 (eBin oMul (eVar 3) (eBin oIx (eVar 1) (eCon (.int 1)))))))
abbrev chE (l : List Nat) (p q a b : Nat) (e : Option PV) : VEnv := [some (.str l), some (chp p q), some (.int (a : Int)), some (.int (b : Int)), e]
theorem chE_v (l : List Nat) (p q a b : Nat) (x : PV) (S : Sto) : eVar 0 (chE l p q a b (some x)) S = .ok (.str l) S ∧ eVar 1 (chE l p q a b (some x)) S = .ok (chp p q) S ∧ eVar 2 (chE l p q a b (some x)) S = .ok (.int (a : Int)) S ∧ eVar 3 (chE l p q a b (some x)) S = .ok (.int (b : Int)) S ∧ eVar 4 (chE l p q a b (some x)) S = .ok x S := ⟨rfl, rfl, rfl, rfl, rfl⟩
theorem ch_step {l : List Nat} (hl : Stk l) {p q : Nat} (h : Ch p q) (i : Nat) (hi : i < l.length - 1) (S : Sto) :
    chB (chE l p q (wp ((hs l).take (i - 1)) p q) (lowAt q i) (some (.int ((1 : Int) + (i : Nat) * 1)))) S = .nx (chE l p q (wp ((hs l).take (i + 1 - 1)) p q) (lowAt q (i + 1)) (some (.int ((1 : Int) + (i : Nat) * 1)))) S := by
  obtain ⟨v0, v1, v2, v3, v4⟩ := chE_v l p q (wp ((hs l).take (i - 1)) p q) (lowAt q i) (.int ((1 : Int) + (i : Nat) * 1)) S
  unfold chB
  cases i with
  | zero =>
    rw [z_sif, z_toT, z_bin, v4, zb, z_con, zb, q_eqI, zb]
    show (R.ok true S).bindS _ = _
    rw [zbS, if_pos rfl, z_set, z_bin, z_con, zb, v3, zb, q_mulI (mul_small (j := ((lowAt q 0 : Nat) : Int)) ⟨by show -(2 ^ 64) < ((3 : Nat) : Int); decide, by show ((3 : Nat) : Int) < 2 ^ 64; decide⟩), zbS]
    rfl
  | succ i =>
    have hln : (hs l).length = l.length - 2 := zz_len _ _ _
    have n24 := hl.2.2.1
    have ha : l[i]? = some l[i] := List.getElem?_eq_getElem (by omega)
    have hb : l[i + 2]? = some (l[i + 2]'(by omega)) := List.getElem?_eq_getElem (by omega)
    have hb2 : (hs l)[i]? = some (l[i] == l[i + 2]'(by omega)) := by unfold hs; rw [zz_get, ha, hb]
    have et : (hs l).take (i + 1) = (hs l).take i ++ [l[i] == l[i + 2]'(by omega)] := by
      rw [List.take_succ, hb2]
      rfl
    have w1 : wp ((hs l).take i) p q < 2 ^ 900 := wp_lt h (by rw [List.length_take]; omega)
    have a1 : ((1 : Int) + ((i + 1 : Nat) : Int) * 1) = ((i + 2 : Nat) : Int) := by omega
    have i1 : atI l ((1 : Int) + ((i + 1 : Nat) : Int) * 1) = some (l[i + 2]'(by omega)) := by rw [a1]; exact at_nat hb
    have i2 : atI l ((1 : Int) + ((i + 1 : Nat) : Int) * 1 - 2) = some l[i] := by
      rw [show (1 : Int) + ((i + 1 : Nat) : Int) * 1 - 2 = (i : Nat) by omega]
      exact at_nat ha
    have x0 : ∀ S, oIx (chp p q) (.int 0) S = .ok (.int (p : Int)) S := fun _ => rfl
    have x1 : ∀ S, oIx (chp p q) (.int 1) S = .ok (.int (q : Int)) S := fun _ => rfl
    have hne : ((1 : Int) + ((i + 1 : Nat) : Int) * 1 == 1) = false := beq_false_of_ne (by omega)
    have ew : eIf (toT (eBin oEq (eBin oIx (eVar 0) (eVar 4)) (eBin oIx (eVar 0) (eBin oSub (eVar 4) (eCon (.int 2)))))) (eBin oIx (eVar 1) (eCon (.int 0))) (eBin oSub (eBin oIx (eVar 1) (eCon (.int 1))) (eBin oIx (eVar 1) (eCon (.int 0))))
        (chE l p q (wp ((hs l).take (i + 1 - 1)) p q) (lowAt q (i + 1)) (some (.int ((1 : Int) + ((i + 1 : Nat) : Int) * 1)))) S = .ok (.int ((if (l[i] == l[i + 2]'(by omega)) = true then p else q - p : Nat) : Int)) S := by
      rw [z_if, z_toT, z_bin, z_bin, v0, zb, v4, zb, q_ixS i1, zb, z_bin, v0, zb, z_bin, v4, zb, z_con, zb, q_subI, zb, q_ixS i2, zb, q_eqS, zb]
      show (R.ok ([l[i + 2]'(by omega)] == [l[i]]) S).bind _ = _
      rw [zb]
      by_cases hx : l[i] = l[i + 2]'(by omega)
      · rw [show ([l[i + 2]'(by omega)] == [l[i]]) = true by rw [← hx]; exact beq_self_eq_true _, if_pos rfl, z_bin, v1, zb, z_con, zb, x0, show (l[i] == l[i + 2]'(by omega)) = true from beq_iff_eq.mpr hx, if_pos rfl]
      · rw [show ([l[i + 2]'(by omega)] == [l[i]]) = false from beq_false_of_ne (by simpa using fun e => hx e.symm), if_neg Bool.false_ne_true, z_bin, z_bin, v1, zb, z_con, zb, x1, zb, z_bin, v1, zb, z_con, zb, x0, zb, o_subN h.le, show (l[i] == l[i + 2]'(by omega)) = false from beq_false_of_ne hx, if_neg Bool.false_ne_true]
    have hw : (if (l[i] == l[i + 2]'(by omega)) = true then p else q - p) < 2 ^ 900 := by
      have := h.top
      have := h.le
      have hc : (100000 : Nat) < 2 ^ 900 := by decide
      refine Nat.lt_of_le_of_lt ?_ hc
      split <;> omega
    have hlow : lowAt q (i + 1) < 2 ^ 900 := by
      unfold lowAt
      rw [if_neg (by omega)]
      have h1 := pow_lt (b := q) (k := i + 1 - 1) h.top (by omega)
      have h3 : 6 * q ^ (i + 1 - 1) ≤ 6 * 2 ^ 400 := Nat.mul_le_mul (Nat.le_refl 6) (Nat.le_of_lt h1)
      exact Nat.lt_of_le_of_lt h3 (by decide)
    have hq : q < 2 ^ 900 := Nat.lt_of_le_of_lt h.top (by decide)
    have hl2 : lowAt q (i + 1) * q = lowAt q (i + 1 + 1) := by
      unfold lowAt
      rw [if_neg (by omega), if_neg (by omega), Nat.mul_assoc, ← Nat.pow_succ]
      rfl
    rw [z_sif, z_toT, z_bin, v4, zb, z_con, zb, q_eqI, hne, zb]
    show (R.ok false S).bindS _ = _
    rw [zbS, if_neg Bool.false_ne_true, z_seq, z_set, z_bin, v2, zb, ew, zb]
    rw [show i + 1 - 1 = i from rfl, o_mulN w1 hw (by decide) (by decide), zbS, ← wp_snoc, ← et]
    show sSet 3 _ (chE l p q (wp ((hs l).take (i + 1)) p q) (lowAt q (i + 1)) (some (.int ((1 : Int) + ((i + 1 : Nat) : Int) * 1)))) S = _
    obtain ⟨u0, u1, u2, u3, u4⟩ := chE_v l p q (wp ((hs l).take (i + 1)) p q) (lowAt q (i + 1)) (.int ((1 : Int) + ((i + 1 : Nat) : Int) * 1)) S
    rw [z_set, z_bin, u3, zb, z_bin, u1, zb, z_con, zb, x1, zb, o_mulN hlow hq (by decide) (by decide), zbS, hl2]
    rfl
end Lw

namespace Pv
open L2
section
variable {env env' : VEnv} {S S1 S2 S3 : Sto} {f g : FE} {fs gs : FS} {t : FT} {x y z v : PV} {o : F2} {F : FF} {i : Nat} {b : Bool}
theorem seq_nx (h : fs env S = .nx env' S1) : sSeq fs gs env S = gs env' S1 := by rw [z_seq, h]
theorem seq_ret (h : fs env S = .ret v S1) : sSeq fs gs env S = .ret v S1 := by rw [z_seq, h]
theorem sif_t (h : t env S = .ok true S1) : sIf t fs gs env S = fs env S1 := by rw [z_sif, h, zbS, if_pos rfl]
theorem sif_f (h : t env S = .ok false S1) : sIf t fs gs env S = gs env S1 := by rw [z_sif, h, zbS, if_neg Bool.false_ne_true]
theorem ret_eq (h : f env S = .ok v S1) : sRet f env S = .ret v S1 := by rw [z_ret, h, zbS]
theorem set_eq (h : f env S = .ok v S1) : sSet i f env S = .nx (env.set i (some v)) S1 := by rw [z_set, h, zbS]
theorem exp_eq (h : f env S = .ok v S1) : sExpr f env S = .nx env S1 := by rw [z_expr, h, zbS]
theorem toT_eq (h : f env S = .ok (.bl b) S1) : toT f env S = .ok b S1 := by rw [z_toT, h, zb]
theorem not_eq (h : t env S = .ok b S1) : tNot' t env S = .ok (!b) S1 := by rw [z_not', h, zb]
theorem var_eq (h : env[i]? = some (some v)) : eVar i env S = .ok v S := by rw [z_var, h]
theorem con_eq : eCon v env S = .ok v S := rfl
theorem bin_eq (h1 : f env S = .ok x S1) (h2 : g env S1 = .ok y S2) (h3 : o x y S2 = .ok z S3) : eBin o f g env S = .ok z S3 := by rw [z_bin, h1, zb, h2, zb, h3]
theorem call1 (h1 : f env S = .ok x S1) (h2 : F [x] S1 = .ok z S2) : eCall F (aCons f aNil) env S = .ok z S2 := by rw [z_call, z_cons, h1, zb, z_nil, zb, zb, h2]
theorem call2 (h1 : f env S = .ok x S1) (h2 : g env S1 = .ok y S2) (h3 : F [x, y] S2 = .ok z S3) : eCall F (aCons f (aCons g aNil)) env S = .ok z S3 := by rw [z_call, z_cons, h1, zb, z_cons, h2, zb, z_nil, zb, zb, zb, h3]
theorem tupE2 (h1 : f env S = .ok x S1) (h2 : g env S1 = .ok y S2) (hx : isP x = true) (hy : isP y = true) : eTup (aCons f (aCons g aNil)) env S = .ok (.tup [x, y]) S2 := by
  rw [z_tup, z_cons, h1, zb, z_cons, h2, zb, z_nil, zb, zb, zb, if_pos (Lw.tup2 _ _ hx hy)]
theorem sub_eq {fo fi : FE} (h : f env S = .ok x S1) (h1 : fo env S1 = .ok y S2) (h2 : fi env S2 = .ok z S3) {S4 : Sto} (h3 : setCl S3 y z x = some S4) : sSub fo fi f env S = .nx env S4 := by rw [z_sub, h, zbS, h1, zbS, h2, zbS, h3]
theorem dm_eq {fo fi : FE} {p q : PV} {j : Nat} (h : f env S = .ok (.tup [p, q]) S1) (h1 : fo env S1 = .ok y S2) (h2 : fi env S2 = .ok z S3) {S4 : Sto} (h3 : setCl S3 y z p = some S4) : sDm fo fi j f env S = .nx (env.set j (some q)) S4 := by
  rw [z_dm, h, zbS]
  show (fo env S1).bindS _ = _
  rw [h1, zbS, h2, zbS, h3]
theorem asg_eq {p : Pat} (h : f env S = .ok v S1) (h1 : setPat p v env = some env') : sAsg p f env S = .nx env' S1 := by rw [z_asg, h, zbS, h1]
theorem for_eq {p : Pat} {it : FI} {items : List PV} {r : RS} (h : it env S = .ok items S1) (h1 : forGo p fs items env S1 = r) : sFor p it fs env S = r := by rw [z_for, h, zbS, h1]
theorem fn_ret {np N : Nat} {xs : List PV} {env : VEnv} (hl : xs.length = np) (he : startE N xs = env) (h : fs env S = .ret v S1) (hv : isP v = true) (hS : S1.take S.length = S1) : fnOf np N fs xs S = .ok v S1 := by
  rw [fn_eq hl, he, h, z_out_ret, out_pure hv, hS]
theorem fn_ret0 {np N : Nat} {xs : List PV} {env : VEnv} (hl : xs.length = np) (he : startE N xs = env) (h : fs env S = .ret v S) (hv : isP v = true) : fnOf np N fs xs S = .ok v S := fn_ret hl he h hv List.take_length
end
end Pv

namespace Lw
open Pv L2
def pot (a b c : Int) : SO := .lst [.int a, .int b, .int c]
def Has (n : Nat) (S : Sto) : Prop := ∃ a b c, S[n]? = some (pot a b c)
def Dr (n : Nat) (S S' : Sto) : Prop := ∃ a b c, S' = S.set n (pot a b c)
theorem Dr.len {n : Nat} {S S' : Sto} (h : Dr n S S') : S'.length = S.length := by
  obtain ⟨a, b, c, rfl⟩ := h
  exact List.length_set
theorem Dr.has {n : Nat} {S S' : Sto} (h : Dr n S S') (k : Has n S) : Has n S' := by
  obtain ⟨a, b, c, rfl⟩ := h
  obtain ⟨a', b', c', e⟩ := k
  exact ⟨a, b, c, List.getElem?_set_self (List.getElem?_eq_some_iff.mp e).1⟩
theorem Dr.trans {n : Nat} {S S' S2 : Sto} (h : Dr n S S') (k : Dr n S' S2) : Dr n S S2 := by
  obtain ⟨a, b, c, rfl⟩ := h
  obtain ⟨a', b', c', rfl⟩ := k
  exact ⟨a', b', c', List.set_set ..⟩
theorem Dr.refl {n : Nat} {S : Sto} (k : Has n S) : Dr n S S := by
  obtain ⟨a, b, c, e⟩ := k
  refine ⟨a, b, c, ?_⟩
  have hn := (List.getElem?_eq_some_iff.mp e)
  rw [← hn.2, List.set_getElem_self]
theorem Dr.take {n : Nat} {S S' : Sto} (h : Dr n S S') : S'.take S.length = S' := List.take_of_length_le (Nat.le_of_eq h.len)
theorem cl_pot {n : Nat} {S : Sto} {a b c : Int} (h : S[n]? = some (pot a b c)) : cl S n = some [.int a, .int b, .int c] := by
  unfold cl
  rw [h]
  rfl
theorem ix_pot {n : Nat} {S : Sto} {a b c : Int} (h : S[n]? = some (pot a b c)) : oIx (.ref n) (.int 0) S = .ok (.int a) S ∧ oIx (.ref n) (.int 1) S = .ok (.int b) S ∧ oIx (.ref n) (.int 2) S = .ok (.int c) S :=
  ⟨q_ixR h rfl, q_ixR h rfl, q_ixR h rfl⟩
theorem set_pot {n : Nat} {S : Sto} {a b c x : Int} (h : S[n]? = some (pot a b c)) : setCl S (.ref n) (.int 0) (.int x) = some (S.set n (pot x b c)) ∧ setCl S (.ref n) (.int 1) (.int x) = some (S.set n (pot a x c)) ∧ setCl S (.ref n) (.int 2) (.int x) = some (S.set n (pot a b x)) := by
  unfold setCl
  simp only [cl_pot h]
  exact ⟨rfl, rfl, rfl⟩
theorem set_at {n : Nat} {S : Sto} {x y : SO} (h : S[n]? = some y) : (S.set n x)[n]? = some x := List.getElem?_set_self (List.getElem?_eq_some_iff.mp h).1
end Lw

namespace Lw
open Pv L2
theorem Stk.snoc {l : List Nat} (h : Stk l) {a c : Nat} (hc : Lt c) (ha : l.getLast? = some a) (hne : a ≠ c) (hl : l.length < 24) : Stk (l ++ [c]) := by
  refine ⟨fun x hx => ?_, by simp, by simp; omega, fun b hb => ?_⟩
  · rcases List.mem_append.mp hx with q | q
    · exact h.1 x q
    · rw [List.mem_singleton.mp q]; exact hc
  · rw [zz_snoc 1 _ l c (Nat.le_refl 1) a (by rw [← List.getLast?_eq_getElem?]; exact ha) h.2.1] at hb
    rcases List.mem_append.mp hb with q | q
    · exact h.2.2.2 b q
    · rw [List.mem_singleton.mp q]
      exact bne_iff_ne.mpr hne
theorem stk_one {c : Nat} (hc : Lt c) : Stk [c] := ⟨fun x hx => by rw [List.mem_singleton.mp hx]; exact hc, Nat.le_refl 1, (by show (1 : Nat) ≤ 24; decide), fun b hb => nomatch hb⟩
theorem last_of {l : List Nat} (h : 1 ≤ l.length) : ∃ a, l.getLast? = some a ∧ a ∈ l := by
  have hne : l ≠ [] := fun e => by rw [e] at h; simp at h
  exact ⟨l.getLast hne, List.getLast?_eq_some_getLast hne, List.getLast_mem hne⟩
theorem abc_in {c : Nat} : c ∈ ([65, 66, 67] : List Nat) ↔ Lt c := by
  unfold Lt
  simp
theorem tup_ints (ns : List Int) (h : ns.length ≤ 100) : (decide ((ns.map PV.int).length ≤ SZ) && (ns.map PV.int).all isP) = true := by
  rw [decide_eq_true (show (ns.map PV.int).length ≤ SZ by rw [List.length_map]; exact Nat.le_trans h (by decide)), Bool.true_and, List.all_eq_true]
  intro x hx
  obtain ⟨i, _, rfl⟩ := List.mem_map.mp hx
  rfl
def lits (ns : List Int) : FA := ns.foldr (fun i r => aCons (eCon (.int i)) r) aNil
theorem lits_eq (env : VEnv) (S : Sto) : ∀ ns : List Int, lits ns env S = .ok (ns.map .int) S
  | [] => rfl
  | n :: ns => by
    show aCons (eCon (.int n)) (lits ns) env S = _
    rw [z_cons, con_eq, zb, lits_eq env S ns, zb]
    rfl
theorem tup_lits (env : VEnv) (S : Sto) (ns : List Int) (h : ns.length ≤ 100) : eTup (lits ns) env S = .ok (.tup (ns.map .int)) S := by
  rw [z_tup, lits_eq, zb, if_pos (tup_ints ns h)]
end Lw

namespace Lw
open Pv L2
theorem k_it : kitB "int" "tuple" = some false := by decide +kernel
theorem k_il : kitB "int" "list" = some false := by decide +kernel
theorem k_ib : kitB "int" "bool" = some false := by decide +kernel
theorem k_ii : kitB "int" "int" = some true := by decide +kernel
theorem k_is : kitB "int" "str" = some false := by decide +kernel
theorem k_tt : kitB "tuple" "tuple" = some true := by decide +kernel
theorem k_lt : kitB "list" "tuple" = some false := by decide +kernel
theorem k_ll : kitB "list" "list" = some true := by decide +kernel
theorem isi_eq {T : String} {f : FE} {env : VEnv} {S S1 : Sto} {x : PV} {b : Bool} (h : f env S = .ok x S1) (hk : kitB (tyPV x) T = some b) : eIsi T f env S = .ok (.bl b) S1 := by rw [z_isi, h, zb, hk]
theorem q_neB {a b : Bool} {S : Sto} : oNe (.bl a) (.bl b) S = .ok (.bl (a != b)) S := by simp [oNe, dv, dpt, eqPV, bne]
theorem and_t {t u : FT} {env : VEnv} {S S1 : Sto} {r : R Bool} (h : t env S = .ok true S1) (h2 : u env S1 = r) : tAnd' t u env S = r := by rw [z_and', h, zb, if_pos rfl, h2]
theorem and_f {t u : FT} {env : VEnv} {S S1 : Sto} (h : t env S = .ok false S1) : tAnd' t u env S = .ok false S1 := by rw [z_and', h, zb, if_neg Bool.false_ne_true]
theorem or_t {t u : FT} {env : VEnv} {S S1 : Sto} (h : t env S = .ok true S1) : tOr' t u env S = .ok true S1 := by rw [z_or', h, zb, if_pos rfl]
theorem or_f {t u : FT} {env : VEnv} {S S1 : Sto} {r : R Bool} (h : t env S = .ok false S1) (h2 : u env S1 = r) : tOr' t u env S = r := by rw [z_or', h, zb, if_neg Bool.false_ne_true, h2]
theorem all_true {α : Type} (l : List α) : (l.map fun _ => true).all _root_.id = true := by
  rw [List.all_eq_true]
  intro b hb
  obtain ⟨_, _, rfl⟩ := List.mem_map.mp hb
  rfl
theorem sum_len (ns : List Int) : ∃ i : Int, ∀ S : Sto, bSum [.lst ((cut ns none (some 3)).map .int)] S = .ok (.int i) S := ⟨_, fun S => by
  unfold bSum
  show (match (dlS S (.lst ((cut ns none (some 3)).map .int))).bind intsOf with
    | some ns => R.ok (PV.int ns.sum) S
    | none => .no) = _
  show (match intsOf ((cut ns none (some 3)).map .int) with
    | some ns => R.ok (PV.int ns.sum) S
    | none => .no) = _
  rw [intsOf_map]⟩
theorem fk_ret {np N : Nat} {xs : List PV} {env : VEnv} {fs : FS} {S S1 : Sto} {v : PV} (hl : xs.length = np) (he : startE N xs = env) (h : fs env S = .ret v S1) : fnKeep np N fs xs S = .ok v S1 := by
  unfold fnKeep
  rw [if_pos hl, he, h]
theorem pow_ok (k : Nat) (hk : k ≤ 100) (S : Sto) : oPow (.int 10) (.int (k : Int)) S = .ok (.int ((10 : Int) ^ k)) S := by
  have h : powOk 10 (k : Int) = true := by
    unfold powOk
    rw [decide_eq_true (show (0 : Int) ≤ (k : Int) by omega), decide_eq_true (show (k : Int) ≤ 1000000 by omega), decide_eq_true (show (10 : Int).natAbs < 2 ^ 64 by decide)]
    rfl
  show (if powOk 10 (k : Int) = true then R.ok (PV.int ((10 : Int) ^ ((k : Int)).toNat)) S else .no) = _
  rw [if_pos h]
  rfl
end Lw

namespace Lw
open Pv L2
theorem stk_rev {l : List Nat} (h : Stk l) : Stk l.reverse := by
  refine ⟨fun c hc => h.1 c (List.mem_reverse.mp hc), by rw [List.length_reverse]; exact h.2.1, by rw [List.length_reverse]; exact h.2.2.1, fun b hb => ?_⟩
  rw [zz_rev] at hb
  have hb := List.mem_reverse.mp hb
  rw [zz_ext 1 (fun a b => b != a) (fun a b => a != b) l (fun _ a b _ _ => by
    by_cases e : a = b
    · subst e; rfl
    · rw [bne_iff_ne.mpr (fun z => e z.symm), bne_iff_ne.mpr e])] at hb
  exact h.2.2.2 b hb
theorem hs_rev (l : List Nat) : hs l.reverse = (hs l).reverse := by
  unfold hs
  rw [zz_rev, zz_ext 2 (fun a b => b == a) (fun a c => a == c) l fun _ a b _ _ => by
    by_cases e : a = b
    · subst e; rfl
    · rw [beq_false_of_ne (fun z => e z.symm), beq_false_of_ne e]]
def nx (c : Nat) : Nat := if c = 67 then 65 else c + 1
theorem nx_lt {c : Nat} (h : Lt c) : Lt (nx c) := by
  rcases h with rfl | rfl | rfl
  · exact .inr (.inl rfl)
  · exact .inr (.inr rfl)
  · exact .inl rfl
theorem nx_inj {a b : Nat} (ha : Lt a) (hb : Lt b) : nx a = nx b ↔ a = b := by
  rcases ha with rfl | rfl | rfl <;> rcases hb with rfl | rfl | rfl <;> decide
theorem stk_nx {l : List Nat} (h : Stk l) : Stk (l.map nx) := by
  refine ⟨fun c hc => ?_, by rw [List.length_map]; exact h.2.1, by rw [List.length_map]; exact h.2.2.1, fun b hb => ?_⟩
  · obtain ⟨a, ha, rfl⟩ := List.mem_map.mp hc
    exact nx_lt (h.1 a ha)
  · rw [zz_map, zz_ext 1 (fun a b => nx a != nx b) (fun a b => a != b) l fun _ a b ha hb => by
      have := nx_inj (h.1 a (List.mem_of_getElem? ha)) (h.1 b (List.mem_of_getElem? hb))
      by_cases e : a = b
      · subst e; simp
      · rw [bne_iff_ne.mpr e, bne_iff_ne.mpr fun z => e (this.mp z)]] at hb
    exact h.2.2.2 b hb
theorem hs_nx {l : List Nat} (h : Stk l) : hs (l.map nx) = hs l := by
  unfold hs
  rw [zz_map]
  refine zz_ext 2 _ _ l fun _ a b ha hb => ?_
  have := nx_inj (h.1 a (List.mem_of_getElem? ha)) (h.1 b (List.mem_of_getElem? hb))
  by_cases e : a = b
  · subst e; simp
  · rw [beq_false_of_ne e, beq_false_of_ne fun z => e (this.mp z)]
theorem numden {l l' : List Nat} (hc : (hs l').count true = (hs l).count true) (hl : l'.length = l.length) (p q : Nat) : num l' p q = num l p q ∧ den l' q = den l q := by
  have hn : nN l' = nN l := by
    unfold nN hs
    rw [zz_len, zz_len, hl]
  unfold num den hN fst3
  rw [hc, hn, hl]
  exact ⟨rfl, rfl⟩
theorem lst_add (xs ys : List PV) (h : xs.length + ys.length ≤ 1000) (S : Sto) : oAdd (.lst xs) (.lst ys) S = .ok (.lst (xs ++ ys)) S := by
  rw [q_addL, if_pos (Nat.le_trans h (by decide))]
theorem disp1 {f : FE} {env : VEnv} {S S1 : Sto} {x : PV} (h : f env S = .ok x S1) (hx : isP x = true) : eFrz (lDisp (aCons f aNil)) env S = .ok (.lst [x]) S1 := by
  have hd : (decide (([x]).length ≤ SZ) && ([x]).all isP) = true := by
    rw [decide_eq_true (show ([x]).length ≤ SZ from (by decide : (1 : Nat) ≤ SZ)), List.all_cons, hx]
    rfl
  rw [z_frz, z_disp, z_cons, h, zb, z_nil, zb, zb, if_pos hd, zb]
theorem disp3 {f g k : FE} {env : VEnv} {S S1 S2 S3 : Sto} {x y z : PV} (h1 : f env S = .ok x S1) (h2 : g env S1 = .ok y S2) (h3 : k env S2 = .ok z S3) (hx : isP x = true) (hy : isP y = true) (hz : isP z = true) : eFrz (lDisp (aCons f (aCons g (aCons k aNil)))) env S = .ok (.lst [x, y, z]) S3 := by
  have hd : (decide (([x, y, z]).length ≤ SZ) && ([x, y, z]).all isP) = true := by
    rw [decide_eq_true (show ([x, y, z]).length ≤ SZ from (by decide : (3 : Nat) ≤ SZ)), List.all_cons, List.all_cons, List.all_cons, hx, hy, hz]
    rfl
  rw [z_frz, z_disp, z_cons, h1, zb, z_cons, h2, zb, z_cons, h3, zb, z_nil, zb, zb, zb, zb, if_pos hd, zb]
theorem index_s {c : Nat} (h : Lt c) (S : Sto) : bIndex (.str [65, 66, 67]) [.str [c]] S = .ok (.int ((c - 65 : Nat) : Int)) S := by
  rcases h with rfl | rfl | rfl <;> rfl
theorem meth1 {T : String} {G : FM} {f g : FE} {env : VEnv} {S S1 S2 S3 : Sto} {x y z : PV} (h1 : f env S = .ok x S1) (hk : kdB T S1 x = true) (h2 : g env S1 = .ok y S2) (h3 : G x [y] S2 = .ok z S3) : eMeth T G f (aCons g aNil) env S = .ok z S3 := by
  rw [z_meth, h1, zb, if_pos hk, z_cons, h2, zb, z_nil, zb, zb, h3]
theorem lc_eq {p : Pat} {it : FI} {t : FT} {f : FE} {vs : List Nat} {env env1 : VEnv} {S : Sto} {items ys : List PV} (hi : it env S = .ok items S) (hl : items.length < SZ) (hw : wipeE env vs = env1) (h : lcGo p t f env1 S.length items S = .ok ys S) : eFrz (fLc p it t f vs) env S = .ok (.lst ys) S := by
  rw [z_frz, z_lc, hi, zb, if_pos hl, hw, h, zb]
theorem it_eq {f : FE} {env : VEnv} {S S1 : Sto} {x : PV} {items : List PV} (h : f env S = .ok x S1) (hs : seqI x = some items) : iVal f env S = .ok items S1 := by
  rw [z_it, h, zb, hs]
end Lw

namespace Lw
open Pv L2
theorem red_cross {N D N' D' : Nat} (hD : 0 < D) (hD' : 0 < D') (h : N * D' = N' * D) : red N D = red N' D' := by
  have g0 := Nat.gcd_pos_of_pos_right N hD
  have g0' := Nat.gcd_pos_of_pos_right N' hD'
  have e : Nat.gcd N D * D' = Nat.gcd N' D' * D := by
    rw [← Nat.gcd_mul_right, ← Nat.gcd_mul_right, h, Nat.mul_comm D D']
  obtain ⟨n, hn⟩ := Nat.gcd_dvd_left N D
  obtain ⟨d, hd⟩ := Nat.gcd_dvd_right N D
  obtain ⟨n', hn'⟩ := Nat.gcd_dvd_left N' D'
  obtain ⟨d', hd'⟩ := Nat.gcd_dvd_right N' D'
  unfold red
  revert hn hd hn' hd' e g0 g0'
  generalize Nat.gcd N D = g
  generalize Nat.gcd N' D' = g'
  intro g0 g0' e hn hd hn' hd'
  have e1 : N / g = n := by rw [hn]; exact Nat.mul_div_cancel_left _ g0
  have e2 : D / g = d := by rw [hd]; exact Nat.mul_div_cancel_left _ g0
  have e3 : N' / g' = n' := by rw [hn']; exact Nat.mul_div_cancel_left _ g0'
  have e4 : D' / g' = d' := by rw [hd']; exact Nat.mul_div_cancel_left _ g0'
  rw [e1, e2, e3, e4]
  have hdd : d = d' := by
    rw [hd, hd'] at e
    have e5 : (g * g') * d' = (g * g') * d := by
      rw [Nat.mul_assoc, e, ← Nat.mul_assoc, Nat.mul_comm g' g]
    exact (Nat.eq_of_mul_eq_mul_left (Nat.mul_pos g0 g0') e5).symm
  have hd0 : 0 < d := Nat.pos_of_ne_zero fun z => by rw [z, Nat.mul_zero] at hd; omega
  have hnn : n = n' := by
    rw [hn, hn', hd, hd', ← hdd] at h
    have e5 : (g * g' * d) * n = (g * g' * d) * n' := by
      have a1 : (g * g' * d) * n = g * n * (g' * d) := by ac_rfl
      have a2 : (g * g' * d) * n' = g' * n' * (g * d) := by ac_rfl
      rw [a1, a2, h]
    exact Nat.eq_of_mul_eq_mul_left (Nat.mul_pos (Nat.mul_pos g0 g0') hd0) e5
  rw [hdd, hnn]
theorem red_val (N D : Nat) : (red N D).1 * D = N * (red N D).2 := by
  unfold red
  obtain ⟨n, hn⟩ := Nat.gcd_dvd_left N D
  obtain ⟨d, hd⟩ := Nat.gcd_dvd_right N D
  by_cases g0 : Nat.gcd N D = 0
  · have hN := Nat.eq_zero_of_gcd_eq_zero_left g0
    have hD := Nat.eq_zero_of_gcd_eq_zero_right g0
    rw [hN, hD, Nat.mul_zero, Nat.zero_mul]
  · have gp := Nat.pos_of_ne_zero g0
    revert hn hd gp
    generalize Nat.gcd N D = g
    intro hn hd gp
    have e1 : N / g = n := by rw [hn]; exact Nat.mul_div_cancel_left _ gp
    have e2 : D / g = d := by rw [hd]; exact Nat.mul_div_cancel_left _ gp
    rw [e1, e2]
    show n * D = N * d
    rw [hn, hd]
    ac_rfl
theorem red_pos {N D : Nat} (h : 0 < D) : 0 < (red N D).2 := Nat.div_pos (Nat.gcd_le_right _ h) (Nat.gcd_pos_of_pos_right _ h)
theorem red_le (N D : Nat) : (red N D).1 ≤ N ∧ (red N D).2 ≤ D := ⟨Nat.div_le_self _ _, Nat.div_le_self _ _⟩
theorem add_frac {n1 d1 n2 d2 N1 N2 D M E : Nat} (hD : 0 < D) (h1 : n1 * D = N1 * d1) (h2 : n2 * D = N2 * d2) (h : (N1 + N2) * E = M * D) : (n1 * d2 + n2 * d1) * E = M * (d1 * d2) := by
  have e : D * ((n1 * d2 + n2 * d1) * E) = D * (M * (d1 * d2)) := by
    have a1 : D * ((n1 * d2 + n2 * d1) * E) = (n1 * D * d2 + n2 * D * d1) * E := by
      rw [← Nat.mul_assoc, Nat.mul_add]
      congr 2 <;> ac_rfl
    have a2 : D * (M * (d1 * d2)) = M * D * (d1 * d2) := by ac_rfl
    rw [a1, a2, h1, h2, ← h]
    have a3 : N1 * d1 * d2 + N2 * d2 * d1 = (N1 + N2) * (d1 * d2) := by
      rw [Nat.add_mul]
      congr 1 <;> ac_rfl
    rw [a3]
    ac_rfl
  exact Nat.eq_of_mul_eq_mul_left hD e
theorem red_add {N1 N2 D M E : Nat} (hD : 0 < D) (hE : 0 < E) (h : (N1 + N2) * E = M * D) :
    red ((red N1 D).1 * (red N2 D).2 + (red N2 D).1 * (red N1 D).2) ((red N1 D).2 * (red N2 D).2) = red M E :=
  red_cross (Nat.mul_pos (red_pos hD) (red_pos hD)) hE (add_frac hD (red_val N1 D) (red_val N2 D) h)
theorem hs_snoc {l : List Nat} {c : Nat} {a : Nat} (ha : l[l.length - 2]? = some a) (h2 : 2 ≤ l.length) : hs (l ++ [c]) = hs l ++ [a == c] := zz_snoc 2 _ l c (by decide) a ha h2
theorem num_snoc {l : List Nat} {c a : Nat} (ha : l[l.length - 2]? = some a) (h2 : 2 ≤ l.length) (p q : Nat) : num (l ++ [c]) p q = num l p q * (if (a == c) = true then p else q - p) := by
  rw [num_wp, hs_snoc ha h2, wp_snoc, num_wp]
theorem den_snoc {l : List Nat} {c a : Nat} (ha : l[l.length - 2]? = some a) (h2 : 2 ≤ l.length) (q : Nat) : den (l ++ [c]) q = den l q * q := by
  unfold den fst3 nN
  rw [hs_snoc ha h2, List.length_append, List.length_append, if_pos (by simp; omega), if_pos (by omega), show (hs l).length + [a == c].length = (hs l).length + 1 from rfl, Nat.pow_succ, Nat.mul_assoc]
theorem next_two {a : Nat} (h : Lt a) : ∃ c1 c2, ([65, 66, 67] : List Nat).filter (fun d => d != a) = [c1, c2] ∧ Lt c1 ∧ Lt c2 ∧ a ≠ c1 ∧ a ≠ c2 ∧ c1 ≠ c2 ∧ ∀ b, Lt b → b ≠ a → b = c1 ∨ b = c2 := by
  rcases h with rfl | rfl | rfl
  · exact ⟨66, 67, rfl, .inr (.inl rfl), .inr (.inr rfl), by decide, by decide, by decide, fun b hb hn => by rcases hb with rfl | rfl | rfl <;> simp_all⟩
  · exact ⟨65, 67, rfl, .inl rfl, .inr (.inr rfl), by decide, by decide, by decide, fun b hb hn => by rcases hb with rfl | rfl | rfl <;> simp_all⟩
  · exact ⟨65, 66, rfl, .inl rfl, .inr (.inl rfl), by decide, by decide, by decide, fun b hb hn => by rcases hb with rfl | rfl | rfl <;> simp_all⟩
theorem Stk.prev {l : List Nat} (h : Stk l) (h2 : 2 ≤ l.length) {a : Nat} (ha : l.getLast? = some a) : ∃ b, l[l.length - 2]? = some b ∧ Lt b ∧ b ≠ a := by
  have hb : l[l.length - 2]? = some (l[l.length - 2]'(by omega)) := List.getElem?_eq_getElem (by omega)
  rw [List.getLast?_eq_getElem?] at ha
  exact ⟨_, hb, h.1 _ (List.getElem_mem _), h.at hb (by rw [show l.length - 2 + 1 = l.length - 1 by omega]; exact ha)⟩
theorem next_sum {l : List Nat} (h : Stk l) {p q : Nat} (hc : Ch p q) {a c1 c2 : Nat} (ha : l.getLast? = some a) (n1 : Lt c1) (n2 : Lt c2) (x1 : a ≠ c1) (x2 : a ≠ c2) (x3 : c1 ≠ c2) (all : ∀ b, Lt b → b ≠ a → b = c1 ∨ b = c2) :
    (num (l ++ [c1]) p q + num (l ++ [c2]) p q) * den l q = num l p q * den (l ++ [c1]) q ∧ den (l ++ [c2]) q = den (l ++ [c1]) q := by
  by_cases h2 : 2 ≤ l.length
  · obtain ⟨b, hb, hl, hne⟩ := h.prev h2 ha
    rw [num_snoc hb h2, num_snoc hb h2, den_snoc (c := c1) hb h2, den_snoc (c := c2) hb h2]
    refine ⟨?_, rfl⟩
    have hs : (if (b == c1) = true then p else q - p) + (if (b == c2) = true then p else q - p) = q := by
      have := hc.le
      rcases all b hl hne with rfl | rfl
      · rw [if_pos (beq_self_eq_true _), if_neg (by simpa using x3)]
        omega
      · rw [if_neg (by simpa using fun z => x3 z.symm), if_pos (beq_self_eq_true _)]
        omega
    rw [← Nat.mul_add, hs]
    ac_rfl
  · have hl1 : l.length = 1 := by have := h.2.1; omega
    have e0 : hs l = [] := zz_none 2 _ l (by omega)
    have e1 : ∀ c, hs (l ++ [c]) = [] := fun c => zz_none 2 _ _ (by simp; omega)
    refine ⟨?_, ?_⟩
    · rw [num_wp, num_wp, num_wp, e1, e1, e0]
      unfold den fst3 nN
      rw [e1, e0, if_neg (by omega), if_pos (by simp; omega)]
      simp [wp]
    · unfold den fst3 nN
      rw [e1, e1, List.length_append, List.length_append]
      rfl
end Lw

namespace Lw
open Pv L2
def third (a b : Nat) : Nat := 65 + 66 + 67 - a - b
theorem third_lt {a b : Nat} (ha : Lt a) (hb : Lt b) (hn : a ≠ b) : Lt (third a b) ∧ third a b ≠ a ∧ third a b ≠ b := by
  rcases ha with rfl | rfl | rfl <;> rcases hb with rfl | rfl | rfl <;> first | exact absurd rfl hn | (unfold Lt third; decide)
theorem stk_two {a b : Nat} (ha : Lt a) (hb : Lt b) (hn : a ≠ b) : Stk [a, b] := (stk_one ha).snoc hb rfl hn (by show (1 : Nat) < 24; decide)
def MkL (M : List Nat) : Prop := ∀ c ∈ M, c = 104 ∨ c = 99
end Lw

namespace Lw
open Pv L2
abbrev rt6 : FS := (sSet 6 (eTup (aCons (eBin oAdd (eBin oMul (eBin oIx (eBin oIx (eVar 4) (eCon (.int 0))) (eCon (.int 0))) (eBin oIx (eBin oIx (eVar 4) (eCon (.int 1))) (eCon (.int 1)))) (eBin oMul (eBin oIx (eBin oIx (eVar 4) (eCon (.int 1))) (eCon (.int 0))) (eBin oIx (eBin oIx (eVar 4) (eCon (.int 0))) (eCon (.int 1))))) (aCons (eBin oMul (eBin oIx (eBin oIx (eVar 4) (eCon (.int 0))) (eCon (.int 1))) (eBin oIx (eBin oIx (eVar 4) (eCon (.int 1))) (eCon (.int 1)))) aNil))))
abbrev rE (n : Nat) (x1 : Option PV) (l : List Nat) (p q : Nat) (e4 e5 e6 e7 e8 e9 : Option PV) : VEnv := [some (.ref n), x1, some (.str l), some (chp p q), e4, e5, e6, e7, e8, e9]
theorem o_addN (a b : Nat) (S : Sto) : oAdd (.int (a : Int)) (.int (b : Int)) S = .ok (.int ((a + b : Nat) : Int)) S := by rw [q_addI, Int.natCast_add]
theorem num_lt {l : List Nat} (hl : Stk l) {p q : Nat} (h : Ch p q) : num l p q < 2 ^ 900 := by rw [num_wp]; exact wp_lt h (nN_le hl)
theorem fr_ix (r : Nat × Nat) (S : Sto) : oIx (fr r) (.int 0) S = .ok (.int (r.1 : Int)) S ∧ oIx (fr r) (.int 1) S = .ok (.int (r.2 : Int)) S := ⟨rfl, rfl⟩
theorem two_ix (x y : PV) (S : Sto) : oIx (.lst [x, y]) (.int 0) S = .ok x S ∧ oIx (.lst [x, y]) (.int 1) S = .ok y S := ⟨rfl, rfl⟩
theorem num_flip {l l' : List Nat} {p q : Nat} (h : Ch p q) (hh : hs l' = (hs l).map (!·)) (hlen : l'.length = l.length) : num l' (q - p) q = num l p q ∧ den l' q = den l q := by
  have hc : (hs l').count true = (hs l).length - (hs l).count true := by
    rw [hh]
    induction hs l with
    | nil => rfl
    | cons b bs ih =>
      have := List.count_le_length (l := bs) (a := true)
      cases b <;> simp [ih] <;> omega
  have hn : nN l' = nN l := by
    unfold nN
    rw [hh, List.length_map]
  constructor
  · unfold num hN
    rw [hc, hn, show q - (q - p) = p by have := h.le; omega]
    have := hN_le l
    unfold hN at this
    rw [show nN l - ((hs l).length - (hs l).count true) = (hs l).count true by unfold nN at this ⊢; omega]
    rw [Nat.mul_comm]
    rfl
  · unfold den fst3
    rw [hn, hlen]
end Lw

namespace Lw
open Pv L2
abbrev alB1 : FS := (sSet 3 (eBin oAdd (eVar 3) (eFrz (fLc (.nm 5) (iVal (eCon (.str [65, 66, 67]))) (toT (eBin oNe (eVar 5) (eBin oIx (eVar 4) (eNeg (eCon (.int 1)))))) (eBin oAdd (eVar 4) (eVar 5)) [5]))))
abbrev alB : FS := sSeq (sSet 3 (eFrz (lDisp aNil))) (sSeq (sFor (.nm 4) (iVal (eVar 1)) alB1) (sSet 1 (eVar 3)))
abbrev arA : FS := (sAsg (.tp [(.nm 4), (.nm 5)]) (eTup (aCons (eCon (.int 0)) (aCons (eCon (.int 1)) aNil))))
abbrev arR : FS := (sRet (eBin oEq (eTup (aCons (eVar 4) (aCons (eVar 5) aNil))) (eTup (aCons (eCon (.int 1)) (aCons (eCon (.int 1)) aNil)))))
def lst0 (t : List Nat) : Nat := t.getLast?.getD 0
def ext (t : List Nat) : List (List Nat) := (([65, 66, 67] : List Nat).filter fun d => d != lst0 t).map fun c => t ++ [c]
def allL : Nat → List (List Nat)
  | 0 => [[65], [66], [67]]
  | n + 1 => (allL n).flatMap ext
theorem allL_ok : ∀ (n : Nat), n ≤ 20 → ∀ t ∈ allL n, Stk t ∧ t.length = n + 1
  | 0, _, t, ht => by
    simp only [allL, List.mem_cons, List.not_mem_nil, or_false] at ht
    rcases ht with rfl | rfl | rfl
    · exact ⟨stk_one (.inl rfl), rfl⟩
    · exact ⟨stk_one (.inr (.inl rfl)), rfl⟩
    · exact ⟨stk_one (.inr (.inr rfl)), rfl⟩
  | n + 1, hn, t, ht => by
    obtain ⟨s, hs, hx⟩ := List.mem_flatMap.mp ht
    obtain ⟨k, hl⟩ := allL_ok n (by omega) s hs
    unfold ext at hx
    obtain ⟨c, hc, rfl⟩ := List.mem_map.mp hx
    obtain ⟨hc1, hc2⟩ := List.mem_filter.mp hc
    obtain ⟨a, ha, _⟩ := last_of k.2.1
    unfold lst0 at hc2
    rw [ha] at hc2
    have hne : c ≠ a := by simpa using hc2
    exact ⟨k.snoc (abc_in.mp hc1) ha (fun e => hne e.symm) (by omega), by simp [hl]⟩
theorem ext_two {t : List Nat} (k : Stk t) : ∃ a c1 c2, t.getLast? = some a ∧ ext t = [t ++ [c1], t ++ [c2]] ∧ Lt c1 ∧ Lt c2 ∧ a ≠ c1 ∧ a ≠ c2 ∧ c1 ≠ c2 ∧ ∀ b, Lt b → b ≠ a → b = c1 ∨ b = c2 := by
  obtain ⟨a, ha, ham⟩ := last_of k.2.1
  obtain ⟨c1, c2, hf, r⟩ := next_two (k.1 a ham)
  refine ⟨a, c1, c2, ha, ?_, r⟩
  unfold ext lst0
  rw [ha]
  show (([65, 66, 67] : List Nat).filter fun d => d != a).map (fun c => t ++ [c]) = _
  rw [hf]
  rfl
theorem flat_len : ∀ (ts : List (List Nat)), (∀ t ∈ ts, Stk t) → (ts.flatMap ext).length = 2 * ts.length
  | [], _ => rfl
  | t :: ts, h => by
    obtain ⟨a, c1, c2, _, e, _⟩ := ext_two (h t List.mem_cons_self)
    rw [List.flatMap_cons, List.length_append, flat_len ts fun x hx => h x (List.mem_cons_of_mem _ hx), e]
    show 2 + 2 * ts.length = 2 * (ts.length + 1)
    omega
theorem allL_len : ∀ n, n ≤ 6 → (allL n).length = 3 * 2 ^ n
  | 0, _ => rfl
  | n + 1, hn => by
    show ((allL n).flatMap ext).length = _
    rw [flat_len _ fun t ht => (allL_ok n (by omega) t ht).1, allL_len n (by omega), Nat.pow_succ]
    omega
theorem allL_small (n : Nat) (hn : n ≤ 6) : (allL n).length ≤ 192 := by
  rw [allL_len n hn]
  have := Nat.pow_le_pow_right (show 0 < 2 by decide) hn
  omega
def txs (ts : List (List Nat)) : PV := .lst (ts.map .str)
theorem ext_lc {t : List Nat} (k : Stk t) (hl : t.length ≤ 23) (w : VEnv) (hw : w.length = 6) (h4 : w[4]? = some (some (.str t))) (S : Sto) :
    eFrz (fLc (.nm 5) (iVal (eCon (.str [65, 66, 67]))) (toT (eBin oNe (eVar 5) (eBin oIx (eVar 4) (eNeg (eCon (.int 1)))))) (eBin oAdd (eVar 4) (eVar 5)) [5]) w S = .ok (txs (ext t)) S := by
  obtain ⟨a, ha, _⟩ := last_of k.2.1
  have v4 : ∀ (x : Option PV) S, eVar 4 ((w.set 5 none).set 5 x) S = .ok (.str t) S := fun x S => by
    rw [z_var, List.getElem?_set_ne (by decide), List.getElem?_set_ne (by decide), h4]
  have v5 : ∀ (x : PV) S, eVar 5 ((w.set 5 none).set 5 (some x)) S = .ok x S := fun x S => by
    rw [z_var, List.getElem?_set_self (by rw [List.length_set, hw]; decide)]
  have hb : (fun c : Nat => [c] != [a]) = fun c => c != a := funext fun c => by
    by_cases e : c = a
    · subst e; simp
    · rw [bne_iff_ne.mpr e, bne_iff_ne.mpr (by simpa using e)]
  have hz : t.length + 1 ≤ SZ := Nat.le_trans (show t.length + 1 ≤ 25 by omega) (by decide)
  have e : lcGo (.nm 5) (toT (eBin oNe (eVar 5) (eBin oIx (eVar 4) (eNeg (eCon (.int 1)))))) (eBin oAdd (eVar 4) (eVar 5)) (w.set 5 none) S.length (([65, 66, 67] : List Nat).map fun c => .str [c]) S = .ok ((([65, 66, 67] : List Nat).filter fun c => [c] != [a]).map fun c => .str (t ++ [c])) S :=
    lc_map S (fun c : Nat => .str [c]) (fun c => (w.set 5 none).set 5 (some (.str [c]))) (fun c => [c] != [a]) (fun c => .str (t ++ [c])) _ (fun _ _ => rfl) (fun c _ => toT_eq (bin_eq (o := oNe) (v5 _ _) (ev_neg (v4 _ _) (q_ixS (at_last ha))) q_neS)) fun c hc hbc =>
      ⟨rfl, S, bin_eq (o := oAdd) (v4 _ _) (v5 _ _) (by rw [q_addS, if_pos (show t.length + ([c]).length ≤ SZ from hz)]), List.take_length⟩
  rw [lc_eq (it_eq con_eq rfl) (show ([PV.str [65], .str [66], .str [67]]).length < SZ from (by decide : (3 : Nat) < SZ)) rfl e]
  unfold txs ext lst0
  rw [ha, List.map_map, hb]
  rfl
end Lw

namespace Lw
open Pv L2
def denN (n q : Nat) : Nat := if n = 0 then 3 else 6 * q ^ (n - 1)
theorem den_n {t : List Nat} {n : Nat} (h : t.length = n + 1) (q : Nat) : den t q = denN n q := by
  unfold den denN fst3 nN hs
  rw [zz_len, h]
  by_cases h0 : n = 0
  · subst h0
    rw [if_neg (by omega), if_pos rfl]
    show 3 * q ^ 0 = 3
    rw [Nat.pow_zero]
  · rw [if_pos (by omega), if_neg h0, show n + 1 - 2 = n - 1 by omega]
def stepN (n q : Nat) : Nat := if n = 0 then 2 else q
theorem denN_step (n q : Nat) : denN (n + 1) q = denN n q * stepN n q := by
  unfold denN stepN
  by_cases h0 : n = 0
  · subst h0
    rw [if_neg (by omega), if_pos rfl, if_pos rfl]
    show 6 * q ^ 0 = 6
    rw [Nat.pow_zero]
  · rw [if_neg (by omega), if_neg h0, if_neg h0, Nat.mul_assoc, ← Nat.pow_succ, show (n - 1).succ = n + 1 - 1 by omega]
theorem denN_pos (n : Nat) {p q : Nat} (h : Ch p q) : 0 < denN n q := by
  unfold denN
  have := Nat.pow_pos (n := n - 1) (show 0 < q from h.pos)
  split <;> omega
def numS (ts : List (List Nat)) (p q : Nat) : Nat := (ts.map fun t => num t p q).sum
theorem numS_flat {p q : Nat} (h : Ch p q) (n : Nat) : ∀ (ts : List (List Nat)), (∀ t ∈ ts, Stk t ∧ t.length = n + 1) → numS (ts.flatMap ext) p q = numS ts p q * stepN n q
  | [], _ => by simp [numS]
  | t :: ts, hs => by
    obtain ⟨k, hl⟩ := hs t List.mem_cons_self
    obtain ⟨a, c1, c2, ha, e, n1, n2, x1, x2, x3, all⟩ := ext_two k
    have ih := numS_flat h n ts fun x hx => hs x (List.mem_cons_of_mem _ hx)
    obtain ⟨h1, h2⟩ := next_sum k h ha n1 n2 x1 x2 x3 all
    rw [den_n hl, den_n (t := t ++ [c1]) (n := n + 1) (by simp [hl]), denN_step] at h1
    have h3 : num (t ++ [c1]) p q + num (t ++ [c2]) p q = num t p q * stepN n q := by
      refine Nat.eq_of_mul_eq_mul_right (denN_pos n h) ?_
      rw [h1]
      ac_rfl
    unfold numS at ih ⊢
    rw [List.flatMap_cons, List.map_append, List.sum_append, ih, e]
    show num (t ++ [c1]) p q + (num (t ++ [c2]) p q + 0) + _ = _
    rw [List.map_cons, List.sum_cons, Nat.add_mul, Nat.add_zero, h3]
theorem numS_all {p q : Nat} (h : Ch p q) : ∀ n, n ≤ 20 → numS (allL n) p q = denN n q
  | 0, _ => by
    have e : ∀ c, num [c] p q = 1 := fun c => by
      rw [num_wp, show hs [c] = [] from rfl]
      rfl
    show num [65] p q + (num [66] p q + (num [67] p q + 0)) = 3
    rw [e, e, e]
  | n + 1, hn => by
    show numS ((allL n).flatMap ext) p q = _
    rw [numS_flat h n _ (allL_ok n (by omega)), numS_all h n (by omega), denN_step]
theorem numS_take (ts : List (List Nat)) (p q : Nat) (i : Nat) : numS (ts.take i) p q ≤ numS ts p q := by
  have e : numS ts p q = numS (ts.take i) p q + numS (ts.drop i) p q := by
    unfold numS
    rw [← List.sum_append, ← List.map_append, List.take_append_drop]
  omega
abbrev aE (n p q : Nat) (x : PV) (x3 a b x6 x7 : Option PV) : VEnv := [some (.int ((n + 1 : Nat) : Int)), some (chp p q), some x, x3, a, b, x6, x7]
end Lw

namespace Lw
open Pv L2
theorem take_pot {S0 S2 : Sto} {x : SO} (h : Dr S0.length (S0 ++ [x]) S2) : S2.take S0.length = S0 := by
  obtain ⟨a, b, c, rfl⟩ := h
  rw [List.take_set]
  have e : (S0 ++ [x]).take S0.length = S0 := by simp
  rw [e, List.set_eq_of_length_le (Nat.le_refl _)]
end Lw


namespace Pv
open L2
theorem it_eq {f : FE} {env : VEnv} {S S1 : Sto} {x : PV} {items : List PV} (h : f env S = .ok x S1) (hs : seqI x = some items) : iVal f env S = .ok items S1 := by
  rw [z_it, h, zb, hs]
theorem smI_of2 {n : Int} (h : -4611686018427387904 ≤ n ∧ n < 4611686018427387904) : smI n = true := by
  unfold smI
  rw [decide_eq_true (show -(2 ^ 62) ≤ n by omega), decide_eq_true (show n < 2 ^ 62 by omega)]
  rfl
/-! ### readings worked out by instances -/
/-- and, or, not of what may be known -/
class AndB (a b : Bool) (c : outParam Bool) : Prop where
  eq : (a && b) = c
instance (priority := low) {a b : Bool} : AndB a b (a && b) := ⟨rfl⟩
instance (priority := high) {b : Bool} : AndB true b b := ⟨rfl⟩
instance (priority := high) {b : Bool} : AndB false b false := ⟨rfl⟩
instance {a : Bool} : AndB a true a := ⟨by cases a <;> rfl⟩
instance {a : Bool} : AndB a false false := ⟨by cases a <;> rfl⟩
class OrB (a b : Bool) (c : outParam Bool) : Prop where
  eq : (a || b) = c
instance (priority := low) {a b : Bool} : OrB a b (a || b) := ⟨rfl⟩
instance (priority := high) {b : Bool} : OrB true b true := ⟨rfl⟩
instance (priority := high) {b : Bool} : OrB false b b := ⟨rfl⟩
instance {a : Bool} : OrB a false a := ⟨by cases a <;> rfl⟩
instance {a : Bool} : OrB a true true := ⟨by cases a <;> rfl⟩
class NotB (a : Bool) (c : outParam Bool) : Prop where
  eq : (!a) = c
instance (priority := low) {a : Bool} : NotB a (!a) := ⟨rfl⟩
instance : NotB true false := ⟨rfl⟩
instance : NotB false true := ⟨rfl⟩
class At (env : VEnv) (i : Nat) (v : outParam PV) : Prop where
  eq : env[i]? = some (some v)
instance {t : VEnv} {v : PV} : At (some v :: t) 0 v := ⟨rfl⟩
instance {t : VEnv} {x : Option PV} {n : Nat} {v : PV} [h : At t n v] : At (x :: t) (n + 1) v := ⟨h.eq⟩
class SetAt (env : VEnv) (i : Nat) (x : Option PV) (env' : outParam VEnv) : Prop where
  eq : env.set i x = env'
instance {t : VEnv} {a x : Option PV} : SetAt (a :: t) 0 x (x :: t) := ⟨rfl⟩
instance {t t' : VEnv} {a x : Option PV} {n : Nat} [h : SetAt t n x t'] : SetAt (a :: t) (n + 1) x (a :: t') := ⟨congrArg (a :: ·) h.eq⟩
class Wipe (env : VEnv) (vs : List Nat) (env' : outParam VEnv) : Prop where
  eq : wipeE env vs = env'
instance {env : VEnv} : Wipe env [] env := ⟨rfl⟩
instance {env e1 e2 : VEnv} {v : Nat} {vs : List Nat} [h : Wipe env vs e1] [k : SetAt e1 v none e2] : Wipe env (v :: vs) e2 := ⟨by
  show (wipeE env vs).set v none = e2
  rw [h.eq, k.eq]⟩
class SetP (p : Pat) (v : PV) (env : VEnv) (env' : outParam VEnv) : Prop where
  eq : setPat p v env = some env'
class SetPs (p : List Pat) (v : List PV) (env : VEnv) (env' : outParam VEnv) : Prop where
  eq : setPats p v env = some env'
instance {i : Nat} {v : PV} {env env' : VEnv} [h : SetAt env i (some v) env'] : SetP (.nm i) v env env' := ⟨congrArg some h.eq⟩
instance {ps : List Pat} {vs : List PV} {env env' : VEnv} [h : SetPs ps vs env env'] : SetP (.tp ps) (.tup vs) env env' := ⟨h.eq⟩
instance {env : VEnv} : SetPs [] [] env env := ⟨rfl⟩
instance {p : Pat} {ps : List Pat} {v : PV} {vs : List PV} {env e1 e2 : VEnv} [h : SetP p v env e1] [k : SetPs ps vs e1 e2] : SetPs (p :: ps) (v :: vs) env e2 := ⟨by
  show (match setPat p v env with
    | some env' => setPats ps vs env'
    | none => none) = _
  rw [h.eq]
  exact k.eq⟩
/-- one of two values -/
class IteV (b : Bool) (x y : PV) (z : outParam PV) : Prop where
  eq : (if b = true then x else y) = z
instance (priority := low) {b : Bool} {x y : PV} : IteV b x y (if b = true then x else y) := ⟨rfl⟩
instance (priority := high) {b : Bool} {x : PV} : IteV b x x x := ⟨by cases b <;> rfl⟩
instance (priority := high) {b : Bool} {x y : Nat} : IteV b (.str [x]) (.str [y]) (.str [if b = true then x else y]) := ⟨by cases b <;> rfl⟩
instance {b : Bool} {x y : List Nat} : IteV b (.str x) (.str y) (.str (if b = true then x else y)) := ⟨by cases b <;> rfl⟩
instance {b : Bool} {x y : Int} : IteV b (.int x) (.int y) (.int (if b = true then x else y)) := ⟨by cases b <;> rfl⟩
instance {b : Bool} {x y : Bool} : IteV b (.bl x) (.bl y) (.bl (if b = true then x else y)) := ⟨by cases b <;> rfl⟩
/-- expressions, tests, arguments, what is walked, operators, calls, methods, statements -/
class EvE (f : FE) (env : VEnv) (S : Sto) (v : outParam PV) (S' : outParam Sto) (C : outParam Prop) : Prop where
  run : C → f env S = .ok v S'
class EvT (f : FT) (env : VEnv) (S : Sto) (b : outParam Bool) (S' : outParam Sto) (C : outParam Prop) : Prop where
  run : C → f env S = .ok b S'
class EvA (f : FA) (env : VEnv) (S : Sto) (v : outParam (List PV)) (S' : outParam Sto) (C : outParam Prop) : Prop where
  run : C → f env S = .ok v S'
class EvI (f : FI) (env : VEnv) (S : Sto) {α : outParam Type} (xs : outParam (List α)) (φ : outParam (α → PV)) (S' : outParam Sto) (C : outParam Prop) : Prop where
  run : C → f env S = .ok (xs.map φ) S'
class EvO (f : FO) (env : VEnv) (S : Sto) (v : outParam (Option Int)) (S' : outParam Sto) (C : outParam Prop) : Prop where
  run : C → f env S = .ok v S'
class Ev2 (o : F2) (x y : PV) (S : Sto) (v : outParam PV) (C : outParam Prop) : Prop where
  run : C → o x y S = .ok v S
class EvF (F : FF) (xs : List PV) (S : Sto) (v : outParam PV) (S' : outParam Sto) (C : outParam Prop) : Prop where
  run : C → F xs S = .ok v S'
class EvM (G : FM) (x : PV) (xs : List PV) (S : Sto) (v : outParam PV) (S' : outParam Sto) (C : outParam Prop) : Prop where
  run : C → G x xs S = .ok v S'
class EvS (s : FS) (env : VEnv) (S : Sto) (r : outParam RS) (C : outParam Prop) : Prop where
  run : C → s env S = r
section
variable {b3 : Bool} {env e1 e2 e3 env' : VEnv} {S S1 S2 S3 : Sto} {f g h : FE} {t u : FT} {fa : FA} {x y z v w : PV} {C C1 C2 C3 : Prop} {b b1 b2 : Bool} {i j k : Nat} {o o' : F2}
instance [a : At env i v] : EvE (eVar i) env S v S True := ⟨fun _ => var_eq a.eq⟩
instance : EvE (eCon v) env S v S True := ⟨fun _ => rfl⟩
instance [a : EvE f env S x S1 C1] [c : EvE g env S1 y S2 C2] [d : Ev2 o x y S2 z C3] : EvE (eBin o f g) env S z S2 (C1 ∧ C2 ∧ C3) := ⟨fun q => bin_eq (a.run q.1) (c.run q.2.1) (d.run q.2.2)⟩
instance : EvA aNil env S [] S True := ⟨fun _ => rfl⟩
instance {xs : List PV} [a : EvE f env S x S1 C1] [c : EvA fa env S1 xs S2 C2] : EvA (aCons f fa) env S (x :: xs) S2 (C1 ∧ C2) := ⟨fun q => by rw [z_cons, a.run q.1, zb, c.run q.2, zb]⟩
instance {F : FF} {xs : List PV} [a : EvA fa env S xs S1 C1] [c : EvF F xs S1 v S2 C2] : EvE (eCall F fa) env S v S2 (C1 ∧ C2) := ⟨fun q => by rw [z_call, a.run q.1, zb, c.run q.2]⟩
/-- arguments by name -/
class Perm (is : List Nat) (xs : List PV) (ys : outParam (List PV)) : Prop where
  eq : permL is xs = ys
instance {xs : List PV} : Perm [] xs [] := ⟨rfl⟩
class AtP (xs : List PV) (i : Nat) (v : outParam PV) : Prop where
  eq : xs[i]? = some v
instance {t : List PV} : AtP (v :: t) 0 v := ⟨rfl⟩
instance {t : List PV} [a : AtP t k v] : AtP (x :: t) (k + 1) v := ⟨a.eq⟩
instance {is : List Nat} {xs ys : List PV} [a : AtP xs i v] [c : Perm is xs ys] : Perm (i :: is) xs (v :: ys) := ⟨by
  have := c.eq
  unfold permL at this ⊢
  rw [List.filterMap_cons, a.eq, this]⟩
instance {F : FF} {n : Nat} {is : List Nat} {xs ys : List PV} [a : EvA fa env S xs S1 C1] [p : Perm is xs ys] [c : EvF F ys S1 v S2 C2] : EvE (eCallK F n is fa) env S v S2 (C1 ∧ xs.length = n ∧ C2) := ⟨fun q => by
  rw [z_callK, a.run q.1, zb, if_pos q.2.1, p.eq, c.run q.2.2]⟩
class Kd (T : String) (S : Sto) (x : PV) (C : outParam Prop) : Prop where
  run : C → kdB T S x = true
instance {a : List Nat} : Kd "str" S (.str a) True := ⟨fun _ => rfl⟩
instance {xs : List PV} : Kd "list" S (.lst xs) True := ⟨fun _ => rfl⟩
instance {n : Nat} : Kd "list" S (.ref n) (n < S.length) := ⟨fun h => by
  show ("list" == "list" && decide (n < S.length)) = true
  rw [decide_eq_true h]; rfl⟩
/-- whether a value may stand in a list -/
class IsPV (x : PV) (C : outParam Prop) : Prop where
  run : C → isP x = true
instance {a : List Nat} : IsPV (.str a) True := ⟨fun _ => rfl⟩
instance {n : Int} : IsPV (.int n) True := ⟨fun _ => rfl⟩
instance : IsPV (.bl b) True := ⟨fun _ => rfl⟩
instance : IsPV .non True := ⟨fun _ => rfl⟩
instance {xs : List PV} : IsPV (.tup xs) True := ⟨fun _ => rfl⟩
instance {xs : List PV} : IsPV (.lst xs) True := ⟨fun _ => rfl⟩
instance {xs : List Int} : IsPV (.scr xs) True := ⟨fun _ => rfl⟩
instance [a : IsPV x C1] [c : IsPV y C2] : IsPV (if b = true then x else y) (C1 ∧ C2) := ⟨fun q => by cases b <;> first | exact a.run q.1 | exact c.run q.2⟩
class AllP (xs : List PV) (C : outParam Prop) : Prop where
  run : C → xs.all isP = true
instance : AllP [] True := ⟨fun _ => rfl⟩
instance {xs : List PV} [a : IsPV x C1] [c : AllP xs C2] : AllP (x :: xs) (C1 ∧ C2) := ⟨fun q => by rw [List.all_cons, a.run q.1, c.run q.2]; rfl⟩
instance {G : FM} {T : String} {xs : List PV} [a : EvE f env S x S1 C1] [m : Kd T S1 x C] [c : EvA fa env S1 xs S2 C2] [d : EvM G x xs S2 v S3 C3] : EvE (eMeth T G f fa) env S v S3 (C1 ∧ C ∧ C2 ∧ C3) := ⟨fun q => by
  rw [z_meth, a.run q.1, zb, if_pos (m.run q.2.1), c.run q.2.2.1, zb, d.run q.2.2.2]⟩
class Few (xs : List PV) : Prop where
  le : xs.length ≤ 16777216
class FewN (xs : List PV) (n : outParam Nat) : Prop where
  le : xs.length = n
instance : FewN [] 0 := ⟨rfl⟩
instance {xs : List PV} {n : Nat} [a : FewN xs n] : FewN (x :: xs) (n + 1) := ⟨congrArg (· + 1) a.le⟩
instance {xs : List PV} {n : Nat} [a : EvA fa env S xs S1 C1] [m : AllP xs C2] [l : FewN xs n] : EvE (eTup fa) env S (.tup xs) S1 (C1 ∧ n ≤ 16777216 ∧ C2) := ⟨fun q => by
  have q : C1 ∧ xs.length ≤ 16777216 ∧ xs.all isP = true := ⟨q.1, by rw [l.le]; exact q.2.1, m.run q.2.2⟩
  rw [z_tup, a.run q.1, zb, if_pos (by rw [q.2.2, decide_eq_true (show xs.length ≤ SZ from q.2.1)]; rfl)]⟩
instance {xs : List PV} [a : EvA fa env S xs S1 C1] : EvE (eFrz fa) env S (.lst xs) S1 C1 := ⟨fun q => by rw [z_frz, a.run q, zb]⟩
instance {xs : List PV} [a : EvA fa env S xs S1 C1] : EvE (eCell fa) env S (.ref S1.length) (S1 ++ [.lst xs]) C1 := ⟨fun q => by rw [z_cell, a.run q, zb]⟩
instance {xs : List PV} {n : Nat} [a : EvA fa env S xs S1 C1] [m : AllP xs C2] [l : FewN xs n] : EvA (lDisp fa) env S xs S1 (C1 ∧ n ≤ 16777216 ∧ C2) := ⟨fun q => by
  have q : C1 ∧ xs.length ≤ 16777216 ∧ xs.all isP = true := ⟨q.1, by rw [l.le]; exact q.2.1, m.run q.2.2⟩
  rw [z_disp, a.run q.1, zb, if_pos (by rw [q.2.2, decide_eq_true (show xs.length ≤ SZ from q.2.1)]; rfl)]⟩
/-! tests -/
instance [a : EvE f env S (.bl b) S1 C] : EvT (toT f) env S b S1 C := ⟨fun q => toT_eq (a.run q)⟩
instance [a : EvT t env S b S1 C] [n : NotB b b1] : EvT (tNot' t) env S b1 S1 C := ⟨fun q => by rw [not_eq (a.run q), n.eq]⟩
class AndD (b : Bool) (u : FT) (env : VEnv) (S : Sto) (c : outParam Bool) (S' : outParam Sto) (C : outParam Prop) : Prop where
  run : C → (if b = true then u env S else .ok false S) = .ok c S'
instance (priority := high) [c : EvT u env S b2 S1 C] : AndD true u env S b2 S1 C := ⟨fun q => by rw [if_pos rfl, c.run q]⟩
instance (priority := high) : AndD false u env S false S True := ⟨fun _ => if_neg Bool.false_ne_true⟩
instance (priority := low) [c : EvT u env S b2 S C] [n : AndB b1 b2 b3] : AndD b1 u env S b3 S (b1 = true → C) := ⟨fun q => by
  rw [← n.eq]
  cases b1 with
  | true => rw [if_pos rfl, c.run (q rfl)]; rfl
  | false => rw [if_neg Bool.false_ne_true]; rfl⟩
instance [a : EvT t env S b1 S1 C1] [c : AndD b1 u env S1 b2 S2 C2] : EvT (tAnd' t u) env S b2 S2 (C1 ∧ C2) := ⟨fun q => by
  rw [z_and', a.run q.1, zb, c.run q.2]⟩
class OrD (b : Bool) (u : FT) (env : VEnv) (S : Sto) (c : outParam Bool) (S' : outParam Sto) (C : outParam Prop) : Prop where
  run : C → (if b = true then .ok true S else u env S) = .ok c S'
instance (priority := high) [c : EvT u env S b2 S1 C] : OrD false u env S b2 S1 C := ⟨fun q => by rw [if_neg Bool.false_ne_true, c.run q]⟩
instance (priority := high) : OrD true u env S true S True := ⟨fun _ => if_pos rfl⟩
instance (priority := low) [c : EvT u env S b2 S C] [n : OrB b1 b2 b3] : OrD b1 u env S b3 S (b1 = false → C) := ⟨fun q => by
  rw [← n.eq]
  cases b1 with
  | false => rw [if_neg Bool.false_ne_true, c.run (q rfl)]; rfl
  | true => rw [if_pos rfl]; rfl⟩
instance [a : EvT t env S b1 S1 C1] [c : OrD b1 u env S1 b2 S2 C2] : EvT (tOr' t u) env S b2 S2 (C1 ∧ C2) := ⟨fun q => by
  rw [z_or', a.run q.1, zb, c.run q.2]⟩
instance : EvT tYes' env S true S True := ⟨fun _ => rfl⟩
class EAndD (b : Bool) (g : FE) (env : VEnv) (S : Sto) (v : outParam PV) (S' : outParam Sto) (C : outParam Prop) : Prop where
  run : C → (if b = true then g env S else .ok (.bl false) S) = .ok v S'
instance (priority := high) [c : EvE g env S v S1 C] : EAndD true g env S v S1 C := ⟨fun q => by rw [if_pos rfl, c.run q]⟩
instance (priority := high) : EAndD false g env S (.bl false) S True := ⟨fun _ => if_neg Bool.false_ne_true⟩
instance (priority := low) [c : EvE g env S (.bl b2) S C] [n : AndB b1 b2 b3] : EAndD b1 g env S (.bl b3) S (b1 = true → C) := ⟨fun q => by
  rw [← n.eq]
  cases b1 with
  | true => rw [if_pos rfl, c.run (q rfl)]; rfl
  | false => rw [if_neg Bool.false_ne_true]; rfl⟩
instance [a : EvE f env S (.bl b1) S1 C1] [c : EAndD b1 g env S1 v S2 C2] : EvE (eAnd f g) env S v S2 (C1 ∧ C2) := ⟨fun q => by
  rw [z_and, a.run q.1, zb, ← c.run q.2]
  cases b1 <;> rfl⟩
class EOrD (b : Bool) (g : FE) (env : VEnv) (S : Sto) (v : outParam PV) (S' : outParam Sto) (C : outParam Prop) : Prop where
  run : C → (if b = true then .ok (.bl true) S else g env S) = .ok v S'
instance (priority := high) [c : EvE g env S v S1 C] : EOrD false g env S v S1 C := ⟨fun q => by rw [if_neg Bool.false_ne_true, c.run q]⟩
instance (priority := high) : EOrD true g env S (.bl true) S True := ⟨fun _ => if_pos rfl⟩
instance (priority := low) [c : EvE g env S (.bl b2) S C] [n : OrB b1 b2 b3] : EOrD b1 g env S (.bl b3) S (b1 = false → C) := ⟨fun q => by
  rw [← n.eq]
  cases b1 with
  | false => rw [if_neg Bool.false_ne_true, c.run (q rfl)]; rfl
  | true => rw [if_pos rfl]; rfl⟩
instance [a : EvE f env S (.bl b1) S1 C1] [c : EOrD b1 g env S1 v S2 C2] : EvE (eOr f g) env S v S2 (C1 ∧ C2) := ⟨fun q => by
  rw [z_or, a.run q.1, zb, ← c.run q.2]
  cases b1 <;> rfl⟩
class IfD (b : Bool) (f g : FE) (env : VEnv) (S : Sto) (v : outParam PV) (S' : outParam Sto) (C : outParam Prop) : Prop where
  run : C → (if b = true then f env S else g env S) = .ok v S'
instance (priority := high) [c : EvE f env S v S1 C] : IfD true f g env S v S1 C := ⟨fun q => by rw [if_pos rfl, c.run q]⟩
instance (priority := high) [c : EvE g env S v S1 C] : IfD false f g env S v S1 C := ⟨fun q => by rw [if_neg Bool.false_ne_true, c.run q]⟩
instance (priority := low) [c : EvE f env S x S1 C1] [d : EvE g env S y S1 C2] [e : IteV b x y z] : IfD b f g env S z S1 ((b = true → C1) ∧ (b = false → C2)) := ⟨fun q => by
  rw [← e.eq]
  cases b with
  | true => rw [if_pos rfl, if_pos rfl, c.run (q.1 rfl)]
  | false => rw [if_neg Bool.false_ne_true, if_neg Bool.false_ne_true, d.run (q.2 rfl)]⟩
instance [a : EvT t env S b S1 C] [c : IfD b f g env S1 v S2 C1] : EvE (eIf t f g) env S v S2 (C ∧ C1) := ⟨fun q => by
  rw [z_if, a.run q.1, zb, c.run q.2]⟩
instance [a : EvE f env S (.bl b) S1 C] [n : NotB b b1] : EvE (eNot f) env S (.bl b1) S1 C := ⟨fun q => by rw [z_not, a.run q, zb, ← n.eq]⟩
instance {n : Int} [a : EvE f env S (.int n) S1 C] : EvE (eNeg f) env S (.int (-n)) S1 C := ⟨fun q => by rw [z_neg, a.run q, zb]⟩
instance [a : EvE f env S x S1 C] [c : EvE g env S1 y S2 C1] [d : Ev2 o x y S2 (.bl b1) C2] [e : EvE h env S2 w S2 C3] {C4 : Prop} [k : Ev2 o' y w S2 (.bl b2) C4] [n : AndB b1 b2 b3] : EvE (eChain o o' f g h) env S (.bl b3) S2 (C ∧ C1 ∧ C2 ∧ (b1 = true → C3 ∧ C4)) := ⟨fun q => by
  rw [← n.eq, z_chain, a.run q.1, zb, c.run q.2.1, zb, d.run q.2.2.1, zb]
  cases b1 with
  | true => exact (show (h env S2).bind _ = _ by rw [e.run (q.2.2.2 rfl).1, zb, k.run (q.2.2.2 rfl).2]; rfl)
  | false => rfl⟩
class Kit (v : PV) (T : String) (b : outParam Bool) : Prop where
  eq : kitB (tyPV v) T = some b
theorem kt_NoneType_int : kitB "NoneType" "int" = some false := by decide +kernel
theorem kt_NoneType_bool : kitB "NoneType" "bool" = some false := by decide +kernel
theorem kt_NoneType_str : kitB "NoneType" "str" = some false := by decide +kernel
theorem kt_NoneType_tuple : kitB "NoneType" "tuple" = some false := by decide +kernel
theorem kt_NoneType_list : kitB "NoneType" "list" = some false := by decide +kernel
theorem kt_bool_int : kitB "bool" "int" = some true := by decide +kernel
theorem kt_bool_bool : kitB "bool" "bool" = some true := by decide +kernel
theorem kt_bool_str : kitB "bool" "str" = some false := by decide +kernel
theorem kt_bool_tuple : kitB "bool" "tuple" = some false := by decide +kernel
theorem kt_bool_list : kitB "bool" "list" = some false := by decide +kernel
theorem kt_int_int : kitB "int" "int" = some true := by decide +kernel
theorem kt_int_bool : kitB "int" "bool" = some false := by decide +kernel
theorem kt_int_str : kitB "int" "str" = some false := by decide +kernel
theorem kt_int_tuple : kitB "int" "tuple" = some false := by decide +kernel
theorem kt_int_list : kitB "int" "list" = some false := by decide +kernel
theorem kt_str_int : kitB "str" "int" = some false := by decide +kernel
theorem kt_str_bool : kitB "str" "bool" = some false := by decide +kernel
theorem kt_str_str : kitB "str" "str" = some true := by decide +kernel
theorem kt_str_tuple : kitB "str" "tuple" = some false := by decide +kernel
theorem kt_str_list : kitB "str" "list" = some false := by decide +kernel
theorem kt_tuple_int : kitB "tuple" "int" = some false := by decide +kernel
theorem kt_tuple_bool : kitB "tuple" "bool" = some false := by decide +kernel
theorem kt_tuple_str : kitB "tuple" "str" = some false := by decide +kernel
theorem kt_tuple_tuple : kitB "tuple" "tuple" = some true := by decide +kernel
theorem kt_tuple_list : kitB "tuple" "list" = some false := by decide +kernel
theorem kt_list_int : kitB "list" "int" = some false := by decide +kernel
theorem kt_list_bool : kitB "list" "bool" = some false := by decide +kernel
theorem kt_list_str : kitB "list" "str" = some false := by decide +kernel
theorem kt_list_tuple : kitB "list" "tuple" = some false := by decide +kernel
theorem kt_list_list : kitB "list" "list" = some true := by decide +kernel
instance : Kit (.non) "int" false := ⟨kt_NoneType_int⟩
instance : Kit (.non) "bool" false := ⟨kt_NoneType_bool⟩
instance : Kit (.non) "str" false := ⟨kt_NoneType_str⟩
instance : Kit (.non) "tuple" false := ⟨kt_NoneType_tuple⟩
instance : Kit (.non) "list" false := ⟨kt_NoneType_list⟩
instance : Kit (.bl b) "int" true := ⟨kt_bool_int⟩
instance : Kit (.bl b) "bool" true := ⟨kt_bool_bool⟩
instance : Kit (.bl b) "str" false := ⟨kt_bool_str⟩
instance : Kit (.bl b) "tuple" false := ⟨kt_bool_tuple⟩
instance : Kit (.bl b) "list" false := ⟨kt_bool_list⟩
instance {n : Int} : Kit (.int n) "int" true := ⟨kt_int_int⟩
instance {n : Int} : Kit (.int n) "bool" false := ⟨kt_int_bool⟩
instance {n : Int} : Kit (.int n) "str" false := ⟨kt_int_str⟩
instance {n : Int} : Kit (.int n) "tuple" false := ⟨kt_int_tuple⟩
instance {n : Int} : Kit (.int n) "list" false := ⟨kt_int_list⟩
instance {l : List Nat} : Kit (.str l) "int" false := ⟨kt_str_int⟩
instance {l : List Nat} : Kit (.str l) "bool" false := ⟨kt_str_bool⟩
instance {l : List Nat} : Kit (.str l) "str" true := ⟨kt_str_str⟩
instance {l : List Nat} : Kit (.str l) "tuple" false := ⟨kt_str_tuple⟩
instance {l : List Nat} : Kit (.str l) "list" false := ⟨kt_str_list⟩
instance {l : List PV} : Kit (.tup l) "int" false := ⟨kt_tuple_int⟩
instance {l : List PV} : Kit (.tup l) "bool" false := ⟨kt_tuple_bool⟩
instance {l : List PV} : Kit (.tup l) "str" false := ⟨kt_tuple_str⟩
instance {l : List PV} : Kit (.tup l) "tuple" true := ⟨kt_tuple_tuple⟩
instance {l : List PV} : Kit (.tup l) "list" false := ⟨kt_tuple_list⟩
instance {l : List PV} : Kit (.lst l) "int" false := ⟨kt_list_int⟩
instance {l : List PV} : Kit (.lst l) "bool" false := ⟨kt_list_bool⟩
instance {l : List PV} : Kit (.lst l) "str" false := ⟨kt_list_str⟩
instance {l : List PV} : Kit (.lst l) "tuple" false := ⟨kt_list_tuple⟩
instance {l : List PV} : Kit (.lst l) "list" true := ⟨kt_list_list⟩
instance {l : List Int} : Kit (.scr l) "int" false := ⟨kt_list_int⟩
instance {l : List Int} : Kit (.scr l) "bool" false := ⟨kt_list_bool⟩
instance {l : List Int} : Kit (.scr l) "str" false := ⟨kt_list_str⟩
instance {l : List Int} : Kit (.scr l) "tuple" false := ⟨kt_list_tuple⟩
instance {l : List Int} : Kit (.scr l) "list" true := ⟨kt_list_list⟩
instance {T : String} [a : EvE f env S v S1 C] [c : Kit v T b] : EvE (eIsi T f) env S (.bl b) S1 C := ⟨fun q => by
  rw [z_isi, a.run q, zb, c.eq]⟩
instance : EvO oNone env S none S True := ⟨fun _ => rfl⟩
instance {n : Int} [a : EvE f env S (.int n) S1 C] : EvO (oSome f) env S (some n) S1 C := ⟨fun q => by rw [z_oS, a.run q, zb]⟩
class EvSl (x : PV) (l h : Option Int) (S : Sto) (v : outParam PV) (C : outParam Prop) : Prop where
  run : C → oSl x l h S = .ok v S
instance {fl fh : FO} {l m : Option Int} [a : EvE f env S x S1 C] [c : EvO fl env S1 l S2 C1] [d : EvO fh env S2 m S3 C2] [e : EvSl x l m S3 v C3] : EvE (eSl f fl fh) env S v S3 (C ∧ C1 ∧ C2 ∧ C3) := ⟨fun q => by
  rw [z_sl, a.run q.1, zb, c.run q.2.1, zb, d.run q.2.2.1, zb, e.run q.2.2.2]⟩
class EvRv (x : PV) (S : Sto) (v : outParam PV) (C : outParam Prop) : Prop where
  run : C → oRev x S = .ok v S
instance [a : EvE f env S x S1 C] [c : EvRv x S1 v C1] : EvE (eRev f) env S v S1 (C ∧ C1) := ⟨fun q => by rw [z_rev, a.run q.1, zb, c.run q.2]⟩
/-! comprehensions -/
instance (priority := high) lcYes {α : Type} {xs : List α} {φ : α → PV} {it : FI} {p : Pat} {elt : FE} {vs : List Nat} {E : α → VEnv} {y : α → PV} {Ce Cp : α → Prop} [a : EvI it env S xs φ S C] [c : Wipe env vs e1] [d : ∀ x, SetP p (φ x) e1 (E x)] [e : ∀ x, EvE elt (E x) S (y x) S (Ce x)] [l : ∀ x, IsPV (y x) (Cp x)] :
    EvA (fLc p it tYes' elt vs) env S (xs.map y) S (C ∧ xs.length < 16777216 ∧ ∀ x ∈ xs, Ce x ∧ Cp x) := ⟨fun q => by
  rw [z_lc, a.run q.1, zb, if_pos (show (xs.map φ).length < SZ by rw [List.length_map]; exact q.2.1), c.eq]
  exact lc_all1 S φ E y xs (fun x _ => (d x).eq) fun x hx => ⟨(l x).run (q.2.2 x hx).2, (e x).run (q.2.2 x hx).1⟩⟩
instance lcIf {α : Type} {xs : List α} {φ : α → PV} {it : FI} {p : Pat} {elt : FE} {vs : List Nat} {E : α → VEnv} {y : α → PV} {bt : α → Bool} {Ct Ce Cp : α → Prop} [a : EvI it env S xs φ S C] [c : Wipe env vs e1] [d : ∀ x, SetP p (φ x) e1 (E x)] [m : ∀ x, EvT t (E x) S (bt x) S (Ct x)] [e : ∀ x, EvE elt (E x) S (y x) S (Ce x)] [l : ∀ x, IsPV (y x) (Cp x)] :
    EvA (fLc p it t elt vs) env S ((xs.filter bt).map y) S (C ∧ xs.length < 16777216 ∧ ∀ x ∈ xs, Ct x ∧ (bt x = true → Ce x ∧ Cp x)) := ⟨fun q => by
  rw [z_lc, a.run q.1, zb, if_pos (show (xs.map φ).length < SZ by rw [List.length_map]; exact q.2.1), c.eq]
  exact lc_map S φ E bt y xs (fun x _ => (d x).eq) (fun x hx => (m x).run (q.2.2 x hx).1) fun x hx hb => ⟨(l x).run ((q.2.2 x hx).2 hb).2, S, (e x).run ((q.2.2 x hx).2 hb).1, List.take_length⟩⟩
/-! what is walked -/
class Items (v : PV) (S : Sto) {α : outParam Type} (xs : outParam (List α)) (φ : outParam (α → PV)) : Prop where
  eq : seqI v = some (xs.map φ)
instance {l : List Nat} : Items (.str l) S l (fun c => .str [c]) := ⟨rfl⟩
instance {ns : List Int} : Items (.scr ns) S ns .int := ⟨rfl⟩
instance {α : Type} {xs : List α} {φ : α → PV} : Items (.lst (xs.map φ)) S xs φ := ⟨rfl⟩
instance {α : Type} {xs : List α} {φ : α → PV} : Items (.tup (xs.map φ)) S xs φ := ⟨rfl⟩
class Lits (ys : List PV) {α : outParam Type} (xs : outParam (List α)) (φ : outParam (α → PV)) : Prop where
  eq : ys = xs.map φ
instance {n : Int} : Lits [.int n] [n] .int := ⟨rfl⟩
instance {n : Int} {ys : List PV} {xs : List Int} [a : Lits ys xs .int] : Lits (.int n :: ys) (n :: xs) .int := ⟨congrArg (PV.int n :: ·) a.eq⟩
instance {n : List Nat} : Lits [.str n] [n] .str := ⟨rfl⟩
instance {n : List Nat} {ys : List PV} {xs : List (List Nat)} [a : Lits ys xs .str] : Lits (.str n :: ys) (n :: xs) .str := ⟨congrArg (PV.str n :: ·) a.eq⟩
instance {α : Type} {ys : List PV} {xs : List α} {φ : α → PV} [a : Lits ys xs φ] : Items (.lst ys) S xs φ := ⟨congrArg some a.eq⟩
instance {α : Type} {ys : List PV} {xs : List α} {φ : α → PV} [a : Lits ys xs φ] : Items (.tup ys) S xs φ := ⟨congrArg some a.eq⟩
instance {α : Type} {xs : List α} {φ : α → PV} [a : EvE f env S x S1 C] [c : Items x S1 xs φ] : EvI (iVal f) env S xs φ S1 C := ⟨fun q => it_eq (a.run q) c.eq⟩
instance {n : Int} [a : EvA fa env S [.int n] S1 C] : EvI (iRg fa) env S (List.range n.toNat) (fun k => .int (k : Nat)) S1 (C ∧ -4611686018427387904 ≤ n ∧ n < 4611686018427387904) := ⟨fun q => by
  rw [irg1 (a.run q.1) (smI_of2 q.2)]
  unfold rgI
  congr 1
  apply List.map_congr_left
  intro k _
  congr 1
  omega⟩
instance {m n : Int} [a : EvA fa env S [.int m, .int n] S1 C] : EvI (iRg fa) env S (List.range (n - m).toNat) (fun k => .int (m + (k : Nat))) S1 (C ∧ (-4611686018427387904 ≤ m ∧ m < 4611686018427387904) ∧ -4611686018427387904 ≤ n ∧ n < 4611686018427387904) := ⟨fun q => by
  rw [irg2 (a.run q.1) (smI_of2 q.2.1) (smI_of2 q.2.2)]
  unfold rgI
  congr 1
  apply List.map_congr_left
  intro k _
  congr 1
  omega⟩
instance {α β : Type} {xs : List α} {φ : α → PV} {ys : List β} {ψ : β → PV} [a : EvA fa env S [x, y] S1 C] [c : Items x S1 xs φ] [d : Items y S1 ys ψ] : EvI (iZip' fa) env S (xs.zip ys) (fun p => .tup [φ p.1, ψ p.2]) S1 C := ⟨fun q => by
  unfold iZip'
  rw [a.run q, zb]
  show (match seqI x, seqI y with
    | some a, some b => R.ok (List.zipWith (fun p q => PV.tup [p, q]) a b) S1
    | _, _ => .no) = _
  rw [c.eq, d.eq]
  show R.ok (List.zipWith (fun p q => PV.tup [p, q]) (xs.map φ) (ys.map ψ)) S1 = _
  rw [List.zipWith_map, List.zip, List.map_zipWith]⟩
instance {α : Type} {xs : List α} {φ : α → PV} [a : EvE f env S x S1 C] [c : Items x S1 xs φ] : EvI (iEnum' f) env S xs.zipIdx (fun p => .tup [.int (p.2 : Nat), φ p.1]) S1 C := ⟨fun q => by
  unfold iEnum'
  rw [a.run q, zb, c.eq]
  show R.ok _ S1 = _
  congr 1
  rw [List.zipIdx_map, List.map_map]
  rfl⟩
/-! statements -/
class IteEnv (b : Bool) (a c : VEnv) (d : outParam VEnv) : Prop where
  eq : (if b = true then a else c) = d
instance : IteEnv b [] [] [] := ⟨by cases b <;> rfl⟩
instance (priority := high) {p : Option PV} {s t r : VEnv} [a : IteEnv b s t r] : IteEnv b (p :: s) (p :: t) (p :: r) := ⟨by rw [← a.eq]; cases b <;> rfl⟩
instance {s t r : VEnv} [k : IteV b x y z] [a : IteEnv b s t r] : IteEnv b (some x :: s) (some y :: t) (some z :: r) := ⟨by rw [← a.eq, ← k.eq]; cases b <;> rfl⟩
instance (priority := low) {p p' : Option PV} {s t r : VEnv} [a : IteEnv b s t r] : IteEnv b (p :: s) (p' :: t) ((if b = true then p else p') :: r) := ⟨by rw [← a.eq]; cases b <;> rfl⟩
class IteS (b : Bool) (r1 r2 : RS) (r : outParam RS) : Prop where
  eq : (if b = true then r1 else r2) = r
instance [a : IteEnv b e1 e2 e3] : IteS b (.nx e1 S) (.nx e2 S) (.nx e3 S) := ⟨by rw [← a.eq]; cases b <;> rfl⟩
instance [a : IteV b x y z] : IteS b (.ret x S) (.ret y S) (.ret z S) := ⟨by rw [← a.eq]; cases b <;> rfl⟩
instance (priority := low) {r1 r2 : RS} : IteS b r1 r2 (if b = true then r1 else r2) := ⟨rfl⟩
instance : EvS sNil env S (.nx env S) True := ⟨fun _ => rfl⟩
instance [a : EvE f env S v S1 C] : EvS (sRet f) env S (.ret v S1) C := ⟨fun q => ret_eq (a.run q)⟩
instance [a : EvE f env S v S1 C] : EvS (sExpr f) env S (.nx env S1) C := ⟨fun q => exp_eq (a.run q)⟩
instance [a : EvE f env S v S1 C] [c : SetAt env i (some v) e1] : EvS (sSet i f) env S (.nx e1 S1) C := ⟨fun q => by rw [set_eq (a.run q), c.eq]⟩
instance {p : Pat} [a : EvE f env S v S1 C] [c : SetP p v env e1] : EvS (sAsg p f) env S (.nx e1 S1) C := ⟨fun q => asg_eq (a.run q) c.eq⟩
instance [a : EvA fa env S [x, y] S1 C] [c : SetAt env i (some x) e1] [d : SetAt e1 j (some y) e2] : EvS (sPar i j fa) env S (.nx e2 S1) C := ⟨fun q => by rw [z_par, a.run q, zbS, ← d.eq, ← c.eq]⟩
instance [a : EvA fa env S [x, y, z] S1 C] [c : SetAt env i (some x) e1] [d : SetAt e1 j (some y) e2] [e : SetAt e2 k (some z) e3] : EvS (sPar3 i j k fa) env S (.nx e3 S1) C := ⟨fun q => by rw [z_par3, a.run q, zbS, ← e.eq, ← d.eq, ← c.eq]⟩
class SIfD (b : Bool) (p q : FS) (env : VEnv) (S : Sto) (r : outParam RS) (C : outParam Prop) : Prop where
  run : C → (if b = true then p env S else q env S) = r
instance (priority := high + 10) {p q' : FS} {r : RS} [c : EvS p env S r C] : SIfD true p q' env S r C := ⟨fun q => by rw [if_pos rfl, c.run q]⟩
instance (priority := high + 10) {p q' : FS} {r : RS} [c : EvS q' env S r C] : SIfD false p q' env S r C := ⟨fun q => by rw [if_neg Bool.false_ne_true, c.run q]⟩
instance (priority := high) chkF : SIfD b (sRet (eCon (.bl false))) sNil env S (.nx env S) (b = false) := ⟨fun q => by rw [q]; rfl⟩
instance (priority := high) chkN : SIfD b sNo sNil env S (.nx env S) (b = false) := ⟨fun q => by rw [q]; rfl⟩
instance (priority := low) {p q' : FS} {r1 r2 r : RS} [c : EvS p env S r1 C1] [d : EvS q' env S r2 C2] [e : IteS b r1 r2 r] : SIfD b p q' env S r ((b = true → C1) ∧ (b = false → C2)) := ⟨fun q => by
  rw [← e.eq]
  cases b with
  | true => rw [if_pos rfl, if_pos rfl, c.run (q.1 rfl)]
  | false => rw [if_neg Bool.false_ne_true, if_neg Bool.false_ne_true, d.run (q.2 rfl)]⟩
instance {p q' : FS} {r : RS} [a : EvT t env S b S1 C] [c : SIfD b p q' env S1 r C1] : EvS (sIf t p q') env S r (C ∧ C1) := ⟨fun q => by
  rw [z_sif, a.run q.1, zbS, c.run q.2]⟩
class SeqR (r1 : RS) (B : FS) (r : outParam RS) (C : outParam Prop) : Prop where
  run : C → (match r1 with
    | .nx env' S' => B env' S'
    | .ret v S' => .ret v S'
    | .no => .no) = r
instance {B : FS} {r : RS} [a : EvS B env S r C] : SeqR (.nx env S) B r C := ⟨a.run⟩
instance {B : FS} : SeqR (.ret v S) B (.ret v S) True := ⟨fun _ => rfl⟩
instance {B : FS} {r1 r2 p1 p2 r : RS} [a : SeqR r1 B p1 C1] [c : SeqR r2 B p2 C2] [d : IteS b p1 p2 r] : SeqR (if b = true then r1 else r2) B r ((b = true → C1) ∧ (b = false → C2)) := ⟨fun q => by
  rw [← d.eq]
  cases b with
  | true => rw [if_pos rfl, if_pos rfl]; exact a.run (q.1 rfl)
  | false => rw [if_neg Bool.false_ne_true, if_neg Bool.false_ne_true]; exact c.run (q.2 rfl)⟩
instance {A B : FS} {r1 r : RS} [a : EvS A env S r1 C1] [c : SeqR r1 B r C2] : EvS (sSeq A B) env S r (C1 ∧ C2) := ⟨fun q => by
  rw [z_seq, a.run q.1]
  exact c.run q.2⟩
/-! what a def gives back -/
class OutR (n : Nat) (r : RS) (v : outParam PV) (S' : outParam Sto) (C : outParam Prop) : Prop where
  run : C → outS n r = .ok v S'
instance [a : IsPV v C] : OutR S.length (.ret v S) v S C := ⟨fun q => by rw [z_out_ret, out_pure (a.run q), List.take_length]⟩
instance : OutR S.length (.nx env S) .non S True := ⟨fun _ => by rw [z_out_nx, List.take_length]⟩
instance {n : Nat} {r1 r2 : RS} [a : OutR n r1 x S C1] [c : OutR n r2 y S C2] [d : IteV b x y z] : OutR n (if b = true then r1 else r2) z S ((b = true → C1) ∧ (b = false → C2)) := ⟨fun q => by
  rw [← d.eq]
  cases b with
  | true => rw [if_pos rfl, if_pos rfl]; exact a.run (q.1 rfl)
  | false => rw [if_neg Bool.false_ne_true, if_neg Bool.false_ne_true]; exact c.run (q.2 rfl)⟩
class Start (xs : List PV) (N : Nat) (env : outParam VEnv) : Prop where
  eq : startE N xs = env
instance : Start [] 0 [] := ⟨rfl⟩
instance {N : Nat} [a : Start [] N env] : Start [] (N + 1) (none :: env) := ⟨by
  rw [← a.eq]
  show [] ++ List.replicate (N + 1) none = none :: ([] ++ List.replicate N none)
  rfl⟩
instance {N : Nat} {xs : List PV} [a : Start xs N env] : Start (x :: xs) (N + 1) (some x :: env) := ⟨by
  rw [← a.eq]
  show (some x :: xs.map some) ++ List.replicate (N + 1 - (xs.length + 1)) none = some x :: (xs.map some ++ List.replicate (N - xs.length) none)
  rw [Nat.add_sub_add_right]
  rfl⟩
theorem ev_fn {np N : Nat} {body : FS} {xs : List PV} {r : RS} [s : Start xs N env] [a : EvS body env S r C1] [c : OutR S.length r v S1 C2] (hl : xs.length = np) (q : C1 ∧ C2) : fnOf np N body xs S = .ok v S1 := by
  rw [fn_eq hl, s.eq, a.run q.1, c.run q.2]
end
end Pv

namespace Pv
open L2
/-! ### operators, builtins -/
/-- the thing at an index, told as Python tells it -/
def gi {α : Type} [Inhabited α] (l : List α) (i : Int) : α := (atI l i).getD default
theorem atI_ok {α : Type} [Inhabited α] {l : List α} {i : Int} (h : -(l.length : Int) ≤ i ∧ i < l.length) : atI l i = some (gi l i) := by
  unfold gi atI ixN
  by_cases h0 : 0 ≤ i
  · rw [if_pos h0, if_pos (by omega)]
    show l[i.toNat]? = some ((l[i.toNat]?).getD default)
    rw [List.getElem?_eq_getElem (by omega)]
    rfl
  · rw [if_neg h0, if_pos (by omega)]
    show l[(i + (l.length : Nat)).toNat]? = some ((l[(i + (l.length : Nat)).toNat]?).getD default)
    rw [List.getElem?_eq_getElem (by omega)]
    rfl
theorem gi_eq {α : Type} [Inhabited α] {l : List α} {i : Int} {c : α} (h : atI l i = some c) : gi l i = c := by
  unfold gi; rw [h]; rfl
theorem gi_nat {α : Type} [Inhabited α] {l : List α} {k : Nat} (h : k < l.length) : gi l (k : Int) = l[k] := gi_eq (at_nat (List.getElem?_eq_getElem h))
theorem gi_neg {α : Type} [Inhabited α] {l : List α} {k : Nat} (h0 : 1 ≤ k) (h : k ≤ l.length) : gi l (-(k : Int)) = l[l.length - k]'(by omega) := gi_eq (at_neg h0 h (List.getElem?_eq_getElem (by omega)))
/-- what is known of a test -/
class DecP (p : Prop) [h : Decidable p] (b : outParam Bool) : Prop where
  eq : decide p = b
instance (priority := low) {p : Prop} [Decidable p] : DecP p (decide p) := ⟨rfl⟩
instance {α : Type} [DecidableEq α] {a : α} : DecP (a = a) true := ⟨decide_eq_true rfl⟩
/-- a list in the store -/
class CellAt (S : Sto) (n : Nat) (xs : outParam (List PV)) : Prop where
  eq : S[n]? = some (.lst xs)
instance {S : Sto} {xs : List PV} : CellAt (S ++ [.lst xs]) S.length xs := ⟨by simp⟩
/-- one text behind another, written -/
class App (xs ys : List PV) (zs : outParam (List PV)) : Prop where
  eq : xs ++ ys = zs
instance {ys : List PV} : App [] ys ys := ⟨rfl⟩
instance {x : PV} {xs ys zs : List PV} [a : App xs ys zs] : App (x :: xs) ys (x :: zs) := ⟨congrArg (x :: ·) a.eq⟩
instance {α : Type} {φ : α → PV} {xs ys : List α} : App (xs.map φ) (ys.map φ) ((xs ++ ys).map φ) := ⟨List.map_append.symm⟩
instance (priority := low) {xs ys : List PV} : App xs ys (xs ++ ys) := ⟨rfl⟩
section
variable {S : Sto} {i j : Int} {a b : List Nat} {xs ys zs : List PV} {x y v : PV} {p q : Bool} {C C1 C2 : Prop}
instance : Ev2 oAdd (.int i) (.int j) S (.int (i + j)) True := ⟨fun _ => rfl⟩
instance : Ev2 oAdd (.str a) (.str b) S (.str (a ++ b)) (a.length + b.length ≤ 16777216) := ⟨fun h => by rw [q_addS, if_pos (show _ ≤ SZ from h)]⟩
instance [e : App xs ys zs] : Ev2 oAdd (.lst xs) (.lst ys) S (.lst zs) (xs.length + ys.length ≤ 16777216) := ⟨fun h => by rw [q_addL, if_pos (show _ ≤ SZ from h), e.eq]⟩
instance [e : App xs ys zs] : Ev2 oAdd (.tup xs) (.tup ys) S (.tup zs) (xs.length + ys.length ≤ 16777216) := ⟨fun h => by
  show (if xs.length + ys.length ≤ SZ then _ else _) = _
  rw [if_pos (show _ ≤ SZ from h), e.eq]⟩
instance : Ev2 oSub (.int i) (.int j) S (.int (i - j)) True := ⟨fun _ => rfl⟩
instance : Ev2 oMod (.int i) (.int j) S (.int (i % j)) (0 < j) := ⟨fun h => q_modI h⟩
instance : Ev2 oDiv (.int i) (.int j) S (.int (i / j)) (divOk i j = true) := ⟨fun h => q_divI h⟩
instance : Ev2 oMul (.int i) (.int j) S (.int (i * j)) (mulOk i j = true) := ⟨fun h => q_mulI h⟩
def repL {α : Type} (a : List α) (k : Nat) : List α := (List.replicate k a).flatten
theorem mulRep_ok {n : Nat} {k : Int} (h : (-4611686018427387904 ≤ k ∧ k < 4611686018427387904) ∧ n * k.toNat ≤ 16777216) : mulRep n k = true := by
  unfold mulRep
  rw [decide_eq_true (show -(2 ^ 63) ≤ k by omega), decide_eq_true (show k < 2 ^ 63 by omega), decide_eq_true (show n * k.toNat ≤ SZ from h.2)]
  rfl
instance : Ev2 oMul (.str a) (.int i) S (.str (repL a i.toNat)) ((-4611686018427387904 ≤ i ∧ i < 4611686018427387904) ∧ a.length * i.toNat ≤ 16777216) := ⟨fun h => by
  show (if mulRep a.length i = true then _ else _) = _
  rw [if_pos (mulRep_ok h)]
  rfl⟩
instance (priority := low) : Ev2 oMul (.lst xs) (.int i) S (.lst (repL xs i.toNat)) ((-4611686018427387904 ≤ i ∧ i < 4611686018427387904) ∧ xs.length * i.toNat ≤ 16777216) := ⟨fun h => by
  show (if mulRep xs.length i = true then _ else _) = _
  rw [if_pos (mulRep_ok h)]
  rfl⟩
theorem rep2 {xs : List PV} : (List.replicate (2 : Int).toNat xs).flatten = xs ++ xs := by
  show (List.replicate 2 xs).flatten = _
  simp
instance : Ev2 oMul (.lst [x]) (.int 2) S (.lst [x, x]) True := ⟨fun _ => by
  have h : mulRep ([x] : List PV).length 2 = true := by unfold mulRep; rw [decide_eq_true (show ([x] : List PV).length * (2 : Int).toNat ≤ SZ from (by decide : 1 * (2 : Int).toNat ≤ SZ))]; rfl
  simp only [oMul, dl]
  rw [if_pos h]
  rfl⟩
instance : Ev2 oMul (.lst [x]) (.int 3) S (.lst [x, x, x]) True := ⟨fun _ => by
  have h : mulRep ([x] : List PV).length 3 = true := by unfold mulRep; rw [decide_eq_true (show ([x] : List PV).length * (3 : Int).toNat ≤ SZ from (by decide : 1 * (3 : Int).toNat ≤ SZ))]; rfl
  simp only [oMul, dl]
  rw [if_pos h]
  rfl⟩
instance : Ev2 oMul (.lst [x]) (.int 4) S (.lst [x, x, x, x]) True := ⟨fun _ => by
  have h : mulRep ([x] : List PV).length 4 = true := by unfold mulRep; rw [decide_eq_true (show ([x] : List PV).length * (4 : Int).toNat ≤ SZ from (by decide : 1 * (4 : Int).toNat ≤ SZ))]; rfl
  simp only [oMul, dl]
  rw [if_pos h]
  rfl⟩
instance [e : DecP (i < j) p] : Ev2 oLt (.int i) (.int j) S (.bl p) True := ⟨fun _ => by rw [← e.eq]; rfl⟩
instance [e : DecP (i ≤ j) p] : Ev2 oLe (.int i) (.int j) S (.bl p) True := ⟨fun _ => by rw [← e.eq]; rfl⟩
instance [e : DecP (j < i) p] : Ev2 oGt (.int i) (.int j) S (.bl p) True := ⟨fun _ => by rw [← e.eq]; rfl⟩
instance [e : DecP (j ≤ i) p] : Ev2 oGe (.int i) (.int j) S (.bl p) True := ⟨fun _ => by rw [← e.eq]; rfl⟩
instance : Ev2 oLt (.str a) (.str b) S (.bl (decide (a < b))) True := ⟨fun _ => rfl⟩
/-! like values -/
class EqV (x y : PV) (n : outParam Nat) (b : outParam Bool) : Prop where
  dx : dpt x ≤ n
  dy : dpt y ≤ n
  eq : eqPV x y = b
class EqVs (xs ys : List PV) (n : outParam Nat) (b : outParam Bool) : Prop where
  dx : dpts xs ≤ n
  dy : dpts ys ≤ n
  eq : eqPVs xs ys = b
theorem beq_dec {α : Type} [BEq α] [LawfulBEq α] [DecidableEq α] (a b : α) : (a == b) = decide (a = b) := by
  by_cases h : a = b
  · subst h; simp
  · rw [decide_eq_false h]; simpa using h
instance [e : DecP (i = j) p] : EqV (.int i) (.int j) 0 p := ⟨Nat.le_refl _, Nat.le_refl _, (beq_dec i j).trans e.eq⟩
instance [e : DecP (a = b) p] : EqV (.str a) (.str b) 0 p := ⟨Nat.le_refl _, Nat.le_refl _, (beq_dec a b).trans e.eq⟩
instance : EqV (.bl p) (.bl q) 0 (p == q) := ⟨Nat.le_refl _, Nat.le_refl _, rfl⟩
instance : EqV .non .non 0 true := ⟨Nat.le_refl _, Nat.le_refl _, rfl⟩
instance : EqVs [] [] 0 true := ⟨Nat.le_refl _, Nat.le_refl _, rfl⟩
instance : EqVs [] [] 0 true := ⟨Nat.le_refl _, Nat.le_refl _, rfl⟩
instance {n m : Nat} [e : EqV x y n p] [f : EqVs xs ys m q] : EqVs (x :: xs) (y :: ys) (max n m) (p && q) := ⟨by
  have := e.dx; have := f.dx; simp only [dpts]; omega, by
  have := e.dy; have := f.dy; simp only [dpts]; omega, by
  show (eqPV x y && eqPVs xs ys) = _
  rw [e.eq, f.eq]⟩
/-- things told apart by what stands for them -/
class InjV {α : Type} (φ : α → PV) [DecidableEq α] (n : outParam Nat) : Prop where
  dx : ∀ a, dpt (φ a) ≤ n
  eq : ∀ a b, eqPV (φ a) (φ b) = decide (a = b)
instance : InjV PV.str 0 := ⟨fun _ => Nat.le_refl _, fun a b => beq_dec a b⟩
instance : InjV PV.int 0 := ⟨fun _ => Nat.le_refl _, fun a b => beq_dec a b⟩
instance : InjV (fun x : List Nat => PV.str x) 0 := ⟨fun _ => Nat.le_refl _, fun a b => beq_dec a b⟩
instance : InjV (fun x : Int => PV.int x) 0 := ⟨fun _ => Nat.le_refl _, fun a b => beq_dec a b⟩
instance : InjV (fun c : Nat => PV.str [c]) 0 := ⟨fun _ => Nat.le_refl _, fun a b => by
  show ([a] == [b]) = _
  rw [beq_dec]
  simp⟩
instance : InjV (fun k : Nat => PV.int (k : Nat)) 0 := ⟨fun _ => Nat.le_refl _, fun a b => by
  show ((a : Int) == (b : Int)) = _
  rw [beq_dec]
  by_cases h : a = b
  · subst h; simp
  · rw [decide_eq_false h, decide_eq_false]; omega⟩
instance {i : Int} : InjV (fun k : Nat => PV.int (i + (k : Nat))) 0 := ⟨fun _ => Nat.le_refl _, fun a b => by
  show ((i + (a : Int)) == (i + (b : Int))) = _
  rw [beq_dec]
  by_cases h : a = b
  · subst h; simp
  · rw [decide_eq_false h, decide_eq_false]; omega⟩
theorem dpts_map {α : Type} {φ : α → PV} {n : Nat} (h : ∀ a, dpt (φ a) ≤ n) : ∀ xs : List α, dpts (xs.map φ) ≤ n
  | [] => Nat.zero_le _
  | x :: xs => by
    have := h x
    have := dpts_map h xs
    rw [List.map_cons]
    simp only [dpts]
    omega
theorem eqs_map {α : Type} [DecidableEq α] {φ : α → PV} (h : ∀ a b, eqPV (φ a) (φ b) = decide (a = b)) : ∀ xs ys : List α, eqPVs (xs.map φ) (ys.map φ) = decide (xs = ys)
  | [], [] => rfl
  | [], y :: ys => rfl
  | x :: xs, [] => rfl
  | x :: xs, y :: ys => by
    show (eqPV (φ x) (φ y) && eqPVs (xs.map φ) (ys.map φ)) = _
    rw [h, eqs_map h xs ys]
    by_cases e : x = y
    · subst e; simp
    · simp [e]
instance {α : Type} [DecidableEq α] {φ : α → PV} {n : Nat} [e : InjV φ n] {xs ys : List α} : EqVs (xs.map φ) (ys.map φ) n (decide (xs = ys)) := ⟨dpts_map e.dx _, dpts_map e.dx _, eqs_map e.eq _ _⟩
instance {α : Type} [DecidableEq α] {φ : α → PV} {n : Nat} [e : InjV φ n] {xs : List α} [k : DecP (xs = []) p] : EqVs (xs.map φ) [] n p := ⟨dpts_map e.dx _, Nat.zero_le _, (eqs_map e.eq _ []).trans k.eq⟩
instance {α : Type} [DecidableEq α] {φ : α → PV} {n : Nat} [e : InjV φ n] {xs : List α} : EqVs [] (xs.map φ) n (decide ([] = xs)) := ⟨Nat.zero_le _, dpts_map e.dx _, eqs_map e.eq [] _⟩
instance {n : Nat} [e : EqVs xs ys n p] : EqV (.lst xs) (.lst ys) (n + 1) p := ⟨by have := e.dx; simp only [dpt]; omega, by have := e.dy; simp only [dpt]; omega, e.eq⟩
instance {n : Nat} [e : EqVs xs ys n p] : EqV (.tup xs) (.tup ys) (n + 1) p := ⟨by have := e.dx; simp only [dpt]; omega, by have := e.dy; simp only [dpt]; omega, e.eq⟩
theorem dv_of {x : PV} {n : Nat} (h : dpt x ≤ n) (hn : n < 1000) : dv S x = x := by
  cases x with
  | ref k => simp only [dpt] at h; omega
  | _ => rfl
instance {n : Nat} [e : EqV x y n p] : Ev2 oEq x y S (.bl p) (n ≤ 64) := ⟨fun h => by
  unfold oEq
  have e1 : dv S x = x := dv_of e.dx (by omega)
  have e2 : dv S y = y := dv_of e.dy (by omega)
  have d1 := e.dx; have d2 := e.dy
  rw [e1, e2, decide_eq_true (show dpt x ≤ 64 by omega), decide_eq_true (show dpt y ≤ 64 by omega), e.eq]
  rfl⟩
instance {n : Nat} [e : EqV x y n p] [m : NotB p q] : Ev2 oNe x y S (.bl q) (n ≤ 64) := ⟨fun h => by
  rw [← m.eq]
  unfold oNe
  have e1 : dv S x = x := dv_of e.dx (by omega)
  have e2 : dv S y = y := dv_of e.dy (by omega)
  have d1 := e.dx; have d2 := e.dy
  rw [e1, e2, decide_eq_true (show dpt x ≤ 64 by omega), decide_eq_true (show dpt y ≤ 64 by omega), e.eq]
  rfl⟩
/-! among them -/
instance {c : Nat} [e : DecP (c ∈ a) p] : Ev2 oIn (.str [c]) (.str a) S (.bl p) True := ⟨fun _ => by rw [← e.eq]; rfl⟩
instance {c : Nat} [e : DecP (c ∈ a) p] [m : NotB p q] : Ev2 oNotIn (.str [c]) (.str a) S (.bl q) True := ⟨fun _ => by rw [← m.eq, ← e.eq]; rfl⟩
class MemV (x : PV) (ys : List PV) (n : outParam Nat) (b : outParam Bool) : Prop where
  dx : dpt x ≤ n
  dy : dpts ys ≤ n
  eq : (ys.any fun z => eqPV z x) = b
instance : MemV (.str a) [] 0 false := ⟨Nat.le_refl _, Nat.le_refl _, rfl⟩
instance : MemV (.int i) [] 0 false := ⟨Nat.le_refl _, Nat.le_refl _, rfl⟩
instance : MemV (.bl p) [] 0 false := ⟨Nat.le_refl _, Nat.le_refl _, rfl⟩
instance {n m : Nat} [e : EqV y x n p] [f : MemV x ys m q] : MemV x (y :: ys) (max n m) (p || q) := ⟨by
  have := e.dy; have := f.dx; omega, by
  have := e.dx; have := f.dy; simp only [dpts]; omega, by
  rw [List.any_cons, e.eq, f.eq]⟩
theorem any_map {α : Type} [BEq α] [LawfulBEq α] {φ : α → PV} (h : ∀ a b, eqPV (φ a) (φ b) = (a == b)) (x : α) (ys : List α) : ((ys.map φ).any fun z => eqPV z (φ x)) = decide (x ∈ ys) := by
  rw [Bool.eq_iff_iff, List.any_eq_true, decide_eq_true_eq]
  constructor
  · rintro ⟨z, hz, e⟩
    obtain ⟨w, hw, rfl⟩ := List.mem_map.mp hz
    rw [h, beq_iff_eq] at e
    exact e ▸ hw
  · intro hx
    exact ⟨φ x, List.mem_map_of_mem hx, by rw [h]; simp⟩
instance {ys : List (List Nat)} : MemV (.str a) (ys.map PV.str) 0 (decide (a ∈ ys)) := ⟨Nat.le_refl _, dpts_map (φ := PV.str) (n := 0) (fun _ => Nat.le_refl _) _, any_map (fun a b => rfl) a ys⟩
instance {ys : List Int} : MemV (.int i) (ys.map PV.int) 0 (decide (i ∈ ys)) := ⟨Nat.le_refl _, dpts_map (φ := PV.int) (n := 0) (fun _ => Nat.le_refl _) _, any_map (fun a b => rfl) i ys⟩
instance {ys : List Nat} {j : Int} : MemV (.int i) (ys.map fun k : Nat => PV.int (j + (k : Nat))) 0 (decide (∃ k ∈ ys, i = j + (k : Nat))) := ⟨Nat.le_refl _, dpts_map (φ := fun k : Nat => PV.int (j + (k : Nat))) (n := 0) (fun _ => Nat.le_refl _) _, by
  rw [Bool.eq_iff_iff, List.any_eq_true, decide_eq_true_eq]
  constructor
  · rintro ⟨z, hz, e⟩
    obtain ⟨k, hk, rfl⟩ := List.mem_map.mp hz
    exact ⟨k, hk, (eq_of_beq (show ((j + (k : Int)) == i) = true from e)).symm⟩
  · rintro ⟨k, hk, e⟩
    exact ⟨_, List.mem_map_of_mem hk, by show ((j + (k : Int)) == i) = true; rw [e]; simp⟩⟩
theorem dv_tl {x y : PV} (h : ∀ l : List Nat, y ≠ .str l) (S : Sto) : inPV S x y = match dv S y with
    | .lst ys => if (decide (dpt (dv S x) ≤ 64) && decide (dpts ys ≤ 63)) = true then some (ys.any fun z => eqPV z (dv S x)) else none
    | .tup ys => if (decide (dpt (dv S x) ≤ 64) && decide (dpts ys ≤ 63)) = true then some (ys.any fun z => eqPV z (dv S x)) else none
    | _ => none := by
  cases y with
  | str l => exact absurd rfl (h l)
  | _ =>
    cases x with
    | str l => rcases l with _ | ⟨c, _ | ⟨d, r⟩⟩ <;> rfl
    | _ => rfl
theorem in_tup {n : Nat} [e : MemV x ys n p] (h : n ≤ 63) : inPV S x (.tup ys) = some p := by
  have d1 := e.dx; have d2 := e.dy
  have e1 : dv S x = x := dv_of e.dx (by omega)
  rw [dv_tl (fun l h => by cases h), e1]
  show (if _ then _ else _) = _
  rw [decide_eq_true (show dpt x ≤ 64 by omega), decide_eq_true (show dpts ys ≤ 63 by omega), e.eq]
  rfl
theorem in_lst {n : Nat} [e : MemV x ys n p] (h : n ≤ 63) : inPV S x (.lst ys) = some p := by
  have d1 := e.dx; have d2 := e.dy
  have e1 : dv S x = x := dv_of e.dx (by omega)
  rw [dv_tl (fun l h => by cases h), e1]
  show (if _ then _ else _) = _
  rw [decide_eq_true (show dpt x ≤ 64 by omega), decide_eq_true (show dpts ys ≤ 63 by omega), e.eq]
  rfl
instance {n : Nat} [e : MemV x ys n p] : Ev2 oIn x (.tup ys) S (.bl p) (n ≤ 63) := ⟨fun h => by unfold oIn; rw [in_tup h]⟩
instance {n : Nat} [e : MemV x ys n p] : Ev2 oIn x (.lst ys) S (.bl p) (n ≤ 63) := ⟨fun h => by unfold oIn; rw [in_lst h]⟩
instance {n : Nat} [e : MemV x ys n p] [m : NotB p q] : Ev2 oNotIn x (.tup ys) S (.bl q) (n ≤ 63) := ⟨fun h => by unfold oNotIn; rw [in_tup h, ← m.eq]⟩
instance {n : Nat} [e : MemV x ys n p] [m : NotB p q] : Ev2 oNotIn x (.lst ys) S (.bl q) (n ≤ 63) := ⟨fun h => by unfold oNotIn; rw [in_lst h, ← m.eq]⟩
/-! None -/
class NonV (x : PV) (b : outParam Bool) : Prop where
  eq : isNon x = b
instance : NonV .non true := ⟨rfl⟩
instance : NonV (.int i) false := ⟨rfl⟩
instance : NonV (.str a) false := ⟨rfl⟩
instance : NonV (.bl p) false := ⟨rfl⟩
instance : NonV (.tup xs) false := ⟨rfl⟩
instance : NonV (.lst xs) false := ⟨rfl⟩
instance [e : NonV x p] : Ev2 oIs x .non S (.bl p) True := ⟨fun _ => by show R.ok (PV.bl (isNon x)) S = _; rw [e.eq]⟩
instance [e : NonV x p] [m : NotB p q] : Ev2 oIsNot x .non S (.bl q) True := ⟨fun _ => by show R.ok (PV.bl (!isNon x)) S = _; rw [e.eq, m.eq]⟩
/-! subscripts -/
instance : Ev2 oIx (.str a) (.int i) S (.str [gi a i]) (-(a.length : Int) ≤ i ∧ i < a.length) := ⟨fun h => q_ixS (atI_ok h)⟩
instance {α : Type} [Inhabited α] {l : List α} {φ : α → PV} : Ev2 oIx (.lst (l.map φ)) (.int i) S (φ (gi l i)) (-(l.length : Int) ≤ i ∧ i < l.length) := ⟨fun h => q_ixL (by
  have := atI_ok h
  unfold atI at this ⊢
  rw [List.length_map]
  cases e : ixN l.length i with
  | none => rw [e] at this; cases this
  | some k =>
    rw [e] at this
    have this : l[k]? = some (gi l i) := this
    show (l.map φ)[k]? = _
    rw [List.getElem?_map, this]; rfl)⟩
instance {α : Type} [Inhabited α] {l : List α} {φ : α → PV} : Ev2 oIx (.tup (l.map φ)) (.int i) S (φ (gi l i)) (-(l.length : Int) ≤ i ∧ i < l.length) := ⟨fun h => q_ixT (by
  have := atI_ok h
  unfold atI at this ⊢
  rw [List.length_map]
  cases e : ixN l.length i with
  | none => rw [e] at this; cases this
  | some k =>
    rw [e] at this
    have this : l[k]? = some (gi l i) := this
    show (l.map φ)[k]? = _
    rw [List.getElem?_map, this]; rfl)⟩
instance {ns : List Int} : Ev2 oIx (.scr ns) (.int i) S (.int (gi ns i)) (-(ns.length : Int) ≤ i ∧ i < ns.length) := ⟨fun h => q_ixC (atI_ok h)⟩
/-- written lists -/
class AtL (xs : List PV) (i : Int) (v : outParam PV) : Prop where
  eq : atI xs i = some v
variable {x0 x1 x2 x3 x4 x5 x6 : PV}
theorem at_k {k : Nat} {v : PV} (h : xs[k]? = some v) : atI xs (k : Int) = some v := at_nat h
instance : AtL (x0 :: xs) 0 x0 := ⟨at_k (k := 0) rfl⟩
instance : AtL (x0 :: x1 :: xs) 1 x1 := ⟨at_k (k := 1) rfl⟩
instance : AtL (x0 :: x1 :: x2 :: xs) 2 x2 := ⟨at_k (k := 2) rfl⟩
instance : AtL (x0 :: x1 :: x2 :: x3 :: xs) 3 x3 := ⟨at_k (k := 3) rfl⟩
instance : AtL (x0 :: x1 :: x2 :: x3 :: x4 :: xs) 4 x4 := ⟨at_k (k := 4) rfl⟩
instance : AtL [x0] (-1) x0 := ⟨at_last rfl⟩
instance : AtL [x0, x1] (-1) x1 := ⟨at_last rfl⟩
instance : AtL [x0, x1, x2] (-1) x2 := ⟨at_last rfl⟩
instance [e : AtL xs i v] : Ev2 oIx (.tup xs) (.int i) S v True := ⟨fun _ => q_ixT e.eq⟩
instance [e : AtL xs i v] : Ev2 oIx (.lst xs) (.int i) S v True := ⟨fun _ => q_ixL e.eq⟩
instance : Inhabited PV := ⟨.non⟩
instance (priority := low) ixRawL : Ev2 oIx (.lst xs) (.int i) S (gi xs i) (-(xs.length : Int) ≤ i ∧ i < xs.length) := ⟨fun h => q_ixL (atI_ok h)⟩
instance (priority := low) ixRawT : Ev2 oIx (.tup xs) (.int i) S (gi xs i) (-(xs.length : Int) ≤ i ∧ i < xs.length) := ⟨fun h => q_ixT (atI_ok h)⟩
/-! parts of lists -/
instance {l h : Option Int} : EvSl (.str a) l h S (.str (cut a l h)) True := ⟨fun _ => rfl⟩
theorem cut_map {α β : Type} (φ : α → β) (l : List α) (lo hi : Option Int) : cut (l.map φ) lo hi = (cut l lo hi).map φ := by
  unfold cut
  rw [List.length_map, ← List.map_drop, ← List.map_take]
instance {α : Type} {u : List α} {φ : α → PV} {l h : Option Int} : EvSl (.lst (u.map φ)) l h S (.lst ((cut u l h).map φ)) True := ⟨fun _ => by
  show R.ok (PV.lst (cut (u.map φ) l h)) S = _
  rw [cut_map]⟩
instance {α : Type} {u : List α} {φ : α → PV} {l h : Option Int} : EvSl (.tup (u.map φ)) l h S (.tup ((cut u l h).map φ)) True := ⟨fun _ => by
  show R.ok (PV.tup (cut (u.map φ) l h)) S = _
  rw [cut_map]⟩
instance {ns : List Int} {l h : Option Int} : EvSl (.scr ns) l h S (.lst ((cut ns l h).map PV.int)) True := ⟨fun _ => rfl⟩
instance : Ev2 oPow (.int i) (.int j) S (.int (i ^ j.toNat)) (powOk i j = true) := ⟨fun h => by simp [oPow, oI, h]⟩
instance (priority := low) {l h : Option Int} : EvSl (.tup xs) l h S (.tup (cut xs l h)) True := ⟨fun _ => rfl⟩
instance (priority := low) {l h : Option Int} : EvSl (.lst xs) l h S (.lst (cut xs l h)) True := ⟨fun _ => rfl⟩
instance : EvRv (.str a) S (.str a.reverse) True := ⟨fun _ => rfl⟩
instance {α : Type} {u : List α} {φ : α → PV} : EvRv (.lst (u.map φ)) S (.lst (u.reverse.map φ)) True := ⟨fun _ => by
  show R.ok (PV.lst (u.map φ).reverse) S = _
  rw [List.map_reverse]⟩
instance (priority := low) : EvRv (.lst xs) S (.lst xs.reverse) True := ⟨fun _ => rfl⟩
/-! builtins -/
instance : EvF bLen [.str a] S (.int (a.length : Nat)) S True := ⟨fun _ => rfl⟩
instance : EvF bLen [.tup xs] S (.int (xs.length : Nat)) S True := ⟨fun _ => rfl⟩
instance : EvF bLen [.lst xs] S (.int (xs.length : Nat)) S True := ⟨fun _ => rfl⟩
instance {α : Type} {u : List α} {φ : α → PV} : EvF bLen [.lst (u.map φ)] S (.int (u.length : Nat)) S True := ⟨fun _ => by
  rw [q_lenL, List.length_map]⟩
instance {α : Type} {u : List α} {φ : α → PV} : EvF bLen [.tup (u.map φ)] S (.int (u.length : Nat)) S True := ⟨fun _ => by
  rw [q_lenT, List.length_map]⟩
instance {ns : List Int} : EvF bLen [.scr ns] S (.int (ns.length : Nat)) S True := ⟨fun _ => rfl⟩
instance : EvF bInt [.int i] S (.int i) S True := ⟨fun _ => rfl⟩
instance : EvF bInt [.bl p] S (.int (if p = true then 1 else 0)) S True := ⟨fun _ => rfl⟩
instance : EvF bAbs [.int i] S (.int (if i < 0 then -i else i)) S True := ⟨fun _ => rfl⟩
instance : EvF bMax2 [.int i, .int j] S (.int (if j > i then j else i)) S True := ⟨fun _ => rfl⟩
instance : EvF bMin2 [.int i, .int j] S (.int (if j < i then j else i)) S True := ⟨fun _ => rfl⟩
instance : EvF bGcd [.int i, .int j] S (.int ((Nat.gcd i.natAbs j.natAbs : Nat) : Int)) S True := ⟨fun _ => rfl⟩
instance : EvF bDivmod [.int i, .int j] S (.tup [.int (i / j), .int (i % j)]) S (divOk i j = true) := ⟨fun h => q_divmod h⟩
class Bls (xs : List PV) (bs : outParam (List Bool)) : Prop where
  eq : blsOf xs = some bs
instance : Bls [] [] := ⟨rfl⟩
instance {bs : List Bool} [e : Bls xs bs] : Bls (.bl p :: xs) (p :: bs) := ⟨by
  show (blsOf xs).map (p :: ·) = _
  rw [e.eq]; rfl⟩
instance {bs : List Bool} [e : Bls xs bs] : EvF bAll [.lst xs] S (.bl (bs.all fun b => b)) S True := ⟨fun _ => q_all e.eq⟩
theorem all_map {α : Type} (f : α → Bool) : ∀ u : List α, (u.map f).all (fun b => b) = u.all f
  | [] => rfl
  | a :: u => by rw [List.map_cons, List.all_cons, List.all_cons, all_map f u]
theorem anyb_map {α : Type} (f : α → Bool) : ∀ u : List α, (u.map f).any (fun b => b) = u.any f
  | [] => rfl
  | a :: u => by rw [List.map_cons, List.any_cons, List.any_cons, anyb_map f u]
theorem q_any {bs : List Bool} (h : blsOf xs = some bs) : bAny [.lst xs] S = .ok (.bl (bs.any fun b => b)) S := by
  unfold bAny
  show (match (some xs).bind blsOf with | some ns => R.ok (PV.bl (ns.any _root_.id)) S | none => .no) = _
  show (match blsOf xs with | some ns => R.ok (PV.bl (ns.any _root_.id)) S | none => .no) = _
  rw [h]
  rfl
instance {bs : List Bool} [e : Bls xs bs] : EvF bAny [.lst xs] S (.bl (bs.any fun b => b)) S True := ⟨fun _ => q_any e.eq⟩
instance {α : Type} {u : List α} {f : α → Bool} : EvF bAll [.lst (u.map fun x => .bl (f x))] S (.bl (u.all f)) S True := ⟨fun _ => by
  rw [q_all (bls_map f u), ← all_map f u]
  rfl⟩
instance {α : Type} {u : List α} {f : α → Bool} : EvF bAny [.lst (u.map fun x => .bl (f x))] S (.bl (u.any f)) S True := ⟨fun _ => by
  rw [q_any (bls_map f u), anyb_map]⟩
theorem ints_map {α : Type} (f : α → Int) (u : List α) : intsOf (u.map fun x => .int (f x)) = some (u.map f) := by
  rw [← intsOf_map (u.map f), List.map_map]
  rfl
instance {α : Type} {u : List α} {f : α → Int} : EvF bSum [.lst (u.map fun x => .int (f x))] S (.int (u.map f).sum) S True := ⟨fun _ => by
  show (match (some (u.map fun x => PV.int (f x))).bind intsOf with | some ns => R.ok (PV.int ns.sum) S | none => .no) = _
  show (match intsOf (u.map fun x => PV.int (f x)) with | some ns => R.ok (PV.int ns.sum) S | none => .no) = _
  rw [ints_map]⟩
instance {u : List Int} : EvF bSum [.lst (u.map PV.int)] S (.int u.sum) S True := ⟨fun _ => by
  show (match intsOf (u.map PV.int) with | some ns => R.ok (PV.int ns.sum) S | none => .no) = _
  rw [intsOf_map]⟩
instance {ns : List Int} : EvF bSum [.scr ns] S (.int ns.sum) S True := ⟨fun _ => by
  show (match intsOf (ns.map PV.int) with | some ns => R.ok (PV.int ns.sum) S | none => .no) = _
  rw [intsOf_map]⟩
instance : EvF bTuple [.tup xs] S (.tup xs) S True := ⟨fun _ => rfl⟩
instance : EvF bTuple [.lst xs] S (.tup xs) S True := ⟨fun _ => rfl⟩
instance : EvF bList [.tup xs] S (.lst xs) S True := ⟨fun _ => rfl⟩
instance : EvF bList [.lst xs] S (.lst xs) S True := ⟨fun _ => rfl⟩
/-! methods -/
instance {c : Nat} : EvM bIndex (.str a) [.str [c]] S (.int (a.idxOf c : Nat)) S (c ∈ a) := ⟨fun h => by
  show (if decide (c ∈ a) = true then _ else _) = _
  rw [if_pos (decide_eq_true h)]⟩
instance {c : Nat} : EvM bCount (.str a) [.str [c]] S (.int (a.count c : Nat)) S True := ⟨fun _ => rfl⟩
theorem joinOk_of {ns : List (List Nat)} (h : (ns.map List.length).sum + ns.length * b.length ≤ 16777216) : joinOk b ns = true := decide_eq_true h
instance {α : Type} {u : List α} {f : α → Nat} : EvM bJoin (.str []) [.lst (u.map fun x => .str [f x])] S (.str (u.map f)) S (u.length ≤ 16777216) := ⟨fun h => q_joinS f u h⟩
instance (priority := low) {α : Type} {u : List α} {f : α → List Nat} : EvM bJoin (.str b) [.lst (u.map fun x => .str (f x))] S (.str (joinL b (u.map f))) S (((u.map f).map List.length).sum + u.length * b.length ≤ 16777216) := ⟨fun h => q_join (strs_map f u) (joinOk_of (by rw [List.length_map]; exact h))⟩
end
end Pv

namespace Lw
open Pv L2
/-! ### draws, told as functions -/
def vI (r : R PV) : Nat := match r with
  | .ok (.int d) _ => d.toNat
  | _ => 0
def vL (r : R PV) : List Nat := match r with
  | .ok (.str l) _ => l
  | _ => []
def vC (r : R PV) : Nat := (vL r).headD 0
def vV (r : R PV) : PV := match r with
  | .ok v _ => v
  | _ => .non
def vP (r : R PV) : Nat := match r with
  | .ok (.tup [.int a, _]) _ => a.toNat
  | _ => 0
def vQ (r : R PV) : Nat := match r with
  | .ok (.tup [_, .int a]) _ => a.toNat
  | _ => 0
open Classical in
noncomputable def stS (n : Nat) (S : Sto) (r : R PV) : Sto := match r with
  | .ok _ S' => if Has n S ∧ Dr n S S' then S' else S
  | .no => S
theorem stS_dr {n : Nat} {S0 S : Sto} {r : R PV} (h : Dr n S0 S) : Dr n S0 (stS n S r) := by
  unfold stS
  split
  · split
    · rename_i k; exact h.trans k.2
    · exact h
  · exact h
theorem stS_has {n : Nat} {S : Sto} {r : R PV} : Has n (stS n S r) ↔ Has n S := by
  unfold stS
  split
  · split
    · rename_i v S' k
      exact ⟨fun _ => k.1, fun h => k.2.has h⟩
    · exact Iff.rfl
  · exact Iff.rfl
theorem stS_len {n : Nat} {S : Sto} {r : R PV} : (stS n S r).length = S.length := by
  unfold stS
  split
  · split
    · rename_i k; exact k.2.len
    · rfl
  · rfl
theorem stS_eq {n : Nat} {S S' : Sto} {v : PV} (k : Has n S) (d : Dr n S S') : stS n S (.ok v S') = S' := by
  unfold stS
  exact if_pos ⟨k, d⟩
/-- a def that draws gives back what it gives back -/
theorem dr_run {F : FF} {xs : List PV} {n : Nat} {S S' : Sto} {v w : PV} (k : Has n S) (e : F xs S = .ok v S') (d : Dr n S S') (hw : w = v) : F xs S = .ok w (stS n S (F xs S)) := by
  rw [e, stS_eq k d, hw]
instance (priority := low) {S S1 : Sto} {v : PV} {C : Prop} [a : IsPV v C] : OutR S.length (.ret v S1) v S1 (C ∧ S1.length = S.length) := ⟨fun q => by
  rw [z_out_ret, out_pure (a.run q.1), List.take_of_length_le (Nat.le_of_eq q.2)]⟩
end Lw
namespace Pv
/-! ### values without cells, not too long -/
mutual
def smP : PV → Bool
  | .non => true
  | .bl _ => true
  | .int _ => true
  | .str _ => true
  | .tup xs => decide (xs.length ≤ 1000000) && smPs xs
  | .lst xs => decide (xs.length ≤ 1000000) && smPs xs
  | .scr _ => false
  | .ref _ => false
def smPs : List PV → Bool
  | [] => true
  | x :: xs => smP x && smPs xs
end
theorem smPs_all : ∀ {xs : List PV}, smPs xs = true → ∀ x ∈ xs, smP x = true
  | y :: ys, h, x, hx => by
    obtain ⟨h1, h2⟩ := Bool.and_eq_true_iff.mp (show (smP y && smPs ys) = true from h)
    rcases List.mem_cons.mp hx with rfl | hx
    · exact h1
    · exact smPs_all h2 x hx
theorem dpts_all : ∀ {xs : List PV} {n : Nat}, dpts xs ≤ n → ∀ x ∈ xs, dpt x ≤ n
  | y :: ys, n, h, x, hx => by
    simp only [dpts] at h
    rcases List.mem_cons.mp hx with rfl | hx
    · omega
    · exact dpts_all (by omega) x hx
/-- how deep a value is, that it is not too long -/
class Sm (x : PV) (n : outParam Nat) (C : outParam Prop) : Prop where
  d : dpt x ≤ n
  run : C → smP x = true
class Sms (xs : List PV) (n : outParam Nat) (C : outParam Prop) (l : outParam Nat) : Prop where
  d : dpts xs ≤ n
  run : C → smPs xs = true
  len : xs.length = l
section
variable {x : PV} {xs : List PV} {n m l : Nat} {C C1 C2 : Prop}
instance : Sm .non 0 True := ⟨Nat.le_refl _, fun _ => rfl⟩
instance {b : Bool} : Sm (.bl b) 0 True := ⟨Nat.le_refl _, fun _ => rfl⟩
instance {b : Int} : Sm (.int b) 0 True := ⟨Nat.le_refl _, fun _ => rfl⟩
instance {b : List Nat} : Sm (.str b) 0 True := ⟨Nat.le_refl _, fun _ => rfl⟩
instance [a : Sms xs n C l] : Sm (.tup xs) (n + 1) (l ≤ 1000000 ∧ C) := ⟨by have := a.d; simp only [dpt]; omega, fun q => by
  show (decide (xs.length ≤ 1000000) && smPs xs) = true
  rw [a.run q.2, a.len, decide_eq_true q.1]; rfl⟩
instance [a : Sms xs n C l] : Sm (.lst xs) (n + 1) (l ≤ 1000000 ∧ C) := ⟨by have := a.d; simp only [dpt]; omega, fun q => by
  show (decide (xs.length ≤ 1000000) && smPs xs) = true
  rw [a.run q.2, a.len, decide_eq_true q.1]; rfl⟩
instance : Sms [] 0 True 0 := ⟨Nat.le_refl _, fun _ => rfl, rfl⟩
instance [a : Sm x n C1] [b : Sms xs m C2 l] : Sms (x :: xs) (max n m) (C1 ∧ C2) (l + 1) := ⟨by
  have := a.d; have := b.d; simp only [dpts]; omega, fun q => by
  show (smP x && smPs xs) = true
  rw [a.run q.1, b.run q.2]; rfl, congrArg (· + 1) b.len⟩
theorem smPs_map {α : Type} {φ : α → PV} : ∀ {xs : List α}, (∀ x ∈ xs, smP (φ x) = true) → smPs (xs.map φ) = true
  | [], _ => rfl
  | x :: xs, h => by
    rw [List.map_cons]
    show (smP (φ x) && smPs (xs.map φ)) = true
    rw [h x List.mem_cons_self, smPs_map fun y hy => h y (List.mem_cons_of_mem _ hy)]; rfl
instance {α : Type} {φ : α → PV} {xs : List α} {D : α → Prop} [a : ∀ x, Sm (φ x) n (D x)] : Sms (xs.map φ) n (∀ x ∈ xs, D x) xs.length := ⟨dpts_map (fun x => (a x).d) _, fun q => smPs_map fun x hx => (a x).run (q x hx), List.length_map _⟩
end
end Pv
namespace Pv
/-! ### loops -/
theorem for_r {p : Pat} {body : FS} {m : Nat} {φ : Nat → PV} (I : Nat → VEnv → Sto → Prop) (hs : ∀ i, i < m → ∀ env S, I i env S → ∃ env1 env2 S2, setPat p (φ i) env = some env1 ∧ body env1 S = .nx env2 S2 ∧ I (i + 1) env2 S2)
    {env : VEnv} {S : Sto} (h0 : I 0 env S) : ∃ env' S', forGo p body ((List.range m).map φ) env S = .nx env' S' ∧ I m env' S' := by
  have := for_inv (p := p) (body := body) I ((List.range m).map φ) (fun i x env S hx h => by
    have hi : i < m := by
      have := (List.getElem?_eq_some_iff.mp hx).1
      rw [List.length_map, List.length_range] at this
      exact this
    rw [List.getElem?_map, List.getElem?_range hi] at hx
    cases hx
    exact hs i hi env S h) h0
  rw [List.length_map, List.length_range] at this
  exact this
theorem for_l {α : Type} {p : Pat} {body : FS} {xs : List α} {φ : α → PV} (I : Nat → VEnv → Sto → Prop) (hs : ∀ i (h : i < xs.length), ∀ env S, I i env S → ∃ env1 env2 S2, setPat p (φ xs[i]) env = some env1 ∧ body env1 S = .nx env2 S2 ∧ I (i + 1) env2 S2)
    {env : VEnv} {S : Sto} (h0 : I 0 env S) : ∃ env' S', forGo p body (xs.map φ) env S = .nx env' S' ∧ I xs.length env' S' := by
  have := for_inv (p := p) (body := body) I (xs.map φ) (fun i x env S hx h => by
    have hi : i < xs.length := by
      have := (List.getElem?_eq_some_iff.mp hx).1
      rw [List.length_map] at this
      exact this
    rw [List.getElem?_map, List.getElem?_eq_getElem hi] at hx
    cases hx
    exact hs i hi env S h) h0
  rw [List.length_map] at this
  exact this
theorem sfor_ev {α : Type} {p : Pat} {it : FI} {body : FS} {env : VEnv} {S S1 : Sto} {xs : List α} {φ : α → PV} {C : Prop} {r : RS} [a : EvI it env S xs φ S1 C] (q : C) (h : forGo p body (xs.map φ) env S1 = r) : sFor p it body env S = r := for_eq (a.run q) h
/-- a comprehension whose parts may draw from what they lay themselves -/
theorem lc_any {α : Type} {p : Pat} {it : FI} {elt : FE} {env e1 : VEnv} {S : Sto} {vs : List Nat} {xs : List α} {φ : α → PV} {C : Prop} {E : α → VEnv} {y : α → PV} [a : EvI it env S xs φ S C] [c : Wipe env vs e1] [d : ∀ x, SetP p (φ x) e1 (E x)] (q : C ∧ xs.length < 16777216)
    (h : ∀ x ∈ xs, isP (y x) = true ∧ ∃ S', elt (E x) S = .ok (y x) S' ∧ S'.take S.length = S) : fLc p it tYes' elt vs env S = .ok (xs.map y) S := by
  rw [z_lc, a.run q.1, zb, if_pos (show (xs.map φ).length < SZ by rw [List.length_map]; exact q.2), c.eq]
  exact lc_all S φ E y xs (fun x _ => (d x).eq) h
theorem fn_top {np N : Nat} {body : FS} {xs : List PV} {env : VEnv} {S S1 : Sto} {b : Bool} [a : Start xs N env] (hl : xs.length = np) (e : body env S = .ret (.bl b) S1) : fnOf np N body xs S = .ok (.bl b) (S1.take S.length) := by
  rw [fn_eq hl, a.eq, e]; rfl
end Pv
namespace Pv
theorem sif_tv {t : FT} {f g : FS} {env : VEnv} {S S1 : Sto} {b : Bool} {C : Prop} [a : EvT t env S b S1 C] (q : C) (hb : b = true) : sIf t f g env S = f env S1 := by
  have := a.run q
  rw [hb] at this
  exact sif_t this
theorem sif_fv {t : FT} {f g : FS} {env : VEnv} {S S1 : Sto} {b : Bool} {C : Prop} [a : EvT t env S b S1 C] (q : C) (hb : b = false) : sIf t f g env S = g env S1 := by
  have := a.run q
  rw [hb] at this
  exact sif_f this
/-- a def, its start told -/
theorem fn_st {np N : Nat} {body : FS} {xs : List PV} {env : VEnv} {S S1 : Sto} {r : RS} {v : PV} [a : Start xs N env] (hl : xs.length = np) (e : body env S = r) (o : outS S.length r = .ok v S1) : fnOf np N body xs S = .ok v S1 := by
  rw [fn_eq hl, a.eq, e, o]
end Pv
namespace Pv
/-- a comprehension that draws -/
theorem lc_draw {α : Type} {p : Pat} {elt : FE} {env : VEnv} {n : Nat} {φ : α → PV} {E : α → VEnv} {T : Nat → Prop} {n0 : Nat} : ∀ (items : List α) (S : Sto), Lw.Has n S → S.length = n0 → (∀ x, setPat p (φ x) env = some (E x)) →
    (∀ x S, Lw.Has n S → ∃ c S', elt (E x) S = .ok (.str [c]) S' ∧ Lw.Dr n S S' ∧ T c) → ∃ (cs : List Nat) (S' : Sto), lcGo p tYes' elt env n0 (items.map φ) S = .ok (cs.map fun c => .str [c]) S' ∧ Lw.Dr n S S' ∧ cs.length = items.length ∧ ∀ c ∈ cs, T c
  | [], S, k, _, _, _ => ⟨[], S, rfl, Lw.Dr.refl k, rfl, fun _ h => by cases h⟩
  | x :: xs, S, k, hl, hp, he => by
    obtain ⟨c, S1, e1, d1, t1⟩ := he x S k
    have hl1 : S1.length = n0 := d1.len.trans hl
    obtain ⟨cs, S2, e2, d2, l2, t2⟩ := lc_draw xs S1 (d1.has k) hl1 hp he
    refine ⟨c :: cs, S2, ?_, d1.trans d2, congrArg (· + 1) l2, fun d hd => ?_⟩
    · rw [List.map_cons]
      unfold lcGo
      rw [hp x]
      show (tYes' (E x) S).bind _ = _
      rw [show tYes' (E x) S = .ok true S from rfl, R.bind, z_ok, if_pos rfl, e1, R.bind, z_ok, if_pos (show isP (PV.str [c]) = true from rfl), List.take_of_length_le (Nat.le_of_eq hl1), e2]
      rfl
    · rcases List.mem_cons.mp hd with rfl | hd
      · exact t1
      · exact t2 d hd
end Pv
namespace Pv
theorem forGo_append {p : Pat} {body : FS} : ∀ (xs ys : List PV) (env : VEnv) (S : Sto) {env' : VEnv} {S' : Sto}, forGo p body xs env S = .nx env' S' → forGo p body (xs ++ ys) env S = forGo p body ys env' S'
  | [], ys, env, S, env', S', h => by cases h; rfl
  | x :: xs, ys, env, S, env', S', h => by
    rw [List.cons_append]
    have h : (match setPat p x env with
      | none => RS.no
      | some env1 => match body env1 S with
        | .nx env2 S2 => forGo p body xs env2 S2
        | .ret v S2 => .ret v S2
        | .no => .no) = .nx env' S' := h
    show (match setPat p x env with
      | none => RS.no
      | some env1 => match body env1 S with
        | .nx env2 S2 => forGo p body (xs ++ ys) env2 S2
        | .ret v S2 => .ret v S2
        | .no => .no) = forGo p body ys env' S'
    cases e : setPat p x env with
    | none => rw [e] at h; cases h
    | some env1 =>
      rw [e] at h
      have h : (match body env1 S with
        | .nx env2 S2 => forGo p body xs env2 S2
        | .ret v S2 => .ret v S2
        | .no => .no) = .nx env' S' := h
      show (match body env1 S with
        | .nx env2 S2 => forGo p body (xs ++ ys) env2 S2
        | .ret v S2 => .ret v S2
        | .no => .no) = forGo p body ys env' S'
      cases e2 : body env1 S with
      | nx env2 S2 => rw [e2] at h; exact forGo_append xs ys env2 S2 h
      | ret v S2 => rw [e2] at h; cases h
      | no => rw [e2] at h; cases h
instance (priority := low) {xs : List PV} {S : Sto} : Items (.lst xs) S xs (fun x => x) := ⟨congrArg some (List.map_id' xs).symm⟩
instance (priority := low) {xs : List PV} {S : Sto} : Items (.tup xs) S xs (fun x => x) := ⟨congrArg some (List.map_id' xs).symm⟩
instance {x : PV} {xs : List PV} {n l : Nat} {C : Prop} [a : Sms (x :: xs) n C l] : EqVs (x :: xs) [] n false := ⟨a.d, Nat.zero_le _, rfl⟩
instance {x : PV} {xs : List PV} {n l : Nat} {C : Prop} [a : Sms (x :: xs) n C l] : EqVs [] (x :: xs) n false := ⟨Nat.zero_le _, a.d, rfl⟩
end Pv
namespace Pv
theorem seq_assoc (a b c : FS) : sSeq (sSeq a b) c = sSeq a (sSeq b c) := by
  funext env S
  unfold sSeq
  cases a env S <;> rfl
theorem seq3 {a b c d : FS} {env e : VEnv} {S T : Sto} (h : sSeq a (sSeq b c) env S = .nx e T) : sSeq a (sSeq b (sSeq c d)) env S = d e T := by
  rw [← seq_assoc, ← seq_assoc, seq_assoc a b c]
  exact seq_nx h
end Pv

namespace Pv
open L2
/-! ### tables, cells -/
class MemT (l : List Nat) (ks : List (List Nat)) (b : outParam Bool) : Prop where
  eq : decide (l ∈ ks) = b
instance (priority := low) {l : List Nat} {ks : List (List Nat)} : MemT l ks (decide (l ∈ ks)) := ⟨rfl⟩
class TabV (tab : List Nat → Option FF) (l : List Nat) (F : outParam FF) : Prop where
  eq : tab l = some F
class TabW (tab : List Nat → Option (Int × FF)) (l : List Nat) (r : outParam (Int × FF)) : Prop where
  eq : tab l = some r
section
variable {env e1 e2 : VEnv} {S S1 S2 S3 S4 : Sto} {f g h : FE} {fa : FA} {x y z v w : PV} {C C1 C2 C3 C4 : Prop} {b b1 b2 : Bool} {i j k n : Nat} {l : List Nat} {ks : List (List Nat)} {xs ys zs : List PV} {r : RS}
instance [a : EvE f env S (.str l) S1 C] [c : MemT l ks b] : EvE (eInT ks f) env S (.bl b) S1 C := ⟨fun q => by
  unfold eInT; rw [a.run q, zb, ← c.eq]⟩
instance [a : EvE f env S (.str l) S1 C] [c : MemT l ks b] [m : NotB b b1] : EvE (eNInT ks f) env S (.bl b1) S1 C := ⟨fun q => by
  unfold eNInT; rw [a.run q, zb, ← m.eq, ← c.eq]⟩
instance {s : FS} [a : SetAt env i none e1] [c : EvS s e1 S r C] : EvS (dropE i s) env S r (i < env.length ∧ C) := ⟨fun q => by
  unfold dropE; rw [if_pos q.1, a.eq, c.run q.2]⟩
instance {tab : List Nat → Option FF} {F : FF} [a : EvE f env S (.str l) S1 C] [t : TabV tab l F] [c : EvA fa env S1 xs S2 C1] [d : EvF F xs S2 v S3 C2] : EvS (sDisp tab f fa) env S (.ret v S3) (C ∧ C1 ∧ C2) := ⟨fun q => by
  unfold sDisp
  rw [a.run q.1, zbS]
  show (match tab l with
    | some F => ((fa env S1).bind fun xs S => F xs S).bindS fun v S => RS.ret v S
    | none => RS.no) = _
  rw [t.eq]
  show ((fa env S1).bind fun xs S => F xs S).bindS _ = _
  rw [c.run q.2.1, zb, d.run q.2.2, zbS]⟩
instance {tab : List Nat → Option (Int × FF)} {F : FF} {m : Int} [a : EvE f env S (.str l) S1 C] [t : TabW tab l (m, F)] [s : SetAt env i (some (.int m)) e1] [c : EvE (eAnd g (eCall F fa)) e1 S1 v S2 C1] : EvS (sForm tab f i g fa) env S (.ret v S2) (C ∧ C1) := ⟨fun q => by
  unfold sForm
  rw [a.run q.1, zbS]
  show (match tab l with
    | some r => (eAnd g (eCall r.2 fa) (env.set i (some (.int r.1))) S1).bindS fun v S => RS.ret v S
    | none => RS.no) = _
  rw [t.eq]
  show (eAnd g (eCall F fa) (env.set i (some (.int m))) S1).bindS (fun v S => RS.ret v S) = _
  rw [s.eq, c.run q.2, zbS]⟩
instance {m : Int} [a : EvE f env S (.int m) S1 C] : EvA (lRg1 f) env S ((List.range m.toNat).map fun k => .int (k : Nat)) S1 (C ∧ (-4611686018427387904 ≤ m ∧ m < 4611686018427387904) ∧ m.toNat ≤ 16777216) := ⟨fun q => by
  unfold lRg1
  rw [a.run q.1, zb]
  have h : okRg 0 m = true := by
    unfold okRg
    rw [decide_eq_true (show -(2 ^ 62) ≤ (0 : Int) by decide), decide_eq_true (show (0 : Int) < 2 ^ 62 by decide), decide_eq_true (show -(2 ^ 62) ≤ m by omega), decide_eq_true (show m < 2 ^ 62 by omega), decide_eq_true (show (m - 0).toNat ≤ 2 ^ 24 by omega)]
    rfl
  show (if okRg 0 m = true then _ else _) = _
  rw [if_pos h, Int.sub_zero]
  unfold rgI
  congr 1
  apply List.map_congr_left
  intro k _
  congr 1
  omega⟩
instance : EvF bTupleX [.tup xs] S (.tup xs) S True := ⟨fun _ => rfl⟩
instance : EvF bTupleX [.lst xs] S (.tup xs) S True := ⟨fun _ => rfl⟩
instance {l : List Nat} : EvF bTupleX [.str l] S (.tup (l.map fun c => .str [c])) S True := ⟨fun _ => rfl⟩
instance : EvF bListX [.tup xs] S (.lst xs) S True := ⟨fun _ => rfl⟩
instance : EvF bListX [.lst xs] S (.lst xs) S True := ⟨fun _ => rfl⟩
instance {l : List Nat} : EvF bListX [.str l] S (.lst (l.map fun c => .str [c])) S True := ⟨fun _ => rfl⟩
instance : EvSl (.tup (x :: xs)) (some 1) none S (.tup xs) True := ⟨fun _ => by
  show R.ok (PV.tup (cut (x :: xs) (some ((1 : Nat) : Int)) none)) S = _
  unfold cut
  rw [HT.sIx_nat]
  simp [HT.sIx]⟩
theorem cutl {l : List PV} {k : Nat} (h : k ≤ l.length) : cut l none (some (k : Int)) = l.take k := by
  unfold cut
  rw [HT.sIx_nat]
  simp [HT.sIx, Nat.min_eq_left h]
instance : EvSl (.tup (x :: xs)) none (some 1) S (.tup [x]) True := ⟨fun _ => by
  show R.ok (PV.tup (cut (x :: xs) none (some ((1 : Nat) : Int)))) S = _
  rw [cutl (by simp)]; rfl⟩
instance : EvSl (.tup (x :: y :: xs)) none (some 2) S (.tup [x, y]) True := ⟨fun _ => by
  show R.ok (PV.tup (cut (x :: y :: xs) none (some ((2 : Nat) : Int)))) S = _
  rw [cutl (by simp)]; rfl⟩
instance : EvSl (.tup (x :: y :: z :: xs)) none (some 3) S (.tup [x, y, z]) True := ⟨fun _ => by
  show R.ok (PV.tup (cut (x :: y :: z :: xs) none (some ((3 : Nat) : Int)))) S = _
  rw [cutl (by simp)]; rfl⟩
/-! cells -/
instance (priority := low) cellSet [a : CellAt S n xs] : CellAt (S.set n (.lst ys)) n ys := ⟨by
  have := (List.getElem?_eq_some_iff.mp a.eq).1
  rw [List.getElem?_set_self this]⟩
class SetL (xs : List PV) (i : Int) (v : PV) (ys : outParam (List PV)) : Prop where
  eq : ∃ k, ixN xs.length i = some k ∧ xs.set k v = ys
theorem ix_k {n k : Nat} (h : k < n) : ixN n (k : Int) = some k := by
  unfold ixN
  rw [if_pos (by omega), if_pos (by omega)]
  simp
instance : SetL (x :: xs) 0 v (v :: xs) := ⟨⟨0, ix_k (by simp), rfl⟩⟩
instance : SetL (x :: y :: xs) 1 v (x :: v :: xs) := ⟨⟨1, ix_k (by simp), rfl⟩⟩
instance : SetL (x :: y :: z :: xs) 2 v (x :: y :: v :: xs) := ⟨⟨2, ix_k (by simp), rfl⟩⟩
instance {t : Int} [a : EvE f env S x S1 C] [c : EvE g env S1 (.ref n) S2 C1] [d : EvE h env S2 (.int t) S3 C2] [e : CellAt S3 n xs] [s : SetL xs t x ys] [p : IsPV x C3] : EvS (sSub g h f) env S (.nx env (S3.set n (.lst ys))) (C ∧ C1 ∧ C2 ∧ C3) := ⟨fun q => by
  obtain ⟨k, hk, hy⟩ := s.eq
  refine sub_eq (a.run q.1) (c.run q.2.1) (d.run q.2.2.1) ?_
  unfold setCl
  have hc : cl S3 n = some xs := by unfold cl; rw [e.eq]
  show (match cl S3 n with
    | some ys => (match ixN ys.length t with
      | some j => if isP x = true then some (S3.set n (.lst (ys.set j x))) else none
      | none => none)
    | none => none) = _
  rw [hc]
  show (match ixN xs.length t with
    | some j => if isP x = true then some (S3.set n (.lst (xs.set j x))) else none
    | none => none) = _
  rw [hk]
  show (if isP x = true then some (S3.set n (.lst (xs.set k x))) else none) = _
  rw [if_pos (p.run q.2.2.2), hy]⟩
instance {t : Int} [a : EvE f env S (.tup [x, y]) S1 C] [c : EvE g env S1 (.ref n) S2 C1] [d : EvE h env S2 (.int t) S3 C2] [e : CellAt S3 n xs] [s : SetL xs t x ys] [p : IsPV x C3] [u : SetAt env j (some y) e1] : EvS (sDm g h j f) env S (.nx e1 (S3.set n (.lst ys))) (C ∧ C1 ∧ C2 ∧ C3) := ⟨fun q => by
  obtain ⟨k, hk, hy⟩ := s.eq
  rw [← u.eq]
  refine dm_eq (a.run q.1) (c.run q.2.1) (d.run q.2.2.1) ?_
  unfold setCl
  have hc : cl S3 n = some xs := by unfold cl; rw [e.eq]
  show (match cl S3 n with
    | some ys => (match ixN ys.length t with
      | some j => if isP x = true then some (S3.set n (.lst (ys.set j x))) else none
      | none => none)
    | none => none) = _
  rw [hc]
  show (match ixN xs.length t with
    | some j => if isP x = true then some (S3.set n (.lst (xs.set j x))) else none
    | none => none) = _
  rw [hk]
  show (if isP x = true then some (S3.set n (.lst (xs.set k x))) else none) = _
  rw [if_pos (p.run q.2.2.2), hy]⟩
instance {t : Int} [a : CellAt S n xs] [c : AtL xs t v] : Ev2 oIx (.ref n) (.int t) S v True := ⟨fun _ => q_ixR a.eq c.eq⟩
instance [a : CellAt S n xs] : EvF bLen [.ref n] S (.int (xs.length : Nat)) S True := ⟨fun _ => by
  show (match lenPV S (.ref n) with | some n => R.ok (PV.int n) S | none => .no) = _
  have hd : lenPV S (.ref n) = some xs.length := by
    show (match S[n]? with
      | some (.lst xs) => some xs
      | _ => none).map List.length = _
    rw [a.eq]
    rfl
  rw [hd]⟩
instance [a : CellAt S n xs] [p : IsPV x C] : EvM bAppend (.ref n) [x] S .non (S.set n (.lst (xs ++ [x]))) (C ∧ xs.length < 16777216) := ⟨fun q => by
  have hc : cl S n = some xs := by unfold cl; rw [a.eq]
  show (match cl S n with | some ys => if (isP x && decide (ys.length < SZ)) = true then R.ok PV.non (S.set n (.lst (ys ++ [x]))) else .no | none => .no) = _
  rw [hc]
  show (if (isP x && decide (xs.length < SZ)) = true then R.ok PV.non (S.set n (.lst (xs ++ [x]))) else .no) = _
  rw [p.run q.1, decide_eq_true (show xs.length < SZ from q.2)]
  rfl⟩
end
end Pv

namespace Lw
open Pv L2
/-! ### closed stackings -/
instance (c : Nat) : Decidable (Lt c) := by unfold Lt; infer_instance
instance (l : List Nat) : Decidable (Stk l) := by unfold Stk; infer_instance
/-- closed -/
def Cls (l : List Nat) : Prop := Stk l ∧ gi l 0 ≠ gi l (-1)
instance (l : List Nat) : Decidable (Cls l) := by unfold Cls; infer_instance
/-- the letter so many further -/
def fu (c : Nat) (k : Int) : Nat := 65 + ((((c - 65 : Nat) : Int) + k) % 3).toNat
theorem fu_lt (c : Nat) (k : Int) : Lt (fu c k) := by
  have h0 := Int.emod_nonneg (((c - 65 : Nat) : Int) + k) (show (3 : Int) ≠ 0 by decide)
  have h1 := Int.emod_lt_of_pos (((c - 65 : Nat) : Int) + k) (show (0 : Int) < 3 by decide)
  unfold fu Lt
  omega
theorem abc_gi {z : Int} (h0 : 0 ≤ z) (h1 : z < 3) : gi ([65, 66, 67] : List Nat) z = 65 + z.toNat := by
  have : z = 0 ∨ z = 1 ∨ z = 2 := by omega
  rcases this with rfl | rfl | rfl <;> rfl
theorem abc_idx {c : Nat} (h : Lt c) : (([65, 66, 67] : List Nat).idxOf c : Nat) = c - 65 := by
  rcases h with rfl | rfl | rfl <;> rfl
/-! parts of lists, told by drop and take -/
theorem sx_none (n d : Nat) : HT.sIx n d none = d := rfl
theorem sx_nat (n d k : Nat) : HT.sIx n d (some (k : Int)) = min k n := HT.sIx_nat n d k
theorem sx_neg (n d k : Nat) (h : 1 ≤ k) : HT.sIx n d (some (-(k : Int))) = n - k := by
  show (if -(k : Int) < 0 then (-(k : Int) + (n : Int)).toNat else _) = _
  rw [if_pos (by omega)]
  omega
theorem take_min {α : Type} (l : List α) (k : Nat) : l.take (min k l.length) = l.take k := by
  by_cases h : k ≤ l.length
  · rw [Nat.min_eq_left h]
  · rw [Nat.min_eq_right (by omega), List.take_length, List.take_of_length_le (by omega)]
theorem drop_min {α : Type} (l : List α) (k : Nat) : l.drop (min k l.length) = l.drop k := by
  by_cases h : k ≤ l.length
  · rw [Nat.min_eq_left h]
  · rw [Nat.min_eq_right (by omega), List.drop_length, List.drop_eq_nil_of_le (by omega)]
theorem cut_drop {α : Type} (l : List α) (k : Nat) : cut l (some (k : Int)) none = l.drop k := by
  unfold cut
  rw [sx_nat, sx_none, drop_min, List.take_of_length_le]
  rw [List.length_drop]
  omega
theorem cut_take {α : Type} (l : List α) (k : Nat) : cut l none (some (k : Int)) = l.take k := by
  unfold cut
  rw [sx_nat, sx_none, List.drop_zero, Nat.sub_zero, take_min]
theorem cut_init {α : Type} (l : List α) : cut l none (some (-1)) = l.dropLast := by
  unfold cut
  rw [show (-1 : Int) = -((1 : Nat) : Int) from rfl, sx_neg _ _ _ (Nat.le_refl 1), sx_none, List.drop_zero, Nat.sub_zero, List.dropLast_eq_take]
theorem cut_mid {α : Type} (l : List α) (i j : Nat) : cut l (some (i : Int)) (some (j : Int)) = (l.drop i).take (j - i) := by
  unfold cut
  rw [sx_nat, sx_nat, drop_min]
  by_cases h : i ≤ l.length
  · rw [Nat.min_eq_left h]
    by_cases h2 : j ≤ l.length
    · rw [Nat.min_eq_left h2]
    · rw [Nat.min_eq_right (by omega), List.take_of_length_le (by rw [List.length_drop]; omega), List.take_of_length_le (by rw [List.length_drop]; omega)]
  · rw [List.drop_eq_nil_of_le (by omega)]
    simp
theorem cut_1 {α : Type} (l : List α) : cut l (some 1) none = l.drop 1 := cut_drop l 1
theorem cut_2 {α : Type} (l : List α) : cut l (some 2) none = l.drop 2 := cut_drop l 2
theorem cut_t1 {α : Type} (l : List α) : cut l none (some 1) = l.take 1 := cut_take l 1
theorem cut_z {α : Type} (l : List α) (z : Int) (h : 0 ≤ z) : cut l none (some z) = l.take z.toNat := by
  rw [← cut_take, Int.toNat_of_nonneg h]
theorem cut_dz {α : Type} (l : List α) (z : Int) (h : 0 ≤ z) : cut l (some z) none = l.drop z.toNat := by
  rw [← cut_drop, Int.toNat_of_nonneg h]
theorem gi_0 {α : Type} [Inhabited α] {l : List α} (h : 0 < l.length) : gi l 0 = l[0] := gi_nat (k := 0) h
theorem gi_last {α : Type} [Inhabited α] {l : List α} (h : 0 < l.length) : gi l (-1) = l[l.length - 1] := gi_neg (k := 1) (by decide) h
theorem zip_map_zz {α β : Type} (k : Nat) (f : α → α → β) (l : List α) : (l.zip (l.drop k)).map (fun p => f p.1 p.2) = zz k f l := by
  unfold zz
  rw [List.zip, List.map_zipWith]
theorem mem_zip {α : Type} {l : List α} {k : Nat} {p : α × α} (h : p ∈ l.zip (l.drop k)) : p.1 ∈ l ∧ p.2 ∈ l := by
  obtain ⟨a, b⟩ := p
  obtain ⟨h1, h2⟩ := List.of_mem_zip h
  exact ⟨h1, List.mem_of_mem_drop h2⟩
theorem zip_all {α : Type} (k : Nat) (f : α → α → Bool) (l : List α) : (l.zip (l.drop k)).all (fun p => f p.1 p.2) = (zz k f l).all id := by
  rw [← zip_map_zz, List.all_map]
  rfl
/-! letters led by steps -/
def led (c : Nat) : List Nat → List Nat
  | [] => [c]
  | s :: r => c :: led (fu c (if s = 43 then 1 else 2)) r
theorem led_len (c : Nat) : ∀ l : List Nat, (led c l).length = l.length + 1
  | [] => rfl
  | s :: r => by
    show (led _ r).length + 1 = _
    rw [led_len _ r]; rfl
theorem led_lt {c : Nat} (hc : Lt c) : ∀ (l : List Nat), ∀ x ∈ led c l, Lt x
  | [], x, hx => by rw [List.mem_singleton.mp hx]; exact hc
  | s :: r, x, hx => by
    rcases List.mem_cons.mp hx with rfl | hx
    · exact hc
    · exact led_lt (fu_lt _ _) r x hx
theorem led_ne (c : Nat) (l : List Nat) : led c l ≠ [] := by
  intro e
  have := led_len c l
  rw [e] at this
  cases this
theorem led_snoc (c : Nat) (l : List Nat) (s : Nat) : led c (l ++ [s]) = led c l ++ [fu ((led c l).getLast (led_ne c l)) (if s = 43 then 1 else 2)] := by
  induction l generalizing c with
  | nil => rfl
  | cons a l ih =>
    show c :: led (fu c (if a = 43 then 1 else 2)) (l ++ [s]) = c :: (led (fu c (if a = 43 then 1 else 2)) l ++ [_])
    rw [ih]
    congr 4
    show _ = (c :: led (fu c (if a = 43 then 1 else 2)) l).getLast _
    rw [List.getLast_cons (led_ne _ _)]
theorem fu_ne {c : Nat} (hc : Lt c) (s : Nat) : fu c (if s = 43 then 1 else 2) ≠ c := by
  rcases hc with rfl | rfl | rfl <;> split <;> decide
theorem led_head (c : Nat) (l : List Nat) : ∃ r, led c l = c :: r := by
  cases l with
  | nil => exact ⟨[], rfl⟩
  | cons s r => exact ⟨_, rfl⟩
theorem led_nb {c : Nat} (hc : Lt c) : ∀ (l : List Nat), ∀ b ∈ zz 1 (fun a b => a != b) (led c l), b = true
  | [], b, h => by cases h
  | s :: r, b, h => by
    obtain ⟨t, ht⟩ := led_head (fu c (if s = 43 then 1 else 2)) r
    have ih := led_nb (fu_lt c (if s = 43 then 1 else 2)) r
    have e : led c (s :: r) = c :: led (fu c (if s = 43 then 1 else 2)) r := rfl
    rw [e] at h
    rw [ht] at h ih
    have e2 : zz 1 (fun a b => a != b) (c :: fu c (if s = 43 then 1 else 2) :: t) = (c != fu c (if s = 43 then 1 else 2)) :: zz 1 (fun a b => a != b) (fu c (if s = 43 then 1 else 2) :: t) := rfl
    rw [e2] at h
    rcases List.mem_cons.mp h with rfl | h
    · exact bne_iff_ne.mpr fun q => fu_ne hc s q.symm
    · exact ih b h
theorem led_stk {c : Nat} (hc : Lt c) {l : List Nat} (hl : l.length ≤ 23) : Stk (led c l) := by
  refine ⟨led_lt hc l, ?_, ?_, led_nb hc l⟩
  · rw [led_len]; omega
  · rw [led_len]; omega
/-! neighbours unlike, of any length -/
structure Nb (l : List Nat) : Prop where
  lt : ∀ c ∈ l, Lt c
  ne : ∀ i a b, l[i]? = some a → l[i + 1]? = some b → a ≠ b
theorem Stk.nb {l : List Nat} (h : Stk l) : Nb l := ⟨h.1, fun _ _ _ ha hb => h.at ha hb⟩
theorem Nb.stk {l : List Nat} (h : Nb l) (h1 : 1 ≤ l.length) (h2 : l.length ≤ 24) : Stk l := by
  refine ⟨h.lt, h1, h2, fun b hb => ?_⟩
  obtain ⟨i, hi⟩ := List.getElem?_of_mem hb
  rw [zz_get] at hi
  split at hi
  · rename_i x y hx hy
    cases hi
    exact bne_iff_ne.mpr (h.ne i x y hx hy)
  · cases hi
theorem Nb.marks {l : List Nat} (h : Nb l) : zz 1 mark (zz 1 stp l) = (hs l).map mc := by
  apply List.ext_getElem?
  intro i
  unfold hs
  rw [zz_get, zz_get, zz_get, List.getElem?_map, zz_get]
  cases ea : l[i]? with
  | none => rfl
  | some a =>
    cases eb : l[i + 1]? with
    | none =>
      have e2 : l[i + 2]? = none := List.getElem?_eq_none (by have := List.getElem?_eq_none_iff.mp eb; omega)
      rw [e2]
      rfl
    | some b =>
      cases ec : l[i + 2]? with
      | none => rfl
      | some c => exact congrArg some (stp_stp (h.lt a (List.mem_of_getElem? ea)) (h.lt b (List.mem_of_getElem? eb)) (h.lt c (List.mem_of_getElem? ec)) (h.ne i a b ea eb) (h.ne (i + 1) b c eb ec))
theorem Nb.tail {c : Nat} {l : List Nat} (h : Nb (c :: l)) : Nb l := ⟨fun x hx => h.lt x (List.mem_cons_of_mem _ hx), fun i a b ha hb => h.ne (i + 1) a b ha hb⟩
theorem Nb.cons {c : Nat} {l : List Nat} (h : Nb l) (hc : Lt c) (hn : ∀ a, l[0]? = some a → c ≠ a) : Nb (c :: l) := by
  refine ⟨fun x hx => ?_, fun i a b ha hb => ?_⟩
  · rcases List.mem_cons.mp hx with rfl | hx
    · exact hc
    · exact h.lt x hx
  · cases i with
    | zero =>
      cases ha
      exact hn b hb
    | succ i => exact h.ne i a b ha hb
theorem Nb.snoc {c : Nat} {l : List Nat} (h : Nb l) (hc : Lt c) (hn : ∀ a, l.getLast? = some a → a ≠ c) : Nb (l ++ [c]) := by
  refine ⟨fun x hx => ?_, fun i a b ha hb => ?_⟩
  · rcases List.mem_append.mp hx with hx | hx
    · exact h.lt x hx
    · rw [List.mem_singleton.mp hx]; exact hc
  · have hl := (List.getElem?_eq_some_iff.mp hb).1
    rw [List.length_append] at hl
    by_cases hi : i + 1 < l.length
    · rw [List.getElem?_append_left hi] at hb
      rw [List.getElem?_append_left (by omega)] at ha
      exact h.ne i a b ha hb
    · have e : i + 1 = l.length := by simp at hl; omega
      rw [List.getElem?_append_right (by omega), e, Nat.sub_self] at hb
      cases hb
      refine hn a ?_
      rw [List.getLast?_eq_getElem?, show l.length - 1 = i by omega]
      rwa [List.getElem?_append_left (by omega)] at ha
/-! going round -/
theorem Cls.pos {l : List Nat} (h : Cls l) : 0 < l.length := h.1.2.1
theorem Cls.two {l : List Nat} (h : Cls l) : 2 ≤ l.length := by
  have h1 := h.1.2.1
  refine Classical.byContradiction fun q => h.2 ?_
  have e : l.length = 1 := by omega
  rw [gi_0 (by omega), gi_last (by omega)]
  congr 1
  omega
theorem Cls.nb1 {l : List Nat} (h : Cls l) : Nb (l ++ [gi l 0]) := by
  have h1 := h.1.2.1
  refine h.1.nb.snoc ?_ fun a ha e => h.2 ?_
  · rw [gi_0 (by omega)]; exact h.1.1 _ (List.getElem_mem _)
  · rw [gi_last (by omega), ← e]
    rw [List.getLast?_eq_getElem?, List.getElem?_eq_getElem (by omega)] at ha
    exact (Option.some.inj ha).symm
theorem Cls.nb2 {l : List Nat} (h : Cls l) : Nb (gi l (-1) :: (l ++ [gi l 0])) := by
  have h1 := h.1.2.1
  refine h.nb1.cons ?_ fun a ha e => h.2 ?_
  · rw [gi_last (by omega)]; exact h.1.1 _ (List.getElem_mem _)
  · rw [List.getElem?_append_left (by omega), List.getElem?_eq_getElem (by omega)] at ha
    rw [e, gi_0 (by omega)]
    exact Option.some.inj ha
/-- the round steps; the round marks -/
def rst (l : List Nat) : List Nat := zz 1 stp (l ++ [gi l 0])
def rmB (l : List Nat) : List Bool := hs (gi l (-1) :: (l ++ [gi l 0]))
def rmk (l : List Nat) : List Nat := (rmB l).map mc
theorem rst_len {l : List Nat} : (rst l).length = l.length := by
  unfold rst
  rw [zz_len, List.length_append]
  simp
theorem rmk_len {l : List Nat} : (rmk l).length = l.length := by
  unfold rmk rmB hs
  rw [List.length_map, zz_len, List.length_cons, List.length_append]
  simp
theorem zz_cons1 {α β : Type} (f : α → α → β) (a b : α) (l : List α) : zz 1 f (a :: b :: l) = f a b :: zz 1 f (b :: l) := rfl
theorem rst_last {l : List Nat} (h : 0 < l.length) : gi (rst l) (-1) = stp (gi l (-1)) (gi l 0) := by
  have hl : (rst l).length = l.length := rst_len
  rw [gi_last (by omega), gi_last h]
  have e : (rst l)[l.length - 1]? = some (stp (l[l.length - 1]) (gi l 0)) := by
    unfold rst
    rw [zz_get, List.getElem?_append_left (by omega), List.getElem?_eq_getElem (by omega), List.getElem?_append_right (by omega), show l.length - 1 + 1 - l.length = 0 by omega]
    rfl
  have := (List.getElem?_eq_some_iff.mp e).2
  simp only [hl]
  exact this
theorem rst_round {l : List Nat} (h : 0 < l.length) : gi (rst l) (-1) :: rst l = zz 1 stp (gi l (-1) :: (l ++ [gi l 0])) := by
  rw [rst_last h]
  cases l with
  | nil => simp at h
  | cons a r =>
    have e : gi (a :: r) 0 = a := gi_0 (by simp)
    unfold rst
    rw [e]
    rfl
theorem rmk_steps {l : List Nat} (h : Cls l) : zz 1 mark (gi (rst l) (-1) :: rst l) = rmk l := by
  rw [rst_round h.pos, h.nb2.marks]
  rfl
/-- the thing at a place, going round -/
def gx (l : List Nat) (i : Nat) : Nat := l.getD (i % l.length) 0
theorem gx_lt {l : List Nat} {i : Nat} (h : i < l.length) : gx l i = l[i] := by
  unfold gx
  rw [Nat.mod_eq_of_lt h, List.getD_eq_getElem?_getD, List.getElem?_eq_getElem h]
  rfl
theorem gx_get {l : List Nat} {i : Nat} (h : i < l.length) : l[i]? = some (gx l i) := by rw [gx_lt h, List.getElem?_eq_getElem h]
theorem gx_mod (l : List Nat) (i : Nat) : gx l (i % l.length) = gx l i := by
  unfold gx
  rw [Nat.mod_mod]
theorem gx_mem {l : List Nat} (h : 0 < l.length) (i : Nat) : gx l i ∈ l := by
  rw [← gx_mod, gx_lt (Nat.mod_lt _ h)]
  exact List.getElem_mem _
theorem gx_congr {l : List Nat} {i j : Nat} (h : i % l.length = j % l.length) : gx l i = gx l j := by
  unfold gx
  rw [h]
theorem gx_add (l : List Nat) (i : Nat) : gx l (i + l.length) = gx l i := gx_congr (Nat.add_mod_right _ _)
theorem gi_gx0 {l : List Nat} (h : 0 < l.length) : gi l 0 = gx l 0 := by rw [gi_0 h, gx_lt h]
theorem gi_gxl {l : List Nat} (h : 0 < l.length) : gi l (-1) = gx l (l.length - 1) := by rw [gi_last h, gx_lt (by omega)]
theorem rmB_get {l : List Nat} {i : Nat} (h : i < l.length) : (rmB l)[i]? = some (gx l (i + l.length - 1) == gx l (i + 1)) := by
  unfold rmB hs
  rw [zz_get]
  have h2 : (gi l (-1) :: (l ++ [gi l 0]))[i + 2]? = some (gx l (i + 1)) := by
    show (l ++ [gi l 0])[i + 1]? = _
    by_cases h1 : i + 1 < l.length
    · rw [List.getElem?_append_left h1, gx_get h1]
    · have e : i + 1 = l.length := by omega
      rw [List.getElem?_append_right (by omega), e, Nat.sub_self, gi_gx0 (by omega)]
      have := gx_add l 0
      rw [Nat.zero_add] at this
      rw [this]
      rfl
  have h0 : (gi l (-1) :: (l ++ [gi l 0]))[i]? = some (gx l (i + l.length - 1)) := by
    cases i with
    | zero =>
      rw [Nat.zero_add, ← gi_gxl h]
      rfl
    | succ i =>
      show (l ++ [gi l 0])[i]? = _
      rw [List.getElem?_append_left (by omega), show i + 1 + l.length - 1 = i + l.length by omega, gx_add, gx_get (by omega)]
  rw [h0, h2]
theorem rmB_len {l : List Nat} : (rmB l).length = l.length := by
  have := rmk_len (l := l)
  unfold rmk at this
  rwa [List.length_map] at this
/-! one thing again and again -/
theorem rep_succ {α : Type} (p : List α) (m : Nat) : repL p (m + 1) = p ++ repL p m := by
  unfold repL
  rw [List.replicate_succ, List.flatten_cons]
theorem rep_leng {α : Type} (l : List α) (k : Nat) : (repL l k).length = k * l.length := by
  unfold repL
  rw [List.length_flatten, List.map_replicate, List.sum_replicate_nat]
theorem rep_get {α : Type} {p : List α} (hp : 0 < p.length) : ∀ (m j : Nat), j < m * p.length → (repL p m)[j]? = p[j % p.length]?
  | 0, j, h => by rw [Nat.zero_mul] at h; exact absurd h (Nat.not_lt_zero _)
  | m + 1, j, h => by
    rw [rep_succ]
    by_cases hj : j < p.length
    · rw [List.getElem?_append_left hj, Nat.mod_eq_of_lt hj]
    · have h' : j - p.length < m * p.length := by rw [Nat.add_mul, Nat.one_mul] at h; omega
      rw [List.getElem?_append_right (by omega), rep_get hp m _ h', Nat.mod_eq_sub_mod (by omega : j ≥ p.length)]
theorem rep_gx {p : List Nat} (hp : 0 < p.length) {m : Nat} (hm : 0 < m) (i : Nat) : gx (repL p m) i = gx p i := by
  have hl := rep_leng p m
  have h : i % (m * p.length) < m * p.length := Nat.mod_lt _ (Nat.mul_pos hm hp)
  have e := rep_get hp m _ h
  have e2 := gx_get (l := repL p m) (i := i % (m * p.length)) (by rw [hl]; exact h)
  rw [e] at e2
  rw [gx_get (Nat.mod_lt _ hp)] at e2
  have e3 := Option.some.inj e2
  have e4 : gx (repL p m) (i % (m * p.length)) = gx (repL p m) i := by rw [← hl, gx_mod]
  rw [← e4, ← e3, gx_mod]
  refine gx_congr ?_
  exact (Nat.mod_mod_of_dvd i (Nat.dvd_mul_left p.length m)).symm ▸ rfl
theorem rmB_rep {p : List Nat} (hp : 0 < p.length) {m : Nat} (hm : 0 < m) : rmB (repL p m) = repL (rmB p) m := by
  have hl := rep_leng p m
  apply List.ext_getElem?
  intro i
  by_cases h : i < m * p.length
  · have hi := Nat.mod_lt i hp
    rw [rmB_get (by rw [hl]; exact h), rep_get (by rw [rmB_len]; exact hp) m i (by rw [rmB_len]; exact h), rmB_len, rmB_get hi, rep_gx hp hm, rep_gx hp hm]
    have e1 : gx p (i + (repL p m).length - 1) = gx p (i % p.length + p.length - 1) := by
      refine gx_congr ?_
      obtain ⟨k, rfl⟩ : ∃ k, m = k + 1 := ⟨m - 1, by omega⟩
      rw [hl, Nat.add_mul, Nat.one_mul]
      have : i + (k * p.length + p.length) - 1 = (i + p.length - 1) + k * p.length := by omega
      rw [this, Nat.add_mul_mod_self_right]
      have h2 : i + p.length - 1 = (i % p.length + p.length - 1) + p.length * (i / p.length) := by have := Nat.mod_add_div i p.length; omega
      rw [h2, Nat.add_mul_mod_self_left]
    have e2 : gx p (i + 1) = gx p (i % p.length + 1) := gx_congr (by rw [Nat.mod_add_mod])
    rw [e1, e2]
  · rw [List.getElem?_eq_none (by rw [rmB_len, hl]; omega), List.getElem?_eq_none (by rw [rep_leng, rmB_len]; omega)]
theorem rep_count {α : Type} [BEq α] (p : List α) (a : α) : ∀ m, (repL p m).count a = m * p.count a
  | 0 => by rw [Nat.zero_mul]; rfl
  | m + 1 => by rw [rep_succ, List.count_append, rep_count p a m, Nat.add_mul, Nat.one_mul, Nat.add_comm]
theorem rmk_count (l : List Nat) : (rmk l).count 104 = (rmB l).count true := cnt_mc _
/-- a part of a closed stacking that stands in it twice running is closed itself -/
theorem cls_part {p : List Nat} {m : Nat} (hp : 0 < p.length) (hm : 2 ≤ m) (h : Cls (repL p m)) : Cls p := by
  have hl := rep_leng p m
  have h24 := h.1.2.2.1
  have hlt : 2 * p.length ≤ m * p.length := Nat.mul_le_mul_right _ hm
  have get : ∀ i, i < p.length → (repL p m)[i]? = p[i]? := fun i hi => by rw [rep_get hp m i (by omega), Nat.mod_eq_of_lt hi]
  refine ⟨Nb.stk ⟨fun c hc => h.1.1 c ?_, fun i a b ha hb => ?_⟩ hp (by omega), ?_⟩
  · obtain ⟨i, hi⟩ := List.getElem?_of_mem hc
    have := (List.getElem?_eq_some_iff.mp hi).1
    exact List.mem_of_getElem? ((get i this).trans hi)
  · have hi := (List.getElem?_eq_some_iff.mp hb).1
    exact h.1.at ((get i (by omega)).trans ha) ((get (i + 1) hi).trans hb)
  · have e1 : (repL p m)[p.length - 1]? = some (gi p (-1)) := by rw [get _ (by omega), gi_last hp]; exact List.getElem?_eq_getElem _
    have e2 : (repL p m)[p.length - 1 + 1]? = some (gi p 0) := by
      rw [show p.length - 1 + 1 = p.length by omega, rep_get hp m _ (by omega), Nat.mod_self, gi_0 hp]
      exact List.getElem?_eq_getElem _
    exact fun q => h.1.at e1 e2 q.symm
theorem Cls.round {p : List Nat} (h : Cls p) (i : Nat) : gx p i ≠ gx p (i + 1) := by
  have hp := h.pos
  have hi := Nat.mod_lt i hp
  rw [← gx_mod p i]
  by_cases h1 : i % p.length + 1 < p.length
  · have e : gx p (i + 1) = gx p (i % p.length + 1) := gx_congr (by rw [Nat.mod_add_mod])
    rw [e]
    exact h.1.at (gx_get hi) (gx_get h1)
  · have e0 : i % p.length = p.length - 1 := by omega
    have e : gx p (i + 1) = gx p 0 := by
      refine gx_congr ?_
      rw [Nat.add_mod, e0]
      by_cases h2 : p.length = 1
      · rw [h2]
      · rw [Nat.mod_eq_of_lt (show 1 < p.length by omega), show p.length - 1 + 1 = p.length by omega, Nat.mod_self, Nat.zero_mod]
    rw [e, e0, ← gi_gxl hp, ← gi_gx0 hp]
    exact fun q => h.2 q.symm
theorem cls_of_round {l : List Nat} (h1 : 1 ≤ l.length) (h2 : l.length ≤ 24) (hl : ∀ c ∈ l, Lt c) (h : ∀ i, i < l.length → gx l i ≠ gx l (i + 1)) : Cls l := by
  refine ⟨Nb.stk ⟨hl, fun i a b ha hb => ?_⟩ h1 h2, ?_⟩
  · have hb1 := (List.getElem?_eq_some_iff.mp hb).1
    rw [gx_get (by omega)] at ha
    rw [gx_get hb1] at hb
    cases ha
    cases hb
    exact h i (by omega)
  · rw [gi_gx0 (by omega), gi_gxl (by omega)]
    have := h (l.length - 1) (by omega)
    rw [show l.length - 1 + 1 = 0 + l.length by omega, gx_add] at this
    exact fun q => this q.symm
theorem cls_rep {p : List Nat} (h : Cls p) {m : Nat} (hm : 0 < m) (hl : m * p.length ≤ 24) : Cls (repL p m) := by
  have hp := h.pos
  have e := rep_leng p m
  have hpos := Nat.mul_pos hm hp
  refine cls_of_round (by omega) (by omega) (fun c hc => ?_) fun i hi => ?_
  · obtain ⟨j, hj⟩ := List.getElem?_of_mem hc
    have hj1 := (List.getElem?_eq_some_iff.mp hj).1
    rw [gx_get hj1, rep_gx hp hm] at hj
    cases hj
    exact h.1.1 _ (gx_mem hp _)
  · rw [rep_gx hp hm, rep_gx hp hm]
    exact h.round i
end Lw

namespace Lw
open PySem PySem.Spec PyProof.Rows L2 Pv
/-- a def as it stands -/
def Df (K : PySem.W.Frag) (mg : Str → Option Value) (x : Str) (i : Nat) : Prop := ∃ (f : Addr) (fd : FuncData), mg x = some (.ref f) ∧ FunD K x x (defArgs (top i)) (defBody (top i)) (defScope (top i)) [] [] f fd
structure Fx (P : Program) (w : World) (K : PySem.W.Frag) (mg : Str → Option Value) (base : Heap) : Prop where
  d_law_bag : Df K mg "_law_bag" 131
  d_law_draw : Df K mg "_law_draw" 132
  d_law_one : Df K mg "_law_one" 133
  d_law_further : Df K mg "_law_further" 138
  d_law_by : Df K mg "_law_by" 141
  d_law_stacking : Df K mg "_law_stacking" 142
  d_law_closed : Df K mg "_law_closed" 143
  d_law_steps : Df K mg "_law_steps" 139
  d_law_round_steps : Df K mg "_law_round_steps" 140
  d_is_text_of : Df K mg "is_text_of" 6
  d_is_whole : Df K mg "is_whole" 2
  d_is_between : Df K mg "is_between" 3
  d_is_layer_number : Df K mg "is_layer_number" 13
  d_is_stepped : Df K mg "is_stepped" 17
  d_check_steps : Df K mg "check_steps" 51
  d_worth : Df K mg "worth" 20
  d_sum_of : Df K mg "sum_of" 21
  d_do_go_round : Df K mg "do_go_round" 27
  d_goes_round : Df K mg "goes_round" 128
  d_law_same : Df K mg "_law_same" 134
  d_is_letter : Df K mg "is_letter" 14
  d_check_letter : Df K mg "check_letter" 52
  d_number_of : Df K mg "number_of" 18
  d_further : Df K mg "further" 19
  d_led_by : Df K mg "led_by" 26
  d_stacking_by : Df K mg "stacking_by" 127
  d_is_stacked : Df K mg "is_stacked" 15
  d_is_closed_one : Df K mg "is_closed_one" 16
  d_check_closed : Df K mg "check_closed" 50
  d_step_between : Df K mg "step_between" 23
  d_steps_by : Df K mg "steps_by" 24
  d_round_steps_by : Df K mg "round_steps_by" 25
  d_round_steps : Df K mg "round_steps" 126
  d_law_is_stacking : Df K mg "_law_is_stacking" 136
  d_law_is_closed : Df K mg "_law_is_closed" 137
  d_letter_further : Df K mg "letter_further" 129
  d_certify_round : Df K mg "certify_round" 98
  d_tells_steps : Df K mg "tells_steps" 89
  d_is_claim : Df K mg "is_claim" 96
  d_is_tuple_of : Df K mg "is_tuple_of" 4
  d_is_nothing : Df K mg "is_nothing" 100
  d_shows_round : Df K mg "shows_round" 101
  d_shows_not_round : Df K mg "shows_not_round" 102
  d_accepts : Df K mg "accepts" 117
  d_law_is_whole : Df K mg "_law_is_whole" 135
  d_law_steps_right : Df K mg "_law_steps_right" 144
  d_law_next : Df K mg "_law_next" 146
  d_are_marks : Df K mg "are_marks" 78
  d_check_marks : Df K mg "check_marks" 120
  d_other_step : Df K mg "other_step" 22
  d_steps_of_marks : Df K mg "steps_of_marks" 82
  d_unrolled_count_of : Df K mg "unrolled_count_of" 83
  d_unrolled_by : Df K mg "unrolled_by" 84
  d_unrolled : Df K mg "unrolled" 122
  d_unrolled_count : Df K mg "unrolled_count" 123
  d_marks_between : Df K mg "marks_between" 79
  d_round_marks_by : Df K mg "round_marks_by" 80
  d_round_marks : Df K mg "round_marks" 121
  d_h_count_of : Df K mg "h_count_of" 81
  d_h_count : Df K mg "h_count" 124
  d_law_unrolled_right : Df K mg "_law_unrolled_right" 145
  d_law : Df K mg "law" 147
  t_FORMS : ∃ d, mg "FORMS" = some (.ref d) ∧ Tab K w d ["round", "not round", "alike", "not alike", "slips", "like counts", "unlike counts", "mirror", "no mirror", "least", "not least", "own", "again"] ∧ (∃ t f, mg "tells_steps" = some (.ref f) ∧ PySem.W.nsIn K d "round" = some (some (.ref t)) ∧ ∀ H, SqT K H t [.int 1, .ref f]) ∧ (∃ t f, mg "tells_steps" = some (.ref f) ∧ PySem.W.nsIn K d "not round" = some (some (.ref t)) ∧ ∀ H, SqT K H t [.int 1, .ref f])
  t_OF_ONE : ∃ d, mg "OF_ONE" = some (.ref d) ∧ Tab K w d ["round", "not round", "mirror", "no mirror", "own", "again"] ∧ (∃ f, mg "shows_round" = some (.ref f) ∧ PySem.W.nsIn K d "round" = some (some (.ref f))) ∧ (∃ f, mg "shows_not_round" = some (.ref f) ∧ PySem.W.nsIn K d "not round" = some (some (.ref f)))
  t_OF_TWO : ∃ d, mg "OF_TWO" = some (.ref d) ∧ Tab K w d ["alike", "not alike", "like counts", "unlike counts", "least", "not least"]
  b_abs : mg "abs" = none
  b_all : mg "all" = none
  b_any : mg "any" = none
  b_bool : mg "bool" = none
  b_divmod : mg "divmod" = none
  b_enumerate : mg "enumerate" = none
  b_int : mg "int" = none
  b_isinstance : mg "isinstance" = none
  b_len : mg "len" = none
  b_list : mg "list" = none
  b_max : mg "max" = none
  b_min : mg "min" = none
  b_range : mg "range" = none
  b_str : mg "str" = none
  b_sum : mg "sum" = none
  b_tuple : mg "tuple" = none
  b_zip : mg "zip" = none
  g_C : ∃ t, mg "C" = some (.str "c" t)
  g_DOWN : ∃ t, mg "DOWN" = some (.str "-" t)
  g_H : ∃ t, mg "H" = some (.str "h" t)
  g_LETTERS : ∃ t, mg "LETTERS" = some (.str "ABC" t)
  g_LONGEST_UNROLLED : ∃ t, mg "LONGEST_UNROLLED" = some (.int 8 t)
  g_MARKS : ∃ t, mg "MARKS" = some (.str "hc" t)
  g_MOST_LAYERS : ∃ t, mg "MOST_LAYERS" = some (.int 24 t)
  g_STEPS : ∃ t, mg "STEPS" = some (.str "+-" t)
  g_UP : ∃ t, mg "UP" = some (.str "+" t)
section
variable {P : Program} {w : World} {K : PySem.W.Frag} {mg : Str → Option Value} {base : Heap}
abbrev N_law_bag : List Str := ["script", "at", "stirred", "place", "cell", "own", "digits"]
theorem sc_law_bag : FnScope N_law_bag ["script", "at"] (defScope (top 131)) := ⟨rfl, rfl, rfl, by decide +kernel, rfl, by decide +kernel, by decide +kernel⟩
def f_law_bag : FF := fnKeep 2 7 ((sSeq (sSet 2 (eBin oAdd (eCon (.int 70001)) (eBin oMul (eCon (.int 3571)) (eVar 1)))) (sSeq (sFor (.tp [(.nm 3), (.nm 4)]) (iEnum' (eSl (eVar 0) oNone (oSome (eCon (.int 9))))) (sSet 2 (eBin oMod (eCall bInt (aCons (eBin oAdd (eBin oAdd (eBin oAdd (eBin oMul (eVar 2) (eCon (.int 47653))) (eBin oMod (eCall bInt (aCons (eVar 4) aNil)) (eCon (.int 1999999943)))) (eBin oMul (eCon (.int 31)) (eVar 3))) (eCon (.int 5))) aNil)) (eCon (.int 2147483477))))) (sSeq (sSet 5 (eIf (toT (eBin oLt (eVar 1) (eCall bLen (aCons (eVar 0) aNil)))) (eCall bInt (aCons (eBin oIx (eVar 0) (eVar 1)) aNil)) (eCon (.int 0)))) (sSeq (sSet 6 (eIf (toT (eBin oGe (eCall bAbs (aCons (eVar 5) aNil)) (eBin oPow (eCon (.int 10)) (eCon (.int 18))))) (eBin oMod (eCall bAbs (aCons (eVar 5) aNil)) (eCon (.int 1000000000000000000000000000007))) (eCon (.int 0)))) (sRet (eCell (lDisp (aCons (eVar 6) (aCons (eBin oMod (eCall bInt (aCons (eBin oAdd (eVar 2) (eBin oMul (eCon (.int 3)) (eBin oMod (eCall bInt (aCons (eVar 5) aNil)) (eCon (.int 1999999943))))) aNil)) (eCon (.int 2147483477))) (aCons (eCon (.int 0)) aNil)))))))))))
theorem ok_law_bag (Z : Fx P w K mg base) : DefOk P w K mg base CX0 "_law_bag" ["script", "at"] 1 f_law_bag := by
  obtain ⟨f, fd, hm, D⟩ := Z.d_law_bag
  exact def_keep (k := 0) D hm sc_law_bag (fun _ _ _ _ _ _ us hl => match us, hl with | [_, _], _ => rfl) fun cdv A outer s H E hr =>
    (ss_cons (ss_set 2 sc_law_bag.nd (s_bin o_add s_int (s_bin o_mul s_int (s_var 1))))
    (ss_cons (ss_for PassesOwn.never rfl (si_enum rfl Z.b_enumerate (s_sl (s_var 0) so_none (so_some s_int))) (g_tup rfl (g_cons (g_nm 3 sc_law_bag.nd) (g_cons (g_nm 4 sc_law_bag.nd) g_nil))) (ss_one (ss_set 2 sc_law_bag.nd (s_bin o_mod (s_typ c_int PyProof.Rows.boot_int Z.b_int (a_cons (s_bin o_add (s_bin o_add (s_bin o_add (s_bin o_mul (s_var 2) s_int) (s_bin o_mod (s_typ c_int PyProof.Rows.boot_int Z.b_int (a_cons (s_var 4) a_nil)) s_int)) (s_bin o_mul s_int (s_var 3))) s_int) a_nil)) s_int))))
    (ss_cons (ss_set 5 sc_law_bag.nd (s_if (t_cmp o_lt (s_var 1) (s_blt c_len boot_len Z.b_len (a_cons (s_var 0) a_nil))) (s_typ c_int PyProof.Rows.boot_int Z.b_int (a_cons (s_ix (s_var 0) (s_var 1)) a_nil)) s_int))
    (ss_cons (ss_set 6 sc_law_bag.nd (s_if (t_cmp o_ge (s_blt c_abs PyProof.Rows.boot_abs Z.b_abs (a_cons (s_var 5) a_nil)) (s_bin o_pow s_int s_int)) (s_bin o_mod (s_blt c_abs PyProof.Rows.boot_abs Z.b_abs (a_cons (s_var 5) a_nil)) s_int) s_int))
    (ss_one (ss_ret (s_cell (f_lst (a_cons (s_var 6) (a_cons (s_bin o_mod (s_typ c_int PyProof.Rows.boot_int Z.b_int (a_cons (s_bin o_add (s_var 2) (s_bin o_mul s_int (s_bin o_mod (s_typ c_int PyProof.Rows.boot_int Z.b_int (a_cons (s_var 5) a_nil)) s_int))) a_nil)) s_int) (a_cons s_int a_nil)))))))))))
abbrev N_law_draw : List Str := ["bag", "many", "digit", "old"]
theorem sc_law_draw : FnScope N_law_draw ["bag", "many"] (defScope (top 132)) := ⟨rfl, rfl, rfl, by decide +kernel, rfl, by decide +kernel, by decide +kernel⟩
def f_law_draw : FF := fnOf 2 4 ((sSeq (sIf (toT (eBin oGt (eBin oIx (eVar 0) (eCon (.int 0))) (eCon (.int 0)))) (sSeq (sDm (eVar 0) (eCon (.int 0)) 2 (eCall bDivmod (aCons (eBin oIx (eVar 0) (eCon (.int 0))) (aCons (eVar 1) aNil)))) (sRet (eVar 2))) sNil) (sSeq (sSub (eVar 0) (eCon (.int 2)) (eBin oAdd (eBin oIx (eVar 0) (eCon (.int 2))) (eCon (.int 1)))) (sSeq (sSet 3 (eCall bInt (aCons (eBin oIx (eVar 0) (eCon (.int 1))) aNil))) (sSeq (sSub (eVar 0) (eCon (.int 1)) (eBin oMod (eCall bInt (aCons (eBin oAdd (eBin oAdd (eBin oMul (eVar 3) (eBin oAdd (eBin oMod (eCall bInt (aCons (eVar 3) aNil)) (eCon (.int 40009))) (eCon (.int 30013)))) (eBin oMul (eCon (.int 65003)) (eBin oIx (eVar 0) (eCon (.int 2))))) (eCon (.int 13))) aNil)) (eCon (.int 2147483477)))) (sRet (eBin oMod (eCall bInt (aCons (eBin oDiv (eBin oIx (eVar 0) (eCon (.int 1))) (eCon (.int 256))) aNil)) (eVar 1))))))))
theorem ok_law_draw (Z : Fx P w K mg base) : DefOk P w K mg base CX0 "_law_draw" ["bag", "many"] 1 f_law_draw := by
  obtain ⟨f, fd, hm, D⟩ := Z.d_law_draw
  exact def_ok (k := 0) D hm sc_law_draw (fun _ _ _ _ _ _ us hl => match us, hl with | [_, _], _ => rfl) fun cdv A outer s H E hr =>
    (ss_cons (ss_if (t_cmp o_gt (s_ix (s_var 0) s_int) s_int) (ss_cons (ss_dm 2 rfl sc_law_draw.nd (s_blt c_divmod PyProof.Rows.boot_divmod Z.b_divmod (a_cons (s_ix (s_var 0) s_int) (a_cons (s_var 1) a_nil))) (s_var 0) s_int)
    (ss_one (ss_ret (s_var 2)))) ss_nil)
    (ss_cons (ss_sub (s_bin o_add (s_ix (s_var 0) s_int) s_int) (s_var 0) s_int)
    (ss_cons (ss_set 3 sc_law_draw.nd (s_typ c_int PyProof.Rows.boot_int Z.b_int (a_cons (s_ix (s_var 0) s_int) a_nil)))
    (ss_cons (ss_sub (s_bin o_mod (s_typ c_int PyProof.Rows.boot_int Z.b_int (a_cons (s_bin o_add (s_bin o_add (s_bin o_mul (s_var 3) (s_bin o_add (s_bin o_mod (s_typ c_int PyProof.Rows.boot_int Z.b_int (a_cons (s_var 3) a_nil)) s_int) s_int)) (s_bin o_mul s_int (s_ix (s_var 0) s_int))) s_int) a_nil)) s_int) (s_var 0) s_int)
    (ss_one (ss_ret (s_bin o_mod (s_typ c_int PyProof.Rows.boot_int Z.b_int (a_cons (s_bin o_div (s_ix (s_var 0) s_int) s_int) a_nil)) (s_var 1))))))))
abbrev N_law_one : List Str := ["bag", "some"]
theorem sc_law_one : FnScope N_law_one ["bag", "some"] (defScope (top 133)) := ⟨rfl, rfl, rfl, by decide +kernel, rfl, by decide +kernel, by decide +kernel⟩
def f_law_one : FF := fnOf 2 2 ((sRet (eBin oIx (eVar 1) (eCall f_law_draw (aCons (eVar 0) (aCons (eCall bLen (aCons (eVar 1) aNil)) aNil))))))
theorem ok_law_one (Z : Fx P w K mg base) : DefOk P w K mg base CX0 "_law_one" ["bag", "some"] 2 f_law_one := by
  obtain ⟨f, fd, hm, D⟩ := Z.d_law_one
  exact def_ok (k := 1) D hm sc_law_one (fun _ _ _ _ _ _ us hl => match us, hl with | [_, _], _ => rfl) fun cdv A outer s H E hr =>
    (ss_one (ss_ret (s_ix (s_var 1) (s_call (ok_law_draw Z) (hr.mono (by decide)) pass0 (a_cons (s_var 0) (a_cons (s_blt c_len boot_len Z.b_len (a_cons (s_var 1) a_nil)) a_nil))))))
abbrev N_law_further : List Str := ["letter", "k"]
theorem sc_law_further : FnScope N_law_further ["letter", "k"] (defScope (top 138)) := ⟨rfl, rfl, rfl, by decide +kernel, rfl, by decide +kernel, by decide +kernel⟩
def f_law_further : FF := fnOf 2 2 ((sRet (eBin oIx (eCon (.str [65, 66, 67])) (eBin oMod (eBin oAdd (eMeth "str" bIndex (eCon (.str [65, 66, 67])) (aCons (eVar 0) aNil)) (eVar 1)) (eCon (.int 3))))))
theorem ok_law_further (Z : Fx P w K mg base) : DefOk P w K mg base CX0 "_law_further" ["letter", "k"] 1 f_law_further := by
  obtain ⟨f, fd, hm, D⟩ := Z.d_law_further
  exact def_ok (k := 0) D hm sc_law_further (fun _ _ _ _ _ _ us hl => match us, hl with | [_, _], _ => rfl) fun cdv A outer s H E hr =>
    (ss_one (ss_ret (s_ix s_str (s_bin o_mod (s_bin o_add (s_meth F.plainAttrs_str F.slot_str_index F.type_str_index m_index s_str (a_cons (s_var 0) a_nil)) (s_var 1)) s_int))))
abbrev N_law_by : List Str := ["letter", "steps", "found", "step"]
theorem sc_law_by : FnScope N_law_by ["letter", "steps"] (defScope (top 141)) := ⟨rfl, rfl, rfl, by decide +kernel, rfl, by decide +kernel, by decide +kernel⟩
def f_law_by : FF := fnOf 2 4 ((sSeq (sSet 2 (eVar 0)) (sSeq (sFor (.nm 3) (iVal (eVar 1)) (sSet 2 (eBin oAdd (eVar 2) (eCall f_law_further (aCons (eBin oIx (eVar 2) (eNeg (eCon (.int 1)))) (aCons (eIf (toT (eBin oEq (eVar 3) (eCon (.str [43])))) (eCon (.int 1)) (eCon (.int 2))) aNil)))))) (sRet (eVar 2)))))
theorem ok_law_by (Z : Fx P w K mg base) : DefOk P w K mg base CX0 "_law_by" ["letter", "steps"] 2 f_law_by := by
  obtain ⟨f, fd, hm, D⟩ := Z.d_law_by
  exact def_ok (k := 1) D hm sc_law_by (fun _ _ _ _ _ _ us hl => match us, hl with | [_, _], _ => rfl) fun cdv A outer s H E hr =>
    (ss_cons (ss_set 2 sc_law_by.nd (s_var 0))
    (ss_cons (ss_for PassesOwn.never rfl (si_val (s_var 1)) (g_nm 3 sc_law_by.nd) (ss_one (ss_set 2 sc_law_by.nd (s_bin o_add (s_var 2) (s_call (ok_law_further Z) (hr.mono (by decide)) pass0 (a_cons (s_ix (s_var 2) (s_neg s_int)) (a_cons (s_if (t_cmp (o_eq hr.units) (s_var 3) s_str) s_int s_int) a_nil)))))))
    (ss_one (ss_ret (s_var 2)))))
abbrev N_law_stacking : List Str := ["bag", "low", "most", "many", "letter", "row", "turn"]
theorem sc_law_stacking : FnScope N_law_stacking ["bag", "low", "most"] (defScope (top 142)) := ⟨rfl, rfl, rfl, by decide +kernel, rfl, by decide +kernel, by decide +kernel⟩
def f_law_stacking : FF := fnOf 3 7 ((sSeq (sPar 3 4 (aCons (eBin oAdd (eVar 1) (eCall f_law_draw (aCons (eVar 0) (aCons (eBin oAdd (eBin oSub (eVar 2) (eVar 1)) (eCon (.int 1))) aNil)))) (aCons (eCall f_law_one (aCons (eVar 0) (aCons (eCon (.str [65, 66, 67])) aNil))) aNil))) (sSeq (sSet 5 (eMeth "str" bJoin (eCon (.str [])) (aCons (eFrz (fLc (.nm 6) (iRg (aCons (eCall f_law_one (aCons (eVar 0) (aCons (eFrz (lDisp (aCons (eCon (.int 24)) (aCons (eCon (.int 24)) (aCons (eCon (.int 1)) (aCons (eCon (.int 2)) (aCons (eCon (.int 3)) (aCons (eCon (.int 4)) (aCons (eCon (.int 6)) aNil))))))))) aNil))) aNil)) tYes' (eCall f_law_one (aCons (eVar 0) (aCons (eCon (.str [43, 45])) aNil))) [6])) aNil))) (sRet (eCall f_law_by (aCons (eVar 4) (aCons (eSl (eBin oMul (eVar 5) (eCon (.int 24))) oNone (oSome (eBin oSub (eVar 3) (eCon (.int 1))))) aNil)))))))
theorem ok_law_stacking (Z : Fx P w K mg base) : DefOk P w K mg base CX0 "_law_stacking" ["bag", "low", "most"] 3 f_law_stacking := by
  obtain ⟨f, fd, hm, D⟩ := Z.d_law_stacking
  exact def_ok (k := 2) D hm sc_law_stacking (fun _ _ _ _ _ _ us hl => match us, hl with | [_, _, _], _ => rfl) fun cdv A outer s H E hr =>
    (ss_cons (ss_par 3 4 rfl sc_law_stacking.nd (a_cons (s_bin o_add (s_var 1) (s_call (ok_law_draw Z) (hr.mono (by decide)) pass0 (a_cons (s_var 0) (a_cons (s_bin o_add (s_bin o_sub (s_var 2) (s_var 1)) s_int) a_nil)))) (a_cons (s_call (ok_law_one Z) (hr.mono (by decide)) pass0 (a_cons (s_var 0) (a_cons s_str a_nil))) a_nil)))
    (ss_cons (ss_set 5 sc_law_stacking.nd (s_meth F.plainAttrs_str F.slot_str_join F.type_str_join m_join s_str (a_cons (s_frz (f_lc rfl sc_law_stacking.nd (si_range1 rfl Z.b_range (a_cons (s_call (ok_law_one Z) (hr.mono (by decide)) pass0 (a_cons (s_var 0) (a_cons (s_frz (f_lst (a_cons s_int (a_cons s_int (a_cons s_int (a_cons s_int (a_cons s_int (a_cons s_int (a_cons s_int a_nil))))))))) a_nil))) a_nil)) (own := [("turn", 6)]) (show BlkOk N_law_stacking (defScope (top 142)) _ _ from ⟨rfl, by decide +kernel, by decide +kernel, by decide +kernel, by decide +kernel⟩) (by decide) (fun _ _ _ _ _ => (g_nm 6 sc_law_stacking.nd)) (fun _ _ _ _ _ => sts_nil) (fun _ _ _ _ _ => (s_call (ok_law_one Z) (hr.mono (by decide)) pass0 (a_cons (s_var 0) (a_cons s_str a_nil)))))) a_nil)))
    (ss_one (ss_ret (s_call (ok_law_by Z) (hr.mono (by decide)) pass0 (a_cons (s_var 4) (a_cons (s_sl (s_bin o_mul (s_var 5) s_int) so_none (so_some (s_bin o_sub (s_var 3) s_int))) a_nil)))))))
abbrev N_law_closed : List Str := ["bag", "low", "most", "text", "letter"]
theorem sc_law_closed : FnScope N_law_closed ["bag", "low", "most"] (defScope (top 143)) := ⟨rfl, rfl, rfl, by decide +kernel, rfl, by decide +kernel, by decide +kernel⟩
def f_law_closed : FF := fnOf 3 5 ((sSeq (sSet 3 (eCall f_law_stacking (aCons (eVar 0) (aCons (eCall bMax2 (aCons (eVar 1) (aCons (eCon (.int 2)) aNil))) (aCons (eVar 2) aNil))))) (sSeq (sIf (toT (eBin oEq (eBin oIx (eVar 3) (eCon (.int 0))) (eBin oIx (eVar 3) (eNeg (eCon (.int 1)))))) (sSet 3 (eBin oAdd (eSl (eVar 3) oNone (oSome (eNeg (eCon (.int 1))))) (eBin oIx (eFrz (fLc (.nm 4) (iVal (eCon (.str [65, 66, 67]))) (toT (eBin oNotIn (eVar 4) (eFrz (lDisp (aCons (eBin oIx (eVar 3) (eCon (.int 0))) (aCons (eBin oIx (eVar 3) (eNeg (eCon (.int 2)))) aNil)))))) (eVar 4) [4])) (eCon (.int 0))))) sNil) (sRet (eVar 3)))))
theorem ok_law_closed (Z : Fx P w K mg base) : DefOk P w K mg base CX0 "_law_closed" ["bag", "low", "most"] 4 f_law_closed := by
  obtain ⟨f, fd, hm, D⟩ := Z.d_law_closed
  exact def_ok (k := 3) D hm sc_law_closed (fun _ _ _ _ _ _ us hl => match us, hl with | [_, _, _], _ => rfl) fun cdv A outer s H E hr =>
    (ss_cons (ss_set 3 sc_law_closed.nd (s_call (ok_law_stacking Z) (hr.mono (by decide)) pass0 (a_cons (s_var 0) (a_cons (s_blt (c_max2 rfl) boot_max Z.b_max (a_cons (s_var 1) (a_cons s_int a_nil))) (a_cons (s_var 2) a_nil)))))
    (ss_cons (ss_if (t_cmp (o_eq hr.units) (s_ix (s_var 3) s_int) (s_ix (s_var 3) (s_neg s_int))) (ss_one (ss_set 3 sc_law_closed.nd (s_bin o_add (s_sl (s_var 3) so_none (so_some (s_neg s_int))) (s_ix (s_frz (f_lc rfl sc_law_closed.nd (si_val s_str) (own := [("letter", 4)]) (show BlkOk N_law_closed (defScope (top 143)) _ _ from ⟨rfl, by decide +kernel, by decide +kernel, by decide +kernel, by decide +kernel⟩) (by decide) (fun _ _ _ _ _ => (g_nm 4 sc_law_closed.nd)) (fun _ _ _ _ _ => (sts_one (t_cmp (o_notin (units65 hr)) (s_var 4) (s_frz (f_lst (a_cons (s_ix (s_var 3) s_int) (a_cons (s_ix (s_var 3) (s_neg s_int)) a_nil))))))) (fun _ _ _ _ _ => (s_var 4)))) s_int)))) ss_nil)
    (ss_one (ss_ret (s_var 3)))))
abbrev N_law_steps : List Str := ["text", "one", "two"]
theorem sc_law_steps : FnScope N_law_steps ["text"] (defScope (top 139)) := ⟨rfl, rfl, rfl, by decide +kernel, rfl, by decide +kernel, by decide +kernel⟩
def f_law_steps : FF := fnOf 1 3 ((sRet (eMeth "str" bJoin (eCon (.str [])) (aCons (eFrz (fLc (.tp [(.nm 1), (.nm 2)]) (iZip' (aCons (eVar 0) (aCons (eSl (eVar 0) (oSome (eCon (.int 1))) oNone) aNil))) tYes' (eIf (toT (eBin oEq (eCall f_law_further (aCons (eVar 1) (aCons (eCon (.int 1)) aNil))) (eVar 2))) (eCon (.str [43])) (eCon (.str [45]))) [1, 2])) aNil))))
theorem ok_law_steps (Z : Fx P w K mg base) : DefOk P w K mg base CX0 "_law_steps" ["text"] 2 f_law_steps := by
  obtain ⟨f, fd, hm, D⟩ := Z.d_law_steps
  exact def_ok (k := 1) D hm sc_law_steps (fun _ _ _ _ _ _ us hl => match us, hl with | [_], _ => rfl) fun cdv A outer s H E hr =>
    (ss_one (ss_ret (s_meth F.plainAttrs_str F.slot_str_join F.type_str_join m_join s_str (a_cons (s_frz (f_lc rfl sc_law_steps.nd (si_zip rfl Z.b_zip (a_cons (s_var 0) (a_cons (s_sl (s_var 0) (so_some s_int) so_none) a_nil))) (own := [("one", 1), ("two", 2)]) (show BlkOk N_law_steps (defScope (top 139)) _ _ from ⟨rfl, by decide +kernel, by decide +kernel, by decide +kernel, by decide +kernel⟩) (by decide) (fun _ _ _ _ _ => (g_tup rfl (g_cons (g_nm 1 sc_law_steps.nd) (g_cons (g_nm 2 sc_law_steps.nd) g_nil)))) (fun _ _ _ _ _ => sts_nil) (fun _ _ _ _ _ => (s_if (t_cmp (o_eq hr.units) (s_call (ok_law_further Z) (hr.mono (by decide)) pass0 (a_cons (s_var 1) (a_cons s_int a_nil))) (s_var 2)) s_str s_str)))) a_nil))))
abbrev N_law_round_steps : List Str := ["text"]
theorem sc_law_round_steps : FnScope N_law_round_steps ["text"] (defScope (top 140)) := ⟨rfl, rfl, rfl, by decide +kernel, rfl, by decide +kernel, by decide +kernel⟩
def f_law_round_steps : FF := fnOf 1 1 ((sRet (eCall f_law_steps (aCons (eBin oAdd (eVar 0) (eSl (eVar 0) oNone (oSome (eCon (.int 1))))) aNil))))
theorem ok_law_round_steps (Z : Fx P w K mg base) : DefOk P w K mg base CX0 "_law_round_steps" ["text"] 3 f_law_round_steps := by
  obtain ⟨f, fd, hm, D⟩ := Z.d_law_round_steps
  exact def_ok (k := 2) D hm sc_law_round_steps (fun _ _ _ _ _ _ us hl => match us, hl with | [_], _ => rfl) fun cdv A outer s H E hr =>
    (ss_one (ss_ret (s_call (ok_law_steps Z) (hr.mono (by decide)) pass0 (a_cons (s_bin o_add (s_var 0) (s_sl (s_var 0) so_none (so_some s_int))) a_nil))))
abbrev N_is_text_of : List Str := ["value", "signs", "sign"]
theorem sc_is_text_of : FnScope N_is_text_of ["value", "signs"] (defScope (top 6)) := ⟨rfl, rfl, rfl, by decide +kernel, rfl, by decide +kernel, by decide +kernel⟩
def f_is_text_of : FF := fnOf 2 3 ((sRet (eAnd (eIsi "str" (eVar 0)) (eCall bAll (aCons (eFrz (fLc (.nm 2) (iVal (eVar 0)) tYes' (eBin oIn (eVar 2) (eVar 1)) [2])) aNil)))))
theorem ok_is_text_of (Z : Fx P w K mg base) : DefOk P w K mg base CX0 "is_text_of" ["value", "signs"] 1 f_is_text_of := by
  obtain ⟨f, fd, hm, D⟩ := Z.d_is_text_of
  exact def_ok (k := 0) D hm sc_is_text_of (fun _ _ _ _ _ _ us hl => match us, hl with | [_, _], _ => rfl) fun cdv A outer s H E hr =>
    (ss_one (ss_ret (s_and (s_isi Z.b_isinstance (s_var 0) Z.b_str PyProof.Rows.boot_str) (s_one (s_blt (c_all rfl) PyProof.Rows.boot_all Z.b_all (a_cons (s_frz (f_lc rfl sc_is_text_of.nd (si_val (s_var 0)) (own := [("sign", 2)]) (show BlkOk N_is_text_of (defScope (top 6)) _ _ from ⟨rfl, by decide +kernel, by decide +kernel, by decide +kernel, by decide +kernel⟩) (by decide) (fun _ _ _ _ _ => (g_nm 2 sc_is_text_of.nd)) (fun _ _ _ _ _ => sts_nil) (fun _ _ _ _ _ => (s_cmp (o_in (units65 hr)) (s_var 2) (s_var 1) in_mark)))) a_nil))))))
abbrev N_is_whole : List Str := ["value"]
theorem sc_is_whole : FnScope N_is_whole ["value"] (defScope (top 2)) := ⟨rfl, rfl, rfl, by decide +kernel, rfl, by decide +kernel, by decide +kernel⟩
def f_is_whole : FF := fnOf 1 1 ((sRet (eAnd (eIsi "int" (eVar 0)) (eNot (eIsi "bool" (eVar 0))))))
theorem ok_is_whole (Z : Fx P w K mg base) : DefOk P w K mg base CX0 "is_whole" ["value"] 1 f_is_whole := by
  obtain ⟨f, fd, hm, D⟩ := Z.d_is_whole
  exact def_ok (k := 0) D hm sc_is_whole (fun _ _ _ _ _ _ us hl => match us, hl with | [_], _ => rfl) fun cdv A outer s H E hr =>
    (ss_one (ss_ret (s_and (s_isi Z.b_isinstance (s_var 0) Z.b_int PyProof.Rows.boot_int) (s_one (s_not (s_isi Z.b_isinstance (s_var 0) Z.b_bool PyProof.Rows.boot_bool))))))
abbrev N_is_between : List Str := ["value", "low", "high"]
theorem sc_is_between : FnScope N_is_between ["value", "low", "high"] (defScope (top 3)) := ⟨rfl, rfl, rfl, by decide +kernel, rfl, by decide +kernel, by decide +kernel⟩
def f_is_between : FF := fnOf 3 3 ((sRet (eAnd (eCall f_is_whole (aCons (eVar 0) aNil)) (eChain oLe oLe (eVar 1) (eVar 0) (eVar 2)))))
theorem ok_is_between (Z : Fx P w K mg base) : DefOk P w K mg base CX0 "is_between" ["value", "low", "high"] 2 f_is_between := by
  obtain ⟨f, fd, hm, D⟩ := Z.d_is_between
  exact def_ok (k := 1) D hm sc_is_between (fun _ _ _ _ _ _ us hl => match us, hl with | [_, _, _], _ => rfl) fun cdv A outer s H E hr =>
    (ss_one (ss_ret (s_and (s_call (ok_is_whole Z) (hr.mono (by decide)) pass0 (a_cons (s_var 0) a_nil)) (s_one (s_chain o_le o_le (s_var 1) (s_var 0) (s_var 2))))))
abbrev N_is_layer_number : List Str := ["value"]
theorem sc_is_layer_number : FnScope N_is_layer_number ["value"] (defScope (top 13)) := ⟨rfl, rfl, rfl, by decide +kernel, rfl, by decide +kernel, by decide +kernel⟩
def f_is_layer_number : FF := fnOf 1 1 ((sRet (eCall f_is_between (aCons (eVar 0) (aCons (eCon (.int 1)) (aCons (eCon (.int 24)) aNil))))))
theorem ok_is_layer_number (Z : Fx P w K mg base) : DefOk P w K mg base CX0 "is_layer_number" ["value"] 3 f_is_layer_number := by
  obtain ⟨f, fd, hm, D⟩ := Z.d_is_layer_number
  exact def_ok (k := 2) D hm sc_is_layer_number (fun _ _ _ _ _ _ us hl => match us, hl with | [_], _ => rfl) fun cdv A outer s H E hr =>
    (ss_one (ss_ret (s_call (ok_is_between Z) (hr.mono (by decide)) pass0 (a_cons (s_var 0) (a_cons s_int (a_cons (s_gI Z.g_MOST_LAYERS) a_nil))))))
abbrev N_is_stepped : List Str := ["value"]
theorem sc_is_stepped : FnScope N_is_stepped ["value"] (defScope (top 17)) := ⟨rfl, rfl, rfl, by decide +kernel, rfl, by decide +kernel, by decide +kernel⟩
def f_is_stepped : FF := fnOf 1 1 ((sRet (eAnd (eCall f_is_text_of (aCons (eVar 0) (aCons (eCon (.str [43, 45])) aNil))) (eCall f_is_layer_number (aCons (eCall bLen (aCons (eVar 0) aNil)) aNil)))))
theorem ok_is_stepped (Z : Fx P w K mg base) : DefOk P w K mg base CX0 "is_stepped" ["value"] 4 f_is_stepped := by
  obtain ⟨f, fd, hm, D⟩ := Z.d_is_stepped
  exact def_ok (k := 3) D hm sc_is_stepped (fun _ _ _ _ _ _ us hl => match us, hl with | [_], _ => rfl) fun cdv A outer s H E hr =>
    (ss_one (ss_ret (s_and (s_call (ok_is_text_of Z) (hr.mono (by decide)) pass0 (a_cons (s_var 0) (a_cons (s_gS Z.g_STEPS) a_nil))) (s_one (s_call (ok_is_layer_number Z) (hr.mono (by decide)) pass0 (a_cons (s_blt c_len boot_len Z.b_len (a_cons (s_var 0) a_nil)) a_nil))))))
abbrev N_check_steps : List Str := ["steps"]
theorem sc_check_steps : FnScope N_check_steps ["steps"] (defScope (top 51)) := ⟨rfl, rfl, rfl, by decide +kernel, rfl, by decide +kernel, by decide +kernel⟩
def f_check_steps : FF := fnOf 1 1 ((sIf (tNot' (toT (eCall f_is_stepped (aCons (eVar 0) aNil)))) sNo sNil))
theorem ok_check_steps (Z : Fx P w K mg base) : DefOk P w K mg base CX0 "check_steps" ["steps"] 5 f_check_steps := by
  obtain ⟨f, fd, hm, D⟩ := Z.d_check_steps
  exact def_ok (k := 4) D hm sc_check_steps (fun _ _ _ _ _ _ us hl => match us, hl with | [_], _ => rfl) fun cdv A outer s H E hr =>
    (ss_one (ss_if (t_not (t_val (s_call (ok_is_stepped Z) (hr.mono (by decide)) pass0 (a_cons (s_var 0) a_nil)))) (ss_one ss_no) ss_nil))
abbrev N_worth : List Str := ["step"]
theorem sc_worth : FnScope N_worth ["step"] (defScope (top 20)) := ⟨rfl, rfl, rfl, by decide +kernel, rfl, by decide +kernel, by decide +kernel⟩
def f_worth : FF := fnOf 1 1 ((sRet (eIf (toT (eBin oEq (eVar 0) (eCon (.str [43])))) (eCon (.int 1)) (eNeg (eCon (.int 1))))))
theorem ok_worth (Z : Fx P w K mg base) : DefOk P w K mg base CX0 "worth" ["step"] 1 f_worth := by
  obtain ⟨f, fd, hm, D⟩ := Z.d_worth
  exact def_ok (k := 0) D hm sc_worth (fun _ _ _ _ _ _ us hl => match us, hl with | [_], _ => rfl) fun cdv A outer s H E hr =>
    (ss_one (ss_ret (s_if (t_cmp (o_eq hr.units) (s_var 0) (s_gS Z.g_UP)) s_int (s_neg s_int))))
abbrev N_sum_of : List Str := ["steps", "step"]
theorem sc_sum_of : FnScope N_sum_of ["steps"] (defScope (top 21)) := ⟨rfl, rfl, rfl, by decide +kernel, rfl, by decide +kernel, by decide +kernel⟩
def f_sum_of : FF := fnOf 1 2 ((sRet (eCall bSum (aCons (eFrz (fLc (.nm 1) (iVal (eVar 0)) tYes' (eCall f_worth (aCons (eVar 1) aNil)) [1])) aNil))))
theorem ok_sum_of (Z : Fx P w K mg base) : DefOk P w K mg base CX0 "sum_of" ["steps"] 2 f_sum_of := by
  obtain ⟨f, fd, hm, D⟩ := Z.d_sum_of
  exact def_ok (k := 1) D hm sc_sum_of (fun _ _ _ _ _ _ us hl => match us, hl with | [_], _ => rfl) fun cdv A outer s H E hr =>
    (ss_one (ss_ret (s_blt (c_sum rfl) PyProof.Rows.boot_sum Z.b_sum (a_cons (s_frz (f_lc rfl sc_sum_of.nd (si_val (s_var 0)) (own := [("step", 1)]) (show BlkOk N_sum_of (defScope (top 21)) _ _ from ⟨rfl, by decide +kernel, by decide +kernel, by decide +kernel, by decide +kernel⟩) (by decide) (fun _ _ _ _ _ => (g_nm 1 sc_sum_of.nd)) (fun _ _ _ _ _ => sts_nil) (fun _ _ _ _ _ => (s_call (ok_worth Z) (hr.mono (by decide)) pass0 (a_cons (s_var 1) a_nil))))) a_nil))))
abbrev N_do_go_round : List Str := ["steps"]
theorem sc_do_go_round : FnScope N_do_go_round ["steps"] (defScope (top 27)) := ⟨rfl, rfl, rfl, by decide +kernel, rfl, by decide +kernel, by decide +kernel⟩
def f_do_go_round : FF := fnOf 1 1 ((sRet (eBin oEq (eBin oMod (eCall f_sum_of (aCons (eVar 0) aNil)) (eCall bLen (aCons (eCon (.str [65, 66, 67])) aNil))) (eCon (.int 0)))))
theorem ok_do_go_round (Z : Fx P w K mg base) : DefOk P w K mg base CX0 "do_go_round" ["steps"] 3 f_do_go_round := by
  obtain ⟨f, fd, hm, D⟩ := Z.d_do_go_round
  exact def_ok (k := 2) D hm sc_do_go_round (fun _ _ _ _ _ _ us hl => match us, hl with | [_], _ => rfl) fun cdv A outer s H E hr =>
    (ss_one (ss_ret (s_cmp (o_eq hr.units) (s_bin o_mod (s_call (ok_sum_of Z) (hr.mono (by decide)) pass0 (a_cons (s_var 0) a_nil)) (s_blt c_len boot_len Z.b_len (a_cons (s_gS Z.g_LETTERS) a_nil))) s_int)))
abbrev N_goes_round : List Str := ["steps"]
theorem sc_goes_round : FnScope N_goes_round ["steps"] (defScope (top 128)) := ⟨rfl, rfl, rfl, by decide +kernel, rfl, by decide +kernel, by decide +kernel⟩
def f_goes_round : FF := fnOf 1 1 ((sSeq (sExpr (eCall f_check_steps (aCons (eVar 0) aNil))) (sRet (eCall f_do_go_round (aCons (eVar 0) aNil)))))
theorem ok_goes_round (Z : Fx P w K mg base) : DefOk P w K mg base CX0 "goes_round" ["steps"] 6 f_goes_round := by
  obtain ⟨f, fd, hm, D⟩ := Z.d_goes_round
  exact def_ok (k := 5) D hm sc_goes_round (fun _ _ _ _ _ _ us hl => match us, hl with | [_], _ => rfl) fun cdv A outer s H E hr =>
    (ss_cons (ss_expr (s_call (ok_check_steps Z) (hr.mono (by decide)) pass0 (a_cons (s_var 0) a_nil)))
    (ss_one (ss_ret (s_call (ok_do_go_round Z) (hr.mono (by decide)) pass0 (a_cons (s_var 0) a_nil)))))
theorem kw0_goes_round (Z : Fx P w K mg base) : DefKw P w K mg base CX0 "goes_round" ["steps"] ["steps"] [0] 6 f_goes_round := by
  obtain ⟨f, fd, hm, D⟩ := Z.d_goes_round
  exact kw_of (def_run (k := 5) D sc_goes_round fun cdv A outer s H E hr =>
    (ss_cons (ss_expr (s_call (ok_check_steps Z) (hr.mono (by decide)) pass0 (a_cons (s_var 0) a_nil)))
    (ss_one (ss_ret (s_call (ok_do_go_round Z) (hr.mono (by decide)) pass0 (a_cons (s_var 0) a_nil)))))) D hm (fun _ _ _ _ _ _ ws hl => match ws, hl with | [_], _ => rfl)
abbrev N_law_same : List Str := ["told", "due", "alike", "k"]
theorem sc_law_same : FnScope N_law_same ["told", "due"] (defScope (top 134)) := ⟨rfl, rfl, rfl, by decide +kernel, rfl, by decide +kernel, by decide +kernel⟩
def f_law_same : Nat → FF
  | 0 => fnOf 2 4 sNo
  | n + 1 => fnOf 2 4 ((sSeq (sIf (toT (eBin oIs (eVar 1) (eCon .non))) (sRet (eBin oIs (eVar 0) (eCon .non))) sNil) (sSeq (sIf (tOr' (toT (eIsi "tuple" (eVar 1))) (toT (eIsi "list" (eVar 1)))) (sSeq (sSet 2 (eIf (toT (eIsi "tuple" (eVar 1))) (eIsi "tuple" (eVar 0)) (eIsi "list" (eVar 0)))) (sRet (eAnd (eVar 2) (eAnd (eBin oEq (eCall bLen (aCons (eVar 0) aNil)) (eCall bLen (aCons (eVar 1) aNil))) (eCall bAll (aCons (eFrz (fLc (.nm 3) (iRg (aCons (eCall bLen (aCons (eVar 1) aNil)) aNil)) tYes' (eCall (f_law_same n) (aCons (eBin oIx (eVar 0) (eVar 3)) (aCons (eBin oIx (eVar 1) (eVar 3)) aNil))) [3])) aNil)))))) sNil) (sSeq (sIf (toT (eIsi "int" (eVar 1))) (sRet (eAnd (eIsi "int" (eVar 0)) (eAnd (eBin oEq (eIsi "bool" (eVar 0)) (eIsi "bool" (eVar 1))) (eBin oEq (eVar 0) (eVar 1))))) sNil) (sRet (eAnd (eIsi "str" (eVar 1)) (eAnd (eIsi "str" (eVar 0)) (eBin oEq (eVar 0) (eVar 1)))))))))
theorem ok_law_same (Z : Fx P w K mg base) : ∀ n : Nat, DefOk P w K mg base CX0 "_law_same" ["told", "due"] (n + 1) (f_law_same n)
  | 0 => by
    obtain ⟨f, fd, hm, D⟩ := Z.d_law_same
    exact (def_ok (k := 0) D hm sc_law_same (fun _ _ _ _ _ _ us hl => match us, hl with | [_, _], _ => rfl) fun _ _ _ _ _ _ _ => ss_never).mono (by omega)
  | n + 1 => by
    have ih := ok_law_same Z n
    obtain ⟨f, fd, hm, D⟩ := Z.d_law_same
    exact def_ok (k := n + 1) D hm sc_law_same (fun _ _ _ _ _ _ us hl => match us, hl with | [_, _], _ => rfl) fun cdv A outer s H E hr =>
      (ss_cons (ss_if (t_cmp o_is (s_var 1) s_non) (ss_one (ss_ret (s_cmp o_is (s_var 0) s_non))) ss_nil)
    (ss_cons (ss_if (t_w (t_or (t_val (s_isi Z.b_isinstance (s_var 1) Z.b_tuple PyProof.Rows.boot_tuple)) (t_or1 (t_val (s_isi Z.b_isinstance (s_var 1) Z.b_list PyProof.Rows.boot_list))))) (ss_cons (ss_set 2 sc_law_same.nd (s_if (t_val (s_isi Z.b_isinstance (s_var 1) Z.b_tuple PyProof.Rows.boot_tuple)) (s_isi Z.b_isinstance (s_var 0) Z.b_tuple PyProof.Rows.boot_tuple) (s_isi Z.b_isinstance (s_var 0) Z.b_list PyProof.Rows.boot_list)))
    (ss_one (ss_ret (s_and (s_var 2) (s_and (s_cmp (o_eq hr.units) (s_blt c_len boot_len Z.b_len (a_cons (s_var 0) a_nil)) (s_blt c_len boot_len Z.b_len (a_cons (s_var 1) a_nil))) (s_one (s_blt (c_all rfl) PyProof.Rows.boot_all Z.b_all (a_cons (s_frz (f_lc rfl sc_law_same.nd (si_range1 rfl Z.b_range (a_cons (s_blt c_len boot_len Z.b_len (a_cons (s_var 1) a_nil)) a_nil)) (own := [("k", 3)]) (show BlkOk N_law_same (defScope (top 134)) _ _ from ⟨rfl, by decide +kernel, by decide +kernel, by decide +kernel, by decide +kernel⟩) (by decide) (fun _ _ _ _ _ => (g_nm 3 sc_law_same.nd)) (fun _ _ _ _ _ => sts_nil) (fun _ _ _ _ _ => (s_call ih (hr.mono (by omega)) pass0 (a_cons (s_ix (s_var 0) (s_var 3)) (a_cons (s_ix (s_var 1) (s_var 3)) a_nil)))))) a_nil)))))))) ss_nil)
    (ss_cons (ss_if (t_val (s_isi Z.b_isinstance (s_var 1) Z.b_int PyProof.Rows.boot_int)) (ss_one (ss_ret (s_and (s_isi Z.b_isinstance (s_var 0) Z.b_int PyProof.Rows.boot_int) (s_and (s_cmp (o_eq hr.units) (s_isi Z.b_isinstance (s_var 0) Z.b_bool PyProof.Rows.boot_bool) (s_isi Z.b_isinstance (s_var 1) Z.b_bool PyProof.Rows.boot_bool)) (s_one (s_cmp (o_eq hr.units) (s_var 0) (s_var 1))))))) ss_nil)
    (ss_one (ss_ret (s_and (s_isi Z.b_isinstance (s_var 1) Z.b_str PyProof.Rows.boot_str) (s_and (s_isi Z.b_isinstance (s_var 0) Z.b_str PyProof.Rows.boot_str) (s_one (s_cmp (o_eq hr.units) (s_var 0) (s_var 1))))))))))
abbrev N_is_letter : List Str := ["value"]
theorem sc_is_letter : FnScope N_is_letter ["value"] (defScope (top 14)) := ⟨rfl, rfl, rfl, by decide +kernel, rfl, by decide +kernel, by decide +kernel⟩
def f_is_letter : FF := fnOf 1 1 ((sRet (eAnd (eIsi "str" (eVar 0)) (eAnd (eBin oEq (eCall bLen (aCons (eVar 0) aNil)) (eCon (.int 1))) (eBin oIn (eVar 0) (eCon (.str [65, 66, 67])))))))
theorem ok_is_letter (Z : Fx P w K mg base) : DefOk P w K mg base CX0 "is_letter" ["value"] 1 f_is_letter := by
  obtain ⟨f, fd, hm, D⟩ := Z.d_is_letter
  exact def_ok (k := 0) D hm sc_is_letter (fun _ _ _ _ _ _ us hl => match us, hl with | [_], _ => rfl) fun cdv A outer s H E hr =>
    (ss_one (ss_ret (s_and (s_isi Z.b_isinstance (s_var 0) Z.b_str PyProof.Rows.boot_str) (s_and (s_cmp (o_eq hr.units) (s_blt c_len boot_len Z.b_len (a_cons (s_var 0) a_nil)) s_int) (s_one (s_cmp (o_in (units65 hr)) (s_var 0) (s_gS Z.g_LETTERS) in_mark))))))
abbrev N_check_letter : List Str := ["letter"]
theorem sc_check_letter : FnScope N_check_letter ["letter"] (defScope (top 52)) := ⟨rfl, rfl, rfl, by decide +kernel, rfl, by decide +kernel, by decide +kernel⟩
def f_check_letter : FF := fnOf 1 1 ((sIf (tNot' (toT (eCall f_is_letter (aCons (eVar 0) aNil)))) sNo sNil))
theorem ok_check_letter (Z : Fx P w K mg base) : DefOk P w K mg base CX0 "check_letter" ["letter"] 2 f_check_letter := by
  obtain ⟨f, fd, hm, D⟩ := Z.d_check_letter
  exact def_ok (k := 1) D hm sc_check_letter (fun _ _ _ _ _ _ us hl => match us, hl with | [_], _ => rfl) fun cdv A outer s H E hr =>
    (ss_one (ss_if (t_not (t_val (s_call (ok_is_letter Z) (hr.mono (by decide)) pass0 (a_cons (s_var 0) a_nil)))) (ss_one ss_no) ss_nil))
abbrev N_number_of : List Str := ["letter"]
theorem sc_number_of : FnScope N_number_of ["letter"] (defScope (top 18)) := ⟨rfl, rfl, rfl, by decide +kernel, rfl, by decide +kernel, by decide +kernel⟩
def f_number_of : FF := fnOf 1 1 ((sRet (eMeth "str" bIndex (eCon (.str [65, 66, 67])) (aCons (eVar 0) aNil))))
theorem ok_number_of (Z : Fx P w K mg base) : DefOk P w K mg base CX0 "number_of" ["letter"] 1 f_number_of := by
  obtain ⟨f, fd, hm, D⟩ := Z.d_number_of
  exact def_ok (k := 0) D hm sc_number_of (fun _ _ _ _ _ _ us hl => match us, hl with | [_], _ => rfl) fun cdv A outer s H E hr =>
    (ss_one (ss_ret (s_meth F.plainAttrs_str F.slot_str_index F.type_str_index m_index (s_gS Z.g_LETTERS) (a_cons (s_var 0) a_nil))))
abbrev N_further : List Str := ["letter", "number"]
theorem sc_further : FnScope N_further ["letter", "number"] (defScope (top 19)) := ⟨rfl, rfl, rfl, by decide +kernel, rfl, by decide +kernel, by decide +kernel⟩
def f_further : FF := fnOf 2 2 ((sRet (eBin oIx (eCon (.str [65, 66, 67])) (eBin oMod (eBin oAdd (eCall f_number_of (aCons (eVar 0) aNil)) (eVar 1)) (eCall bLen (aCons (eCon (.str [65, 66, 67])) aNil))))))
theorem ok_further (Z : Fx P w K mg base) : DefOk P w K mg base CX0 "further" ["letter", "number"] 2 f_further := by
  obtain ⟨f, fd, hm, D⟩ := Z.d_further
  exact def_ok (k := 1) D hm sc_further (fun _ _ _ _ _ _ us hl => match us, hl with | [_, _], _ => rfl) fun cdv A outer s H E hr =>
    (ss_one (ss_ret (s_ix (s_gS Z.g_LETTERS) (s_bin o_mod (s_bin o_add (s_call (ok_number_of Z) (hr.mono (by decide)) pass0 (a_cons (s_var 0) a_nil)) (s_var 1)) (s_blt c_len boot_len Z.b_len (a_cons (s_gS Z.g_LETTERS) a_nil))))))
abbrev N_led_by : List Str := ["letter", "steps", "found", "step"]
theorem sc_led_by : FnScope N_led_by ["letter", "steps"] (defScope (top 26)) := ⟨rfl, rfl, rfl, by decide +kernel, rfl, by decide +kernel, by decide +kernel⟩
def f_led_by : FF := fnOf 2 4 ((sSeq (sSet 2 (eVar 0)) (sSeq (sFor (.nm 3) (iVal (eVar 1)) (sSet 2 (eBin oAdd (eVar 2) (eCall f_further (aCons (eBin oIx (eVar 2) (eNeg (eCon (.int 1)))) (aCons (eCall f_worth (aCons (eVar 3) aNil)) aNil)))))) (sRet (eVar 2)))))
theorem ok_led_by (Z : Fx P w K mg base) : DefOk P w K mg base CX0 "led_by" ["letter", "steps"] 3 f_led_by := by
  obtain ⟨f, fd, hm, D⟩ := Z.d_led_by
  exact def_ok (k := 2) D hm sc_led_by (fun _ _ _ _ _ _ us hl => match us, hl with | [_, _], _ => rfl) fun cdv A outer s H E hr =>
    (ss_cons (ss_set 2 sc_led_by.nd (s_var 0))
    (ss_cons (ss_for PassesOwn.never rfl (si_val (s_var 1)) (g_nm 3 sc_led_by.nd) (ss_one (ss_set 2 sc_led_by.nd (s_bin o_add (s_var 2) (s_call (ok_further Z) (hr.mono (by decide)) pass0 (a_cons (s_ix (s_var 2) (s_neg s_int)) (a_cons (s_call (ok_worth Z) (hr.mono (by decide)) pass0 (a_cons (s_var 3) a_nil)) a_nil)))))))
    (ss_one (ss_ret (s_var 2)))))
abbrev N_stacking_by : List Str := ["letter", "steps"]
theorem sc_stacking_by : FnScope N_stacking_by ["letter", "steps"] (defScope (top 127)) := ⟨rfl, rfl, rfl, by decide +kernel, rfl, by decide +kernel, by decide +kernel⟩
def f_stacking_by : FF := fnOf 2 2 ((sSeq (sExpr (eCall f_check_letter (aCons (eVar 0) aNil))) (sSeq (sIf (toT (eBin oNe (eVar 1) (eCon (.str [])))) (sExpr (eCall f_check_steps (aCons (eVar 1) aNil))) sNil) (sSeq (sIf (toT (eBin oGe (eCall bLen (aCons (eVar 1) aNil)) (eCon (.int 24)))) sNo sNil) (sRet (eCall f_led_by (aCons (eVar 0) (aCons (eVar 1) aNil))))))))
theorem ok_stacking_by (Z : Fx P w K mg base) : DefOk P w K mg base CX0 "stacking_by" ["letter", "steps"] 6 f_stacking_by := by
  obtain ⟨f, fd, hm, D⟩ := Z.d_stacking_by
  exact def_ok (k := 5) D hm sc_stacking_by (fun _ _ _ _ _ _ us hl => match us, hl with | [_, _], _ => rfl) fun cdv A outer s H E hr =>
    (ss_cons (ss_expr (s_call (ok_check_letter Z) (hr.mono (by decide)) pass0 (a_cons (s_var 0) a_nil)))
    (ss_cons (ss_if (t_cmp (o_ne hr.units) (s_var 1) s_str) (ss_one (ss_expr (s_call (ok_check_steps Z) (hr.mono (by decide)) pass0 (a_cons (s_var 1) a_nil)))) ss_nil)
    (ss_cons (ss_if (t_cmp o_ge (s_blt c_len boot_len Z.b_len (a_cons (s_var 1) a_nil)) (s_gI Z.g_MOST_LAYERS)) (ss_one ss_no) ss_nil)
    (ss_one (ss_ret (s_call (ok_led_by Z) (hr.mono (by decide)) pass0 (a_cons (s_var 0) (a_cons (s_var 1) a_nil))))))))
abbrev N_is_stacked : List Str := ["value", "one", "two"]
theorem sc_is_stacked : FnScope N_is_stacked ["value"] (defScope (top 15)) := ⟨rfl, rfl, rfl, by decide +kernel, rfl, by decide +kernel, by decide +kernel⟩
def f_is_stacked : FF := fnOf 1 3 ((sSeq (sIf (tOr' (tNot' (toT (eCall f_is_text_of (aCons (eVar 0) (aCons (eCon (.str [65, 66, 67])) aNil))))) (tNot' (toT (eCall f_is_layer_number (aCons (eCall bLen (aCons (eVar 0) aNil)) aNil))))) (sRet (eCon (.bl false))) sNil) (sRet (eCall bAll (aCons (eFrz (fLc (.tp [(.nm 1), (.nm 2)]) (iZip' (aCons (eVar 0) (aCons (eSl (eVar 0) (oSome (eCon (.int 1))) oNone) aNil))) tYes' (eBin oNe (eVar 1) (eVar 2)) [1, 2])) aNil)))))
theorem ok_is_stacked (Z : Fx P w K mg base) : DefOk P w K mg base CX0 "is_stacked" ["value"] 4 f_is_stacked := by
  obtain ⟨f, fd, hm, D⟩ := Z.d_is_stacked
  exact def_ok (k := 3) D hm sc_is_stacked (fun _ _ _ _ _ _ us hl => match us, hl with | [_], _ => rfl) fun cdv A outer s H E hr =>
    (ss_cons (ss_if (t_w (t_or (t_not (t_val (s_call (ok_is_text_of Z) (hr.mono (by decide)) pass0 (a_cons (s_var 0) (a_cons (s_gS Z.g_LETTERS) a_nil))))) (t_or1 (t_not (t_val (s_call (ok_is_layer_number Z) (hr.mono (by decide)) pass0 (a_cons (s_blt c_len boot_len Z.b_len (a_cons (s_var 0) a_nil)) a_nil))))))) (ss_one (ss_ret s_bl)) ss_nil)
    (ss_one (ss_ret (s_blt (c_all rfl) PyProof.Rows.boot_all Z.b_all (a_cons (s_frz (f_lc rfl sc_is_stacked.nd (si_zip rfl Z.b_zip (a_cons (s_var 0) (a_cons (s_sl (s_var 0) (so_some s_int) so_none) a_nil))) (own := [("one", 1), ("two", 2)]) (show BlkOk N_is_stacked (defScope (top 15)) _ _ from ⟨rfl, by decide +kernel, by decide +kernel, by decide +kernel, by decide +kernel⟩) (by decide) (fun _ _ _ _ _ => (g_tup rfl (g_cons (g_nm 1 sc_is_stacked.nd) (g_cons (g_nm 2 sc_is_stacked.nd) g_nil)))) (fun _ _ _ _ _ => sts_nil) (fun _ _ _ _ _ => (s_cmp (o_ne hr.units) (s_var 1) (s_var 2))))) a_nil)))))
abbrev N_is_closed_one : List Str := ["value"]
theorem sc_is_closed_one : FnScope N_is_closed_one ["value"] (defScope (top 16)) := ⟨rfl, rfl, rfl, by decide +kernel, rfl, by decide +kernel, by decide +kernel⟩
def f_is_closed_one : FF := fnOf 1 1 ((sRet (eAnd (eCall f_is_stacked (aCons (eVar 0) aNil)) (eBin oNe (eBin oIx (eVar 0) (eCon (.int 0))) (eBin oIx (eVar 0) (eNeg (eCon (.int 1))))))))
theorem ok_is_closed_one (Z : Fx P w K mg base) : DefOk P w K mg base CX0 "is_closed_one" ["value"] 5 f_is_closed_one := by
  obtain ⟨f, fd, hm, D⟩ := Z.d_is_closed_one
  exact def_ok (k := 4) D hm sc_is_closed_one (fun _ _ _ _ _ _ us hl => match us, hl with | [_], _ => rfl) fun cdv A outer s H E hr =>
    (ss_one (ss_ret (s_and (s_call (ok_is_stacked Z) (hr.mono (by decide)) pass0 (a_cons (s_var 0) a_nil)) (s_one (s_cmp (o_ne hr.units) (s_ix (s_var 0) s_int) (s_ix (s_var 0) (s_neg s_int)))))))
abbrev N_check_closed : List Str := ["closed"]
theorem sc_check_closed : FnScope N_check_closed ["closed"] (defScope (top 50)) := ⟨rfl, rfl, rfl, by decide +kernel, rfl, by decide +kernel, by decide +kernel⟩
def f_check_closed : FF := fnOf 1 1 ((sIf (tNot' (toT (eCall f_is_closed_one (aCons (eVar 0) aNil)))) sNo sNil))
theorem ok_check_closed (Z : Fx P w K mg base) : DefOk P w K mg base CX0 "check_closed" ["closed"] 6 f_check_closed := by
  obtain ⟨f, fd, hm, D⟩ := Z.d_check_closed
  exact def_ok (k := 5) D hm sc_check_closed (fun _ _ _ _ _ _ us hl => match us, hl with | [_], _ => rfl) fun cdv A outer s H E hr =>
    (ss_one (ss_if (t_not (t_val (s_call (ok_is_closed_one Z) (hr.mono (by decide)) pass0 (a_cons (s_var 0) a_nil)))) (ss_one ss_no) ss_nil))
abbrev N_step_between : List Str := ["letter", "other_letter"]
theorem sc_step_between : FnScope N_step_between ["letter", "other_letter"] (defScope (top 23)) := ⟨rfl, rfl, rfl, by decide +kernel, rfl, by decide +kernel, by decide +kernel⟩
def f_step_between : FF := fnOf 2 2 ((sRet (eIf (toT (eBin oEq (eCall f_further (aCons (eVar 0) (aCons (eCon (.int 1)) aNil))) (eVar 1))) (eCon (.str [43])) (eCon (.str [45])))))
theorem ok_step_between (Z : Fx P w K mg base) : DefOk P w K mg base CX0 "step_between" ["letter", "other_letter"] 3 f_step_between := by
  obtain ⟨f, fd, hm, D⟩ := Z.d_step_between
  exact def_ok (k := 2) D hm sc_step_between (fun _ _ _ _ _ _ us hl => match us, hl with | [_, _], _ => rfl) fun cdv A outer s H E hr =>
    (ss_one (ss_ret (s_if (t_cmp (o_eq hr.units) (s_call (ok_further Z) (hr.mono (by decide)) pass0 (a_cons (s_var 0) (a_cons s_int a_nil))) (s_var 1)) (s_gS Z.g_UP) (s_gS Z.g_DOWN))))
abbrev N_steps_by : List Str := ["stacking", "one", "two"]
theorem sc_steps_by : FnScope N_steps_by ["stacking"] (defScope (top 24)) := ⟨rfl, rfl, rfl, by decide +kernel, rfl, by decide +kernel, by decide +kernel⟩
def f_steps_by : FF := fnOf 1 3 ((sRet (eMeth "str" bJoin (eCon (.str [])) (aCons (eFrz (fLc (.tp [(.nm 1), (.nm 2)]) (iZip' (aCons (eVar 0) (aCons (eSl (eVar 0) (oSome (eCon (.int 1))) oNone) aNil))) tYes' (eCall f_step_between (aCons (eVar 1) (aCons (eVar 2) aNil))) [1, 2])) aNil))))
theorem ok_steps_by (Z : Fx P w K mg base) : DefOk P w K mg base CX0 "steps_by" ["stacking"] 4 f_steps_by := by
  obtain ⟨f, fd, hm, D⟩ := Z.d_steps_by
  exact def_ok (k := 3) D hm sc_steps_by (fun _ _ _ _ _ _ us hl => match us, hl with | [_], _ => rfl) fun cdv A outer s H E hr =>
    (ss_one (ss_ret (s_meth F.plainAttrs_str F.slot_str_join F.type_str_join m_join s_str (a_cons (s_frz (f_lc rfl sc_steps_by.nd (si_zip rfl Z.b_zip (a_cons (s_var 0) (a_cons (s_sl (s_var 0) (so_some s_int) so_none) a_nil))) (own := [("one", 1), ("two", 2)]) (show BlkOk N_steps_by (defScope (top 24)) _ _ from ⟨rfl, by decide +kernel, by decide +kernel, by decide +kernel, by decide +kernel⟩) (by decide) (fun _ _ _ _ _ => (g_tup rfl (g_cons (g_nm 1 sc_steps_by.nd) (g_cons (g_nm 2 sc_steps_by.nd) g_nil)))) (fun _ _ _ _ _ => sts_nil) (fun _ _ _ _ _ => (s_call (ok_step_between Z) (hr.mono (by decide)) pass0 (a_cons (s_var 1) (a_cons (s_var 2) a_nil)))))) a_nil))))
abbrev N_round_steps_by : List Str := ["closed"]
theorem sc_round_steps_by : FnScope N_round_steps_by ["closed"] (defScope (top 25)) := ⟨rfl, rfl, rfl, by decide +kernel, rfl, by decide +kernel, by decide +kernel⟩
def f_round_steps_by : FF := fnOf 1 1 ((sRet (eCall f_steps_by (aCons (eBin oAdd (eVar 0) (eBin oIx (eVar 0) (eCon (.int 0)))) aNil))))
theorem ok_round_steps_by (Z : Fx P w K mg base) : DefOk P w K mg base CX0 "round_steps_by" ["closed"] 5 f_round_steps_by := by
  obtain ⟨f, fd, hm, D⟩ := Z.d_round_steps_by
  exact def_ok (k := 4) D hm sc_round_steps_by (fun _ _ _ _ _ _ us hl => match us, hl with | [_], _ => rfl) fun cdv A outer s H E hr =>
    (ss_one (ss_ret (s_call (ok_steps_by Z) (hr.mono (by decide)) pass0 (a_cons (s_bin o_add (s_var 0) (s_ix (s_var 0) s_int)) a_nil))))
abbrev N_round_steps : List Str := ["closed"]
theorem sc_round_steps : FnScope N_round_steps ["closed"] (defScope (top 126)) := ⟨rfl, rfl, rfl, by decide +kernel, rfl, by decide +kernel, by decide +kernel⟩
def f_round_steps : FF := fnOf 1 1 ((sSeq (sExpr (eCall f_check_closed (aCons (eVar 0) aNil))) (sRet (eCall f_round_steps_by (aCons (eVar 0) aNil)))))
theorem ok_round_steps (Z : Fx P w K mg base) : DefOk P w K mg base CX0 "round_steps" ["closed"] 7 f_round_steps := by
  obtain ⟨f, fd, hm, D⟩ := Z.d_round_steps
  exact def_ok (k := 6) D hm sc_round_steps (fun _ _ _ _ _ _ us hl => match us, hl with | [_], _ => rfl) fun cdv A outer s H E hr =>
    (ss_cons (ss_expr (s_call (ok_check_closed Z) (hr.mono (by decide)) pass0 (a_cons (s_var 0) a_nil)))
    (ss_one (ss_ret (s_call (ok_round_steps_by Z) (hr.mono (by decide)) pass0 (a_cons (s_var 0) a_nil)))))
abbrev N_law_is_stacking : List Str := ["value", "letter", "one", "two"]
theorem sc_law_is_stacking : FnScope N_law_is_stacking ["value"] (defScope (top 136)) := ⟨rfl, rfl, rfl, by decide +kernel, rfl, by decide +kernel, by decide +kernel⟩
def f_law_is_stacking : FF := fnOf 1 4 ((sSeq (sIf (tOr' (tNot' (toT (eIsi "str" (eVar 0)))) (tOr' (tNot' (toT (eChain oLt oLt (eCon (.int 0)) (eCall bLen (aCons (eVar 0) aNil)) (eCon (.int 25))))) (tNot' (toT (eCall bAll (aCons (eFrz (fLc (.nm 1) (iVal (eVar 0)) tYes' (eBin oIn (eVar 1) (eCon (.str [65, 66, 67]))) [1])) aNil)))))) (sRet (eCon (.bl false))) sNil) (sRet (eNot (eCall bAny (aCons (eFrz (fLc (.tp [(.nm 2), (.nm 3)]) (iZip' (aCons (eVar 0) (aCons (eSl (eVar 0) (oSome (eCon (.int 1))) oNone) aNil))) tYes' (eBin oEq (eVar 2) (eVar 3)) [2, 3])) aNil))))))
theorem ok_law_is_stacking (Z : Fx P w K mg base) : DefOk P w K mg base CX0 "_law_is_stacking" ["value"] 1 f_law_is_stacking := by
  obtain ⟨f, fd, hm, D⟩ := Z.d_law_is_stacking
  exact def_ok (k := 0) D hm sc_law_is_stacking (fun _ _ _ _ _ _ us hl => match us, hl with | [_], _ => rfl) fun cdv A outer s H E hr =>
    (ss_cons (ss_if (t_w (t_or (t_not (t_val (s_isi Z.b_isinstance (s_var 0) Z.b_str PyProof.Rows.boot_str))) (t_or (t_not (t_chain o_lt o_lt s_int (s_blt c_len boot_len Z.b_len (a_cons (s_var 0) a_nil)) s_int)) (t_or1 (t_not (t_val (s_blt (c_all rfl) PyProof.Rows.boot_all Z.b_all (a_cons (s_frz (f_lc rfl sc_law_is_stacking.nd (si_val (s_var 0)) (own := [("letter", 1)]) (show BlkOk N_law_is_stacking (defScope (top 136)) _ _ from ⟨rfl, by decide +kernel, by decide +kernel, by decide +kernel, by decide +kernel⟩) (by decide) (fun _ _ _ _ _ => (g_nm 1 sc_law_is_stacking.nd)) (fun _ _ _ _ _ => sts_nil) (fun _ _ _ _ _ => (s_cmp (o_in (units65 hr)) (s_var 1) s_str)))) a_nil)))))))) (ss_one (ss_ret s_bl)) ss_nil)
    (ss_one (ss_ret (s_not (s_blt (c_any rfl) PyProof.Rows.boot_any Z.b_any (a_cons (s_frz (f_lc rfl sc_law_is_stacking.nd (si_zip rfl Z.b_zip (a_cons (s_var 0) (a_cons (s_sl (s_var 0) (so_some s_int) so_none) a_nil))) (own := [("one", 2), ("two", 3)]) (show BlkOk N_law_is_stacking (defScope (top 136)) _ _ from ⟨rfl, by decide +kernel, by decide +kernel, by decide +kernel, by decide +kernel⟩) (by decide) (fun _ _ _ _ _ => (g_tup rfl (g_cons (g_nm 2 sc_law_is_stacking.nd) (g_cons (g_nm 3 sc_law_is_stacking.nd) g_nil)))) (fun _ _ _ _ _ => sts_nil) (fun _ _ _ _ _ => (s_cmp (o_eq hr.units) (s_var 2) (s_var 3))))) a_nil))))))
abbrev N_law_is_closed : List Str := ["value"]
theorem sc_law_is_closed : FnScope N_law_is_closed ["value"] (defScope (top 137)) := ⟨rfl, rfl, rfl, by decide +kernel, rfl, by decide +kernel, by decide +kernel⟩
def f_law_is_closed : FF := fnOf 1 1 ((sRet (eAnd (eCall f_law_is_stacking (aCons (eVar 0) aNil)) (eAnd (eBin oGt (eCall bLen (aCons (eVar 0) aNil)) (eCon (.int 1))) (eBin oNe (eBin oIx (eVar 0) (eCon (.int 0))) (eBin oIx (eVar 0) (eNeg (eCon (.int 1)))))))))
theorem ok_law_is_closed (Z : Fx P w K mg base) : DefOk P w K mg base CX0 "_law_is_closed" ["value"] 2 f_law_is_closed := by
  obtain ⟨f, fd, hm, D⟩ := Z.d_law_is_closed
  exact def_ok (k := 1) D hm sc_law_is_closed (fun _ _ _ _ _ _ us hl => match us, hl with | [_], _ => rfl) fun cdv A outer s H E hr =>
    (ss_one (ss_ret (s_and (s_call (ok_law_is_stacking Z) (hr.mono (by decide)) pass0 (a_cons (s_var 0) a_nil)) (s_and (s_cmp o_gt (s_blt c_len boot_len Z.b_len (a_cons (s_var 0) a_nil)) s_int) (s_one (s_cmp (o_ne hr.units) (s_ix (s_var 0) s_int) (s_ix (s_var 0) (s_neg s_int))))))))
abbrev N_letter_further : List Str := ["letter", "number"]
theorem sc_letter_further : FnScope N_letter_further ["letter", "number"] (defScope (top 129)) := ⟨rfl, rfl, rfl, by decide +kernel, rfl, by decide +kernel, by decide +kernel⟩
def f_letter_further : FF := fnOf 2 2 ((sSeq (sExpr (eCall f_check_letter (aCons (eVar 0) aNil))) (sSeq (sIf (tNot' (toT (eCall f_is_whole (aCons (eVar 1) aNil)))) sNo sNil) (sRet (eCall f_further (aCons (eVar 0) (aCons (eVar 1) aNil)))))))
theorem ok_letter_further (Z : Fx P w K mg base) : DefOk P w K mg base CX0 "letter_further" ["letter", "number"] 3 f_letter_further := by
  obtain ⟨f, fd, hm, D⟩ := Z.d_letter_further
  exact def_ok (k := 2) D hm sc_letter_further (fun _ _ _ _ _ _ us hl => match us, hl with | [_, _], _ => rfl) fun cdv A outer s H E hr =>
    (ss_cons (ss_expr (s_call (ok_check_letter Z) (hr.mono (by decide)) pass0 (a_cons (s_var 0) a_nil)))
    (ss_cons (ss_if (t_not (t_val (s_call (ok_is_whole Z) (hr.mono (by decide)) pass0 (a_cons (s_var 1) a_nil)))) (ss_one ss_no) ss_nil)
    (ss_one (ss_ret (s_call (ok_further Z) (hr.mono (by decide)) pass0 (a_cons (s_var 0) (a_cons (s_var 1) a_nil)))))))
abbrev N_certify_round : List Str := ["steps", "rest"]
theorem sc_certify_round : FnScope N_certify_round ["steps"] (defScope (top 98)) := ⟨rfl, rfl, rfl, by decide +kernel, rfl, by decide +kernel, by decide +kernel⟩
def f_certify_round : FF := fnOf 1 2 ((sSeq (sExpr (eCall f_check_steps (aCons (eVar 0) aNil))) (sSeq (sSet 1 (eBin oMod (eCall f_sum_of (aCons (eVar 0) aNil)) (eCall bLen (aCons (eCon (.str [65, 66, 67])) aNil)))) (sRet (eIf (toT (eBin oEq (eVar 1) (eCon (.int 0)))) (eTup (aCons (eTup (aCons (eCon (.str [114, 111, 117, 110, 100])) (aCons (eVar 0) aNil))) (aCons (eTup aNil) aNil))) (eTup (aCons (eTup (aCons (eCon (.str [110, 111, 116, 32, 114, 111, 117, 110, 100])) (aCons (eVar 0) aNil))) (aCons (eVar 1) aNil))))))))
theorem ok_certify_round (Z : Fx P w K mg base) : DefOk P w K mg base CX0 "certify_round" ["steps"] 6 f_certify_round := by
  obtain ⟨f, fd, hm, D⟩ := Z.d_certify_round
  exact def_ok (k := 5) D hm sc_certify_round (fun _ _ _ _ _ _ us hl => match us, hl with | [_], _ => rfl) fun cdv A outer s H E hr =>
    (ss_cons (ss_expr (s_call (ok_check_steps Z) (hr.mono (by decide)) pass0 (a_cons (s_var 0) a_nil)))
    (ss_cons (ss_set 1 sc_certify_round.nd (s_bin o_mod (s_call (ok_sum_of Z) (hr.mono (by decide)) pass0 (a_cons (s_var 0) a_nil)) (s_blt c_len boot_len Z.b_len (a_cons (s_gS Z.g_LETTERS) a_nil))))
    (ss_one (ss_ret (s_if (t_cmp (o_eq hr.units) (s_var 1) s_int) (s_tup (a_cons (s_tup (a_cons s_str (a_cons (s_var 0) a_nil))) (a_cons (s_tup a_nil) a_nil))) (s_tup (a_cons (s_tup (a_cons s_str (a_cons (s_var 0) a_nil))) (a_cons (s_var 1) a_nil))))))))
abbrev N_tells_steps : List Str := ["parts"]
theorem sc_tells_steps : FnScope N_tells_steps ["parts"] (defScope (top 89)) := ⟨rfl, rfl, rfl, by decide +kernel, rfl, by decide +kernel, by decide +kernel⟩
def f_tells_steps : FF := fnOf 1 1 ((sRet (eCall f_is_stepped (aCons (eBin oIx (eVar 0) (eCon (.int 0))) aNil))))
theorem ok_tells_steps (Z : Fx P w K mg base) : DefOk P w K mg base CX0 "tells_steps" ["parts"] 5 f_tells_steps := by
  obtain ⟨f, fd, hm, D⟩ := Z.d_tells_steps
  exact def_ok (k := 4) D hm sc_tells_steps (fun _ _ _ _ _ _ us hl => match us, hl with | [_], _ => rfl) fun cdv A outer s H E hr =>
    (ss_one (ss_ret (s_call (ok_is_stepped Z) (hr.mono (by decide)) pass0 (a_cons (s_ix (s_var 0) s_int) a_nil))))
def tb_FORMS (l : List Nat) : Option (Int × FF) := if l = [114, 111, 117, 110, 100] then some (1, f_tells_steps) else if l = [110, 111, 116, 32, 114, 111, 117, 110, 100] then some (1, f_tells_steps) else none
abbrev N_is_claim : List Str := ["value", "many", "is_told"]
theorem sc_is_claim : FnScope N_is_claim ["value"] (defScope (top 96)) := ⟨rfl, rfl, rfl, by decide +kernel, rfl, by decide +kernel, by decide +kernel⟩
def f_is_claim : FF := fnOf 1 3 ((sSeq (sIf (tOr' (tNot' (toT (eIsi "tuple" (eVar 0)))) (tOr' (toT (eBin oEq (eVar 0) (eTup aNil))) (tOr' (tNot' (toT (eIsi "str" (eBin oIx (eVar 0) (eCon (.int 0)))))) (toT (eNInT (codesOf ["round", "not round", "alike", "not alike", "slips", "like counts", "unlike counts", "mirror", "no mirror", "least", "not least", "own", "again"]) (eBin oIx (eVar 0) (eCon (.int 0)))))))) (sRet (eCon (.bl false))) sNil) (dropE 2 (sForm tb_FORMS (eBin oIx (eVar 0) (eCon (.int 0))) 1 (eBin oEq (eCall bLen (aCons (eVar 0) aNil)) (eBin oAdd (eVar 1) (eCon (.int 1)))) (aCons (eSl (eVar 0) (oSome (eCon (.int 1))) oNone) aNil)))))
theorem ok_is_claim (Z : Fx P w K mg base) : DefOk P w K mg base CX0 "is_claim" ["value"] 6 f_is_claim := by
  obtain ⟨f, fd, hm, D⟩ := Z.d_is_claim
  exact def_ok (k := 5) D hm sc_is_claim (fun _ _ _ _ _ _ us hl => match us, hl with | [_], _ => rfl) fun cdv A outer s H E hr =>
    (ss_cons (ss_if (t_w (t_or (t_not (t_val (s_isi Z.b_isinstance (s_var 0) Z.b_tuple PyProof.Rows.boot_tuple))) (t_or (t_cmp (o_eq hr.units) (s_var 0) (s_tup a_nil)) (t_or (t_not (t_val (s_isi Z.b_isinstance (s_ix (s_var 0) s_int) Z.b_str PyProof.Rows.boot_str))) (t_or1 (by obtain ⟨d, hm, T, _, _⟩ := Z.t_FORMS; exact t_ninT T hm (s_ix (s_var 0) s_int))))))) (ss_one (ss_ret s_bl)) ss_nil)
    (by
    obtain ⟨d, hm, T, c0, c1⟩ := Z.t_FORMS
    exact ss_form 1 2 T hm rfl sc_is_claim.nd (s_ix (s_var 0) s_int) (s_cmp (o_eq hr.units) (s_blt c_len boot_len Z.b_len (a_cons (s_var 0) a_nil)) (s_bin o_add (s_var 1) s_int)) (a_cons (s_sl (s_var 0) (so_some s_int) so_none) a_nil) pass0 (fun l F h => by
      unfold tb_FORMS at h
      split at h
      · rename_i e; subst e; obtain ⟨t, f, h1, h2, h3⟩ := c0; cases h; exact ⟨"round", t, f, rfl, h2, h3, .of (ok_tells_steps Z) h1 (hr.mono (by decide))⟩
      split at h
      · rename_i e; subst e; obtain ⟨t, f, h1, h2, h3⟩ := c1; cases h; exact ⟨"not round", t, f, rfl, h2, h3, .of (ok_tells_steps Z) h1 (hr.mono (by decide))⟩
      cases h)))
abbrev N_is_tuple_of : List Str := ["value", "many"]
theorem sc_is_tuple_of : FnScope N_is_tuple_of ["value", "many"] (defScope (top 4)) := ⟨rfl, rfl, rfl, by decide +kernel, rfl, by decide +kernel, by decide +kernel⟩
def f_is_tuple_of : FF := fnOf 2 2 ((sRet (eAnd (eIsi "tuple" (eVar 0)) (eBin oEq (eCall bLen (aCons (eVar 0) aNil)) (eVar 1)))))
theorem ok_is_tuple_of (Z : Fx P w K mg base) : DefOk P w K mg base CX0 "is_tuple_of" ["value", "many"] 1 f_is_tuple_of := by
  obtain ⟨f, fd, hm, D⟩ := Z.d_is_tuple_of
  exact def_ok (k := 0) D hm sc_is_tuple_of (fun _ _ _ _ _ _ us hl => match us, hl with | [_, _], _ => rfl) fun cdv A outer s H E hr =>
    (ss_one (ss_ret (s_and (s_isi Z.b_isinstance (s_var 0) Z.b_tuple PyProof.Rows.boot_tuple) (s_one (s_cmp (o_eq hr.units) (s_blt c_len boot_len Z.b_len (a_cons (s_var 0) a_nil)) (s_var 1))))))
abbrev N_is_nothing : List Str := ["paper"]
theorem sc_is_nothing : FnScope N_is_nothing ["paper"] (defScope (top 100)) := ⟨rfl, rfl, rfl, by decide +kernel, rfl, by decide +kernel, by decide +kernel⟩
def f_is_nothing : FF := fnOf 1 1 ((sRet (eCall f_is_tuple_of (aCons (eVar 0) (aCons (eCon (.int 0)) aNil)))))
theorem ok_is_nothing (Z : Fx P w K mg base) : DefOk P w K mg base CX0 "is_nothing" ["paper"] 2 f_is_nothing := by
  obtain ⟨f, fd, hm, D⟩ := Z.d_is_nothing
  exact def_ok (k := 1) D hm sc_is_nothing (fun _ _ _ _ _ _ us hl => match us, hl with | [_], _ => rfl) fun cdv A outer s H E hr =>
    (ss_one (ss_ret (s_call (ok_is_tuple_of Z) (hr.mono (by decide)) pass0 (a_cons (s_var 0) (a_cons s_int a_nil)))))
abbrev N_shows_round : List Str := ["steps", "paper"]
theorem sc_shows_round : FnScope N_shows_round ["steps", "paper"] (defScope (top 101)) := ⟨rfl, rfl, rfl, by decide +kernel, rfl, by decide +kernel, by decide +kernel⟩
def f_shows_round : FF := fnOf 2 2 ((sRet (eAnd (eCall f_is_nothing (aCons (eVar 1) aNil)) (eCall f_do_go_round (aCons (eVar 0) aNil)))))
theorem ok_shows_round (Z : Fx P w K mg base) : DefOk P w K mg base CX0 "shows_round" ["steps", "paper"] 4 f_shows_round := by
  obtain ⟨f, fd, hm, D⟩ := Z.d_shows_round
  exact def_ok (k := 3) D hm sc_shows_round (fun _ _ _ _ _ _ us hl => match us, hl with | [_, _], _ => rfl) fun cdv A outer s H E hr =>
    (ss_one (ss_ret (s_and (s_call (ok_is_nothing Z) (hr.mono (by decide)) pass0 (a_cons (s_var 1) a_nil)) (s_one (s_call (ok_do_go_round Z) (hr.mono (by decide)) pass0 (a_cons (s_var 0) a_nil))))))
abbrev N_shows_not_round : List Str := ["steps", "paper"]
theorem sc_shows_not_round : FnScope N_shows_not_round ["steps", "paper"] (defScope (top 102)) := ⟨rfl, rfl, rfl, by decide +kernel, rfl, by decide +kernel, by decide +kernel⟩
def f_shows_not_round : FF := fnOf 2 2 ((sRet (eAnd (eCall f_is_between (aCons (eVar 1) (aCons (eCon (.int 1)) (aCons (eCon (.int 2)) aNil)))) (eBin oEq (eBin oMod (eCall f_sum_of (aCons (eVar 0) aNil)) (eCall bLen (aCons (eCon (.str [65, 66, 67])) aNil))) (eVar 1)))))
theorem ok_shows_not_round (Z : Fx P w K mg base) : DefOk P w K mg base CX0 "shows_not_round" ["steps", "paper"] 3 f_shows_not_round := by
  obtain ⟨f, fd, hm, D⟩ := Z.d_shows_not_round
  exact def_ok (k := 2) D hm sc_shows_not_round (fun _ _ _ _ _ _ us hl => match us, hl with | [_, _], _ => rfl) fun cdv A outer s H E hr =>
    (ss_one (ss_ret (s_and (s_call (ok_is_between Z) (hr.mono (by decide)) pass0 (a_cons (s_var 1) (a_cons s_int (a_cons s_int a_nil)))) (s_one (s_cmp (o_eq hr.units) (s_bin o_mod (s_call (ok_sum_of Z) (hr.mono (by decide)) pass0 (a_cons (s_var 0) a_nil)) (s_blt c_len boot_len Z.b_len (a_cons (s_gS Z.g_LETTERS) a_nil))) (s_var 1))))))
def tb_OF_ONE (l : List Nat) : Option FF := if l = [114, 111, 117, 110, 100] then some f_shows_round else if l = [110, 111, 116, 32, 114, 111, 117, 110, 100] then some f_shows_not_round else none
def tb_OF_TWO (l : List Nat) : Option FF := none
abbrev N_accepts : List Str := ["claim", "paper", "word", "judge"]
theorem sc_accepts : FnScope N_accepts ["claim", "paper"] (defScope (top 117)) := ⟨rfl, rfl, rfl, by decide +kernel, rfl, by decide +kernel, by decide +kernel⟩
def f_accepts : FF := fnOf 2 4 ((sSeq (sIf (tNot' (toT (eCall f_is_claim (aCons (eVar 0) aNil)))) (sRet (eCon (.bl false))) sNil) (sSeq (sSet 2 (eBin oIx (eVar 0) (eCon (.int 0)))) (sSeq (sIf (toT (eInT (codesOf ["round", "not round", "mirror", "no mirror", "own", "again"]) (eVar 2))) (dropE 3 (sDisp tb_OF_ONE (eVar 2) (aCons (eBin oIx (eVar 0) (eCon (.int 1))) (aCons (eVar 1) aNil)))) sNil) (sSeq (sIf (toT (eInT (codesOf ["alike", "not alike", "like counts", "unlike counts", "least", "not least"]) (eVar 2))) (dropE 3 (sDisp tb_OF_TWO (eVar 2) (aCons (eBin oIx (eVar 0) (eCon (.int 1))) (aCons (eBin oIx (eVar 0) (eCon (.int 2))) (aCons (eVar 1) aNil))))) sNil) sNo)))))
theorem ok_accepts (Z : Fx P w K mg base) : DefOk P w K mg base CX0 "accepts" ["claim", "paper"] 7 f_accepts := by
  obtain ⟨f, fd, hm, D⟩ := Z.d_accepts
  exact def_ok (k := 6) D hm sc_accepts (fun _ _ _ _ _ _ us hl => match us, hl with | [_, _], _ => rfl) fun cdv A outer s H E hr =>
    (ss_cons (ss_if (t_not (t_val (s_call (ok_is_claim Z) (hr.mono (by decide)) pass0 (a_cons (s_var 0) a_nil)))) (ss_one (ss_ret s_bl)) ss_nil)
    (ss_cons (ss_set 2 sc_accepts.nd (s_ix (s_var 0) s_int))
    (ss_cons (ss_if (by obtain ⟨d, hm, T, _, _⟩ := Z.t_OF_ONE; exact t_inT T hm (s_var 2)) (by
    obtain ⟨d, hm, T, c0, c1⟩ := Z.t_OF_ONE
    exact ss_disp 3 T hm sc_accepts.nd (s_var 2) (a_cons (s_ix (s_var 0) s_int) (a_cons (s_var 1) a_nil)) pass0 (fun l F h => by
      unfold tb_OF_ONE at h
      split at h
      · rename_i e; subst e; obtain ⟨f, h1, h2⟩ := c0; cases h; exact ⟨"round", f, rfl, h2, .of (ok_shows_round Z) h1 (hr.mono (by decide))⟩
      split at h
      · rename_i e; subst e; obtain ⟨f, h1, h2⟩ := c1; cases h; exact ⟨"not round", f, rfl, h2, .of (ok_shows_not_round Z) h1 (hr.mono (by decide))⟩
      cases h)) ss_nil)
    (ss_cons (ss_if (by obtain ⟨d, hm, T⟩ := Z.t_OF_TWO; exact t_inT T hm (s_var 2)) (by
    obtain ⟨d, hm, T⟩ := Z.t_OF_TWO
    exact ss_disp 3 T hm sc_accepts.nd (s_var 2) (a_cons (s_ix (s_var 0) s_int) (a_cons (s_ix (s_var 0) s_int) (a_cons (s_var 1) a_nil))) pass0 (fun l F h => by
      unfold tb_OF_TWO at h
      cases h)) ss_nil)
    (ss_one ss_no)))))
theorem kw0_accepts (Z : Fx P w K mg base) : DefKw P w K mg base CX0 "accepts" ["claim", "paper"] ["paper", "claim"] [1, 0] 7 f_accepts := by
  obtain ⟨f, fd, hm, D⟩ := Z.d_accepts
  exact kw_of (def_run (k := 6) D sc_accepts fun cdv A outer s H E hr =>
    (ss_cons (ss_if (t_not (t_val (s_call (ok_is_claim Z) (hr.mono (by decide)) pass0 (a_cons (s_var 0) a_nil)))) (ss_one (ss_ret s_bl)) ss_nil)
    (ss_cons (ss_set 2 sc_accepts.nd (s_ix (s_var 0) s_int))
    (ss_cons (ss_if (by obtain ⟨d, hm, T, _, _⟩ := Z.t_OF_ONE; exact t_inT T hm (s_var 2)) (by
    obtain ⟨d, hm, T, c0, c1⟩ := Z.t_OF_ONE
    exact ss_disp 3 T hm sc_accepts.nd (s_var 2) (a_cons (s_ix (s_var 0) s_int) (a_cons (s_var 1) a_nil)) pass0 (fun l F h => by
      unfold tb_OF_ONE at h
      split at h
      · rename_i e; subst e; obtain ⟨f, h1, h2⟩ := c0; cases h; exact ⟨"round", f, rfl, h2, .of (ok_shows_round Z) h1 (hr.mono (by decide))⟩
      split at h
      · rename_i e; subst e; obtain ⟨f, h1, h2⟩ := c1; cases h; exact ⟨"not round", f, rfl, h2, .of (ok_shows_not_round Z) h1 (hr.mono (by decide))⟩
      cases h)) ss_nil)
    (ss_cons (ss_if (by obtain ⟨d, hm, T⟩ := Z.t_OF_TWO; exact t_inT T hm (s_var 2)) (by
    obtain ⟨d, hm, T⟩ := Z.t_OF_TWO
    exact ss_disp 3 T hm sc_accepts.nd (s_var 2) (a_cons (s_ix (s_var 0) s_int) (a_cons (s_ix (s_var 0) s_int) (a_cons (s_var 1) a_nil))) pass0 (fun l F h => by
      unfold tb_OF_TWO at h
      cases h)) ss_nil)
    (ss_one ss_no)))))) D hm (fun _ _ _ _ _ _ ws hl => match ws, hl with | [_, _], _ => rfl)
abbrev N_law_is_whole : List Str := ["value"]
theorem sc_law_is_whole : FnScope N_law_is_whole ["value"] (defScope (top 135)) := ⟨rfl, rfl, rfl, by decide +kernel, rfl, by decide +kernel, by decide +kernel⟩
def f_law_is_whole : FF := fnOf 1 1 ((sRet (eAnd (eIsi "int" (eVar 0)) (eNot (eIsi "bool" (eVar 0))))))
theorem ok_law_is_whole (Z : Fx P w K mg base) : DefOk P w K mg base CX0 "_law_is_whole" ["value"] 1 f_law_is_whole := by
  obtain ⟨f, fd, hm, D⟩ := Z.d_law_is_whole
  exact def_ok (k := 0) D hm sc_law_is_whole (fun _ _ _ _ _ _ us hl => match us, hl with | [_], _ => rfl) fun cdv A outer s H E hr =>
    (ss_one (ss_ret (s_and (s_isi Z.b_isinstance (s_var 0) Z.b_int PyProof.Rows.boot_int) (s_one (s_not (s_isi Z.b_isinstance (s_var 0) Z.b_bool PyProof.Rows.boot_bool))))))
abbrev N_law_steps_right : List Str := ["bag", "steps", "rest", "told", "text", "letter", "k", "claims", "claim", "paper", "each", "wanted", "answers", "odd"]
theorem sc_law_steps_right : FnScope N_law_steps_right ["bag", "steps"] (defScope (top 144)) := ⟨rfl, rfl, rfl, by decide +kernel, rfl, by decide +kernel, by decide +kernel⟩
def f_law_steps_right : FF := fnOf 2 14 ((sSeq (sSet 2 (eBin oMod (eBin oSub (eMeth "str" bCount (eVar 1) (aCons (eCon (.str [43])) aNil)) (eMeth "str" bCount (eVar 1) (aCons (eCon (.str [45])) aNil))) (eCon (.int 3)))) (sSeq (sSet 3 (eFrz (lDisp (aCons (eCall f_goes_round (aCons (eVar 1) aNil)) (aCons (eCallK f_goes_round 1 [0] (aCons (eVar 1) aNil)) aNil))))) (sSeq (sIf (tNot' (toT (eCall (f_law_same 8) (aCons (eVar 3) (aCons (eBin oMul (eFrz (lDisp (aCons (eBin oEq (eVar 2) (eCon (.int 0))) aNil))) (eCon (.int 2))) aNil))))) (sRet (eCon (.bl false))) sNil) (sSeq (sIf (toT (eBin oEq (eVar 2) (eCon (.int 0)))) (sSeq (sSet 4 (eCall f_law_by (aCons (eCon (.str [66])) (aCons (eSl (eVar 1) oNone (oSome (eNeg (eCon (.int 1))))) aNil)))) (sIf (tNot' (toT (eCall (f_law_same 8) (aCons (eFrz (lDisp (aCons (eCall f_stacking_by (aCons (eCon (.str [66])) (aCons (eSl (eVar 1) oNone (oSome (eNeg (eCon (.int 1))))) aNil))) (aCons (eCall f_round_steps (aCons (eVar 4) aNil)) (aCons (eCall f_law_is_closed (aCons (eVar 4) aNil)) aNil))))) (aCons (eFrz (lDisp (aCons (eVar 4) (aCons (eVar 1) (aCons (eCon (.bl true)) aNil))))) aNil))))) (sRet (eCon (.bl false))) sNil)) sNil) (sSeq (sPar 5 6 (aCons (eCall f_law_one (aCons (eVar 0) (aCons (eCon (.str [65, 66, 67])) aNil))) (aCons (eBin oSub (eCall f_law_draw (aCons (eVar 0) (aCons (eCon (.int 99)) aNil))) (eCon (.int 50))) aNil))) (sSeq (sIf (tNot' (toT (eCall (f_law_same 8) (aCons (eCall f_letter_further (aCons (eVar 5) (aCons (eVar 6) aNil))) (aCons (eCall f_law_further (aCons (eVar 5) (aCons (eVar 6) aNil))) aNil))))) (sRet (eCon (.bl false))) sNil) (sSeq (sSet 7 (eFrz (lDisp (aCons (eTup (aCons (eCon (.str [114, 111, 117, 110, 100])) (aCons (eVar 1) aNil))) (aCons (eTup (aCons (eCon (.str [110, 111, 116, 32, 114, 111, 117, 110, 100])) (aCons (eVar 1) aNil))) aNil))))) (sSeq (sAsg (.tp [(.nm 8), (.nm 9)]) (eCall f_certify_round (aCons (eVar 1) aNil))) (sSeq (sIf (tNot' (toT (eCall (f_law_same 8) (aCons (eFrz (lDisp (aCons (eVar 8) (aCons (eCall f_accepts (aCons (eVar 8) (aCons (eVar 9) aNil))) aNil)))) (aCons (eFrz (lDisp (aCons (eIf (toT (eBin oEq (eVar 2) (eCon (.int 0)))) (eBin oIx (eVar 7) (eCon (.int 0))) (eBin oIx (eVar 7) (eCon (.int 1)))) (aCons (eCon (.bl true)) aNil)))) aNil))))) (sRet (eCon (.bl false))) sNil) (sSeq (sFor (.nm 10) (iVal (eFrz (lDisp (aCons (eVar 9) (aCons (eTup aNil) (aCons (eCon .non) (aCons (eCon (.str [])) (aCons (eCon (.int 0)) (aCons (eCon (.int 1)) (aCons (eCon (.int 2)) (aCons (eCon (.int 3)) (aCons (eBin oSub (eCon (.int 0)) (eCon (.int 1))) (aCons (eCon (.bl true)) (aCons (eCon (.bl false)) (aCons (eCon (.str [49])) (aCons (eTup (aCons (eCon (.int 1)) aNil)) (aCons (eFrz (lDisp aNil)) (aCons (eVar 2) (aCons (eCon (.int 4)) (aCons (eCon (.int 5)) aNil)))))))))))))))))))) (sSeq (sSet 11 (eFrz (lDisp (aCons (eAnd (eIsi "tuple" (eVar 10)) (eAnd (eBin oEq (eVar 10) (eTup aNil)) (eBin oEq (eVar 2) (eCon (.int 0))))) aNil)))) (sSeq (sSet 11 (eBin oAdd (eVar 11) (eFrz (lDisp (aCons (eAnd (eCall f_law_is_whole (aCons (eVar 10) aNil)) (eAnd (eBin oEq (eVar 10) (eVar 2)) (eBin oGt (eVar 2) (eCon (.int 0))))) aNil))))) (sSeq (sSet 12 (eFrz (lDisp (aCons (eCall f_accepts (aCons (eBin oIx (eVar 7) (eCon (.int 0))) (aCons (eVar 10) aNil))) (aCons (eCallK f_accepts 2 [1, 0] (aCons (eVar 10) (aCons (eBin oIx (eVar 7) (eCon (.int 1))) aNil))) aNil))))) (sIf (tOr' (tNot' (toT (eCall (f_law_same 8) (aCons (eVar 12) (aCons (eVar 11) aNil))))) (toT (eBin oEq (eVar 11) (eFrz (lDisp (aCons (eCon (.bl true)) (aCons (eCon (.bl true)) aNil))))))) (sRet (eCon (.bl false))) sNil))))) (sSeq (sSet 13 (eFrz (lDisp (aCons (eSl (eVar 8) oNone (oSome (eCon (.int 1)))) (aCons (eBin oAdd (eVar 8) (eTup (aCons (eCon (.int 0)) aNil))) (aCons (eCall bListX (aCons (eVar 8) aNil)) (aCons (eTup (aCons (eBin oIx (eVar 8) (eCon (.int 0))) (aCons (eCon (.str [])) aNil))) (aCons (eTup (aCons (eBin oIx (eVar 8) (eCon (.int 0))) (aCons (eBin oMul (eVar 1) (eCon (.int 25))) aNil))) (aCons (eTup (aCons (eBin oIx (eVar 8) (eCon (.int 0))) (aCons (eBin oAdd (eVar 1) (eCon (.str [120]))) aNil))) aNil))))))))) (sSeq (sSet 13 (eBin oAdd (eVar 13) (eFrz (lDisp (aCons (eTup (aCons (eBin oIx (eVar 8) (eCon (.int 0))) (aCons (eCon .non) aNil))) aNil))))) (sSeq (sSet 13 (eBin oAdd (eVar 13) (eFrz (lDisp (aCons (eTup (aCons (eCon (.str [114, 111, 117, 110, 100, 115])) (aCons (eVar 1) aNil))) (aCons (eTup (aCons (eBin oIx (eVar 8) (eCon (.int 0))) (aCons (eCall bTupleX (aCons (eVar 1) aNil)) aNil))) (aCons (eTup (aCons (eBin oIx (eVar 8) (eCon (.int 0))) (aCons (eCon (.int 0)) aNil))) (aCons (eTup (aCons (eBin oIx (eVar 8) (eCon (.int 0))) (aCons (eCon (.str [104])) aNil))) aNil)))))))) (sRet (eNot (eCall bAny (aCons (eFrz (fLc (.nm 10) (iVal (eVar 13)) tYes' (eCall f_accepts (aCons (eVar 10) (aCons (eVar 9) aNil))) [10])) aNil))))))))))))))))))
theorem ok_law_steps_right (Z : Fx P w K mg base) : DefOk P w K mg base CX0 "_law_steps_right" ["bag", "steps"] 10 f_law_steps_right := by
  obtain ⟨f, fd, hm, D⟩ := Z.d_law_steps_right
  exact def_ok (k := 9) D hm sc_law_steps_right (fun _ _ _ _ _ _ us hl => match us, hl with | [_, _], _ => rfl) fun cdv A outer s H E hr =>
    (ss_cons (ss_set 2 sc_law_steps_right.nd (s_bin o_mod (s_bin o_sub (s_meth F.plainAttrs_str F.slot_str_count F.type_str_count m_count (s_var 1) (a_cons s_str a_nil)) (s_meth F.plainAttrs_str F.slot_str_count F.type_str_count m_count (s_var 1) (a_cons s_str a_nil))) s_int))
    (ss_cons (ss_set 3 sc_law_steps_right.nd (s_frz (f_lst (a_cons (s_call (ok_goes_round Z) (hr.mono (by decide)) pass0 (a_cons (s_var 1) a_nil)) (a_cons (s_callK (kw0_goes_round Z) (hr.mono (by decide)) pass0 (sk_cons (s_var 1) sk_nil)) a_nil)))))
    (ss_cons (ss_if (t_not (t_val (s_call (ok_law_same Z 8) (hr.mono (by decide)) pass0 (a_cons (s_var 3) (a_cons (s_bin o_mul (s_frz (f_lst (a_cons (s_cmp (o_eq hr.units) (s_var 2) s_int) a_nil))) s_int) a_nil))))) (ss_one (ss_ret s_bl)) ss_nil)
    (ss_cons (ss_if (t_cmp (o_eq hr.units) (s_var 2) s_int) (ss_cons (ss_set 4 sc_law_steps_right.nd (s_call (ok_law_by Z) (hr.mono (by decide)) pass0 (a_cons s_str (a_cons (s_sl (s_var 1) so_none (so_some (s_neg s_int))) a_nil))))
    (ss_one (ss_if (t_not (t_val (s_call (ok_law_same Z 8) (hr.mono (by decide)) pass0 (a_cons (s_frz (f_lst (a_cons (s_call (ok_stacking_by Z) (hr.mono (by decide)) pass0 (a_cons s_str (a_cons (s_sl (s_var 1) so_none (so_some (s_neg s_int))) a_nil))) (a_cons (s_call (ok_round_steps Z) (hr.mono (by decide)) pass0 (a_cons (s_var 4) a_nil)) (a_cons (s_call (ok_law_is_closed Z) (hr.mono (by decide)) pass0 (a_cons (s_var 4) a_nil)) a_nil))))) (a_cons (s_frz (f_lst (a_cons (s_var 4) (a_cons (s_var 1) (a_cons s_bl a_nil))))) a_nil))))) (ss_one (ss_ret s_bl)) ss_nil))) ss_nil)
    (ss_cons (ss_par 5 6 rfl sc_law_steps_right.nd (a_cons (s_call (ok_law_one Z) (hr.mono (by decide)) pass0 (a_cons (s_var 0) (a_cons s_str a_nil))) (a_cons (s_bin o_sub (s_call (ok_law_draw Z) (hr.mono (by decide)) pass0 (a_cons (s_var 0) (a_cons s_int a_nil))) s_int) a_nil)))
    (ss_cons (ss_if (t_not (t_val (s_call (ok_law_same Z 8) (hr.mono (by decide)) pass0 (a_cons (s_call (ok_letter_further Z) (hr.mono (by decide)) pass0 (a_cons (s_var 5) (a_cons (s_var 6) a_nil))) (a_cons (s_call (ok_law_further Z) (hr.mono (by decide)) pass0 (a_cons (s_var 5) (a_cons (s_var 6) a_nil))) a_nil))))) (ss_one (ss_ret s_bl)) ss_nil)
    (ss_cons (ss_set 7 sc_law_steps_right.nd (s_frz (f_lst (a_cons (s_tup (a_cons s_str (a_cons (s_var 1) a_nil))) (a_cons (s_tup (a_cons s_str (a_cons (s_var 1) a_nil))) a_nil)))))
    (ss_cons (ss_asg (s_call (ok_certify_round Z) (hr.mono (by decide)) pass0 (a_cons (s_var 1) a_nil)) (g_tup rfl (g_cons (g_nm 8 sc_law_steps_right.nd) (g_cons (g_nm 9 sc_law_steps_right.nd) g_nil))))
    (ss_cons (ss_if (t_not (t_val (s_call (ok_law_same Z 8) (hr.mono (by decide)) pass0 (a_cons (s_frz (f_lst (a_cons (s_var 8) (a_cons (s_call (ok_accepts Z) (hr.mono (by decide)) pass0 (a_cons (s_var 8) (a_cons (s_var 9) a_nil))) a_nil)))) (a_cons (s_frz (f_lst (a_cons (s_if (t_cmp (o_eq hr.units) (s_var 2) s_int) (s_ix (s_var 7) s_int) (s_ix (s_var 7) s_int)) (a_cons s_bl a_nil)))) a_nil))))) (ss_one (ss_ret s_bl)) ss_nil)
    (ss_cons (ss_for PassesOwn.never rfl (si_val (s_frz (f_lst (a_cons (s_var 9) (a_cons (s_tup a_nil) (a_cons s_non (a_cons s_str (a_cons s_int (a_cons s_int (a_cons s_int (a_cons s_int (a_cons (s_bin o_sub s_int s_int) (a_cons s_bl (a_cons s_bl (a_cons s_str (a_cons (s_tup (a_cons s_int a_nil)) (a_cons (s_frz (f_lst a_nil)) (a_cons (s_var 2) (a_cons s_int (a_cons s_int a_nil)))))))))))))))))))) (g_nm 10 sc_law_steps_right.nd) (ss_cons (ss_set 11 sc_law_steps_right.nd (s_frz (f_lst (a_cons (s_and (s_isi Z.b_isinstance (s_var 10) Z.b_tuple PyProof.Rows.boot_tuple) (s_and (s_cmp (o_eq hr.units) (s_var 10) (s_tup a_nil)) (s_one (s_cmp (o_eq hr.units) (s_var 2) s_int)))) a_nil))))
    (ss_cons (ss_set 11 sc_law_steps_right.nd (s_bin o_add (s_var 11) (s_frz (f_lst (a_cons (s_and (s_call (ok_law_is_whole Z) (hr.mono (by decide)) pass0 (a_cons (s_var 10) a_nil)) (s_and (s_cmp (o_eq hr.units) (s_var 10) (s_var 2)) (s_one (s_cmp o_gt (s_var 2) s_int)))) a_nil)))))
    (ss_cons (ss_set 12 sc_law_steps_right.nd (s_frz (f_lst (a_cons (s_call (ok_accepts Z) (hr.mono (by decide)) pass0 (a_cons (s_ix (s_var 7) s_int) (a_cons (s_var 10) a_nil))) (a_cons (s_callK (kw0_accepts Z) (hr.mono (by decide)) pass0 (sk_cons (s_var 10) (sk_cons (s_ix (s_var 7) s_int) sk_nil))) a_nil)))))
    (ss_one (ss_if (t_w (t_or (t_not (t_val (s_call (ok_law_same Z 8) (hr.mono (by decide)) pass0 (a_cons (s_var 12) (a_cons (s_var 11) a_nil))))) (t_or1 (t_cmp (o_eq hr.units) (s_var 11) (s_frz (f_lst (a_cons s_bl (a_cons s_bl a_nil)))))))) (ss_one (ss_ret s_bl)) ss_nil))))))
    (ss_cons (ss_set 13 sc_law_steps_right.nd (s_frz (f_lst (a_cons (s_sl (s_var 8) so_none (so_some s_int)) (a_cons (s_bin o_add (s_var 8) (s_tup (a_cons s_int a_nil))) (a_cons (s_typ (c_listX rfl) Pv.boot_list Z.b_list (a_cons (s_var 8) a_nil)) (a_cons (s_tup (a_cons (s_ix (s_var 8) s_int) (a_cons s_str a_nil))) (a_cons (s_tup (a_cons (s_ix (s_var 8) s_int) (a_cons (s_bin o_mul (s_var 1) s_int) a_nil))) (a_cons (s_tup (a_cons (s_ix (s_var 8) s_int) (a_cons (s_bin o_add (s_var 1) s_str) a_nil))) a_nil)))))))))
    (ss_cons (ss_set 13 sc_law_steps_right.nd (s_bin o_add (s_var 13) (s_frz (f_lst (a_cons (s_tup (a_cons (s_ix (s_var 8) s_int) (a_cons s_non a_nil))) a_nil)))))
    (ss_cons (ss_set 13 sc_law_steps_right.nd (s_bin o_add (s_var 13) (s_frz (f_lst (a_cons (s_tup (a_cons s_str (a_cons (s_var 1) a_nil))) (a_cons (s_tup (a_cons (s_ix (s_var 8) s_int) (a_cons (s_typ (c_tupleX rfl) Pv.boot_tuple Z.b_tuple (a_cons (s_var 1) a_nil)) a_nil))) (a_cons (s_tup (a_cons (s_ix (s_var 8) s_int) (a_cons s_int a_nil))) (a_cons (s_tup (a_cons (s_ix (s_var 8) s_int) (a_cons s_str a_nil))) a_nil))))))))
    (ss_one (ss_ret (s_not (s_blt (c_any rfl) PyProof.Rows.boot_any Z.b_any (a_cons (s_frz (f_lc rfl sc_law_steps_right.nd (si_val (s_var 13)) (own := [("each", 10)]) (show BlkOk N_law_steps_right (defScope (top 144)) _ _ from ⟨rfl, by decide +kernel, by decide +kernel, by decide +kernel, by decide +kernel⟩) (by decide) (fun _ _ _ _ _ => (g_nm 10 sc_law_steps_right.nd)) (fun _ _ _ _ _ => sts_nil) (fun _ _ _ _ _ => (s_call (ok_accepts Z) (hr.mono (by decide)) pass0 (a_cons (s_var 10) (a_cons (s_var 9) a_nil)))))) a_nil))))))))))))))))))
abbrev N_law_next : List Str := ["steps", "row", "at"]
theorem sc_law_next : FnScope N_law_next ["steps", "row", "at"] (defScope (top 146)) := ⟨rfl, rfl, rfl, by decide +kernel, rfl, by decide +kernel, by decide +kernel⟩
def f_law_next : FF := fnOf 3 3 ((sRet (eIf (toT (eBin oEq (eBin oIx (eVar 1) (eBin oMod (eVar 2) (eCall bLen (aCons (eVar 1) aNil)))) (eCon (.str [99])))) (eBin oIx (eVar 0) (eNeg (eCon (.int 1)))) (eIf (toT (eBin oEq (eBin oIx (eVar 0) (eNeg (eCon (.int 1)))) (eCon (.str [43])))) (eCon (.str [45])) (eCon (.str [43]))))))
theorem ok_law_next (Z : Fx P w K mg base) : DefOk P w K mg base CX0 "_law_next" ["steps", "row", "at"] 1 f_law_next := by
  obtain ⟨f, fd, hm, D⟩ := Z.d_law_next
  exact def_ok (k := 0) D hm sc_law_next (fun _ _ _ _ _ _ us hl => match us, hl with | [_, _, _], _ => rfl) fun cdv A outer s H E hr =>
    (ss_one (ss_ret (s_if (t_cmp (o_eq hr.units) (s_ix (s_var 1) (s_bin o_mod (s_var 2) (s_blt c_len boot_len Z.b_len (a_cons (s_var 1) a_nil)))) s_str) (s_ix (s_var 0) (s_neg s_int)) (s_if (t_cmp (o_eq hr.units) (s_ix (s_var 0) (s_neg s_int)) s_str) s_str s_str))))
abbrev N_are_marks : List Str := ["value", "least", "most"]
theorem sc_are_marks : FnScope N_are_marks ["value", "least", "most"] (defScope (top 78)) := ⟨rfl, rfl, rfl, by decide +kernel, rfl, by decide +kernel, by decide +kernel⟩
def f_are_marks : FF := fnOf 3 3 ((sRet (eAnd (eCall f_is_text_of (aCons (eVar 0) (aCons (eCon (.str [104, 99])) aNil))) (eChain oLe oLe (eVar 1) (eCall bLen (aCons (eVar 0) aNil)) (eVar 2)))))
theorem ok_are_marks (Z : Fx P w K mg base) : DefOk P w K mg base CX0 "are_marks" ["value", "least", "most"] 2 f_are_marks := by
  obtain ⟨f, fd, hm, D⟩ := Z.d_are_marks
  exact def_ok (k := 1) D hm sc_are_marks (fun _ _ _ _ _ _ us hl => match us, hl with | [_, _, _], _ => rfl) fun cdv A outer s H E hr =>
    (ss_one (ss_ret (s_and (s_call (ok_is_text_of Z) (hr.mono (by decide)) pass0 (a_cons (s_var 0) (a_cons (s_gS Z.g_MARKS) a_nil))) (s_one (s_chain o_le o_le (s_var 1) (s_blt c_len boot_len Z.b_len (a_cons (s_var 0) a_nil)) (s_var 2))))))
abbrev N_check_marks : List Str := ["marks", "least", "most"]
theorem sc_check_marks : FnScope N_check_marks ["marks", "least", "most"] (defScope (top 120)) := ⟨rfl, rfl, rfl, by decide +kernel, rfl, by decide +kernel, by decide +kernel⟩
def f_check_marks : FF := fnOf 3 3 ((sIf (tNot' (toT (eCall f_are_marks (aCons (eVar 0) (aCons (eVar 1) (aCons (eVar 2) aNil)))))) sNo sNil))
theorem ok_check_marks (Z : Fx P w K mg base) : DefOk P w K mg base CX0 "check_marks" ["marks", "least", "most"] 3 f_check_marks := by
  obtain ⟨f, fd, hm, D⟩ := Z.d_check_marks
  exact def_ok (k := 2) D hm sc_check_marks (fun _ _ _ _ _ _ us hl => match us, hl with | [_, _, _], _ => rfl) fun cdv A outer s H E hr =>
    (ss_one (ss_if (t_not (t_val (s_call (ok_are_marks Z) (hr.mono (by decide)) pass0 (a_cons (s_var 0) (a_cons (s_var 1) (a_cons (s_var 2) a_nil)))))) (ss_one ss_no) ss_nil))
abbrev N_other_step : List Str := ["step"]
theorem sc_other_step : FnScope N_other_step ["step"] (defScope (top 22)) := ⟨rfl, rfl, rfl, by decide +kernel, rfl, by decide +kernel, by decide +kernel⟩
def f_other_step : FF := fnOf 1 1 ((sRet (eIf (toT (eBin oEq (eVar 0) (eCon (.str [43])))) (eCon (.str [45])) (eCon (.str [43])))))
theorem ok_other_step (Z : Fx P w K mg base) : DefOk P w K mg base CX0 "other_step" ["step"] 1 f_other_step := by
  obtain ⟨f, fd, hm, D⟩ := Z.d_other_step
  exact def_ok (k := 0) D hm sc_other_step (fun _ _ _ _ _ _ us hl => match us, hl with | [_], _ => rfl) fun cdv A outer s H E hr =>
    (ss_one (ss_ret (s_if (t_cmp (o_eq hr.units) (s_var 0) (s_gS Z.g_UP)) (s_gS Z.g_DOWN) (s_gS Z.g_UP))))
abbrev N_steps_of_marks : List Str := ["marks", "many", "found", "index"]
theorem sc_steps_of_marks : FnScope N_steps_of_marks ["marks", "many"] (defScope (top 82)) := ⟨rfl, rfl, rfl, by decide +kernel, rfl, by decide +kernel, by decide +kernel⟩
def f_steps_of_marks : FF := fnOf 2 4 ((sSeq (sSet 2 (eCon (.str [43]))) (sSeq (sFor (.nm 3) (iRg (aCons (eCon (.int 1)) (aCons (eVar 1) aNil))) (sSet 2 (eBin oAdd (eVar 2) (eIf (toT (eBin oEq (eBin oIx (eVar 0) (eBin oMod (eVar 3) (eCall bLen (aCons (eVar 0) aNil)))) (eCon (.str [104])))) (eCall f_other_step (aCons (eBin oIx (eVar 2) (eNeg (eCon (.int 1)))) aNil)) (eBin oIx (eVar 2) (eNeg (eCon (.int 1)))))))) (sRet (eVar 2)))))
theorem ok_steps_of_marks (Z : Fx P w K mg base) : DefOk P w K mg base CX0 "steps_of_marks" ["marks", "many"] 2 f_steps_of_marks := by
  obtain ⟨f, fd, hm, D⟩ := Z.d_steps_of_marks
  exact def_ok (k := 1) D hm sc_steps_of_marks (fun _ _ _ _ _ _ us hl => match us, hl with | [_, _], _ => rfl) fun cdv A outer s H E hr =>
    (ss_cons (ss_set 2 sc_steps_of_marks.nd (s_gS Z.g_UP))
    (ss_cons (ss_for PassesOwn.never rfl (si_range2 rfl Z.b_range (a_cons s_int (a_cons (s_var 1) a_nil))) (g_nm 3 sc_steps_of_marks.nd) (ss_one (ss_set 2 sc_steps_of_marks.nd (s_bin o_add (s_var 2) (s_if (t_cmp (o_eq hr.units) (s_ix (s_var 0) (s_bin o_mod (s_var 3) (s_blt c_len boot_len Z.b_len (a_cons (s_var 0) a_nil)))) (s_gS Z.g_H)) (s_call (ok_other_step Z) (hr.mono (by decide)) pass0 (a_cons (s_ix (s_var 2) (s_neg s_int)) a_nil)) (s_ix (s_var 2) (s_neg s_int)))))))
    (ss_one (ss_ret (s_var 2)))))
abbrev N_unrolled_count_of : List Str := ["marks"]
theorem sc_unrolled_count_of : FnScope N_unrolled_count_of ["marks"] (defScope (top 83)) := ⟨rfl, rfl, rfl, by decide +kernel, rfl, by decide +kernel, by decide +kernel⟩
def f_unrolled_count_of : FF := fnOf 1 1 ((sSeq (sIf (toT (eBin oEq (eBin oMod (eMeth "str" bCount (eVar 0) (aCons (eCon (.str [104])) aNil)) (eCon (.int 2))) (eCon (.int 1)))) (sRet (eBin oMul (eCon (.int 2)) (eCall bLen (aCons (eVar 0) aNil)))) sNil) (sRet (eIf (toT (eBin oEq (eBin oMod (eCall f_sum_of (aCons (eCall f_steps_of_marks (aCons (eVar 0) (aCons (eCall bLen (aCons (eVar 0) aNil)) aNil))) aNil)) (eCall bLen (aCons (eCon (.str [65, 66, 67])) aNil))) (eCon (.int 0)))) (eCall bLen (aCons (eVar 0) aNil)) (eBin oMul (eCall bLen (aCons (eCon (.str [65, 66, 67])) aNil)) (eCall bLen (aCons (eVar 0) aNil)))))))
theorem ok_unrolled_count_of (Z : Fx P w K mg base) : DefOk P w K mg base CX0 "unrolled_count_of" ["marks"] 3 f_unrolled_count_of := by
  obtain ⟨f, fd, hm, D⟩ := Z.d_unrolled_count_of
  exact def_ok (k := 2) D hm sc_unrolled_count_of (fun _ _ _ _ _ _ us hl => match us, hl with | [_], _ => rfl) fun cdv A outer s H E hr =>
    (ss_cons (ss_if (t_cmp (o_eq hr.units) (s_bin o_mod (s_meth F.plainAttrs_str F.slot_str_count F.type_str_count m_count (s_var 0) (a_cons (s_gS Z.g_H) a_nil)) s_int) s_int) (ss_one (ss_ret (s_bin o_mul s_int (s_blt c_len boot_len Z.b_len (a_cons (s_var 0) a_nil))))) ss_nil)
    (ss_one (ss_ret (s_if (t_cmp (o_eq hr.units) (s_bin o_mod (s_call (ok_sum_of Z) (hr.mono (by decide)) pass0 (a_cons (s_call (ok_steps_of_marks Z) (hr.mono (by decide)) pass0 (a_cons (s_var 0) (a_cons (s_blt c_len boot_len Z.b_len (a_cons (s_var 0) a_nil)) a_nil))) a_nil)) (s_blt c_len boot_len Z.b_len (a_cons (s_gS Z.g_LETTERS) a_nil))) s_int) (s_blt c_len boot_len Z.b_len (a_cons (s_var 0) a_nil)) (s_bin o_mul (s_blt c_len boot_len Z.b_len (a_cons (s_gS Z.g_LETTERS) a_nil)) (s_blt c_len boot_len Z.b_len (a_cons (s_var 0) a_nil)))))))
abbrev N_unrolled_by : List Str := ["marks", "found", "step"]
theorem sc_unrolled_by : FnScope N_unrolled_by ["marks"] (defScope (top 84)) := ⟨rfl, rfl, rfl, by decide +kernel, rfl, by decide +kernel, by decide +kernel⟩
def f_unrolled_by : FF := fnOf 1 3 ((sSeq (sSet 1 (eBin oIx (eCon (.str [65, 66, 67])) (eCon (.int 0)))) (sSeq (sFor (.nm 2) (iVal (eSl (eCall f_steps_of_marks (aCons (eVar 0) (aCons (eCall f_unrolled_count_of (aCons (eVar 0) aNil)) aNil))) oNone (oSome (eNeg (eCon (.int 1)))))) (sSet 1 (eBin oAdd (eVar 1) (eCall f_further (aCons (eBin oIx (eVar 1) (eNeg (eCon (.int 1)))) (aCons (eCall f_worth (aCons (eVar 2) aNil)) aNil)))))) (sRet (eVar 1)))))
theorem ok_unrolled_by (Z : Fx P w K mg base) : DefOk P w K mg base CX0 "unrolled_by" ["marks"] 4 f_unrolled_by := by
  obtain ⟨f, fd, hm, D⟩ := Z.d_unrolled_by
  exact def_ok (k := 3) D hm sc_unrolled_by (fun _ _ _ _ _ _ us hl => match us, hl with | [_], _ => rfl) fun cdv A outer s H E hr =>
    (ss_cons (ss_set 1 sc_unrolled_by.nd (s_ix (s_gS Z.g_LETTERS) s_int))
    (ss_cons (ss_for PassesOwn.never rfl (si_val (s_sl (s_call (ok_steps_of_marks Z) (hr.mono (by decide)) pass0 (a_cons (s_var 0) (a_cons (s_call (ok_unrolled_count_of Z) (hr.mono (by decide)) pass0 (a_cons (s_var 0) a_nil)) a_nil))) so_none (so_some (s_neg s_int)))) (g_nm 2 sc_unrolled_by.nd) (ss_one (ss_set 1 sc_unrolled_by.nd (s_bin o_add (s_var 1) (s_call (ok_further Z) (hr.mono (by decide)) pass0 (a_cons (s_ix (s_var 1) (s_neg s_int)) (a_cons (s_call (ok_worth Z) (hr.mono (by decide)) pass0 (a_cons (s_var 2) a_nil)) a_nil)))))))
    (ss_one (ss_ret (s_var 1)))))
abbrev N_unrolled : List Str := ["marks"]
theorem sc_unrolled : FnScope N_unrolled ["marks"] (defScope (top 122)) := ⟨rfl, rfl, rfl, by decide +kernel, rfl, by decide +kernel, by decide +kernel⟩
def f_unrolled : FF := fnOf 1 1 ((sSeq (sExpr (eCall f_check_marks (aCons (eVar 0) (aCons (eCon (.int 1)) (aCons (eCon (.int 8)) aNil))))) (sRet (eCall f_unrolled_by (aCons (eVar 0) aNil)))))
theorem ok_unrolled (Z : Fx P w K mg base) : DefOk P w K mg base CX0 "unrolled" ["marks"] 5 f_unrolled := by
  obtain ⟨f, fd, hm, D⟩ := Z.d_unrolled
  exact def_ok (k := 4) D hm sc_unrolled (fun _ _ _ _ _ _ us hl => match us, hl with | [_], _ => rfl) fun cdv A outer s H E hr =>
    (ss_cons (ss_expr (s_call (ok_check_marks Z) (hr.mono (by decide)) pass0 (a_cons (s_var 0) (a_cons s_int (a_cons (s_gI Z.g_LONGEST_UNROLLED) a_nil)))))
    (ss_one (ss_ret (s_call (ok_unrolled_by Z) (hr.mono (by decide)) pass0 (a_cons (s_var 0) a_nil)))))
theorem kw0_unrolled (Z : Fx P w K mg base) : DefKw P w K mg base CX0 "unrolled" ["marks"] ["marks"] [0] 5 f_unrolled := by
  obtain ⟨f, fd, hm, D⟩ := Z.d_unrolled
  exact kw_of (def_run (k := 4) D sc_unrolled fun cdv A outer s H E hr =>
    (ss_cons (ss_expr (s_call (ok_check_marks Z) (hr.mono (by decide)) pass0 (a_cons (s_var 0) (a_cons s_int (a_cons (s_gI Z.g_LONGEST_UNROLLED) a_nil)))))
    (ss_one (ss_ret (s_call (ok_unrolled_by Z) (hr.mono (by decide)) pass0 (a_cons (s_var 0) a_nil)))))) D hm (fun _ _ _ _ _ _ ws hl => match ws, hl with | [_], _ => rfl)
abbrev N_unrolled_count : List Str := ["marks"]
theorem sc_unrolled_count : FnScope N_unrolled_count ["marks"] (defScope (top 123)) := ⟨rfl, rfl, rfl, by decide +kernel, rfl, by decide +kernel, by decide +kernel⟩
def f_unrolled_count : FF := fnOf 1 1 ((sSeq (sExpr (eCall f_check_marks (aCons (eVar 0) (aCons (eCon (.int 1)) (aCons (eCon (.int 8)) aNil))))) (sRet (eCall f_unrolled_count_of (aCons (eVar 0) aNil)))))
theorem ok_unrolled_count (Z : Fx P w K mg base) : DefOk P w K mg base CX0 "unrolled_count" ["marks"] 4 f_unrolled_count := by
  obtain ⟨f, fd, hm, D⟩ := Z.d_unrolled_count
  exact def_ok (k := 3) D hm sc_unrolled_count (fun _ _ _ _ _ _ us hl => match us, hl with | [_], _ => rfl) fun cdv A outer s H E hr =>
    (ss_cons (ss_expr (s_call (ok_check_marks Z) (hr.mono (by decide)) pass0 (a_cons (s_var 0) (a_cons s_int (a_cons (s_gI Z.g_LONGEST_UNROLLED) a_nil)))))
    (ss_one (ss_ret (s_call (ok_unrolled_count_of Z) (hr.mono (by decide)) pass0 (a_cons (s_var 0) a_nil)))))
abbrev N_marks_between : List Str := ["steps", "one", "two"]
theorem sc_marks_between : FnScope N_marks_between ["steps"] (defScope (top 79)) := ⟨rfl, rfl, rfl, by decide +kernel, rfl, by decide +kernel, by decide +kernel⟩
def f_marks_between : FF := fnOf 1 3 ((sRet (eMeth "str" bJoin (eCon (.str [])) (aCons (eFrz (fLc (.tp [(.nm 1), (.nm 2)]) (iZip' (aCons (eVar 0) (aCons (eSl (eVar 0) (oSome (eCon (.int 1))) oNone) aNil))) tYes' (eIf (toT (eBin oEq (eVar 1) (eVar 2))) (eCon (.str [99])) (eCon (.str [104]))) [1, 2])) aNil))))
theorem ok_marks_between (Z : Fx P w K mg base) : DefOk P w K mg base CX0 "marks_between" ["steps"] 1 f_marks_between := by
  obtain ⟨f, fd, hm, D⟩ := Z.d_marks_between
  exact def_ok (k := 0) D hm sc_marks_between (fun _ _ _ _ _ _ us hl => match us, hl with | [_], _ => rfl) fun cdv A outer s H E hr =>
    (ss_one (ss_ret (s_meth F.plainAttrs_str F.slot_str_join F.type_str_join m_join s_str (a_cons (s_frz (f_lc rfl sc_marks_between.nd (si_zip rfl Z.b_zip (a_cons (s_var 0) (a_cons (s_sl (s_var 0) (so_some s_int) so_none) a_nil))) (own := [("one", 1), ("two", 2)]) (show BlkOk N_marks_between (defScope (top 79)) _ _ from ⟨rfl, by decide +kernel, by decide +kernel, by decide +kernel, by decide +kernel⟩) (by decide) (fun _ _ _ _ _ => (g_tup rfl (g_cons (g_nm 1 sc_marks_between.nd) (g_cons (g_nm 2 sc_marks_between.nd) g_nil)))) (fun _ _ _ _ _ => sts_nil) (fun _ _ _ _ _ => (s_if (t_cmp (o_eq hr.units) (s_var 1) (s_var 2)) (s_gS Z.g_C) (s_gS Z.g_H))))) a_nil))))
abbrev N_round_marks_by : List Str := ["closed", "steps"]
theorem sc_round_marks_by : FnScope N_round_marks_by ["closed"] (defScope (top 80)) := ⟨rfl, rfl, rfl, by decide +kernel, rfl, by decide +kernel, by decide +kernel⟩
def f_round_marks_by : FF := fnOf 1 2 ((sSeq (sSet 1 (eCall f_round_steps_by (aCons (eVar 0) aNil))) (sRet (eCall f_marks_between (aCons (eBin oAdd (eBin oIx (eVar 1) (eNeg (eCon (.int 1)))) (eVar 1)) aNil)))))
theorem ok_round_marks_by (Z : Fx P w K mg base) : DefOk P w K mg base CX0 "round_marks_by" ["closed"] 6 f_round_marks_by := by
  obtain ⟨f, fd, hm, D⟩ := Z.d_round_marks_by
  exact def_ok (k := 5) D hm sc_round_marks_by (fun _ _ _ _ _ _ us hl => match us, hl with | [_], _ => rfl) fun cdv A outer s H E hr =>
    (ss_cons (ss_set 1 sc_round_marks_by.nd (s_call (ok_round_steps_by Z) (hr.mono (by decide)) pass0 (a_cons (s_var 0) a_nil)))
    (ss_one (ss_ret (s_call (ok_marks_between Z) (hr.mono (by decide)) pass0 (a_cons (s_bin o_add (s_ix (s_var 1) (s_neg s_int)) (s_var 1)) a_nil)))))
abbrev N_round_marks : List Str := ["closed"]
theorem sc_round_marks : FnScope N_round_marks ["closed"] (defScope (top 121)) := ⟨rfl, rfl, rfl, by decide +kernel, rfl, by decide +kernel, by decide +kernel⟩
def f_round_marks : FF := fnOf 1 1 ((sSeq (sExpr (eCall f_check_closed (aCons (eVar 0) aNil))) (sRet (eCall f_round_marks_by (aCons (eVar 0) aNil)))))
theorem ok_round_marks (Z : Fx P w K mg base) : DefOk P w K mg base CX0 "round_marks" ["closed"] 7 f_round_marks := by
  obtain ⟨f, fd, hm, D⟩ := Z.d_round_marks
  exact def_ok (k := 6) D hm sc_round_marks (fun _ _ _ _ _ _ us hl => match us, hl with | [_], _ => rfl) fun cdv A outer s H E hr =>
    (ss_cons (ss_expr (s_call (ok_check_closed Z) (hr.mono (by decide)) pass0 (a_cons (s_var 0) a_nil)))
    (ss_one (ss_ret (s_call (ok_round_marks_by Z) (hr.mono (by decide)) pass0 (a_cons (s_var 0) a_nil)))))
abbrev N_h_count_of : List Str := ["closed"]
theorem sc_h_count_of : FnScope N_h_count_of ["closed"] (defScope (top 81)) := ⟨rfl, rfl, rfl, by decide +kernel, rfl, by decide +kernel, by decide +kernel⟩
def f_h_count_of : FF := fnOf 1 1 ((sRet (eMeth "str" bCount (eCall f_round_marks_by (aCons (eVar 0) aNil)) (aCons (eCon (.str [104])) aNil))))
theorem ok_h_count_of (Z : Fx P w K mg base) : DefOk P w K mg base CX0 "h_count_of" ["closed"] 7 f_h_count_of := by
  obtain ⟨f, fd, hm, D⟩ := Z.d_h_count_of
  exact def_ok (k := 6) D hm sc_h_count_of (fun _ _ _ _ _ _ us hl => match us, hl with | [_], _ => rfl) fun cdv A outer s H E hr =>
    (ss_one (ss_ret (s_meth F.plainAttrs_str F.slot_str_count F.type_str_count m_count (s_call (ok_round_marks_by Z) (hr.mono (by decide)) pass0 (a_cons (s_var 0) a_nil)) (a_cons (s_gS Z.g_H) a_nil))))
abbrev N_h_count : List Str := ["closed"]
theorem sc_h_count : FnScope N_h_count ["closed"] (defScope (top 124)) := ⟨rfl, rfl, rfl, by decide +kernel, rfl, by decide +kernel, by decide +kernel⟩
def f_h_count : FF := fnOf 1 1 ((sSeq (sExpr (eCall f_check_closed (aCons (eVar 0) aNil))) (sRet (eCall f_h_count_of (aCons (eVar 0) aNil)))))
theorem ok_h_count (Z : Fx P w K mg base) : DefOk P w K mg base CX0 "h_count" ["closed"] 8 f_h_count := by
  obtain ⟨f, fd, hm, D⟩ := Z.d_h_count
  exact def_ok (k := 7) D hm sc_h_count (fun _ _ _ _ _ _ us hl => match us, hl with | [_], _ => rfl) fun cdv A outer s H E hr =>
    (ss_cons (ss_expr (s_call (ok_check_closed Z) (hr.mono (by decide)) pass0 (a_cons (s_var 0) a_nil)))
    (ss_one (ss_ret (s_call (ok_h_count_of Z) (hr.mono (by decide)) pass0 (a_cons (s_var 0) a_nil)))))
abbrev N_law_unrolled_right : List Str := ["bag", "row", "turn", "steps", "many", "at", "text", "told", "marks"]
theorem sc_law_unrolled_right : FnScope N_law_unrolled_right ["bag"] (defScope (top 145)) := ⟨rfl, rfl, rfl, by decide +kernel, rfl, by decide +kernel, by decide +kernel⟩
def f_law_unrolled_right : FF := fnOf 1 9 ((sSeq (sSet 1 (eMeth "str" bJoin (eCon (.str [])) (aCons (eFrz (fLc (.nm 2) (iRg (aCons (eBin oAdd (eCon (.int 1)) (eCall f_law_draw (aCons (eVar 0) (aCons (eCon (.int 8)) aNil)))) aNil)) tYes' (eCall f_law_one (aCons (eVar 0) (aCons (eCon (.str [104, 99])) aNil))) [2])) aNil))) (sSeq (sPar3 3 4 5 (aCons (eCon (.str [43])) (aCons (eCall bLen (aCons (eVar 1) aNil)) (aCons (eCon (.int 1)) aNil)))) (sSeq (whileGo (tOr' (toT (eBin oGt (eBin oMod (eVar 5) (eVar 4)) (eCon (.int 0)))) (tOr' (toT (eBin oGt (eBin oMod (eBin oSub (eMeth "str" bCount (eVar 3) (aCons (eCon (.str [43])) aNil)) (eMeth "str" bCount (eVar 3) (aCons (eCon (.str [45])) aNil))) (eCon (.int 3))) (eCon (.int 0)))) (toT (eBin oNe (eCall f_law_next (aCons (eVar 3) (aCons (eVar 1) (aCons (eVar 5) aNil)))) (eCon (.str [43])))))) (sSeq (sSet 3 (eBin oAdd (eVar 3) (eCall f_law_next (aCons (eVar 3) (aCons (eVar 1) (aCons (eVar 5) aNil)))))) (sSet 5 (eBin oAdd (eVar 5) (eCon (.int 1))))) 20001) (sSeq (sSet 6 (eCall f_law_by (aCons (eCon (.str [65])) (aCons (eSl (eVar 3) oNone (oSome (eNeg (eCon (.int 1))))) aNil)))) (sSeq (sSet 7 (eFrz (lDisp (aCons (eCall f_unrolled (aCons (eVar 1) aNil)) (aCons (eCallK f_unrolled 1 [0] (aCons (eVar 1) aNil)) (aCons (eCall f_unrolled_count (aCons (eVar 1) aNil)) (aCons (eCall f_round_marks (aCons (eVar 6) aNil)) (aCons (eCall f_h_count (aCons (eVar 6) aNil)) aNil)))))))) (sSeq (sSet 8 (eSl (eBin oMul (eVar 1) (eCon (.int 24))) oNone (oSome (eCall bLen (aCons (eVar 3) aNil))))) (sRet (eCall (f_law_same 8) (aCons (eVar 7) (aCons (eFrz (lDisp (aCons (eVar 6) (aCons (eVar 6) (aCons (eCall bLen (aCons (eVar 6) aNil)) (aCons (eVar 8) (aCons (eMeth "str" bCount (eVar 8) (aCons (eCon (.str [104])) aNil)) aNil))))))) aNil)))))))))))
theorem ok_law_unrolled_right (Z : Fx P w K mg base) : DefOk P w K mg base CX0 "_law_unrolled_right" ["bag"] 10 f_law_unrolled_right := by
  obtain ⟨f, fd, hm, D⟩ := Z.d_law_unrolled_right
  exact def_ok (k := 9) D hm sc_law_unrolled_right (fun _ _ _ _ _ _ us hl => match us, hl with | [_], _ => rfl) fun cdv A outer s H E hr =>
    (ss_cons (ss_set 1 sc_law_unrolled_right.nd (s_meth F.plainAttrs_str F.slot_str_join F.type_str_join m_join s_str (a_cons (s_frz (f_lc rfl sc_law_unrolled_right.nd (si_range1 rfl Z.b_range (a_cons (s_bin o_add s_int (s_call (ok_law_draw Z) (hr.mono (by decide)) pass0 (a_cons (s_var 0) (a_cons s_int a_nil)))) a_nil)) (own := [("turn", 2)]) (show BlkOk N_law_unrolled_right (defScope (top 145)) _ _ from ⟨rfl, by decide +kernel, by decide +kernel, by decide +kernel, by decide +kernel⟩) (by decide) (fun _ _ _ _ _ => (g_nm 2 sc_law_unrolled_right.nd)) (fun _ _ _ _ _ => sts_nil) (fun _ _ _ _ _ => (s_call (ok_law_one Z) (hr.mono (by decide)) pass0 (a_cons (s_var 0) (a_cons s_str a_nil)))))) a_nil)))
    (ss_cons (ss_par3 3 4 5 rfl sc_law_unrolled_right.nd (a_cons s_str (a_cons (s_blt c_len boot_len Z.b_len (a_cons (s_var 1) a_nil)) (a_cons s_int a_nil))))
    (ss_cons (ss_while 20001 PassesOwn.never (t_w (t_or (t_cmp o_gt (s_bin o_mod (s_var 5) (s_var 4)) s_int) (t_or (t_cmp o_gt (s_bin o_mod (s_bin o_sub (s_meth F.plainAttrs_str F.slot_str_count F.type_str_count m_count (s_var 3) (a_cons s_str a_nil)) (s_meth F.plainAttrs_str F.slot_str_count F.type_str_count m_count (s_var 3) (a_cons s_str a_nil))) s_int) s_int) (t_or1 (t_cmp (o_ne hr.units) (s_call (ok_law_next Z) (hr.mono (by decide)) pass0 (a_cons (s_var 3) (a_cons (s_var 1) (a_cons (s_var 5) a_nil)))) s_str))))) (ss_cons (ss_set 3 sc_law_unrolled_right.nd (s_bin o_add (s_var 3) (s_call (ok_law_next Z) (hr.mono (by decide)) pass0 (a_cons (s_var 3) (a_cons (s_var 1) (a_cons (s_var 5) a_nil))))))
    (ss_one (ss_set 5 sc_law_unrolled_right.nd (s_bin o_add (s_var 5) s_int)))))
    (ss_cons (ss_set 6 sc_law_unrolled_right.nd (s_call (ok_law_by Z) (hr.mono (by decide)) pass0 (a_cons s_str (a_cons (s_sl (s_var 3) so_none (so_some (s_neg s_int))) a_nil))))
    (ss_cons (ss_set 7 sc_law_unrolled_right.nd (s_frz (f_lst (a_cons (s_call (ok_unrolled Z) (hr.mono (by decide)) pass0 (a_cons (s_var 1) a_nil)) (a_cons (s_callK (kw0_unrolled Z) (hr.mono (by decide)) pass0 (sk_cons (s_var 1) sk_nil)) (a_cons (s_call (ok_unrolled_count Z) (hr.mono (by decide)) pass0 (a_cons (s_var 1) a_nil)) (a_cons (s_call (ok_round_marks Z) (hr.mono (by decide)) pass0 (a_cons (s_var 6) a_nil)) (a_cons (s_call (ok_h_count Z) (hr.mono (by decide)) pass0 (a_cons (s_var 6) a_nil)) a_nil))))))))
    (ss_cons (ss_set 8 sc_law_unrolled_right.nd (s_sl (s_bin o_mul (s_var 1) s_int) so_none (so_some (s_blt c_len boot_len Z.b_len (a_cons (s_var 3) a_nil)))))
    (ss_one (ss_ret (s_call (ok_law_same Z 8) (hr.mono (by decide)) pass0 (a_cons (s_var 7) (a_cons (s_frz (f_lst (a_cons (s_var 6) (a_cons (s_var 6) (a_cons (s_blt c_len boot_len Z.b_len (a_cons (s_var 6) a_nil)) (a_cons (s_var 8) (a_cons (s_meth F.plainAttrs_str F.slot_str_count F.type_str_count m_count (s_var 8) (a_cons s_str a_nil)) a_nil))))))) a_nil)))))))))))
abbrev N_law : List Str := ["script", "at", "bag", "turn", "steps", "k"]
theorem sc_law : FnScope N_law ["script"] (defScope (top 147)) := ⟨rfl, rfl, rfl, by decide +kernel, rfl, by decide +kernel, by decide +kernel⟩
def f_law : FF := fnOf 1 6 ((sSeq (sFor (.nm 1) (iRg (aCons (eCall bMax2 (aCons (eCon (.int 2)) (aCons (eCall bMin2 (aCons (eCall bLen (aCons (eVar 0) aNil)) (aCons (eCon (.int 5)) aNil))) aNil))) aNil)) (sSeq (sSet 2 (eCall f_law_bag (aCons (eVar 0) (aCons (eVar 1) aNil)))) (sFor (.nm 3) (iRg (aCons (eCon (.int 10)) aNil)) (sSeq (sSet 4 (eCall f_law_round_steps (aCons (eCall f_law_closed (aCons (eVar 2) (aCons (eCon (.int 2)) (aCons (eCall f_law_one (aCons (eVar 2) (aCons (eFrz (lDisp (aCons (eCon (.int 4)) (aCons (eCon (.int 9)) (aCons (eCon (.int 24)) aNil))))) aNil))) aNil)))) aNil))) (sSeq (sIf (toT (eBin oEq (eCall f_law_draw (aCons (eVar 2) (aCons (eCon (.int 2)) aNil))) (eCon (.int 0)))) (sSeq (sSet 5 (eCall f_law_draw (aCons (eVar 2) (aCons (eCall bLen (aCons (eVar 4) aNil)) aNil)))) (sSet 4 (eBin oAdd (eBin oAdd (eSl (eVar 4) oNone (oSome (eVar 5))) (eCall f_law_one (aCons (eVar 2) (aCons (eCon (.str [43, 45])) aNil)))) (eSl (eVar 4) (oSome (eBin oAdd (eVar 5) (eCon (.int 1)))) oNone)))) sNil) (sSeq (sIf (toT (eBin oEq (eCall f_law_draw (aCons (eVar 2) (aCons (eCon (.int 8)) aNil))) (eCon (.int 0)))) (sSet 4 (eCall f_law_one (aCons (eVar 2) (aCons (eCon (.str [43, 45])) aNil)))) sNil) (sIf (tOr' (tNot' (toT (eCall f_law_steps_right (aCons (eVar 2) (aCons (eVar 4) aNil))))) (tNot' (toT (eCall f_law_unrolled_right (aCons (eVar 2) aNil))))) (sRet (eCon (.bl false))) sNil))))))) (sRet (eCon (.bl true)))))
theorem ok_law (Z : Fx P w K mg base) : DefOk P w K mg base CX0 "law" ["script"] 11 f_law := by
  obtain ⟨f, fd, hm, D⟩ := Z.d_law
  exact def_ok (k := 10) D hm sc_law (fun _ _ _ _ _ _ us hl => match us, hl with | [_], _ => rfl) fun cdv A outer s H E hr =>
    (ss_cons (ss_for PassesOwn.never rfl (si_range1 rfl Z.b_range (a_cons (s_blt (c_max2 rfl) boot_max Z.b_max (a_cons s_int (a_cons (s_blt (c_min2 rfl) PyProof.Rows.boot_min Z.b_min (a_cons (s_blt c_len boot_len Z.b_len (a_cons (s_var 0) a_nil)) (a_cons s_int a_nil))) a_nil))) a_nil)) (g_nm 1 sc_law.nd) (ss_cons (ss_set 2 sc_law.nd (s_call (ok_law_bag Z) (hr.mono (by decide)) pass0 (a_cons (s_var 0) (a_cons (s_var 1) a_nil))))
    (ss_one (ss_for PassesOwn.never rfl (si_range1 rfl Z.b_range (a_cons s_int a_nil)) (g_nm 3 sc_law.nd) (ss_cons (ss_set 4 sc_law.nd (s_call (ok_law_round_steps Z) (hr.mono (by decide)) pass0 (a_cons (s_call (ok_law_closed Z) (hr.mono (by decide)) pass0 (a_cons (s_var 2) (a_cons s_int (a_cons (s_call (ok_law_one Z) (hr.mono (by decide)) pass0 (a_cons (s_var 2) (a_cons (s_frz (f_lst (a_cons s_int (a_cons s_int (a_cons s_int a_nil))))) a_nil))) a_nil)))) a_nil)))
    (ss_cons (ss_if (t_cmp (o_eq hr.units) (s_call (ok_law_draw Z) (hr.mono (by decide)) pass0 (a_cons (s_var 2) (a_cons s_int a_nil))) s_int) (ss_cons (ss_set 5 sc_law.nd (s_call (ok_law_draw Z) (hr.mono (by decide)) pass0 (a_cons (s_var 2) (a_cons (s_blt c_len boot_len Z.b_len (a_cons (s_var 4) a_nil)) a_nil))))
    (ss_one (ss_set 4 sc_law.nd (s_bin o_add (s_bin o_add (s_sl (s_var 4) so_none (so_some (s_var 5))) (s_call (ok_law_one Z) (hr.mono (by decide)) pass0 (a_cons (s_var 2) (a_cons s_str a_nil)))) (s_sl (s_var 4) (so_some (s_bin o_add (s_var 5) s_int)) so_none))))) ss_nil)
    (ss_cons (ss_if (t_cmp (o_eq hr.units) (s_call (ok_law_draw Z) (hr.mono (by decide)) pass0 (a_cons (s_var 2) (a_cons s_int a_nil))) s_int) (ss_one (ss_set 4 sc_law.nd (s_call (ok_law_one Z) (hr.mono (by decide)) pass0 (a_cons (s_var 2) (a_cons s_str a_nil))))) ss_nil)
    (ss_one (ss_if (t_w (t_or (t_not (t_val (s_call (ok_law_steps_right Z) (hr.mono (by decide)) pass0 (a_cons (s_var 2) (a_cons (s_var 4) a_nil))))) (t_or1 (t_not (t_val (s_call (ok_law_unrolled_right Z) (hr.mono (by decide)) pass0 (a_cons (s_var 2) a_nil))))))) (ss_one (ss_ret s_bl)) ss_nil)))))))))
    (ss_one (ss_ret s_bl)))
theorem run_law (Z : Fx P w K mg base) {f : Addr} {fd : FuncData} (D : FunD K "law" "law" (defArgs (top 147)) (defBody (top 147)) (defScope (top 147)) [] [] f fd) : FnOk P w K mg base CX0 11 f fd ["script"] (spOf K f_law) := def_run (k := 10) D sc_law fun cdv A outer s H E hr =>
    (ss_cons (ss_for PassesOwn.never rfl (si_range1 rfl Z.b_range (a_cons (s_blt (c_max2 rfl) boot_max Z.b_max (a_cons s_int (a_cons (s_blt (c_min2 rfl) PyProof.Rows.boot_min Z.b_min (a_cons (s_blt c_len boot_len Z.b_len (a_cons (s_var 0) a_nil)) (a_cons s_int a_nil))) a_nil))) a_nil)) (g_nm 1 sc_law.nd) (ss_cons (ss_set 2 sc_law.nd (s_call (ok_law_bag Z) (hr.mono (by decide)) pass0 (a_cons (s_var 0) (a_cons (s_var 1) a_nil))))
    (ss_one (ss_for PassesOwn.never rfl (si_range1 rfl Z.b_range (a_cons s_int a_nil)) (g_nm 3 sc_law.nd) (ss_cons (ss_set 4 sc_law.nd (s_call (ok_law_round_steps Z) (hr.mono (by decide)) pass0 (a_cons (s_call (ok_law_closed Z) (hr.mono (by decide)) pass0 (a_cons (s_var 2) (a_cons s_int (a_cons (s_call (ok_law_one Z) (hr.mono (by decide)) pass0 (a_cons (s_var 2) (a_cons (s_frz (f_lst (a_cons s_int (a_cons s_int (a_cons s_int a_nil))))) a_nil))) a_nil)))) a_nil)))
    (ss_cons (ss_if (t_cmp (o_eq hr.units) (s_call (ok_law_draw Z) (hr.mono (by decide)) pass0 (a_cons (s_var 2) (a_cons s_int a_nil))) s_int) (ss_cons (ss_set 5 sc_law.nd (s_call (ok_law_draw Z) (hr.mono (by decide)) pass0 (a_cons (s_var 2) (a_cons (s_blt c_len boot_len Z.b_len (a_cons (s_var 4) a_nil)) a_nil))))
    (ss_one (ss_set 4 sc_law.nd (s_bin o_add (s_bin o_add (s_sl (s_var 4) so_none (so_some (s_var 5))) (s_call (ok_law_one Z) (hr.mono (by decide)) pass0 (a_cons (s_var 2) (a_cons s_str a_nil)))) (s_sl (s_var 4) (so_some (s_bin o_add (s_var 5) s_int)) so_none))))) ss_nil)
    (ss_cons (ss_if (t_cmp (o_eq hr.units) (s_call (ok_law_draw Z) (hr.mono (by decide)) pass0 (a_cons (s_var 2) (a_cons s_int a_nil))) s_int) (ss_one (ss_set 4 sc_law.nd (s_call (ok_law_one Z) (hr.mono (by decide)) pass0 (a_cons (s_var 2) (a_cons s_str a_nil))))) ss_nil)
    (ss_one (ss_if (t_w (t_or (t_not (t_val (s_call (ok_law_steps_right Z) (hr.mono (by decide)) pass0 (a_cons (s_var 2) (a_cons (s_var 4) a_nil))))) (t_or1 (t_not (t_val (s_call (ok_law_unrolled_right Z) (hr.mono (by decide)) pass0 (a_cons (s_var 2) a_nil))))))) (ss_one (ss_ret s_bl)) ss_nil)))))))))
    (ss_one (ss_ret s_bl)))
end
end Lw

set_option synthInstance.maxSize 1000000
set_option synthInstance.maxHeartbeats 0
namespace Lw
open Pv L2
theorem mulOk_l {i j : Int} (h : -(2 ^ 64) < i ∧ i < 2 ^ 64) : mulOk i j = true := by
  unfold mulOk
  rw [decide_eq_true h, Bool.true_or, Bool.true_or]
theorem divOk_s {i j : Int} (h0 : 0 < j) (h1 : j < 100000) : divOk i j = true := by
  unfold divOk
  rw [decide_eq_true h0, decide_eq_true (show j.natAbs.log2 < 9000 by
    have : j.natAbs.log2 ≤ j.natAbs := Nat.log2_le_self _
    have h2 : j.natAbs.log2 < 17 := (Nat.log2_lt (by omega)).mpr (by omega)
    omega)]
  rfl
instance {n : Int} {S : Sto} : EvF f_is_whole [.int n] S (.bl true) S True := ⟨fun _ => by unfold f_is_whole; exact ev_fn rfl (by simp)⟩
instance {b : Bool} {S : Sto} : EvF f_is_whole [.bl b] S (.bl false) S True := ⟨fun _ => by unfold f_is_whole; exact ev_fn rfl (by simp)⟩
instance {b : List Nat} {S : Sto} : EvF f_is_whole [.str b] S (.bl false) S True := ⟨fun _ => by unfold f_is_whole; exact ev_fn rfl (by simp)⟩
instance {b : List PV} {S : Sto} : EvF f_is_whole [.tup b] S (.bl false) S True := ⟨fun _ => by unfold f_is_whole; exact ev_fn rfl (by simp)⟩
instance {b : List PV} {S : Sto} : EvF f_is_whole [.lst b] S (.bl false) S True := ⟨fun _ => by unfold f_is_whole; exact ev_fn rfl (by simp)⟩
instance {S : Sto} : EvF f_is_whole [.non] S (.bl false) S True := ⟨fun _ => by unfold f_is_whole; exact ev_fn rfl (by simp)⟩
instance {n : Int} {S : Sto} : EvF f_law_is_whole [.int n] S (.bl true) S True := ⟨fun _ => by unfold f_law_is_whole; exact ev_fn rfl (by simp)⟩
instance {b : Bool} {S : Sto} : EvF f_law_is_whole [.bl b] S (.bl false) S True := ⟨fun _ => by unfold f_law_is_whole; exact ev_fn rfl (by simp)⟩
instance {b : List Nat} {S : Sto} : EvF f_law_is_whole [.str b] S (.bl false) S True := ⟨fun _ => by unfold f_law_is_whole; exact ev_fn rfl (by simp)⟩
instance {b : List PV} {S : Sto} : EvF f_law_is_whole [.tup b] S (.bl false) S True := ⟨fun _ => by unfold f_law_is_whole; exact ev_fn rfl (by simp)⟩
instance {b : List PV} {S : Sto} : EvF f_law_is_whole [.lst b] S (.bl false) S True := ⟨fun _ => by unfold f_law_is_whole; exact ev_fn rfl (by simp)⟩
instance {S : Sto} : EvF f_law_is_whole [.non] S (.bl false) S True := ⟨fun _ => by unfold f_law_is_whole; exact ev_fn rfl (by simp)⟩
instance {n a b : Int} {p q r : Bool} {S : Sto} [h : DecP (a ≤ n) p] [k : DecP (n ≤ b) q] [m : AndB p q r] : EvF f_is_between [.int n, .int a, .int b] S (.bl r) S True := ⟨fun _ => by unfold f_is_between; exact ev_fn rfl (by simp)⟩
instance {v : PV} {a b : Int} {S : Sto} [h : EvF f_is_whole [v] S (.bl false) S True] : EvF f_is_between [v, .int a, .int b] S (.bl false) S True := ⟨fun _ => by unfold f_is_between; exact ev_fn rfl (by simp)⟩
instance {n : Int} {p q r : Bool} {S : Sto} [h : DecP ((1 : Int) ≤ n) p] [k : DecP (n ≤ 24) q] [m : AndB p q r] : EvF f_is_layer_number [.int n] S (.bl r) S True := ⟨fun _ => by unfold f_is_layer_number; exact ev_fn rfl (by simp)⟩
instance {l z : List Nat} {S : Sto} : EvF f_is_text_of [.str l, .str z] S (.bl (l.all fun c => decide (c ∈ z))) S (l.length < 16777216) := ⟨fun h => by unfold f_is_text_of; exact ev_fn rfl (by simp [h])⟩
class NoStr (x : PV) : Prop where
  eq : kitB (tyPV x) "str" = some false
instance : NoStr .non := ⟨kt_NoneType_str⟩
instance {b : Bool} : NoStr (.bl b) := ⟨kt_bool_str⟩
instance {b : Int} : NoStr (.int b) := ⟨kt_int_str⟩
instance {b : List PV} : NoStr (.tup b) := ⟨kt_tuple_str⟩
instance {b : List PV} : NoStr (.lst b) := ⟨kt_list_str⟩
instance (priority := low) {x : PV} [h : NoStr x] : Kit x "str" false := ⟨h.eq⟩
instance {x : PV} {z : List Nat} {S : Sto} [h : NoStr x] : EvF f_is_text_of [x, .str z] S (.bl false) S True := ⟨fun _ => by unfold f_is_text_of; exact ev_fn rfl (by simp)⟩
theorem stk_of {l : List Nat} : Stk l ↔ ((∀ c ∈ l, c = 65 ∨ c = 66 ∨ c = 67) ∧ 1 ≤ l.length ∧ l.length ≤ 24) ∧ ∀ b ∈ zz 1 (fun a b => a != b) l, b = true := by
  unfold Stk Lt
  constructor
  · exact fun ⟨a, b, c, d⟩ => ⟨⟨a, b, c⟩, d⟩
  · exact fun ⟨⟨a, b, c⟩, d⟩ => ⟨a, b, c, d⟩
theorem is_stacked_b {l : List Nat} (hl : l.length < 16777216) (S : Sto) : f_is_stacked [.str l] S = .ok (.bl (decide (Stk l))) S := by
  unfold f_is_stacked
  by_cases h : (∀ c ∈ l, c = 65 ∨ c = 66 ∨ c = 67) ∧ 1 ≤ l.length ∧ l.length ≤ 24
  · refine (ev_fn rfl ?_).trans ?_
    · simp [hl]
      exact ⟨⟨h.1, by omega, by omega⟩, by omega⟩
    · congr 2
      rw [cut_1, zip_all 1 (fun a b => !decide ([a] = [b])), Bool.eq_iff_iff, decide_eq_true_eq, stk_of, List.all_eq_true]
      rw [zz_ext 1 (fun a b => !decide ([a] = [b])) (fun a b => a != b) l fun _ a b _ _ => by
        by_cases e : a = b
        · subst e; simp
        · rw [bne_iff_ne.mpr e]; simp [e]]
      exact ⟨fun q => ⟨h, q⟩, fun q => q.2⟩
  · rw [decide_eq_false fun q => h (stk_of.mp q).1]
    refine fn_st rfl (seq_ret (v := .bl false) (S1 := S) ((sif_tv (b := _) ?_ ?_).trans rfl)) ?_
    · simp [hl]
    · simp
      by_cases h1 : ∀ c ∈ l, c = 65 ∨ c = 66 ∨ c = 67
      · refine .inr ?_
        have : ¬ (1 ≤ l.length ∧ l.length ≤ 24) := fun q => h ⟨h1, q⟩
        omega
      · refine .inl ?_
        exact Classical.byContradiction fun q => h1 fun c hc => Classical.byContradiction fun q2 => q ⟨c, hc, by omega⟩
    · rw [z_out_ret, z_out_bl, List.take_length]
instance {l : List Nat} {p : Bool} {S : Sto} [h : DecP (Stk l) p] : EvF f_is_stacked [.str l] S (.bl p) S (l.length < 16777216) := ⟨fun q => by rw [is_stacked_b q, h.eq]⟩
instance {x : PV} {S : Sto} [h : NoStr x] : EvF f_is_stacked [x] S (.bl false) S True := ⟨fun _ => by unfold f_is_stacked; exact ev_fn rfl (by simp)⟩
theorem is_closed_b {l : List Nat} (hl : l.length < 16777216) (S : Sto) : f_is_closed_one [.str l] S = .ok (.bl (decide (Cls l))) S := by
  unfold f_is_closed_one
  by_cases h : Stk l
  · haveI : DecP (Stk l) true := ⟨decide_eq_true h⟩
    have h1 := h.2.1
    refine (ev_fn rfl ?_).trans ?_
    · simp [hl]
      omega
    · congr 2
      unfold Cls
      by_cases e : gi l 0 = gi l (-1)
      · simp [e]
      · simp [e, h]
  · haveI : DecP (Stk l) false := ⟨decide_eq_false h⟩
    rw [decide_eq_false fun q => h q.1]
    exact ev_fn rfl (by simp [hl])
instance {l : List Nat} {p : Bool} {S : Sto} [h : DecP (Cls l) p] : EvF f_is_closed_one [.str l] S (.bl p) S (l.length < 16777216) := ⟨fun q => by rw [is_closed_b q, h.eq]⟩
instance {x : PV} {S : Sto} [h : NoStr x] : EvF f_is_closed_one [x] S (.bl false) S True := ⟨fun _ => by unfold f_is_closed_one; exact ev_fn rfl (by simp)⟩
theorem cls_len {l : List Nat} (h : Cls l) : l.length < 16777216 := by have := h.1.2.2.1; omega
theorem stk_len {l : List Nat} (h : Stk l) : l.length < 16777216 := by have := h.2.2.1; omega
instance {l : List Nat} {S : Sto} : EvF f_check_closed [.str l] S .non S (Cls l) := ⟨fun h => by
  haveI : DecP (Cls l) true := ⟨decide_eq_true h⟩
  unfold f_check_closed
  exact ev_fn rfl (by simp [cls_len h])⟩
instance {c : Nat} {S : Sto} : EvF f_number_of [.str [c]] S (.int ((c - 65 : Nat) : Int)) S (Lt c) := ⟨fun h => by
  unfold f_number_of
  refine (ev_fn rfl ?_).trans ?_
  · simp
    exact h
  · rw [abc_idx h]⟩
instance {c : Nat} {k : Int} {S : Sto} : EvF f_further [.str [c], .int k] S (.str [fu c k]) S (Lt c) := ⟨fun h => by
  unfold f_further
  refine (ev_fn rfl ?_).trans ?_
  · simp [h]
    omega
  · congr 3
    exact abc_gi (Int.emod_nonneg _ (by decide)) (Int.emod_lt_of_pos _ (by decide))⟩
instance {c : Nat} {k : Int} {S : Sto} : EvF f_law_further [.str [c], .int k] S (.str [fu c k]) S (Lt c) := ⟨fun h => by
  unfold f_law_further
  refine (ev_fn rfl ?_).trans ?_
  · simp
    exact ⟨h, by omega⟩
  · congr 3
    rw [abc_idx h]
    exact abc_gi (Int.emod_nonneg _ (by decide)) (Int.emod_lt_of_pos _ (by decide))⟩
instance {a b : Nat} {S : Sto} : EvF f_step_between [.str [a], .str [b]] S (.str [stp a b]) S (Lt a ∧ Lt b) := ⟨fun h => by
  unfold f_step_between
  refine (ev_fn rfl ?_).trans ?_
  · simp [h.1]
  · obtain ⟨rfl | rfl | rfl, rfl | rfl | rfl⟩ := h <;> rfl⟩
instance {l : List Nat} {S : Sto} : EvF f_steps_by [.str l] S (.str (zz 1 stp l)) S ((∀ c ∈ l, Lt c) ∧ l.length < 16777216) := ⟨fun h => by
  unfold f_steps_by
  refine (ev_fn rfl ?_).trans ?_
  · simp
    refine ⟨⟨by omega, fun a b hab => ?_⟩, by omega⟩
    rw [cut_1] at hab
    have := mem_zip hab
    exact ⟨h.1 _ this.1, h.1 _ this.2⟩
  · rw [cut_1, zip_map_zz]⟩
instance {l : List Nat} {S : Sto} : EvF f_law_steps [.str l] S (.str (zz 1 stp l)) S ((∀ c ∈ l, Lt c) ∧ l.length < 16777216) := ⟨fun h => by
  have e : (l.zip (cut l (some 1) none)).map (fun p => if decide ([fu p.1 1] = [p.2]) = true then (43 : Nat) else 45) = zz 1 stp l := by
    rw [cut_1, zip_map_zz 1 (fun a b => if decide ([fu a 1] = [b]) = true then (43 : Nat) else 45)]
    refine zz_ext 1 _ _ l fun _ a b ha hb => ?_
    obtain rfl | rfl | rfl := h.1 a (List.mem_of_getElem? ha) <;> obtain rfl | rfl | rfl := h.1 b (List.mem_of_getElem? hb) <;> rfl
  unfold f_law_steps
  refine (ev_fn rfl ?_).trans ?_
  · simp
    refine ⟨⟨by omega, fun a b hab => ?_⟩, by omega⟩
    rw [cut_1] at hab
    exact h.1 _ (mem_zip hab).1
  · exact congrArg (fun z => R.ok (PV.str z) S) e⟩
instance {l : List Nat} {S : Sto} : EvF f_round_steps_by [.str l] S (.str (rst l)) S ((∀ c ∈ l, Lt c) ∧ 0 < l.length ∧ l.length < 1000) := ⟨fun h => by
  unfold f_round_steps_by
  refine (ev_fn rfl ?_).trans rfl
  simp
  refine ⟨⟨by omega, by omega⟩, ⟨fun c hc => ?_, by omega⟩⟩
  rcases hc with hc | rfl
  · exact h.1 c hc
  · rw [gi_0 h.2.1]; exact h.1 _ (List.getElem_mem _)⟩
instance {l : List Nat} {S : Sto} : EvF f_marks_between [.str l] S (.str (zz 1 mark l)) S (l.length < 16777216) := ⟨fun h => by
  unfold f_marks_between
  refine (ev_fn rfl ?_).trans ?_
  · simp
    omega
  · rw [cut_1, zip_map_zz 1 (fun a b => if decide ([a] = [b]) = true then (99 : Nat) else 104), zz_ext 1 _ mark l fun _ a b _ _ => by simp [mark]]⟩
instance {l : List Nat} {S : Sto} : EvF f_round_marks_by [.str l] S (.str (rmk l)) S (Cls l) := ⟨fun h => by
  have h1 := h.1.2.2.1
  have h2 := h.two
  unfold f_round_marks_by
  refine (ev_fn rfl ?_).trans ?_
  · simp [rst_len]
    exact ⟨⟨h.1.1, by omega, by omega⟩, by omega⟩
  · exact congrArg (fun z => R.ok (PV.str z) S) (rmk_steps h)⟩
instance {l : List Nat} {S : Sto} : EvF f_round_marks [.str l] S (.str (rmk l)) S (Cls l) := ⟨fun h => by unfold f_round_marks; exact ev_fn rfl (by simp [h])⟩
instance {l : List Nat} {S : Sto} : EvF f_h_count_of [.str l] S (.int (((rmk l).count 104 : Nat) : Int)) S (Cls l) := ⟨fun h => by unfold f_h_count_of; exact ev_fn rfl (by simp [h])⟩
instance {l : List Nat} {S : Sto} : EvF f_h_count [.str l] S (.int (((rmk l).count 104 : Nat) : Int)) S (Cls l) := ⟨fun h => by unfold f_h_count; exact ev_fn rfl (by simp [h])⟩
def per (l : List Nat) : List Nat := (List.range ((l.length : Int) - 1).toNat).filter fun k => decide ((l.length : Int) % (1 + (k : Nat)) = 0) && decide (repL (cut l none (some (1 + (k : Nat)))) ((l.length : Int) / (1 + (k : Nat))).toNat = l)
theorem cut_le {α : Type} (l : List α) (a b : Option Int) : (cut l a b).length ≤ l.length := by
  unfold cut
  rw [List.length_take, List.length_drop]
  omega
theorem per_c {l : List Nat} (h : l.length ≤ 24) {k : Nat} (hk : (k : Int) < (l.length : Int) - 1) : (cut l none (some (1 + (k : Nat)))).length * ((l.length : Int) / (1 + (k : Nat))).toNat ≤ 16777216 := by
  have h1 := cut_le l none (some (1 + (k : Nat)))
  have h2 : ((l.length : Int) / (1 + (k : Nat))) ≤ 24 := by
    have := Int.ediv_le_self (a := (l.length : Int)) (1 + (k : Nat)) (by omega)
    omega
  have h3 : ((l.length : Int) / (1 + (k : Nat))).toNat ≤ 24 := by omega
  have := Nat.mul_le_mul h1 h3
  omega
theorem per_ok {l : List Nat} {k : Nat} (hk : k ∈ per l) : k + 1 < l.length ∧ ∃ m, 2 ≤ m ∧ repL (l.take (k + 1)) m = l ∧ m * (k + 1) = l.length := by
  unfold per at hk
  simp only [List.mem_filter, List.mem_range, Bool.and_eq_true, decide_eq_true_eq] at hk
  obtain ⟨h0, h1, h2⟩ := hk
  have hl : k + 1 < l.length := by omega
  have e : (1 + (k : Nat) : Int) = ((k + 1 : Nat) : Int) := by omega
  rw [e] at h1 h2
  rw [cut_take] at h2
  have e2 : ((l.length : Int) / ((k + 1 : Nat) : Int)).toNat = l.length / (k + 1) := by rw [← Int.natCast_ediv]; rfl
  rw [e2] at h2
  have h3 : l.length % (k + 1) = 0 := by omega
  have h4 := Nat.div_mul_cancel (Nat.dvd_of_mod_eq_zero h3)
  refine ⟨hl, l.length / (k + 1), ?_, h2, h4⟩
  refine Classical.byContradiction fun q => ?_
  have : l.length / (k + 1) = 0 ∨ l.length / (k + 1) = 1 := by omega
  rcases this with q | q <;> rw [q] at h4 <;> omega
def part (l : List Nat) : List Nat := if per l = [] then l else cut l none (some (1 + (gi (per l) 0 : Nat)))
theorem part_ok {l : List Nat} (h : Cls l) : Cls (part l) ∧ ∃ m, 0 < m ∧ repL (part l) m = l := by
  unfold part
  by_cases hp : per l = []
  · rw [if_pos hp]
    refine ⟨h, 1, by decide, ?_⟩
    unfold repL
    simp
  · rw [if_neg hp]
    have hl : 0 < (per l).length := List.length_pos_iff.mpr hp
    obtain ⟨h0, m, h1, h2, h3⟩ := per_ok (l := l) (k := gi (per l) 0) (by rw [gi_0 hl]; exact List.getElem_mem _)
    have e : (1 + (gi (per l) 0 : Nat) : Int) = ((gi (per l) 0 + 1 : Nat) : Int) := by omega
    rw [e, cut_take]
    have hlen : (l.take (gi (per l) 0 + 1)).length = gi (per l) 0 + 1 := by rw [List.length_take]; omega
    rw [← h2] at h
    exact ⟨cls_part (by rw [hlen]; omega) h1 h, m, by omega, h2⟩
theorem part_red {l : List Nat} (h : Cls l) : red ((rmk (part l)).count 104) (part l).length = red ((rmk l).count 104) l.length := by
  obtain ⟨c, m, hm, e⟩ := part_ok h
  have hp := c.pos
  have e1 : (rmk l).count 104 = m * (rmk (part l)).count 104 := by
    rw [rmk_count, rmk_count, ← e, rmB_rep hp hm, rep_count, e]
  have e2 : l.length = m * (part l).length := by
    have := rep_leng (part l) m
    rw [e] at this
    exact this
  refine red_cross hp h.pos ?_
  rw [e1, e2]
  ac_rfl
end Lw


set_option synthInstance.maxSize 1000000
set_option synthInstance.maxHeartbeats 0
namespace Lw
open Pv L2
theorem law_draw_s {n : Nat} {S : Sto} (k : Has n S) {m : Nat} (h0 : 0 < m) (h1 : m < 100000) : ∃ d S', f_law_draw [.ref n, .int (m : Int)] S = .ok (.int ((d : Nat) : Int)) S' ∧ Dr n S S' ∧ d < m := by
  suffices q : ∃ (d : Int) (S' : Sto), f_law_draw [.ref n, .int (m : Int)] S = .ok (.int d) S' ∧ Dr n S S' ∧ 0 ≤ d ∧ d < m by
    obtain ⟨d, S', e, k, l0, l1⟩ := q
    exact ⟨d.toNat, S', by rw [e, Int.toNat_of_nonneg l0], k, by omega⟩
  obtain ⟨a, b, c, h⟩ := k
  haveI : CellAt S n [.int a, .int b, .int c] := ⟨h⟩
  have hm : (0 : Int) < m := by omega
  unfold f_law_draw
  by_cases ha : 0 < a
  · haveI : DecP (0 < a) true := ⟨decide_eq_true ha⟩
    refine ⟨_, _, ev_fn rfl ?_, ⟨_, _, _, rfl⟩, Int.emod_nonneg _ (by omega), Int.emod_lt_of_pos _ hm⟩
    simp [divOk_s hm (by omega : (m : Int) < 100000)]
  · haveI : DecP (0 < a) false := ⟨decide_eq_false ha⟩
    refine ⟨_, _, ev_fn rfl ?_, ⟨_, _, _, by rw [List.set_set]; rfl⟩, Int.emod_nonneg _ (by omega), Int.emod_lt_of_pos _ hm⟩
    simp [h0, mul_small (i := b) (j := b % 40009 + 30013) (by omega), mulOk_l (i := 65003) (j := c + 1) (by decide), divOk_s (i := (b * (b % 40009 + 30013) + 65003 * (c + 1) + 13) % 2147483477) (j := 256) (by decide) (by decide)]
theorem law_one_l {n : Nat} {S : Sto} (k : Has n S) {l : List PV} (h0 : l ≠ []) (h1 : l.length < 1000) (hp : ∀ x ∈ l, isP x = true) : ∃ x S', f_law_one [.ref n, .lst l] S = .ok x S' ∧ Dr n S S' ∧ x ∈ l := by
  have hl : 0 < l.length := List.length_pos_iff.mpr h0
  obtain ⟨d, S', e, r, hd⟩ := law_draw_s k (m := l.length) hl (by omega)
  refine ⟨l[d], S', ?_, r, List.getElem_mem _⟩
  unfold f_law_one
  haveI : EvF f_law_draw [.ref n, .int (l.length : Nat)] S (.int ((d : Nat) : Int)) S' True := ⟨fun _ => e⟩
  haveI : AtL l (d : Int) l[d] := ⟨at_nat (List.getElem?_eq_getElem hd)⟩
  haveI : IsPV l[d] True := ⟨fun _ => hp _ (List.getElem_mem hd)⟩
  refine ev_fn rfl ?_
  simp [r.len]
theorem law_one_s {n : Nat} {S : Sto} (k : Has n S) {l : List Nat} (h0 : l ≠ []) (h1 : l.length < 1000) : ∃ c S', f_law_one [.ref n, .str l] S = .ok (.str [c]) S' ∧ Dr n S S' ∧ c ∈ l := by
  have hl : 0 < l.length := List.length_pos_iff.mpr h0
  obtain ⟨d, S', e, r, hd⟩ := law_draw_s k (m := l.length) hl (by omega)
  refine ⟨l[d], S', ?_, r, List.getElem_mem _⟩
  unfold f_law_one
  haveI : EvF f_law_draw [.ref n, .int (l.length : Nat)] S (.int ((d : Nat) : Int)) S' True := ⟨fun _ => e⟩
  refine (ev_fn rfl ?_).trans ?_
  · simp [r.len]
    omega
  · rw [gi_nat hd]
instance {c : Nat} {l : List Nat} {S : Sto} : EvF f_law_by [.str [c], .str l] S (.str (led c l)) S (Lt c ∧ l.length < 1000) := ⟨fun h => by
  obtain ⟨e', S', g, ⟨x, rfl, rfl⟩⟩ := for_l (p := .nm 3) (body := sSet 2 (eBin oAdd (eVar 2) (eCall f_law_further (aCons (eBin oIx (eVar 2) (eNeg (eCon (.int 1)))) (aCons (eIf (toT (eBin oEq (eVar 3) (eCon (.str [43])))) (eCon (.int 1)) (eCon (.int 2))) aNil))))) (xs := l) (φ := fun c => .str [c])
    (fun i env T => ∃ x, env = [some (PV.str [c]), some (.str l), some (.str (led c (l.take i))), x] ∧ T = S) (fun i hi env T ⟨x, h1, h2⟩ => by
      subst h1 h2
      have hn := led_ne c (l.take i)
      have hln := led_len c (l.take i)
      rw [List.length_take] at hln
      have e : led c (l.take (i + 1)) = led c (l.take i) ++ [fu ((led c (l.take i)).getLast hn) (if l[i] = 43 then 1 else 2)] := by
        rw [List.take_succ, List.getElem?_eq_getElem hi]
        exact led_snoc c (l.take i) l[i]
      have eg : gi (led c (l.take i)) (-1) = (led c (l.take i)).getLast hn := by
        rw [gi_last (by omega), List.getLast_eq_getElem]
      refine ⟨_, _, _, SetP.eq, EvS.run ?_, ⟨some (PV.str [l[i]]), ?_, rfl⟩⟩
      · simp
        rw [eg]
        exact ⟨⟨by omega, led_lt h.1 _ _ (List.getLast_mem hn)⟩, by omega⟩
      · rw [e, eg]
        simp) (env := [some (PV.str [c]), some (.str l), some (.str [c]), none]) (S := S) ⟨none, rfl, rfl⟩
  unfold f_law_by
  rw [List.take_length] at g
  haveI i1 := EvS.mk (C := True) fun _ => sfor_ev (p := .nm 3) (it := iVal (eVar 1)) (body := sSet 2 (eBin oAdd (eVar 2) (eCall f_law_further (aCons (eBin oIx (eVar 2) (eNeg (eCon (.int 1)))) (aCons (eIf (toT (eBin oEq (eVar 3) (eCon (.str [43])))) (eCon (.int 1)) (eCon (.int 2))) aNil))))) (by simp) g
  exact ev_fn rfl (by simp)⟩
theorem one_ints {n : Nat} {S : Sto} (k : Has n S) {l : List Int} {ys : List PV} (hy : ys = l.map .int) (h0 : l ≠ []) (h1 : l.length < 1000) : ∃ (z : Int) (S' : Sto), f_law_one [.ref n, .lst ys] S = .ok (.int z) S' ∧ Dr n S S' ∧ z ∈ l := by
  subst hy
  obtain ⟨x, S', e, d, hx⟩ := law_one_l k (l := l.map .int) (by simpa using h0) (by simpa using h1) (fun x hx => by obtain ⟨z, _, rfl⟩ := List.mem_map.mp hx; rfl)
  obtain ⟨z, hz, rfl⟩ := List.mem_map.mp hx
  exact ⟨z, S', e, d, hz⟩
abbrev skL0 : FE := eFrz (lDisp (aCons (eCon (.int 24)) (aCons (eCon (.int 24)) (aCons (eCon (.int 1)) (aCons (eCon (.int 2)) (aCons (eCon (.int 3)) (aCons (eCon (.int 4)) (aCons (eCon (.int 6)) aNil))))))))
abbrev skC : FA := fLc (.nm 6) (iRg (aCons (eCall f_law_one (aCons (eVar 0) (aCons skL0 aNil))) aNil)) tYes' (eCall f_law_one (aCons (eVar 0) (aCons (eCon (.str [43, 45])) aNil))) [6]
theorem sk_eq : f_law_stacking = fnOf 3 7 (sSeq (sPar 3 4 (aCons (eBin oAdd (eVar 1) (eCall f_law_draw (aCons (eVar 0) (aCons (eBin oAdd (eBin oSub (eVar 2) (eVar 1)) (eCon (.int 1))) aNil)))) (aCons (eCall f_law_one (aCons (eVar 0) (aCons (eCon (.str [65, 66, 67])) aNil))) aNil))) (sSeq (sSet 5 (eMeth "str" bJoin (eCon (.str [])) (aCons (eFrz skC) aNil))) (sRet (eCall f_law_by (aCons (eVar 4) (aCons (eSl (eBin oMul (eVar 5) (eCon (.int 24))) oNone (oSome (eBin oSub (eVar 3) (eCon (.int 1))))) aNil)))))) := rfl
theorem rep_len {α : Type} (l : List α) (k : Nat) : (repL l k).length = k * l.length := by
  unfold repL
  rw [List.length_flatten, List.map_replicate, List.sum_replicate_nat]
theorem rep_mem {α : Type} {l : List α} {k : Nat} {x : α} (h : x ∈ repL l k) : x ∈ l := by
  unfold repL at h
  obtain ⟨y, hy, hx⟩ := List.mem_flatten.mp h
  rw [(List.mem_replicate.mp hy).2] at hx
  exact hx
theorem law_stacking_s {n : Nat} {S : Sto} (k : Has n S) {lo hi : Int} (h0 : 1 ≤ lo) (h1 : lo ≤ hi) (h2 : hi ≤ 24) : ∃ l S', f_law_stacking [.ref n, .int lo, .int hi] S = .ok (.str l) S' ∧ Dr n S S' ∧ Stk l ∧ lo ≤ (l.length : Int) ∧ (l.length : Int) ≤ hi := by
  obtain ⟨d, S1, e1, d1, hd⟩ := law_draw_s k (m := (hi - lo + 1).toNat) (by omega) (by omega)
  rw [Int.toNat_of_nonneg (by omega)] at e1
  obtain ⟨c, S2, e2, d2, hc⟩ := law_one_s (d1.has k) (l := [65, 66, 67]) (by simp) (by simp)
  have k2 := d2.has (d1.has k)
  obtain ⟨z, S3, e3, d3, hz⟩ := one_ints k2 (l := [24, 24, 1, 2, 3, 4, 6]) (ys := [.int 24, .int 24, .int 1, .int 2, .int 3, .int 4, .int 6]) rfl (by simp) (by simp)
  have hz' : 1 ≤ z ∧ z ≤ 24 := by
    simp at hz
    omega
  have k3 := d3.has k2
  obtain ⟨cs, S4, e4, d4, l4, t4⟩ := lc_draw (p := .nm 6) (elt := eCall f_law_one (aCons (eVar 0) (aCons (eCon (.str [43, 45])) aNil))) (φ := fun k : Nat => .int (k : Nat)) (T := fun c => c ∈ ([43, 45] : List Nat))
    (env := [some (PV.ref n), some (.int lo), some (.int hi), some (.int (lo + (d : Nat))), some (.str [c]), none, none]) (E := fun k : Nat => [some (PV.ref n), some (.int lo), some (.int hi), some (.int (lo + (d : Nat))), some (.str [c]), none, some (.int (k : Nat))]) (List.range z.toNat) S3 k3 rfl (fun x => rfl) (fun x T kT => by
      obtain ⟨c, T', e, dd, hc⟩ := law_one_s kT (l := [43, 45]) (by simp) (by simp)
      exact ⟨c, T', call2 rfl rfl e, dd, hc⟩)
  rw [List.length_range] at l4
  have hcs : ∀ c ∈ cs, c = 43 ∨ c = 45 := fun c hc => by simpa using t4 c hc
  haveI i1 : EvF f_law_draw [.ref n, .int (hi - lo + 1)] S (.int ((d : Nat) : Int)) S1 True := ⟨fun _ => e1⟩
  haveI i2 : EvF f_law_one [.ref n, .str [65, 66, 67]] S1 (.str [c]) S2 True := ⟨fun _ => e2⟩
  have hlen : (cs.length : Nat) = z.toNat := l4
  haveI i3 : EvA skC [some (PV.ref n), some (.int lo), some (.int hi), some (.int (lo + (d : Nat))), some (.str [c]), none, none] S2 (cs.map fun c => .str [c]) S4 True := ⟨fun _ => by
    have q1 : iRg (aCons (eCall f_law_one (aCons (eVar 0) (aCons skL0 aNil))) aNil) [some (PV.ref n), some (.int lo), some (.int hi), some (.int (lo + (d : Nat))), some (.str [c]), none, none] S2 = .ok ((List.range z.toNat).map fun k => .int (k : Nat)) S3 := by
      haveI : EvF f_law_one [.ref n, .lst [.int 24, .int 24, .int 1, .int 2, .int 3, .int 4, .int 6]] S2 (.int z) S3 True := ⟨fun _ => e3⟩
      exact EvI.run (by simp; omega)
    unfold skC
    rw [z_lc, q1, zb, if_pos (by rw [List.length_map, List.length_range]; exact Nat.lt_of_le_of_lt (show z.toNat ≤ 24 by omega) (by decide))]
    exact e4⟩
  have ll : ((repL cs 24).take (lo + (d : Int) - 1).toNat).length = (lo + (d : Int) - 1).toNat := by
    rw [List.length_take, rep_len]
    omega
  have hc' : Lt c := abc_in.mp hc
  refine ⟨led c ((repL cs 24).take (lo + (d : Int) - 1).toNat), S4, ?_, ((d1.trans d2).trans d3).trans d4, led_stk hc' (by omega), by rw [led_len, ll]; omega, by rw [led_len, ll]; omega⟩
  rw [sk_eq]
  refine (ev_fn rfl ?_).trans ?_
  · simp
    rw [cut_z _ _ (by omega), ll]
    exact ⟨⟨by omega, by omega, hc', by omega⟩, (((d1.trans d2).trans d3).trans d4).len⟩
  · rw [cut_z _ _ (by omega)]
    simp
theorem third_pick {a b : Nat} (ha : Lt a) (hb : Lt b) (h : a ≠ b) : ([65, 66, 67] : List Nat).filter (fun c => !(decide ([a] = [c]) || decide ([b] = [c]))) = [third a b] := by
  rcases ha with rfl | rfl | rfl <;> rcases hb with rfl | rfl | rfl <;> first | rfl | exact absurd rfl h
theorem law_closed_s {n : Nat} {S : Sto} (k : Has n S) {lo hi : Int} (h0 : 1 ≤ lo) (h1 : lo ≤ hi) (h2 : hi ≤ 24) (h3 : 2 ≤ hi) : ∃ l S', f_law_closed [.ref n, .int lo, .int hi] S = .ok (.str l) S' ∧ Dr n S S' ∧ Cls l ∧ lo ≤ (l.length : Int) ∧ (l.length : Int) ≤ hi := by
  obtain ⟨l, S', e, d, hs, l1, l2⟩ := law_stacking_s k (lo := if 2 > lo then 2 else lo) (hi := hi) (by split <;> omega) (by split <;> omega) h2
  have hl : 2 ≤ l.length ∧ lo ≤ (l.length : Int) := by split at l1 <;> omega
  haveI : EvF f_law_stacking [.ref n, .int (if 2 > lo then 2 else lo), .int hi] S (.str l) S' True := ⟨fun _ => e⟩
  have g0 : gi l 0 = l[0] := gi_0 (by omega)
  have g1 : gi l (-1) = l[l.length - 1] := gi_last (by omega)
  have g2 : gi l (-2) = l[l.length - 2] := gi_neg (k := 2) (by decide) (by omega)
  by_cases hc : gi l 0 = gi l (-1)
  · haveI : DecP ([gi l 0] = [gi l (-1)]) true := ⟨decide_eq_true (by rw [hc])⟩
    have a0 := hs.1 _ (List.getElem_mem (show 0 < l.length by omega))
    have a2 := hs.1 _ (List.getElem_mem (show l.length - 2 < l.length by omega))
    have ne2 : l[l.length - 2] ≠ l[l.length - 1] := hs.at (i := l.length - 2) (List.getElem?_eq_getElem _) (by rw [show l.length - 2 + 1 = l.length - 1 by omega]; exact List.getElem?_eq_getElem _)
    have ne : gi l 0 ≠ gi l (-2) := by rw [hc, g1, g2]; exact fun q => ne2 q.symm
    have tp := third_pick (by rw [g0]; exact a0) (by rw [g2]; exact a2) ne
    have tl := third_lt (by rw [g0]; exact a0) (by rw [g2]; exact a2) ne
    have h3l : 3 ≤ l.length := by
      refine Classical.byContradiction fun q => ne ?_
      rw [g0, g2]
      congr 1
      omega
    refine ⟨l.dropLast ++ [third (gi l 0) (gi l (-2))], S', ?_, d, ?_, by simp; omega, by simp; omega⟩
    · have tp2 : ([65, 66, 67] : List Nat).filter (fun x => !(decide ([gi l 0] = [x]) || (decide ([gi l (-2)] = [x]) || false))) = [third (gi l 0) (gi l (-2))] := by
        simpa using tp
      unfold f_law_closed
      refine (ev_fn rfl ?_).trans ?_
      · rw [tp2]
        simp [cut_init]
        exact ⟨by omega, d.len⟩
      · rw [cut_init, tp2]
        rfl
    · have hd : Stk l.dropLast := by
        refine Nb.stk ⟨fun c hc => hs.1 c (List.dropLast_subset l hc), fun i a b ha hb => ?_⟩ (by simp; omega) (by simp; omega)
        rw [List.getElem?_dropLast] at ha hb
        split at ha
        · split at hb
          · exact hs.at ha hb
          · cases hb
        · cases ha
      have hlast : l.dropLast.getLast? = some (gi l (-2)) := by
        rw [List.getLast?_eq_getElem?, List.length_dropLast, List.getElem?_dropLast, if_pos (by omega), g2, show l.length - 1 - 1 = l.length - 2 by omega]
        exact List.getElem?_eq_getElem _
      refine ⟨hd.snoc tl.1 hlast (fun q => tl.2.2 q.symm) (by simp; omega), ?_⟩
      have e0 : gi (l.dropLast ++ [third (gi l 0) (gi l (-2))]) 0 = gi l 0 := by
        rw [gi_0 (by simp), g0]
        rw [List.getElem_append_left (by simp; omega), List.getElem_dropLast]
      have e1 : gi (l.dropLast ++ [third (gi l 0) (gi l (-2))]) (-1) = third (gi l 0) (gi l (-2)) := by
        rw [gi_last (by simp)]
        simp
      rw [e0, e1]
      exact fun q => tl.2.1 q.symm
  · haveI : DecP ([gi l 0] = [gi l (-1)]) false := ⟨decide_eq_false fun q => hc (List.cons.inj q).1⟩
    refine ⟨l, S', ?_, d, ⟨hs, hc⟩, hl.2, l2⟩
    unfold f_law_closed
    refine ev_fn rfl ?_
    simp
    exact ⟨by omega, d.len⟩
theorem any_b {l : List Nat} : (l.zip (l.drop 1)).any (fun p => decide ([p.1] = [p.2])) = !((zz 1 (fun a b => a != b) l).all id) := by
  rw [← zip_all, List.any_eq_not_all_not]
  congr 2
  funext p
  by_cases h : p.1 = p.2 <;> simp [h]
instance {l : List Nat} {p : Bool} {S : Sto} [h : DecP (Stk l) p] : EvF f_law_is_stacking [.str l] S (.bl p) S (l.length < 16777216) := ⟨fun hl => by
  rw [← h.eq]
  unfold f_law_is_stacking
  by_cases h : (∀ c ∈ l, c = 65 ∨ c = 66 ∨ c = 67) ∧ 1 ≤ l.length ∧ l.length ≤ 24
  · refine (ev_fn rfl ?_).trans ?_
    · simp [hl]
      exact ⟨⟨⟨by omega, by omega⟩, h.1⟩, by omega⟩
    · congr 2
      rw [cut_1, any_b, Bool.not_not, Bool.eq_iff_iff, decide_eq_true_eq, stk_of, List.all_eq_true]
      exact ⟨fun q => ⟨h, q⟩, fun q => q.2⟩
  · rw [decide_eq_false fun q => h (stk_of.mp q).1]
    refine fn_st rfl (seq_ret (v := .bl false) (S1 := S) ((sif_tv (b := _) ?_ ?_).trans rfl)) ?_
    · simp [hl]
    · simp
      by_cases h1 : ∀ c ∈ l, c = 65 ∨ c = 66 ∨ c = 67
      · have : ¬ (1 ≤ l.length ∧ l.length ≤ 24) := fun q => h ⟨h1, q⟩
        refine .inl ?_
        by_cases h0 : l.length = 0
        · exact .inl (List.eq_nil_of_length_eq_zero h0)
        · exact .inr (by omega)
      · have : ∃ c ∈ l, ¬ c = 65 ∧ ¬ c = 66 ∧ ¬ c = 67 := Classical.byContradiction fun q => h1 fun c hc => Classical.byContradiction fun q2 => q ⟨c, hc, by omega⟩
        exact .inr this
    · rw [z_out_ret, z_out_bl, List.take_length]⟩
instance {x : PV} {S : Sto} [h : NoStr x] : EvF f_law_is_stacking [x] S (.bl false) S True := ⟨fun _ => by
  unfold f_law_is_stacking
  refine fn_st rfl (seq_ret (v := .bl false) (S1 := S) ((sif_tv (b := true) (by simp) rfl).trans rfl)) (by rw [z_out_ret, z_out_bl, List.take_length])⟩
instance {l : List Nat} {p : Bool} {S : Sto} [h : DecP (Cls l) p] : EvF f_law_is_closed [.str l] S (.bl p) S (l.length < 16777216) := ⟨fun hl => by
  rw [← h.eq]
  unfold f_law_is_closed
  by_cases h : Stk l
  · haveI : DecP (Stk l) true := ⟨decide_eq_true h⟩
    have h1 := h.2.1
    refine (ev_fn rfl ?_).trans ?_
    · simp [hl]
      omega
    · congr 2
      by_cases e : gi l 0 = gi l (-1)
      · simp [Cls, e]
      · have := Cls.two ⟨h, e⟩
        have h2 : (1 : Int) < (l.length : Nat) := by omega
        simp [Cls, e, h, h2]
  · haveI : DecP (Stk l) false := ⟨decide_eq_false h⟩
    rw [decide_eq_false fun q => h q.1]
    exact ev_fn rfl (by simp [hl])⟩
instance {x : PV} {S : Sto} [h : NoStr x] : EvF f_law_is_closed [x] S (.bl false) S True := ⟨fun _ => by unfold f_law_is_closed; exact ev_fn rfl (by simp)⟩
abbrev bgB : FS := sSet 2 (eBin oMod (eCall bInt (aCons (eBin oAdd (eBin oAdd (eBin oAdd (eBin oMul (eVar 2) (eCon (.int 47653))) (eBin oMod (eCall bInt (aCons (eVar 4) aNil)) (eCon (.int 1999999943)))) (eBin oMul (eCon (.int 31)) (eVar 3))) (eCon (.int 5))) aNil)) (eCon (.int 2147483477)))
theorem law_bag_s (ns : List Int) (hl : ns.length ≤ 63) {t : Int} (h0 : 0 ≤ t) (h1 : t ≤ 1000) (S : Sto) : ∃ a b, f_law_bag [.scr ns, .int t] S = .ok (.ref S.length) (S ++ [pot a b 0]) := by
  obtain ⟨e', S', g, ⟨st, x3, x4, rfl, rfl⟩⟩ := for_l (p := .tp [.nm 3, .nm 4]) (body := bgB) (xs := (cut ns none (some 9)).zipIdx) (φ := fun p => .tup [.int (p.2 : Nat), .int p.1])
    (fun i env T => ∃ (st : Int) (x3 x4 : Option PV), env = [some (PV.scr ns), some (.int t), some (.int st), x3, x4, none, none] ∧ T = S) (fun i hi env T ⟨st, x3, x4, h1, h2⟩ => by
      subst h1 h2
      refine ⟨_, _, _, SetP.eq, EvS.run ?_, ⟨_, _, _, rfl, rfl⟩⟩
      simp [mul_small (i := st) (j := 47653) (by decide), fun j => mulOk_l (i := 31) (j := j) (by decide)]) (env := [some (PV.scr ns), some (.int t), some (.int (70001 + 3571 * t)), none, none, none, none]) (S := S) ⟨_, none, none, rfl, rfl⟩
  haveI i1 := EvS.mk (C := True) fun _ => sfor_ev (p := .tp [.nm 3, .nm 4]) (it := iEnum' (eSl (eVar 0) oNone (oSome (eCon (.int 9))))) (body := bgB) (by simp) g
  by_cases hc : t < (ns.length : Nat)
  · haveI : DecP (t < (ns.length : Nat)) true := ⟨decide_eq_true hc⟩
    refine ⟨_, _, fk_ret rfl Start.eq (EvS.run ?_)⟩
    simp [mulOk_l (i := 3571) (j := t) (by decide), fun j => mulOk_l (i := 3) (j := j) (by decide), hc, powOk]
    omega
  · haveI : DecP (t < (ns.length : Nat)) false := ⟨decide_eq_false hc⟩
    refine ⟨_, _, fk_ret rfl Start.eq (EvS.run ?_)⟩
    simp [mulOk_l (i := 3571) (j := t) (by decide), fun j => mulOk_l (i := 3) (j := j) (by decide), powOk]
theorem same_seqB (n : Nat) (x : PV) (xs : List PV) (hx : x = .tup xs ∨ x = .lst xs) (hl : xs.length ≤ 1000000) (ih : ∀ y ∈ xs, ∀ S, f_law_same n [y, y] S = .ok (.bl true) S) (S : Sto) : f_law_same (n + 1) [x, x] S = .ok (.bl true) S := by
  haveI : ∀ y S, EvF (f_law_same n) [y, y] S (.bl true) S (y ∈ xs) := fun y S => ⟨fun h => ih y h S⟩
  have hm : ∀ k : Nat, k < xs.length → gi xs (k : Int) ∈ xs := fun k hk => by rw [gi_nat hk]; exact List.getElem_mem hk
  unfold f_law_same
  rcases hx with rfl | rfl
  · refine (ev_fn rfl ?_).trans ?_
    · simp
      exact ⟨by omega, by omega, fun k hk => ⟨by omega, hm k hk⟩⟩
    · simp
  · refine (ev_fn rfl ?_).trans ?_
    · simp
      exact ⟨by omega, by omega, fun k hk => ⟨by omega, hm k hk⟩⟩
    · simp
end Lw


namespace Lw
open Pv L2
noncomputable def dI (n : Nat) (m : Int) (S : Sto) : Nat := vI (f_law_draw [.ref n, .int m] S)
noncomputable def dS (n : Nat) (m : Int) (S : Sto) : Sto := stS n S (f_law_draw [.ref n, .int m] S)
theorem d_all {n : Nat} {S : Sto} {m : Int} (h : Has n S ∧ 0 < m ∧ m < 100000) : ∃ v S', f_law_draw [.ref n, .int m] S = .ok v S' ∧ Dr n S S' ∧ (.int ((vI (f_law_draw [.ref n, .int m] S) : Nat) : Int) : PV) = v ∧ (((vI (f_law_draw [.ref n, .int m] S) : Nat) : Int) < m) := by
  obtain ⟨d, S', e, k, l⟩ := law_draw_s h.1 (m := m.toNat) (by omega) (by omega)
  rw [show ((m.toNat : Nat) : Int) = m by omega] at e
  exact ⟨_, S', e, k, by rw [e]; rfl, by rw [e]; show (((d : Nat) : Int).toNat : Int) < m; omega⟩
instance {n : Nat} {S : Sto} {m : Int} : EvF f_law_draw [.ref n, .int m] S (.int ((dI n m S : Nat) : Int)) (dS n m S) (Has n S ∧ 0 < m ∧ m < 100000) := ⟨fun h => by
  obtain ⟨v, S', e, k, w, _⟩ := d_all h
  exact dr_run h.1 e k w⟩
theorem d_ok {n : Nat} {S : Sto} {m : Int} (h : Has n S ∧ 0 < m ∧ m < 100000) : ((dI n m S : Nat) : Int) < m := by
  obtain ⟨v, S', e, k, w, q⟩ := d_all h
  exact q
theorem dS_dr {n : Nat} {S : Sto} {m : Int} {S0 : Sto} (h : Dr n S0 S) : Dr n S0 (dS n m S) := stS_dr h
@[simp] theorem dS_has {n : Nat} {S : Sto} {m : Int} : Has n (dS n m S) ↔ Has n S := stS_has
@[simp] theorem dS_len {n : Nat} {S : Sto} {m : Int} : (dS n m S).length = S.length := stS_len
noncomputable def onC (n : Nat) (l : List Nat) (S : Sto) : Nat := vC (f_law_one [.ref n, .str l] S)
noncomputable def onS (n : Nat) (l : List Nat) (S : Sto) : Sto := stS n S (f_law_one [.ref n, .str l] S)
theorem on_all {n : Nat} {S : Sto} {l : List Nat} (h : Has n S ∧ l ≠ [] ∧ l.length < 1000) : ∃ v S', f_law_one [.ref n, .str l] S = .ok v S' ∧ Dr n S S' ∧ (.str [vC (f_law_one [.ref n, .str l] S)] : PV) = v ∧ (vC (f_law_one [.ref n, .str l] S) ∈ l) := by
  obtain ⟨d, S', e, k, l⟩ := law_one_s h.1 h.2.1 h.2.2
  exact ⟨_, S', e, k, by rw [e]; rfl, by rw [e]; exact l⟩
instance {n : Nat} {S : Sto} {l : List Nat} : EvF f_law_one [.ref n, .str l] S (.str [onC n l S]) (onS n l S) (Has n S ∧ l ≠ [] ∧ l.length < 1000) := ⟨fun h => by
  obtain ⟨v, S', e, k, w, _⟩ := on_all h
  exact dr_run h.1 e k w⟩
theorem on_ok {n : Nat} {S : Sto} {l : List Nat} (h : Has n S ∧ l ≠ [] ∧ l.length < 1000) : onC n l S ∈ l := by
  obtain ⟨v, S', e, k, w, q⟩ := on_all h
  exact q
theorem onS_dr {n : Nat} {S : Sto} {l : List Nat} {S0 : Sto} (h : Dr n S0 S) : Dr n S0 (onS n l S) := stS_dr h
@[simp] theorem onS_has {n : Nat} {S : Sto} {l : List Nat} : Has n (onS n l S) ↔ Has n S := stS_has
@[simp] theorem onS_len {n : Nat} {S : Sto} {l : List Nat} : (onS n l S).length = S.length := stS_len
noncomputable def skL (n : Nat) (a b : Int) (S : Sto) : List Nat := vL (f_law_stacking [.ref n, .int a, .int b] S)
noncomputable def skS (n : Nat) (a b : Int) (S : Sto) : Sto := stS n S (f_law_stacking [.ref n, .int a, .int b] S)
theorem sk_all {n : Nat} {S : Sto} {a b : Int} (h : Has n S ∧ 1 ≤ a ∧ a ≤ b ∧ b ≤ 24) : ∃ v S', f_law_stacking [.ref n, .int a, .int b] S = .ok v S' ∧ Dr n S S' ∧ (.str (vL (f_law_stacking [.ref n, .int a, .int b] S)) : PV) = v ∧ (Stk (vL (f_law_stacking [.ref n, .int a, .int b] S)) ∧ a ≤ (((vL (f_law_stacking [.ref n, .int a, .int b] S)).length : Nat) : Int) ∧ (((vL (f_law_stacking [.ref n, .int a, .int b] S)).length : Nat) : Int) ≤ b) := by
  obtain ⟨d, S', e, k, l1, l2, l3⟩ := law_stacking_s h.1 h.2.1 h.2.2.1 h.2.2.2
  exact ⟨_, S', e, k, by rw [e]; rfl, by rw [e]; exact ⟨l1, l2, l3⟩⟩
instance {n : Nat} {S : Sto} {a b : Int} : EvF f_law_stacking [.ref n, .int a, .int b] S (.str (skL n a b S)) (skS n a b S) (Has n S ∧ 1 ≤ a ∧ a ≤ b ∧ b ≤ 24) := ⟨fun h => by
  obtain ⟨v, S', e, k, w, _⟩ := sk_all h
  exact dr_run h.1 e k w⟩
theorem sk_ok {n : Nat} {S : Sto} {a b : Int} (h : Has n S ∧ 1 ≤ a ∧ a ≤ b ∧ b ≤ 24) : Stk (skL n a b S) ∧ a ≤ (((skL n a b S).length : Nat) : Int) ∧ (((skL n a b S).length : Nat) : Int) ≤ b := by
  obtain ⟨v, S', e, k, w, q⟩ := sk_all h
  exact q
theorem skS_dr {n : Nat} {S : Sto} {a b : Int} {S0 : Sto} (h : Dr n S0 S) : Dr n S0 (skS n a b S) := stS_dr h
@[simp] theorem skS_has {n : Nat} {S : Sto} {a b : Int} : Has n (skS n a b S) ↔ Has n S := stS_has
@[simp] theorem skS_len {n : Nat} {S : Sto} {a b : Int} : (skS n a b S).length = S.length := stS_len
noncomputable def clL (n : Nat) (a b : Int) (S : Sto) : List Nat := vL (f_law_closed [.ref n, .int a, .int b] S)
noncomputable def clS (n : Nat) (a b : Int) (S : Sto) : Sto := stS n S (f_law_closed [.ref n, .int a, .int b] S)
theorem cl_all {n : Nat} {S : Sto} {a b : Int} (h : Has n S ∧ 1 ≤ a ∧ a ≤ b ∧ b ≤ 24 ∧ 2 ≤ b) : ∃ v S', f_law_closed [.ref n, .int a, .int b] S = .ok v S' ∧ Dr n S S' ∧ (.str (vL (f_law_closed [.ref n, .int a, .int b] S)) : PV) = v ∧ (Cls (vL (f_law_closed [.ref n, .int a, .int b] S)) ∧ a ≤ (((vL (f_law_closed [.ref n, .int a, .int b] S)).length : Nat) : Int) ∧ (((vL (f_law_closed [.ref n, .int a, .int b] S)).length : Nat) : Int) ≤ b) := by
  obtain ⟨d, S', e, k, l1, l2, l3⟩ := law_closed_s h.1 h.2.1 h.2.2.1 h.2.2.2.1 h.2.2.2.2
  exact ⟨_, S', e, k, by rw [e]; rfl, by rw [e]; exact ⟨l1, l2, l3⟩⟩
instance {n : Nat} {S : Sto} {a b : Int} : EvF f_law_closed [.ref n, .int a, .int b] S (.str (clL n a b S)) (clS n a b S) (Has n S ∧ 1 ≤ a ∧ a ≤ b ∧ b ≤ 24 ∧ 2 ≤ b) := ⟨fun h => by
  obtain ⟨v, S', e, k, w, _⟩ := cl_all h
  exact dr_run h.1 e k w⟩
theorem cl_ok {n : Nat} {S : Sto} {a b : Int} (h : Has n S ∧ 1 ≤ a ∧ a ≤ b ∧ b ≤ 24 ∧ 2 ≤ b) : Cls (clL n a b S) ∧ a ≤ (((clL n a b S).length : Nat) : Int) ∧ (((clL n a b S).length : Nat) : Int) ≤ b := by
  obtain ⟨v, S', e, k, w, q⟩ := cl_all h
  exact q
theorem clS_dr {n : Nat} {S : Sto} {a b : Int} {S0 : Sto} (h : Dr n S0 S) : Dr n S0 (clS n a b S) := stS_dr h
@[simp] theorem clS_has {n : Nat} {S : Sto} {a b : Int} : Has n (clS n a b S) ↔ Has n S := stS_has
@[simp] theorem clS_len {n : Nat} {S : Sto} {a b : Int} : (clS n a b S).length = S.length := stS_len
noncomputable def oiI (n : Nat) (l : List Int) (S : Sto) : Int := match f_law_one [.ref n, .lst (l.map .int)] S with
  | .ok (.int z) _ => z
  | _ => 0
noncomputable def oiS (n : Nat) (l : List Int) (S : Sto) : Sto := stS n S (f_law_one [.ref n, .lst (l.map .int)] S)
theorem oi_all {n : Nat} {S : Sto} {l : List Int} (h : Has n S ∧ l ≠ [] ∧ l.length < 1000) : ∃ S', f_law_one [.ref n, .lst (l.map .int)] S = .ok (.int (oiI n l S)) S' ∧ Dr n S S' ∧ oiI n l S ∈ l := by
  obtain ⟨z, S', e, d, hz⟩ := one_ints h.1 (l := l) rfl h.2.1 h.2.2
  have hi : oiI n l S = z := by unfold oiI; rw [e]
  exact ⟨S', by rw [hi]; exact e, d, by rw [hi]; exact hz⟩
instance {n : Nat} {S : Sto} {l : List Int} {ys : List PV} [a : Lits ys l PV.int] : EvF f_law_one [.ref n, .lst ys] S (.int (oiI n l S)) (oiS n l S) (Has n S ∧ l ≠ [] ∧ l.length < 1000) := ⟨fun h => by
  obtain ⟨S', e, d, _⟩ := oi_all h
  rw [a.eq]
  exact dr_run h.1 e d rfl⟩
theorem oi_ok {n : Nat} {S : Sto} {l : List Int} (h : Has n S ∧ l ≠ [] ∧ l.length < 1000) : oiI n l S ∈ l := by
  obtain ⟨S', e, d, q⟩ := oi_all h
  exact q
theorem oiS_dr {n : Nat} {S S0 : Sto} {l : List Int} (h : Dr n S0 S) : Dr n S0 (oiS n l S) := stS_dr h
@[simp] theorem oiS_has {n : Nat} {S : Sto} {l : List Int} : Has n (oiS n l S) ↔ Has n S := stS_has
@[simp] theorem oiS_len {n : Nat} {S : Sto} {l : List Int} : (oiS n l S).length = S.length := stS_len

noncomputable def poC (ns : List Int) (t : Int) (S : Sto) : List PV := match f_law_bag [.scr ns, .int t] S with
  | .ok _ S' => (match S'[S.length]? with
    | some (.lst xs) => xs
    | none => [])
  | .no => []
theorem po_all {ns : List Int} {t : Int} {S : Sto} (h : ns.length ≤ 63 ∧ 0 ≤ t ∧ t ≤ 1000) : f_law_bag [.scr ns, .int t] S = .ok (.ref S.length) (S ++ [.lst (poC ns t S)]) ∧ Has S.length (S ++ [.lst (poC ns t S)]) := by
  obtain ⟨a, b, e⟩ := law_bag_s ns h.1 h.2.1 h.2.2 S
  have e2 : poC ns t S = [.int a, .int b, .int 0] := by
    unfold poC
    rw [e]
    show (match (S ++ [pot a b 0])[S.length]? with | some (.lst xs) => xs | none => []) = _
    rw [show (S ++ [pot a b 0])[S.length]? = some (pot a b 0) by simp]
    rfl
  rw [e2]
  exact ⟨e, ⟨a, b, 0, by simp; rfl⟩⟩
instance {ns : List Int} {t : Int} {S : Sto} : EvF f_law_bag [.scr ns, .int t] S (.ref S.length) (S ++ [.lst (poC ns t S)]) (ns.length ≤ 63 ∧ 0 ≤ t ∧ t ≤ 1000) := ⟨fun h => (po_all h).1⟩
end Lw

namespace Lw
open Pv L2
theorem same_atom {n : Nat} {x : PV} (h : ∀ ys, x ≠ .tup ys) (h1 : ∀ ys, x ≠ .lst ys) (h2 : smP x = true) (S : Sto) : f_law_same (n + 1) [x, x] S = .ok (.bl true) S := by
  cases x with
  | non => unfold f_law_same; refine (ev_fn rfl ?_).trans ?_ <;> simp
  | bl b => unfold f_law_same; refine (ev_fn rfl ?_).trans ?_ <;> simp
  | int b => unfold f_law_same; refine (ev_fn rfl ?_).trans ?_ <;> simp
  | str b => unfold f_law_same; refine (ev_fn rfl ?_).trans ?_ <;> simp
  | tup xs => exact absurd rfl (h xs)
  | lst xs => exact absurd rfl (h1 xs)
  | scr => cases h2
  | ref => cases h2
theorem same_all : ∀ (n : Nat) (x : PV), dpt x ≤ n → smP x = true → ∀ S, f_law_same (n + 1) [x, x] S = .ok (.bl true) S
  | 0, x, hd, hs, S => same_atom (fun ys e => by subst e; simp only [dpt] at hd; omega) (fun ys e => by subst e; simp only [dpt] at hd; omega) hs S
  | n + 1, x, hd, hs, S => by
    have go : ∀ xs : List PV, (x = .tup xs ∨ x = .lst xs) → xs.length ≤ 1000000 → dpts xs ≤ n → smPs xs = true → f_law_same (n + 1 + 1) [x, x] S = .ok (.bl true) S := fun xs hx hl hd hs => same_seqB (n + 1) x xs hx hl (fun y hy S => same_all n y (dpts_all hd y hy) (smPs_all hs y hy) S) S
    cases x with
    | tup xs =>
      obtain ⟨h1, h2⟩ := Bool.and_eq_true_iff.mp (show (decide (xs.length ≤ 1000000) && smPs xs) = true from hs)
      exact go xs (.inl rfl) (of_decide_eq_true h1) (by simp only [dpt] at hd; omega) h2
    | lst xs =>
      obtain ⟨h1, h2⟩ := Bool.and_eq_true_iff.mp (show (decide (xs.length ≤ 1000000) && smPs xs) = true from hs)
      exact go xs (.inr rfl) (of_decide_eq_true h1) (by simp only [dpt] at hd; omega) h2
    | _ => exact same_atom (fun ys e => by cases e) (fun ys e => by cases e) hs S
theorem same_ok {x y : PV} {n d : Nat} {C : Prop} [a : Sm x d C] {S : Sto} (h : x = y ∧ d < n ∧ C) : f_law_same n [x, y] S = .ok (.bl true) S := by
  obtain ⟨m, rfl⟩ : ∃ m, n = m + 1 := ⟨n - 1, by omega⟩
  have hd := a.d
  rw [← h.1]
  exact same_all m x (by omega) (a.run h.2.2) S
instance {x y : PV} {n d : Nat} {C : Prop} {S : Sto} [a : Sm x d C] : EvF (f_law_same n) [x, y] S (.bl true) S (x = y ∧ d < n ∧ C) := ⟨same_ok⟩
end Lw

set_option synthInstance.maxSize 1000000
set_option synthInstance.maxHeartbeats 0
namespace Lw
open Pv L2
/-! ### steps -/
def Sg (l : List Nat) : Prop := ∀ c ∈ l, c = 43 ∨ c = 45
def Stp (l : List Nat) : Prop := Sg l ∧ 1 ≤ l.length ∧ l.length ≤ 24
instance (l : List Nat) : Decidable (Sg l) := by unfold Sg; infer_instance
instance (l : List Nat) : Decidable (Stp l) := by unfold Stp; infer_instance
/-- how far they lead -/
def dif (l : List Nat) : Int := (l.count 43 : Nat) - (l.count 45 : Nat)
def wor (s : Nat) : Int := if s = 43 then 1 else -1
theorem wor_fu {c s : Nat} : fu c (wor s) = fu c (if s = 43 then 1 else 2) := by
  unfold wor
  by_cases h : s = 43
  · rw [if_pos h, if_pos h]
  · rw [if_neg h, if_neg h]
    unfold fu
    omega
theorem wor_sum : ∀ {l : List Nat}, Sg l → (l.map wor).sum = dif l
  | [], _ => rfl
  | s :: r, h => by
    have ih := wor_sum (l := r) fun c hc => h c (List.mem_cons_of_mem _ hc)
    rw [List.map_cons, List.sum_cons, ih]
    unfold dif
    rw [List.count_cons, List.count_cons]
    rcases h s (List.mem_cons_self ..) with rfl | rfl
    · simp [wor]; omega
    · simp [wor]; omega
instance {c : Nat} {S : Sto} : EvF f_worth [.str [c]] S (.int (wor c)) S True := ⟨fun _ => by
  unfold f_worth
  by_cases h : c = 43
  · haveI : DecP (([c] : List Nat) = [43]) true := ⟨decide_eq_true (by rw [h])⟩
    rw [show wor c = 1 from if_pos h]
    exact ev_fn rfl (by simp)
  · haveI : DecP (([c] : List Nat) = [43]) false := ⟨decide_eq_false fun e => h (by cases e; rfl)⟩
    rw [show wor c = -1 from if_neg h]
    exact ev_fn rfl (by simp)⟩
instance {l : List Nat} {S : Sto} : EvF f_sum_of [.str l] S (.int (dif l)) S (Sg l ∧ l.length < 16777216) := ⟨fun h => by
  unfold f_sum_of
  refine (ev_fn rfl ?_).trans ?_
  · simp [h.2]
  · rw [← wor_sum h.1]⟩
instance {l : List Nat} {p : Bool} {S : Sto} [h : DecP (dif l % 3 = 0) p] : EvF f_do_go_round [.str l] S (.bl p) S (Sg l ∧ l.length < 16777216) := ⟨fun q => by
  unfold f_do_go_round
  exact ev_fn rfl (by simp [q])⟩
theorem is_stepped_b {l : List Nat} (hl : l.length < 16777216) (S : Sto) : f_is_stepped [.str l] S = .ok (.bl (decide (Stp l))) S := by
  unfold f_is_stepped
  by_cases h : Sg l
  · by_cases h2 : 1 ≤ l.length ∧ l.length ≤ 24
    · refine (ev_fn rfl ?_).trans ?_
      · simp [hl]
      · congr 2
        rw [Bool.eq_iff_iff, decide_eq_true_eq]
        simp [Stp, h, h2]
        exact ⟨h, by omega⟩
    · refine (ev_fn rfl ?_).trans ?_
      · simp [hl]
      · congr 2
        rw [Bool.eq_iff_iff, decide_eq_true_eq]
        simp [Stp, h]
        omega
  · refine (ev_fn rfl ?_).trans ?_
    · simp [hl]
    · congr 2
      rw [Bool.eq_iff_iff, decide_eq_true_eq]
      simp [Stp, h]
      exact fun q => absurd q h
instance {l : List Nat} {p : Bool} {S : Sto} [h : DecP (Stp l) p] : EvF f_is_stepped [.str l] S (.bl p) S (l.length < 16777216) := ⟨fun q => by rw [is_stepped_b q, h.eq]⟩
instance {x : PV} {S : Sto} [h : NoStr x] : EvF f_is_stepped [x] S (.bl false) S True := ⟨fun _ => by unfold f_is_stepped; exact ev_fn rfl (by simp)⟩
theorem stp_len {l : List Nat} (h : Stp l) : l.length < 16777216 := by have := h.2.2; omega
instance {l : List Nat} {S : Sto} : EvF f_check_steps [.str l] S .non S (Stp l) := ⟨fun h => by
  haveI : DecP (Stp l) true := ⟨decide_eq_true h⟩
  unfold f_check_steps
  exact ev_fn rfl (by simp [stp_len h])⟩
instance {l : List Nat} {p : Bool} {S : Sto} [h : DecP (dif l % 3 = 0) p] : EvF f_goes_round [.str l] S (.bl p) S (Stp l) := ⟨fun q => by
  unfold f_goes_round
  exact ev_fn rfl (by simp [q, q.1, stp_len q])⟩
instance {c : Nat} {S : Sto} : EvF f_check_letter [.str [c]] S .non S (Lt c) := ⟨fun h => by
  have e : f_is_letter [.str [c]] S = .ok (.bl true) S := by
    unfold f_is_letter
    rcases h with rfl | rfl | rfl <;> exact (ev_fn rfl (by simp)).trans (by simp)
  haveI : EvF f_is_letter [.str [c]] S (.bl true) S True := ⟨fun _ => e⟩
  unfold f_check_letter
  exact ev_fn rfl (by simp)⟩
instance {c : Nat} {k : Int} {S : Sto} : EvF f_letter_further [.str [c], .int k] S (.str [fu c k]) S (Lt c) := ⟨fun h => by
  unfold f_letter_further
  exact ev_fn rfl (by simp [h])⟩
instance {c : Nat} {l : List Nat} {S : Sto} : EvF f_led_by [.str [c], .str l] S (.str (led c l)) S (Lt c ∧ l.length < 1000) := ⟨fun h => by
  obtain ⟨e', S', g, ⟨x, rfl, rfl⟩⟩ := for_l (p := .nm 3) (body := sSet 2 (eBin oAdd (eVar 2) (eCall f_further (aCons (eBin oIx (eVar 2) (eNeg (eCon (.int 1)))) (aCons (eCall f_worth (aCons (eVar 3) aNil)) aNil))))) (xs := l) (φ := fun c => .str [c])
    (fun i env T => ∃ x, env = [some (PV.str [c]), some (.str l), some (.str (led c (l.take i))), x] ∧ T = S) (fun i hi env T ⟨x, h1, h2⟩ => by
      subst h1 h2
      have hn := led_ne c (l.take i)
      have hln := led_len c (l.take i)
      rw [List.length_take] at hln
      have e : led c (l.take (i + 1)) = led c (l.take i) ++ [fu ((led c (l.take i)).getLast hn) (if l[i] = 43 then 1 else 2)] := by
        rw [List.take_succ, List.getElem?_eq_getElem hi]
        exact led_snoc c (l.take i) l[i]
      have eg : gi (led c (l.take i)) (-1) = (led c (l.take i)).getLast hn := by
        rw [gi_last (by omega), List.getLast_eq_getElem]
      refine ⟨_, _, _, SetP.eq, EvS.run ?_, ⟨some (PV.str [l[i]]), ?_, rfl⟩⟩
      · simp
        rw [eg]
        exact ⟨⟨by omega, led_lt h.1 _ _ (List.getLast_mem hn)⟩, by omega⟩
      · rw [e, eg, wor_fu]) (env := [some (PV.str [c]), some (.str l), some (.str [c]), none]) (S := S) ⟨none, rfl, rfl⟩
  unfold f_led_by
  rw [List.take_length] at g
  haveI i1 := EvS.mk (C := True) fun _ => sfor_ev (p := .nm 3) (it := iVal (eVar 1)) (body := sSet 2 (eBin oAdd (eVar 2) (eCall f_further (aCons (eBin oIx (eVar 2) (eNeg (eCon (.int 1)))) (aCons (eCall f_worth (aCons (eVar 3) aNil)) aNil))))) (by simp) g
  exact ev_fn rfl (by simp)⟩
instance {c : Nat} {l : List Nat} {S : Sto} : EvF f_stacking_by [.str [c], .str l] S (.str (led c l)) S (Lt c ∧ Sg l ∧ l.length < 24) := ⟨fun h => by
  haveI : DecP ((l.length : Int) ≥ 24) false := ⟨decide_eq_false (by omega)⟩
  unfold f_stacking_by
  by_cases he : l = []
  · haveI : DecP (l = []) true := ⟨decide_eq_true he⟩
    exact ev_fn rfl (by simp [h]; omega)
  · haveI : DecP (l = []) false := ⟨decide_eq_false he⟩
    have := List.length_pos_iff.mpr he
    exact ev_fn rfl (by simp [h]; exact ⟨⟨h.2.1, by omega, by omega⟩, by omega⟩)⟩
end Lw

set_option synthInstance.maxSize 1000000
set_option synthInstance.maxHeartbeats 0
namespace Lw
open Pv L2
/-! ### the words -/
abbrev wR : List Nat := [114, 111, 117, 110, 100]
abbrev wN : List Nat := [110, 111, 116, 32, 114, 111, 117, 110, 100]
abbrev wRs : List Nat := [114, 111, 117, 110, 100, 115]
abbrev kF : List (List Nat) := codesOf ["round", "not round", "alike", "not alike", "slips", "like counts", "unlike counts", "mirror", "no mirror", "least", "not least", "own", "again"]
abbrev kO : List (List Nat) := codesOf ["round", "not round", "mirror", "no mirror", "own", "again"]
instance : MemT wR kF true := ⟨by decide +kernel⟩
instance : MemT wN kF true := ⟨by decide +kernel⟩
instance : MemT wRs kF false := ⟨by decide +kernel⟩
instance : MemT wR kO true := ⟨by decide +kernel⟩
instance : MemT wN kO true := ⟨by decide +kernel⟩
instance : TabW tb_FORMS wR (1, f_tells_steps) := ⟨rfl⟩
instance : TabW tb_FORMS wN (1, f_tells_steps) := ⟨rfl⟩
instance : TabV tb_OF_ONE wR f_shows_round := ⟨rfl⟩
instance : TabV tb_OF_ONE wN f_shows_not_round := ⟨rfl⟩
/-- the empty tuple -/
def isT0 : PV → Bool
  | .tup [] => true
  | _ => false
instance {xs : List PV} {n : Int} {S : Sto} {p : Bool} [h : DecP (((xs.length : Nat) : Int) = n) p] : EvF f_is_tuple_of [.tup xs, .int n] S (.bl p) S True := ⟨fun _ => by unfold f_is_tuple_of; exact ev_fn rfl (by simp)⟩
/-- no tuple -/
class NoTup (x : PV) : Prop where
  eq : kitB (tyPV x) "tuple" = some false
  t0 : isT0 x = false
instance : NoTup .non := ⟨kt_NoneType_tuple, rfl⟩
instance {b : Bool} : NoTup (.bl b) := ⟨kt_bool_tuple, rfl⟩
instance {b : Int} : NoTup (.int b) := ⟨kt_int_tuple, rfl⟩
instance {b : List Nat} : NoTup (.str b) := ⟨kt_str_tuple, rfl⟩
instance {b : List PV} : NoTup (.lst b) := ⟨kt_list_tuple, rfl⟩
instance (priority := low) {x : PV} [h : NoTup x] : Kit x "tuple" false := ⟨h.eq⟩
instance {x : PV} {n : Int} {S : Sto} [h : NoTup x] : EvF f_is_tuple_of [x, .int n] S (.bl false) S True := ⟨fun _ => by unfold f_is_tuple_of; exact ev_fn rfl (by simp)⟩
theorem is_nothing_s {x : PV} (h : smP x = true) (S : Sto) : f_is_nothing [x] S = .ok (.bl (isT0 x)) S := by
  unfold f_is_nothing
  cases x with
  | tup xs =>
    cases xs with
    | nil => exact ev_fn rfl (by simp)
    | cons a r =>
      haveI : DecP ((((a :: r).length : Nat) : Int) = 0) false := ⟨decide_eq_false (by simp; omega)⟩
      exact ev_fn rfl (by simp)
  | non => exact ev_fn rfl (by simp)
  | bl b => exact ev_fn rfl (by simp)
  | int b => exact ev_fn rfl (by simp)
  | str b => exact ev_fn rfl (by simp)
  | lst b => exact ev_fn rfl (by simp)
  | scr b => cases h
  | ref b => cases h
instance {x : PV} {S : Sto} : EvF f_is_nothing [x] S (.bl (isT0 x)) S (smP x = true) := ⟨fun h => is_nothing_s h S⟩
instance {l : List Nat} {p : Bool} {S : Sto} [h : DecP (Stp l) p] : EvF f_tells_steps [.tup [.str l]] S (.bl p) S (l.length < 16777216) := ⟨fun q => by unfold f_tells_steps; exact ev_fn rfl (by simp [q])⟩
/-- the rest that does not go round -/
def nrB (l : List Nat) : PV → Bool
  | .int z => decide (z = dif l % 3) && decide (0 < dif l % 3)
  | _ => false
theorem shows_nr_s {l : List Nat} {x : PV} (hl : Sg l ∧ l.length < 16777216) (h : smP x = true) (S : Sto) : f_shows_not_round [.str l, x] S = .ok (.bl (nrB l x)) S := by
  unfold f_shows_not_round
  cases x with
  | int z =>
    refine (ev_fn rfl (by simp [hl])).trans ?_
    congr 2
    have h0 := Int.emod_nonneg (dif l) (show (3 : Int) ≠ 0 by decide)
    have h1 := Int.emod_lt_of_pos (dif l) (show (0 : Int) < 3 by decide)
    rw [Bool.eq_iff_iff]
    simp [nrB]
    omega
  | tup xs => exact ev_fn rfl (by simp)
  | non => exact ev_fn rfl (by simp)
  | bl b => exact ev_fn rfl (by simp)
  | str b => exact ev_fn rfl (by simp)
  | lst b => exact ev_fn rfl (by simp)
  | scr b => cases h
  | ref b => cases h
instance {l : List Nat} {x : PV} {S : Sto} : EvF f_shows_not_round [.str l, x] S (.bl (nrB l x)) S ((Sg l ∧ l.length < 16777216) ∧ smP x = true) := ⟨fun h => shows_nr_s h.1 h.2 S⟩
instance {l : List Nat} {x : PV} {p : Bool} {S : Sto} [h : DecP (dif l % 3 = 0) p] : EvF f_shows_round [.str l, x] S (.bl (isT0 x && p)) S ((Sg l ∧ l.length < 16777216) ∧ smP x = true) := ⟨fun q => by unfold f_shows_round; exact ev_fn rfl (by simp [q])⟩
instance {l : List Nat} {p : Bool} {S : Sto} [h : DecP (Stp l) p] : EvF f_is_claim [.tup [.str wR, .str l]] S (.bl p) S (l.length < 16777216) := ⟨fun q => by unfold f_is_claim; exact ev_fn rfl (by simp [q])⟩
instance {l : List Nat} {p : Bool} {S : Sto} [h : DecP (Stp l) p] : EvF f_is_claim [.tup [.str wN, .str l]] S (.bl p) S (l.length < 16777216) := ⟨fun q => by unfold f_is_claim; exact ev_fn rfl (by simp [q])⟩
theorem acc_r {l : List Nat} {x : PV} {p : Bool} [h : DecP (dif l % 3 = 0) p] (c : Stp l) (hx : smP x = true) (S : Sto) : f_accepts [.tup [.str wR, .str l], x] S = .ok (.bl (isT0 x && p)) S := by
  haveI : DecP (Stp l) true := ⟨decide_eq_true c⟩
  unfold f_accepts
  exact ev_fn rfl (by simp [stp_len c, hx, c.1])
theorem acc_n {l : List Nat} {x : PV} (c : Stp l) (hx : smP x = true) (S : Sto) : f_accepts [.tup [.str wN, .str l], x] S = .ok (.bl (nrB l x)) S := by
  haveI : DecP (Stp l) true := ⟨decide_eq_true c⟩
  unfold f_accepts
  exact ev_fn rfl (by simp [stp_len c, hx, c.1])
instance {l : List Nat} {x : PV} {p : Bool} [h : DecP (dif l % 3 = 0) p] {S : Sto} : EvF f_accepts [.tup [.str wR, .str l], x] S (.bl (isT0 x && p)) S (Stp l ∧ smP x = true) := ⟨fun h => acc_r h.1 h.2 S⟩
instance {l : List Nat} {x : PV} {S : Sto} : EvF f_accepts [.tup [.str wN, .str l], x] S (.bl (nrB l x)) S (Stp l ∧ smP x = true) := ⟨fun h => acc_n h.1 h.2 S⟩
/-! what is no claim -/
theorem acc_no {x y : PV} (h : ∀ S, f_is_claim [x] S = .ok (.bl false) S) (S : Sto) : f_accepts [x, y] S = .ok (.bl false) S := by
  haveI : ∀ S, EvF f_is_claim [x] S (.bl false) S True := fun S => ⟨fun _ => h S⟩
  unfold f_accepts
  exact ev_fn rfl (by simp)
instance {x : PV} {S : Sto} [h : NoStr x] : EvF f_tells_steps [.tup [x]] S (.bl false) S True := ⟨fun _ => by unfold f_tells_steps; exact ev_fn rfl (by simp)⟩
theorem cl_one {w : List Nat} (hw : w = wR ∨ w = wN) {l : List Nat} (h : ¬ Stp l) (hl : l.length < 16777216) (S : Sto) : f_is_claim [.tup [.str w, .str l]] S = .ok (.bl false) S := by
  haveI : DecP (Stp l) false := ⟨decide_eq_false h⟩
  rcases hw with rfl | rfl <;> exact EvF.run hl
theorem cl_ns {w : List Nat} (hw : w = wR ∨ w = wN) {x : PV} {d : Nat} {C : Prop} [h : NoStr x] [k : Sm x d C] (hd : d ≤ 3) (S : Sto) : f_is_claim [.tup [.str w, x]] S = .ok (.bl false) S := by
  unfold f_is_claim
  rcases hw with rfl | rfl <;> exact ev_fn rfl (by simp; omega)
theorem cl_1 {w : List Nat} (hw : w = wR ∨ w = wN) (S : Sto) : f_is_claim [.tup [.str w]] S = .ok (.bl false) S := by
  unfold f_is_claim
  haveI : ∀ w : List Nat, DecP (((([PV.str w] : List PV).length : Nat) : Int) = 1 + 1) false := fun w => ⟨rfl⟩
  rcases hw with rfl | rfl <;> exact ev_fn rfl (by simp)
theorem cl_3 {w l : List Nat} (hw : w = wR ∨ w = wN) (S : Sto) : f_is_claim [.tup [.str w, .str l, .int 0]] S = .ok (.bl false) S := by
  unfold f_is_claim
  haveI : ∀ w : List Nat, DecP (((([PV.str w, .str l, .int 0] : List PV).length : Nat) : Int) = 1 + 1) false := fun w => ⟨rfl⟩
  rcases hw with rfl | rfl <;> exact ev_fn rfl (by simp)
theorem cl_lst {xs : List PV} (S : Sto) : f_is_claim [.lst xs] S = .ok (.bl false) S := by
  unfold f_is_claim
  exact ev_fn rfl (by simp)
theorem cl_rs {l : List Nat} (S : Sto) : f_is_claim [.tup [.str wRs, .str l]] S = .ok (.bl false) S := by
  unfold f_is_claim
  exact ev_fn rfl (by simp)
/-! what leads back -/
theorem led_get {c : Nat} (hc : Lt c) : ∀ (l : List Nat), ((led c l).getLast (led_ne c l)) = fu c ((l.map wor).sum)
  | [] => by
    show c = _
    rcases hc with rfl | rfl | rfl <;> rfl
  | s :: r => by
    have ih := led_get (fu_lt c (if s = 43 then 1 else 2)) r
    show (c :: led (fu c (if s = 43 then 1 else 2)) r).getLast _ = _
    rw [List.getLast_cons (led_ne _ _), ih, List.map_cons, List.sum_cons]
    unfold fu wor
    rcases hc with rfl | rfl | rfl <;> split <;> omega
theorem stp_fu {c : Nat} (hc : Lt c) {s : Nat} (hs : s = 43 ∨ s = 45) : stp c (fu c (if s = 43 then 1 else 2)) = s := by
  rcases hc with rfl | rfl | rfl <;> rcases hs with rfl | rfl <;> decide
theorem led_steps {c : Nat} (hc : Lt c) : ∀ (l : List Nat), Sg l → zz 1 stp (led c l) = l
  | [], _ => rfl
  | s :: r, h => by
    obtain ⟨t, ht⟩ := led_head (fu c (if s = 43 then 1 else 2)) r
    have ih := led_steps (fu_lt c (if s = 43 then 1 else 2)) r fun x hx => h x (List.mem_cons_of_mem _ hx)
    have e : led c (s :: r) = c :: led (fu c (if s = 43 then 1 else 2)) r := rfl
    rw [e, ht, zz_cons1, ← ht, ih, stp_fu hc (h s (List.mem_cons_self ..))]
theorem Sg.init {l : List Nat} (h : Sg l) : Sg l.dropLast := fun c hc => h c (List.dropLast_subset _ hc)
theorem back_ok {c : Nat} (hc : Lt c) {l : List Nat} (h : Stp l) (hd : dif l % 3 = 0) : Cls (led c l.dropLast) ∧ rst (led c l.dropLast) = l := by
  have hp : l ≠ [] := List.length_pos_iff.mp (by have := h.2.1; omega)
  have e : l.dropLast ++ [l.getLast hp] = l := List.dropLast_concat_getLast hp
  have hs : l.getLast hp = 43 ∨ l.getLast hp = 45 := h.1 _ (List.getLast_mem hp)
  have e2 : led c l = led c l.dropLast ++ [c] := by
    have q := led_snoc c l.dropLast (l.getLast hp)
    have q2 := led_get hc l
    rw [wor_sum h.1] at q2
    have q3 : fu c (dif l) = c := by
      unfold fu
      rcases hc with rfl | rfl | rfl <;> omega
    rw [q3] at q2
    have q4 : led c l = led c l.dropLast ++ [fu ((led c l.dropLast).getLast (led_ne c l.dropLast)) (if l.getLast hp = 43 then 1 else 2)] := by
      rw [← q, e]
    have q5 : (led c l).getLast (led_ne c l) = fu ((led c l.dropLast).getLast (led_ne c l.dropLast)) (if l.getLast hp = 43 then 1 else 2) := by
      simp only [q4, List.getLast_concat]
    rw [q4, ← q5, q2]
  have hn := led_len c l.dropLast
  obtain ⟨t, ht⟩ := led_head c l.dropLast
  have g0 : gi (led c l.dropLast) 0 = c := by
    rw [gi_0 (by omega)]
    simp only [ht, List.getElem_cons_zero]
  refine ⟨⟨led_stk hc (by rw [List.length_dropLast]; have := h.2.2; omega), ?_⟩, ?_⟩
  · rw [g0, gi_last (by omega)]
    intro q
    have nb := led_nb hc l
    rw [e2] at nb
    have hz : (zz 1 (fun a b => a != b) (led c l.dropLast ++ [c]))[(led c l.dropLast).length - 1]? = some ((led c l.dropLast)[(led c l.dropLast).length - 1] != c) := by
      rw [zz_get, List.getElem?_append_left (by omega), List.getElem?_eq_getElem (by omega), List.getElem?_append_right (by omega), show (led c l.dropLast).length - 1 + 1 - (led c l.dropLast).length = 0 by omega]
      rfl
    have := nb _ (List.mem_of_getElem? hz)
    rw [bne_iff_ne] at this
    exact this q.symm
  · unfold rst
    rw [g0, ← e2, led_steps hc l h.1]
instance {l : List Nat} {S : Sto} : EvF f_round_steps [.str l] S (.str (rst l)) S (Cls l) := ⟨fun h => by
  have h2 := h.1.2.2.1
  unfold f_round_steps
  exact ev_fn rfl (by simp [h, h.pos]; exact ⟨h.1.1, by omega⟩)⟩
instance {l : List Nat} {S : Sto} : EvF f_law_round_steps [.str l] S (.str (rst l)) S (Cls l) := ⟨fun h => by
  have h2 := h.1.2.2.1
  have h0 := h.pos
  have e : cut l none (some 1) = [gi l 0] := by
    rw [cut_t1, gi_0 h0]
    cases l with
    | nil => simp at h0
    | cons a r => rfl
  unfold f_law_round_steps
  refine (ev_fn rfl ?_).trans ?_
  · simp [e]
    exact ⟨by omega, fun c hc => h.nb1.lt c (by simpa using hc), by omega⟩
  · rw [e]
    rfl⟩
end Lw

set_option synthInstance.maxSize 1000000
set_option synthInstance.maxHeartbeats 0
namespace Lw
open Pv L2
/-! ### rows of marks, rolled off -/
/-- the next step -/
def nxz (r s : List Nat) (a : Int) : Nat := if gi r (a % (r.length : Nat)) = 99 then gi s (-1) else if gi s (-1) = 43 then 45 else 43
/-- so many steps and one -/
def sqn (r : List Nat) : Nat → List Nat
  | 0 => [43]
  | n + 1 => sqn r n ++ [nxz r (sqn r n) ((n : Nat) + 1)]
theorem sqn_len (r : List Nat) : ∀ n, (sqn r n).length = n + 1
  | 0 => rfl
  | n + 1 => by
    show (sqn r n ++ [_]).length = _
    rw [List.length_append, sqn_len r n]; rfl
/-- is the row done here -/
def stopB (r : List Nat) (j : Nat) : Bool := decide (((j : Int) + 1) % (r.length : Nat) = 0) && (decide (dif (sqn r j) % 3 = 0) && decide (nxz r (sqn r j) ((j : Nat) + 1) = 43))
/-- how many, as the program counts -/
def cntP (r : List Nat) : Nat := if r.count 104 % 2 = 1 then 2 * r.length else if dif (sqn r (r.length - 1)) % 3 = 0 then r.length else 3 * r.length
/-- the stacking -/
def unr (r : List Nat) : List Nat := led 65 (sqn r (cntP r - 1)).dropLast
def rowsN : Nat → List (List Nat)
  | 0 => [[]]
  | n + 1 => (rowsN n).flatMap fun r => [104 :: r, 99 :: r]
theorem rowsN_mem : ∀ (r : List Nat), (∀ c ∈ r, c = 104 ∨ c = 99) → r ∈ rowsN r.length
  | [], _ => List.mem_singleton.mpr rfl
  | c :: r, h => by
    have ih := rowsN_mem r fun x hx => h x (List.mem_cons_of_mem _ hx)
    refine List.mem_flatMap.mpr ⟨r, ih, ?_⟩
    rcases h c (List.mem_cons_self ..) with rfl | rfl <;> simp
def chk (r : List Nat) : Bool :=
  let m := r.length
  let N := cntP r - 1
  let t := unr r
  stopB r N && (decide (N ≤ m - 1) || !stopB r (m - 1)) && (decide (N ≤ 2 * m - 1) || !stopB r (2 * m - 1)) && decide (Sg (sqn r N)) && decide (Cls t) && decide (rmk t = (repL r 24).take (N + 1))
theorem chk_all : ∀ n : Fin 8, ∀ r ∈ rowsN (n.val + 1), chk r = true := by decide +kernel
end Lw

set_option synthInstance.maxSize 1000000
set_option synthInstance.maxHeartbeats 0
namespace Lw
open Pv L2
abbrev z1 : FS := (sSet 2 (eBin oMod (eBin oSub (eMeth "str" bCount (eVar 1) (aCons (eCon (.str [43])) aNil)) (eMeth "str" bCount (eVar 1) (aCons (eCon (.str [45])) aNil))) (eCon (.int 3))))
abbrev z2 : FS := (sSet 3 (eFrz (lDisp (aCons (eCall f_goes_round (aCons (eVar 1) aNil)) (aCons (eCallK f_goes_round 1 [0] (aCons (eVar 1) aNil)) aNil)))))
abbrev z3 : FS := (sIf (tNot' (toT (eCall (f_law_same 8) (aCons (eVar 3) (aCons (eBin oMul (eFrz (lDisp (aCons (eBin oEq (eVar 2) (eCon (.int 0))) aNil))) (eCon (.int 2))) aNil))))) (sRet (eCon (.bl false))) sNil)
abbrev z4 : FS := (sIf (toT (eBin oEq (eVar 2) (eCon (.int 0)))) (sSeq (sSet 4 (eCall f_law_by (aCons (eCon (.str [66])) (aCons (eSl (eVar 1) oNone (oSome (eNeg (eCon (.int 1))))) aNil)))) (sIf (tNot' (toT (eCall (f_law_same 8) (aCons (eFrz (lDisp (aCons (eCall f_stacking_by (aCons (eCon (.str [66])) (aCons (eSl (eVar 1) oNone (oSome (eNeg (eCon (.int 1))))) aNil))) (aCons (eCall f_round_steps (aCons (eVar 4) aNil)) (aCons (eCall f_law_is_closed (aCons (eVar 4) aNil)) aNil))))) (aCons (eFrz (lDisp (aCons (eVar 4) (aCons (eVar 1) (aCons (eCon (.bl true)) aNil))))) aNil))))) (sRet (eCon (.bl false))) sNil)) sNil)
abbrev z5 : FS := (sPar 5 6 (aCons (eCall f_law_one (aCons (eVar 0) (aCons (eCon (.str [65, 66, 67])) aNil))) (aCons (eBin oSub (eCall f_law_draw (aCons (eVar 0) (aCons (eCon (.int 99)) aNil))) (eCon (.int 50))) aNil)))
abbrev z6 : FS := (sIf (tNot' (toT (eCall (f_law_same 8) (aCons (eCall f_letter_further (aCons (eVar 5) (aCons (eVar 6) aNil))) (aCons (eCall f_law_further (aCons (eVar 5) (aCons (eVar 6) aNil))) aNil))))) (sRet (eCon (.bl false))) sNil)
abbrev z7 : FS := (sSet 7 (eFrz (lDisp (aCons (eTup (aCons (eCon (.str [114, 111, 117, 110, 100])) (aCons (eVar 1) aNil))) (aCons (eTup (aCons (eCon (.str [110, 111, 116, 32, 114, 111, 117, 110, 100])) (aCons (eVar 1) aNil))) aNil)))))
abbrev z8 : FS := (sAsg (.tp [(.nm 8), (.nm 9)]) (eCall f_certify_round (aCons (eVar 1) aNil)))
abbrev z9 : FS := (sIf (tNot' (toT (eCall (f_law_same 8) (aCons (eFrz (lDisp (aCons (eVar 8) (aCons (eCall f_accepts (aCons (eVar 8) (aCons (eVar 9) aNil))) aNil)))) (aCons (eFrz (lDisp (aCons (eIf (toT (eBin oEq (eVar 2) (eCon (.int 0)))) (eBin oIx (eVar 7) (eCon (.int 0))) (eBin oIx (eVar 7) (eCon (.int 1)))) (aCons (eCon (.bl true)) aNil)))) aNil))))) (sRet (eCon (.bl false))) sNil)
abbrev zI : FI := (iVal (eFrz (lDisp (aCons (eVar 9) (aCons (eTup aNil) (aCons (eCon .non) (aCons (eCon (.str [])) (aCons (eCon (.int 0)) (aCons (eCon (.int 1)) (aCons (eCon (.int 2)) (aCons (eCon (.int 3)) (aCons (eBin oSub (eCon (.int 0)) (eCon (.int 1))) (aCons (eCon (.bl true)) (aCons (eCon (.bl false)) (aCons (eCon (.str [49])) (aCons (eTup (aCons (eCon (.int 1)) aNil)) (aCons (eFrz (lDisp aNil)) (aCons (eVar 2) (aCons (eCon (.int 4)) (aCons (eCon (.int 5)) aNil))))))))))))))))))))
abbrev zB : FS := (sSeq (sSet 11 (eFrz (lDisp (aCons (eAnd (eIsi "tuple" (eVar 10)) (eAnd (eBin oEq (eVar 10) (eTup aNil)) (eBin oEq (eVar 2) (eCon (.int 0))))) aNil)))) (sSeq (sSet 11 (eBin oAdd (eVar 11) (eFrz (lDisp (aCons (eAnd (eCall f_law_is_whole (aCons (eVar 10) aNil)) (eAnd (eBin oEq (eVar 10) (eVar 2)) (eBin oGt (eVar 2) (eCon (.int 0))))) aNil))))) (sSeq (sSet 12 (eFrz (lDisp (aCons (eCall f_accepts (aCons (eBin oIx (eVar 7) (eCon (.int 0))) (aCons (eVar 10) aNil))) (aCons (eCallK f_accepts 2 [1, 0] (aCons (eVar 10) (aCons (eBin oIx (eVar 7) (eCon (.int 1))) aNil))) aNil))))) (sIf (tOr' (tNot' (toT (eCall (f_law_same 8) (aCons (eVar 12) (aCons (eVar 11) aNil))))) (toT (eBin oEq (eVar 11) (eFrz (lDisp (aCons (eCon (.bl true)) (aCons (eCon (.bl true)) aNil))))))) (sRet (eCon (.bl false))) sNil))))
abbrev z10 : FS := sFor (.nm 10) zI zB
abbrev z11 : FS := (sSet 13 (eFrz (lDisp (aCons (eSl (eVar 8) oNone (oSome (eCon (.int 1)))) (aCons (eBin oAdd (eVar 8) (eTup (aCons (eCon (.int 0)) aNil))) (aCons (eCall bListX (aCons (eVar 8) aNil)) (aCons (eTup (aCons (eBin oIx (eVar 8) (eCon (.int 0))) (aCons (eCon (.str [])) aNil))) (aCons (eTup (aCons (eBin oIx (eVar 8) (eCon (.int 0))) (aCons (eBin oMul (eVar 1) (eCon (.int 25))) aNil))) (aCons (eTup (aCons (eBin oIx (eVar 8) (eCon (.int 0))) (aCons (eBin oAdd (eVar 1) (eCon (.str [120]))) aNil))) aNil)))))))))
abbrev z12 : FS := (sSet 13 (eBin oAdd (eVar 13) (eFrz (lDisp (aCons (eTup (aCons (eBin oIx (eVar 8) (eCon (.int 0))) (aCons (eCon .non) aNil))) aNil)))))
abbrev z13 : FS := (sSet 13 (eBin oAdd (eVar 13) (eFrz (lDisp (aCons (eTup (aCons (eCon (.str [114, 111, 117, 110, 100, 115])) (aCons (eVar 1) aNil))) (aCons (eTup (aCons (eBin oIx (eVar 8) (eCon (.int 0))) (aCons (eCall bTupleX (aCons (eVar 1) aNil)) aNil))) (aCons (eTup (aCons (eBin oIx (eVar 8) (eCon (.int 0))) (aCons (eCon (.int 0)) aNil))) (aCons (eTup (aCons (eBin oIx (eVar 8) (eCon (.int 0))) (aCons (eCon (.str [104])) aNil))) aNil))))))))
abbrev z14 : FS := (sRet (eNot (eCall bAny (aCons (eFrz (fLc (.nm 10) (iVal (eVar 13)) tYes' (eCall f_accepts (aCons (eVar 10) (aCons (eVar 9) aNil))) [10])) aNil))))

/-- the two claims, the one that is so, its paper -/
abbrev cR (l : List Nat) : PV := .tup [.str wR, .str l]
abbrev cN (l : List Nat) : PV := .tup [.str wN, .str l]
abbrev cP (l : List Nat) (p : Bool) : PV := if p = true then cR l else cN l
abbrev pP (l : List Nat) (p : Bool) : PV := if p = true then .tup [] else .int (dif l % 3)
abbrev fE (x0 : PV) (l : List Nat) (e2 e3 e4 e5 e6 e7 e8 e9 e10 e11 e12 e13 : Option PV) : VEnv := [some x0, some (.str l), e2, e3, e4, e5, e6, e7, e8, e9, e10, e11, e12, e13]
abbrev rs9 (l : List Nat) : Option PV := some (.int (dif l % 3))
section
variable {l : List Nat} {p : Bool} {S : Sto} {x0 : PV} {e2 e3 e4 e5 e6 e7 e8 e9 e10 e11 e12 e13 : Option PV}
theorem s1 : z1 (fE x0 l e2 e3 e4 e5 e6 e7 e8 e9 e10 e11 e12 e13) S = .nx (fE x0 l (rs9 l) e3 e4 e5 e6 e7 e8 e9 e10 e11 e12 e13) S := EvS.run (by simp)
theorem s2 (c : Stp l) [h : DecP (dif l % 3 = 0) p] : z2 (fE x0 l e2 e3 e4 e5 e6 e7 e8 e9 e10 e11 e12 e13) S = .nx (fE x0 l e2 (some (.lst [.bl p, .bl p])) e4 e5 e6 e7 e8 e9 e10 e11 e12 e13) S := EvS.run (by simp [c])
theorem s3 [h : DecP (dif l % 3 = 0) p] : z3 (fE x0 l (rs9 l) (some (.lst [.bl p, .bl p])) e4 e5 e6 e7 e8 e9 e10 e11 e12 e13) S = .nx (fE x0 l (rs9 l) (some (.lst [.bl p, .bl p])) e4 e5 e6 e7 e8 e9 e10 e11 e12 e13) S := EvS.run (by simp)
theorem s4 (c : Stp l) [h : DecP (dif l % 3 = 0) p] : ∃ y4, z4 (fE x0 l (rs9 l) e3 e4 e5 e6 e7 e8 e9 e10 e11 e12 e13) S = .nx (fE x0 l (rs9 l) e3 y4 e5 e6 e7 e8 e9 e10 e11 e12 e13) S := by
  have h1 := c.2.1
  have h2 := c.2.2
  cases p with
  | false => exact ⟨e4, EvS.run (by simp)⟩
  | true =>
    have hd := of_decide_eq_true h.eq
    have b := back_ok (c := 66) (.inr (.inl rfl)) c hd
    have h3 := led_len 66 l.dropLast
    have h4 : l.dropLast.length = l.length - 1 := List.length_dropLast
    have h5 := c.1.init
    rw [← cut_init] at b h3 h4 h5
    obtain ⟨b1, b2⟩ := b
    haveI : DecP (Cls (led 66 (cut l none (some (-1))))) true := ⟨decide_eq_true b1⟩
    refine ⟨_, EvS.run ?_⟩
    simp [b1, b2, h5]
    have : Lt 66 := .inr (.inl rfl)
    exact ⟨⟨this, by omega⟩, ⟨this, by omega⟩, by omega⟩
theorem s5 {n : Nat} (k : Has n S) : z5 (fE (.ref n) l e2 e3 e4 e5 e6 e7 e8 e9 e10 e11 e12 e13) S = .nx (fE (.ref n) l e2 e3 e4 (some (.str [onC n [65, 66, 67] S])) (some (.int ((dI n 99 (onS n [65, 66, 67] S) : Nat) - 50))) e7 e8 e9 e10 e11 e12 e13) (dS n 99 (onS n [65, 66, 67] S)) := EvS.run (by simp [k])
theorem s6 {c : Nat} (hc : Lt c) {z : Int} : z6 (fE x0 l e2 e3 e4 (some (.str [c])) (some (.int z)) e7 e8 e9 e10 e11 e12 e13) S = .nx (fE x0 l e2 e3 e4 (some (.str [c])) (some (.int z)) e7 e8 e9 e10 e11 e12 e13) S := EvS.run (by simp [hc])
theorem s7 : z7 (fE x0 l e2 e3 e4 e5 e6 e7 e8 e9 e10 e11 e12 e13) S = .nx (fE x0 l e2 e3 e4 e5 e6 (some (.lst [cR l, cN l])) e8 e9 e10 e11 e12 e13) S := EvS.run (by simp)
theorem s8 (c : Stp l) [h : DecP (dif l % 3 = 0) p] : z8 (fE x0 l e2 e3 e4 e5 e6 e7 e8 e9 e10 e11 e12 e13) S = .nx (fE x0 l e2 e3 e4 e5 e6 e7 (some (cP l p)) (some (pP l p)) e10 e11 e12 e13) S := by
  have hl := stp_len c
  cases p with
  | true =>
    haveI : EvF f_certify_round [.str l] S (.tup [cR l, .tup []]) S True := ⟨fun _ => by unfold f_certify_round; exact ev_fn rfl (by simp [c, c.1, hl])⟩
    exact EvS.run (by simp)
  | false =>
    haveI : EvF f_certify_round [.str l] S (.tup [cN l, .int (dif l % 3)]) S True := ⟨fun _ => by unfold f_certify_round; exact ev_fn rfl (by simp [c, c.1, hl])⟩
    exact EvS.run (by simp)
theorem nr_pos (h : dif l % 3 ≠ 0) : nrB l (.int (dif l % 3)) = true := by
  have h0 := Int.emod_nonneg (dif l) (show (3 : Int) ≠ 0 by decide)
  simp [nrB]
  omega
theorem s9 (c : Stp l) [h : DecP (dif l % 3 = 0) p] : z9 (fE x0 l (rs9 l) e3 e4 e5 e6 (some (.lst [cR l, cN l])) (some (cP l p)) (some (pP l p)) e10 e11 e12 e13) S = .nx (fE x0 l (rs9 l) e3 e4 e5 e6 (some (.lst [cR l, cN l])) (some (cP l p)) (some (pP l p)) e10 e11 e12 e13) S := by
  cases p with
  | true =>
    show z9 (fE x0 l (rs9 l) e3 e4 e5 e6 (some (.lst [cR l, cN l])) (some (cR l)) (some (.tup [])) e10 e11 e12 e13) S = .nx (fE x0 l (rs9 l) e3 e4 e5 e6 (some (.lst [cR l, cN l])) (some (cR l)) (some (.tup [])) e10 e11 e12 e13) S
    exact EvS.run (by simp [c, smP, smPs, isT0])
  | false =>
    have hp := of_decide_eq_false h.eq
    show z9 (fE x0 l (rs9 l) e3 e4 e5 e6 (some (.lst [cR l, cN l])) (some (cN l)) (some (.int (dif l % 3))) e10 e11 e12 e13) S = .nx (fE x0 l (rs9 l) e3 e4 e5 e6 (some (.lst [cR l, cN l])) (some (cN l)) (some (.int (dif l % 3))) e10 e11 e12 e13) S
    exact EvS.run (by simp [c, smP, smPs, nr_pos hp])
theorem zB_s (c : Stp l) [h : DecP (dif l % 3 = 0) p] {x : PV} (hx : smP x = true) (hd : dpt x ≤ 3) :
    ∃ y11 y12, zB (fE x0 l (rs9 l) e3 e4 e5 e6 (some (.lst [cR l, cN l])) e8 e9 (some x) e11 e12 e13) S = .nx (fE x0 l (rs9 l) e3 e4 e5 e6 (some (.lst [cR l, cN l])) e8 e9 (some x) y11 y12 e13) S := by
  have h0 := Int.emod_nonneg (dif l) (show (3 : Int) ≠ 0 by decide)
  cases x with
  | non => refine ⟨_, _, EvS.run ?_⟩; simp [c, hx, isT0, nrB]
  | int z =>
    refine ⟨_, _, EvS.run ?_⟩
    simp [c, hx, isT0, nrB]
    try omega
  | bl z => refine ⟨_, _, EvS.run ?_⟩; simp [c, hx, isT0, nrB]
  | str z => refine ⟨_, _, EvS.run ?_⟩; simp [c, hx, isT0, nrB]
  | lst z => refine ⟨_, _, EvS.run ?_⟩; simp [c, hx, isT0, nrB]
  | tup z =>
    cases z with
    | nil => refine ⟨_, _, EvS.run ?_⟩; simp [c, hx, isT0, nrB]
    | cons a r =>
      haveI : EqV (.tup (a :: r)) (.tup []) 3 false := ⟨hd, by decide, rfl⟩
      refine ⟨_, _, EvS.run ?_⟩; simp [c, hx, isT0, nrB]
  | scr => cases hx
  | ref => cases hx
theorem s10 (c : Stp l) [h : DecP (dif l % 3 = 0) p] : ∃ y10 y11 y12, z10 (fE x0 l (rs9 l) e3 e4 e5 e6 (some (.lst [cR l, cN l])) e8 (some (pP l p)) e10 e11 e12 e13) S = .nx (fE x0 l (rs9 l) e3 e4 e5 e6 (some (.lst [cR l, cN l])) e8 (some (pP l p)) y10 y11 y12 e13) S := by
  have hq : smP (pP l p) = true ∧ dpt (pP l p) ≤ 3 := by
    cases p
    · exact ⟨rfl, show (0 : Nat) ≤ 3 by decide⟩
    · exact ⟨rfl, show (1 : Nat) ≤ 3 by decide⟩
  generalize pP l p = pp at hq ⊢
  obtain ⟨e', S', g, ⟨y10, y11, y12, rfl, rfl⟩⟩ := for_l (p := .nm 10) (body := zB) (xs := [pp, .tup [], .non, .str [], .int 0, .int 1, .int 2, .int 3, .int (0 - 1), .bl true, .bl false, .str [49], .tup [.int 1], .lst [], .int (dif l % 3), .int 4, .int 5]) (φ := fun x => x)
    (fun i env T => ∃ y10 y11 y12, env = fE x0 l (rs9 l) e3 e4 e5 e6 (some (.lst [cR l, cN l])) e8 (some pp) y10 y11 y12 e13 ∧ T = S) (fun i hi env T ⟨y10, y11, y12, h1, h2⟩ => by
      subst h1 h2
      have hm : ∀ x ∈ ([pp, .tup [], .non, .str [], .int 0, .int 1, .int 2, .int 3, .int (0 - 1), .bl true, .bl false, .str [49], .tup [.int 1], .lst [], .int (dif l % 3), .int 4, .int 5] : List PV), smP x = true ∧ dpt x ≤ 3 := fun x hx => by
        simp only [List.mem_cons, List.not_mem_nil, or_false] at hx
        rcases hx with rfl | rfl | rfl | rfl | rfl | rfl | rfl | rfl | rfl | rfl | rfl | rfl | rfl | rfl | rfl | rfl | rfl
        · exact hq
        all_goals exact ⟨rfl, by simp [dpt, dpts]⟩
      obtain ⟨q1, q2⟩ := hm _ (List.getElem_mem hi)
      obtain ⟨y11', y12', e⟩ := zB_s (x0 := x0) (l := l) (p := p) (S := T) (e3 := e3) (e4 := e4) (e5 := e5) (e6 := e6) (e8 := e8) (e9 := some pp) (e11 := y11) (e12 := y12) (e13 := e13) c q1 q2
      exact ⟨_, _, _, SetP.eq, e, ⟨_, _, _, rfl, rfl⟩⟩) (env := fE x0 l (rs9 l) e3 e4 e5 e6 (some (.lst [cR l, cN l])) e8 (some pp) e10 e11 e12 e13) (S := S) ⟨_, _, _, rfl, rfl⟩
  have hi : isP pp = true := by
    cases pp with
    | ref => cases hq.1
    | _ => rfl
  haveI : IsPV pp True := ⟨fun _ => hi⟩
  refine ⟨y10, y11, y12, sfor_ev ?_ g⟩
  simp
/-- what is no claim -/
abbrev oL (l w : List Nat) : List PV := [.tup [.str w], .tup [.str w, .str l, .int 0], .lst [.str w, .str l], .tup [.str w, .str []], .tup [.str w, .str (repL l (25 : Int).toNat)], .tup [.str w, .str (l ++ [120])], .tup [.str w, .non],
  .tup [.str wRs, .str l], .tup [.str w, .tup (l.map fun c => .str [c])], .tup [.str w, .int 0], .tup [.str w, .str [104]]]
theorem oL_no (c : Stp l) {w : List Nat} (hw : w = wR ∨ w = wN) : ∀ x ∈ oL l w, ∀ S, f_is_claim [x] S = .ok (.bl false) S := by
  have h0 := c.2.1
  have h1 := c.2.2
  have hr : (repL l (25 : Int).toNat).length = 25 * l.length := rep_leng l 25
  intro x hx S
  simp only [List.mem_cons, List.not_mem_nil, or_false] at hx
  rcases hx with rfl | rfl | rfl | rfl | rfl | rfl | rfl | rfl | rfl | rfl | rfl
  · exact cl_1 hw S
  · exact cl_3 hw S
  · exact cl_lst S
  · exact cl_one hw (by decide) (by decide) S
  · exact cl_one hw (fun q => by have := q.2.2; omega) (by omega) S
  · exact cl_one hw (fun q => by have := q.1 120 (by simp); omega) (by simp; omega) S
  · exact cl_ns hw (by decide) S
  · exact cl_rs S
  · exact cl_ns hw (by decide) S
  · exact cl_ns hw (by decide) S
  · exact cl_one hw (by decide) (by decide) S
theorem s11 (c : Stp l) : ∃ w, (w = wR ∨ w = wN) ∧ (sSeq z11 (sSeq z12 z13)) (fE x0 l e2 e3 e4 e5 e6 e7 (some (cP l p)) e9 e10 e11 e12 e13) S = .nx (fE x0 l e2 e3 e4 e5 e6 e7 (some (cP l p)) e9 e10 e11 e12 (some (.lst (oL l w)))) S := by
  have h0 := c.2.1
  have h1 := c.2.2
  cases p with
  | true =>
    refine ⟨wR, .inl rfl, ?_⟩
    show (sSeq z11 (sSeq z12 z13)) (fE x0 l e2 e3 e4 e5 e6 e7 (some (cR l)) e9 e10 e11 e12 e13) S = .nx (fE x0 l e2 e3 e4 e5 e6 e7 (some (cR l)) e9 e10 e11 e12 (some (.lst (oL l wR)))) S
    refine EvS.run ?_
    simp
    omega
  | false =>
    refine ⟨wN, .inr rfl, ?_⟩
    show (sSeq z11 (sSeq z12 z13)) (fE x0 l e2 e3 e4 e5 e6 e7 (some (cN l)) e9 e10 e11 e12 e13) S = .nx (fE x0 l e2 e3 e4 e5 e6 e7 (some (cN l)) e9 e10 e11 e12 (some (.lst (oL l wN)))) S
    refine EvS.run ?_
    simp
    omega
theorem s14 (c : Stp l) {w : List Nat} (hw : w = wR ∨ w = wN) {y : PV} : z14 (fE x0 l e2 e3 e4 e5 e6 e7 e8 (some y) e10 e11 e12 (some (.lst (oL l w)))) S = .ret (.bl true) S := by
  haveI : EvA (fLc (.nm 10) (iVal (eVar 13)) tYes' (eCall f_accepts (aCons (eVar 10) (aCons (eVar 9) aNil))) [10]) (fE x0 l e2 e3 e4 e5 e6 e7 e8 (some y) e10 e11 e12 (some (.lst (oL l w)))) S ((oL l w).map fun _ => .bl false) S True := ⟨fun _ =>
    lc_any (φ := fun x => x) (E := fun x => fE x0 l e2 e3 e4 e5 e6 e7 e8 (some y) (some x) e11 e12 (some (.lst (oL l w)))) (y := fun _ => .bl false) (by simp) fun x hx => ⟨rfl, S, call2 rfl rfl (acc_no (oL_no c hw x hx) _), List.take_length⟩⟩
  refine (EvS.run ?_).trans ?_ <;> simp
end
theorem sr_eq : f_law_steps_right = fnOf 2 14 (sSeq z1 (sSeq z2 (sSeq z3 (sSeq z4 (sSeq z5 (sSeq z6 (sSeq z7 (sSeq z8 (sSeq z9 (sSeq z10 (sSeq z11 (sSeq z12 (sSeq z13 z14))))))))))))) := rfl
theorem steps_right {n : Nat} {l : List Nat} {S : Sto} (k : Has n S) (c : Stp l) : ∃ S', f_law_steps_right [.ref n, .str l] S = .ok (.bl true) S' ∧ Dr n S S' := by
  haveI h : DecP (dif l % 3 = 0) (decide (dif l % 3 = 0)) := ⟨rfl⟩
  generalize decide (dif l % 3 = 0) = p at h
  have hb := on_ok (n := n) (l := [65, 66, 67]) (S := S) ⟨k, by simp, by simp⟩
  have d : Dr n S (dS n 99 (onS n [65, 66, 67] S)) := dS_dr (onS_dr (Dr.refl k))
  obtain ⟨y4, q4⟩ := s4 (x0 := .ref n) (l := l) (p := p) (S := S) (e3 := some (.lst [.bl p, .bl p])) (e4 := none) (e5 := none) (e6 := none) (e7 := none) (e8 := none) (e9 := none) (e10 := none) (e11 := none) (e12 := none) (e13 := none) c
  have q5 := s5 (l := l) (S := S) (e2 := rs9 l) (e3 := some (.lst [.bl p, .bl p])) (e4 := y4) (e5 := none) (e6 := none) (e7 := none) (e8 := none) (e9 := none) (e10 := none) (e11 := none) (e12 := none) (e13 := none) k
  generalize dS n 99 (onS n [65, 66, 67] S) = T at d q5
  generalize ((dI n 99 (onS n [65, 66, 67] S) : Nat) : Int) - 50 = z at q5
  obtain ⟨y10, y11, y12, q10⟩ := s10 (x0 := .ref n) (l := l) (p := p) (S := T) (e3 := some (.lst [.bl p, .bl p])) (e4 := y4) (e5 := some (.str [onC n [65, 66, 67] S])) (e6 := some (.int z)) (e8 := some (cP l p)) (e10 := none) (e11 := none) (e12 := none) (e13 := none) c
  obtain ⟨w, hw, q11⟩ := s11 (x0 := .ref n) (l := l) (p := p) (S := T) (e2 := rs9 l) (e3 := some (.lst [.bl p, .bl p])) (e4 := y4) (e5 := some (.str [onC n [65, 66, 67] S])) (e6 := some (.int z)) (e7 := some (.lst [cR l, cN l])) (e9 := some (pP l p)) (e10 := y10) (e11 := y11) (e12 := y12) (e13 := none) c
  refine ⟨T, ?_, d⟩
  rw [sr_eq]
  refine fn_st rfl ((seq_nx s1).trans ((seq_nx (s2 c)).trans ((seq_nx s3).trans ((seq_nx q4).trans ((seq_nx q5).trans ((seq_nx (s6 (abc_in.mp hb))).trans ((seq_nx s7).trans ((seq_nx (s8 (p := p) c)).trans ((seq_nx (s9 c)).trans ((seq_nx q10).trans ((seq3 q11).trans (s14 c hw)))))))))))) ?_
  rw [z_out_ret, z_out_bl, d.take]
end Lw

set_option synthInstance.maxSize 1000000
set_option synthInstance.maxHeartbeats 0
namespace Lw
open Pv L2
def Mk (l : List Nat) : Prop := ∀ c ∈ l, c = 104 ∨ c = 99
/-- a row of marks to be rolled off -/
def Row (r : List Nat) : Prop := Mk r ∧ 1 ≤ r.length ∧ r.length ≤ 8
structure UnR (r : List Nat) : Prop where
  stop : stopB r (cntP r - 1) = true
  go : ∀ i, i < cntP r - 1 → stopB r i = false
  sg : Sg (sqn r (cntP r - 1))
  cls : Cls (unr r)
  mks : rmk (unr r) = (repL r 24).take (cntP r - 1 + 1)
  c0 : 1 ≤ cntP r
  c1 : cntP r ≤ 24
theorem Row.un {r : List Nat} (h : Row r) : UnR r := by
  have h1 := h.2.1
  have h2 := h.2.2
  have c := chk_all ⟨r.length - 1, by omega⟩ r (by
    show r ∈ rowsN (r.length - 1 + 1)
    rw [show r.length - 1 + 1 = r.length by omega]
    exact rowsN_mem r h.1)
  unfold chk at c
  simp only [Bool.and_eq_true, Bool.or_eq_true, decide_eq_true_eq, Bool.not_eq_true'] at c
  obtain ⟨⟨⟨⟨⟨c1, c2⟩, c3⟩, c4⟩, c5⟩, c6⟩ := c
  have hc : cntP r = r.length ∨ cntP r = 2 * r.length ∨ cntP r = 3 * r.length := by
    unfold cntP
    split
    · exact .inr (.inl rfl)
    · split
      · exact .inl rfl
      · exact .inr (.inr rfl)
  refine ⟨c1, fun i hi => ?_, c4, c5, c6, by omega, by omega⟩
  by_cases hm : (i + 1) % r.length = 0
  · obtain ⟨q, hq⟩ := Nat.dvd_of_mod_eq_zero hm
    have q0 : q = 1 ∨ q = 2 := by
      have : q < 3 := by
        have : r.length * q < r.length * 3 := by omega
        exact Nat.lt_of_mul_lt_mul_left this
      have : q ≠ 0 := fun e => by subst e; omega
      omega
    rcases q0 with rfl | rfl
    · have e : i = r.length - 1 := by omega
      subst e
      rcases c2 with c2 | c2
      · omega
      · exact c2
    · have e : i = 2 * r.length - 1 := by omega
      subst e
      rcases c3 with c3 | c3
      · omega
      · exact c3
  · unfold stopB
    rw [decide_eq_false (p := ((i : Int) + 1) % (r.length : Nat) = 0) (fun e => hm (by exact_mod_cast e))]
    rfl
theorem sqn_in (r : List Nat) : ∀ n, Sg (sqn r n)
  | 0 => fun c hc => .inl (List.mem_singleton.mp hc)
  | n + 1 => by
    have ih := sqn_in r n
    intro c hc
    rcases List.mem_append.mp hc with hc | hc
    · exact ih c hc
    · rw [List.mem_singleton.mp hc]
      have hg : gi (sqn r n) (-1) = 43 ∨ gi (sqn r n) (-1) = 45 := by
        rw [gi_last (by rw [sqn_len]; omega)]
        exact ih _ (List.getElem_mem _)
      unfold nxz
      split
      · exact hg
      · split
        · exact .inr rfl
        · exact .inl rfl
instance {s r : List Nat} {a : Int} {S : Sto} : EvF f_law_next [.str s, .str r, .int a] S (.str [nxz r s a]) S (0 < s.length ∧ 0 < r.length) := ⟨fun h => by
  have h0 := Int.emod_nonneg a (show ((r.length : Nat) : Int) ≠ 0 by omega)
  have h1 := Int.emod_lt_of_pos a (show (0 : Int) < ((r.length : Nat) : Int) by omega)
  unfold f_law_next nxz
  by_cases q : gi r (a % (r.length : Nat)) = 99
  · haveI : DecP (([gi r (a % (r.length : Nat))] : List Nat) = [99]) true := ⟨decide_eq_true (by rw [q])⟩
    rw [if_pos q]
    exact ev_fn rfl (by simp; omega)
  · haveI : DecP (([gi r (a % (r.length : Nat))] : List Nat) = [99]) false := ⟨decide_eq_false fun e => q (by simpa using e)⟩
    rw [if_neg q]
    by_cases q2 : gi s (-1) = 43
    · haveI : DecP (([gi s (-1)] : List Nat) = [43]) true := ⟨decide_eq_true (by rw [q2])⟩
      rw [if_pos q2]
      exact ev_fn rfl (by simp; omega)
    · haveI : DecP (([gi s (-1)] : List Nat) = [43]) false := ⟨decide_eq_false fun e => q2 (by simpa using e)⟩
      rw [if_neg q2]
      exact ev_fn rfl (by simp; omega)⟩
instance {c : Nat} {S : Sto} : EvF f_other_step [.str [c]] S (.str [if c = 43 then 45 else 43]) S True := ⟨fun _ => by
  unfold f_other_step
  by_cases q2 : c = 43
  · haveI : DecP (([c] : List Nat) = [43]) true := ⟨decide_eq_true (by rw [q2])⟩
    rw [if_pos q2]
    exact ev_fn rfl (by simp)
  · haveI : DecP (([c] : List Nat) = [43]) false := ⟨decide_eq_false fun e => q2 (by simpa using e)⟩
    rw [if_neg q2]
    exact ev_fn rfl (by simp)⟩
abbrev smB : FS := (sSet 2 (eBin oAdd (eVar 2) (eIf (toT (eBin oEq (eBin oIx (eVar 0) (eBin oMod (eVar 3) (eCall bLen (aCons (eVar 0) aNil)))) (eCon (.str [104])))) (eCall f_other_step (aCons (eBin oIx (eVar 2) (eNeg (eCon (.int 1)))) aNil)) (eBin oIx (eVar 2) (eNeg (eCon (.int 1)))))))
theorem smB_s {r : List Nat} (h : Row r) {i : Nat} (hi : i < 100) {x1 : PV} {S : Sto} : smB [some (.str r), some x1, some (.str (sqn r i)), some (.int (1 + (i : Nat)))] S = .nx [some (.str r), some x1, some (.str (sqn r (i + 1))), some (.int (1 + (i : Nat)))] S := by
  have hl := sqn_len r i
  have hr := h.2.1
  have h0 := Int.emod_nonneg (1 + (i : Int)) (show ((r.length : Nat) : Int) ≠ 0 by omega)
  have h1 := Int.emod_lt_of_pos (1 + (i : Int)) (show (0 : Int) < ((r.length : Nat) : Int) by omega)
  have hm : gi r ((1 + (i : Int)) % (r.length : Nat)) = 104 ∨ gi r ((1 + (i : Int)) % (r.length : Nat)) = 99 := by
    obtain ⟨j, hj⟩ : ∃ j : Nat, (1 + (i : Int)) % (r.length : Nat) = (j : Nat) := ⟨_, (Int.toNat_of_nonneg h0).symm⟩
    rw [hj, gi_nat (by omega)]
    exact h.1 _ (List.getElem_mem _)
  have e : sqn r (i + 1) = sqn r i ++ [nxz r (sqn r i) ((i : Nat) + 1)] := rfl
  rw [e, show ((i : Nat) : Int) + 1 = 1 + (i : Nat) by omega]
  unfold nxz
  rcases hm with q | q
  · haveI : DecP (([gi r ((1 + (i : Int)) % (r.length : Nat))] : List Nat) = [104]) true := ⟨decide_eq_true (by rw [q])⟩
    rw [if_neg (by omega)]
    exact EvS.run (by simp; omega)
  · haveI : DecP (([gi r ((1 + (i : Int)) % (r.length : Nat))] : List Nat) = [104]) false := ⟨decide_eq_false (by rw [q]; decide)⟩
    rw [if_pos q]
    exact EvS.run (by simp; omega)
instance {r : List Nat} {n : Int} {S : Sto} : EvF f_steps_of_marks [.str r, .int n] S (.str (sqn r (n - 1).toNat)) S (Row r ∧ 1 ≤ n ∧ n ≤ 90) := ⟨fun h => by
  obtain ⟨e', S', g, ⟨x, rfl, rfl⟩⟩ := for_r (p := .nm 3) (body := smB) (m := (n - 1).toNat) (φ := fun k : Nat => .int (1 + (k : Nat)))
    (fun i env T => ∃ x, env = [some (PV.str r), some (.int n), some (.str (sqn r i)), x] ∧ T = S) (fun i hi env T ⟨x, h1, h2⟩ => by
      subst h1 h2
      exact ⟨_, _, _, SetP.eq, smB_s h.1 (by omega), ⟨_, rfl, rfl⟩⟩) (env := [some (PV.str r), some (.int n), some (.str [43]), none]) (S := S) ⟨none, rfl, rfl⟩
  haveI i1 := EvS.mk (C := True) fun _ => sfor_ev (p := .nm 3) (it := iRg (aCons (eCon (.int 1)) (aCons (eVar 1) aNil))) (body := smB) (by simp; omega) g
  unfold f_steps_of_marks
  exact ev_fn rfl (by simp)⟩
instance {r : List Nat} {S : Sto} : EvF f_unrolled_count_of [.str r] S (.int (cntP r : Nat)) S (Row r) := ⟨fun h => by
  have h1 := h.2.1
  have h2 := h.2.2
  have hl := sqn_len r (r.length - 1)
  have hg := sqn_in r (r.length - 1)
  have e : (((r.length : Nat) : Int) - 1).toNat = r.length - 1 := by omega
  unfold f_unrolled_count_of cntP
  by_cases q : r.count 104 % 2 = 1
  · haveI : DecP (((r.count 104 : Nat) : Int) % 2 = 1) true := ⟨decide_eq_true (by omega)⟩
    rw [if_pos q]
    exact (ev_fn rfl (by simp [mulOk_l (i := 2) (j := (r.length : Int)) (by decide)])).trans (by simp)
  · haveI : DecP (((r.count 104 : Nat) : Int) % 2 = 1) false := ⟨decide_eq_false (by omega)⟩
    rw [if_neg q]
    by_cases q2 : dif (sqn r (r.length - 1)) % 3 = 0
    · haveI : DecP (dif (sqn r (((r.length : Nat) : Int) - 1).toNat) % 3 = 0) true := ⟨decide_eq_true (by rw [e]; exact q2)⟩
      rw [if_pos q2]
      exact ev_fn rfl (by simp [e, h, hg, hl]; omega)
    · haveI : DecP (dif (sqn r (((r.length : Nat) : Int) - 1).toNat) % 3 = 0) false := ⟨decide_eq_false (by rw [e]; exact q2)⟩
      rw [if_neg q2]
      exact (ev_fn rfl (by simp [e, h, hg, hl, mulOk_l (i := 3) (j := (r.length : Int)) (by decide)]; omega)).trans (by simp)⟩
end Lw

set_option synthInstance.maxSize 1000000
set_option synthInstance.maxHeartbeats 0
namespace Lw
open Pv L2
instance {r : List Nat} {S : Sto} : EvF f_check_marks [.str r, .int 1, .int 8] S .non S (Row r) := ⟨fun h => by
  have h1 := h.2.1
  have h2 := h.2.2
  have e : f_are_marks [.str r, .int 1, .int 8] S = .ok (.bl true) S := by
    unfold f_are_marks
    refine (ev_fn rfl ?_).trans ?_
    · simp
      omega
    · congr 2
      rw [Bool.eq_iff_iff]
      simp
      exact ⟨h.1, by omega⟩
  haveI : EvF f_are_marks [.str r, .int 1, .int 8] S (.bl true) S True := ⟨fun _ => e⟩
  unfold f_check_marks
  exact ev_fn rfl (by simp)⟩
instance {r : List Nat} {S : Sto} : EvF f_unrolled_by [.str r] S (.str (unr r)) S (Row r) := ⟨fun h => by
  have u := h.un
  have u0 := u.c0
  have u1 := u.c1
  have e : (((cntP r : Nat) : Int) - 1).toNat = cntP r - 1 := by omega
  have hln := sqn_len r (cntP r - 1)
  have hd : (sqn r (cntP r - 1)).dropLast.length = cntP r - 1 := by rw [List.length_dropLast, hln]; omega
  obtain ⟨e', S', g, ⟨x, rfl, rfl⟩⟩ := for_l (p := .nm 2) (body := sSet 1 (eBin oAdd (eVar 1) (eCall f_further (aCons (eBin oIx (eVar 1) (eNeg (eCon (.int 1)))) (aCons (eCall f_worth (aCons (eVar 2) aNil)) aNil))))) (xs := (sqn r (cntP r - 1)).dropLast) (φ := fun c => .str [c])
    (fun i env T => ∃ x, env = [some (PV.str r), some (.str (led 65 ((sqn r (cntP r - 1)).dropLast.take i))), x] ∧ T = S) (fun i hi env T ⟨x, h1, h2⟩ => by
      subst h1 h2
      have h65 : Lt 65 := .inl rfl
      generalize (sqn r (cntP r - 1)).dropLast = l at hi hd ⊢
      have hn := led_ne 65 (l.take i)
      have hln := led_len 65 (l.take i)
      rw [List.length_take] at hln
      have e : led 65 (l.take (i + 1)) = led 65 (l.take i) ++ [fu ((led 65 (l.take i)).getLast hn) (if l[i] = 43 then 1 else 2)] := by
        rw [List.take_succ, List.getElem?_eq_getElem hi]
        exact led_snoc 65 (l.take i) l[i]
      have eg : gi (led 65 (l.take i)) (-1) = (led 65 (l.take i)).getLast hn := by
        rw [gi_last (by omega), List.getLast_eq_getElem]
      refine ⟨_, _, _, SetP.eq, EvS.run ?_, ⟨some (PV.str [l[i]]), ?_, rfl⟩⟩
      · simp
        rw [eg]
        exact ⟨⟨by omega, led_lt h65 _ _ (List.getLast_mem hn)⟩, by omega⟩
      · rw [e, eg, wor_fu]) (env := [some (PV.str r), some (.str [65]), none]) (S := S) ⟨none, rfl, rfl⟩
  rw [List.take_length] at g
  haveI i1 := EvS.mk (C := True) fun _ => sfor_ev (p := .nm 2) (r := .nx [some (PV.str r), some (.str (led 65 (sqn r (cntP r - 1)).dropLast)), x] S') (env := [some (PV.str r), some (.str [gi [65, 66, 67] 0]), none]) (it := iVal (eSl (eCall f_steps_of_marks (aCons (eVar 0) (aCons (eCall f_unrolled_count_of (aCons (eVar 0) aNil)) aNil))) oNone (oSome (eNeg (eCon (.int 1)))))) (body := sSet 1 (eBin oAdd (eVar 1) (eCall f_further (aCons (eBin oIx (eVar 1) (eNeg (eCon (.int 1)))) (aCons (eCall f_worth (aCons (eVar 2) aNil)) aNil))))) (by simp [h]; try omega) ((by rw [e, cut_init]; exact g) : forGo _ _ ((cut (sqn r (((cntP r : Nat) : Int) - 1).toNat) none (some (-1))).map fun c => .str [c]) _ _ = _)
  unfold f_unrolled_by
  exact ev_fn rfl (by simp)⟩
instance {r : List Nat} {S : Sto} : EvF f_unrolled [.str r] S (.str (unr r)) S (Row r) := ⟨fun h => by unfold f_unrolled; exact ev_fn rfl (by simp [h])⟩
instance {r : List Nat} {S : Sto} : EvF f_unrolled_count [.str r] S (.int (cntP r : Nat)) S (Row r) := ⟨fun h => by unfold f_unrolled_count; exact ev_fn rfl (by simp [h])⟩
abbrev u1 : FS := (sSet 1 (eMeth "str" bJoin (eCon (.str [])) (aCons (eFrz (fLc (.nm 2) (iRg (aCons (eBin oAdd (eCon (.int 1)) (eCall f_law_draw (aCons (eVar 0) (aCons (eCon (.int 8)) aNil)))) aNil)) tYes' (eCall f_law_one (aCons (eVar 0) (aCons (eCon (.str [104, 99])) aNil))) [2])) aNil)))
abbrev u2 : FS := (sPar3 3 4 5 (aCons (eCon (.str [43])) (aCons (eCall bLen (aCons (eVar 1) aNil)) (aCons (eCon (.int 1)) aNil))))
abbrev u3 : FS := (whileGo (tOr' (toT (eBin oGt (eBin oMod (eVar 5) (eVar 4)) (eCon (.int 0)))) (tOr' (toT (eBin oGt (eBin oMod (eBin oSub (eMeth "str" bCount (eVar 3) (aCons (eCon (.str [43])) aNil)) (eMeth "str" bCount (eVar 3) (aCons (eCon (.str [45])) aNil))) (eCon (.int 3))) (eCon (.int 0)))) (toT (eBin oNe (eCall f_law_next (aCons (eVar 3) (aCons (eVar 1) (aCons (eVar 5) aNil)))) (eCon (.str [43])))))) (sSeq (sSet 3 (eBin oAdd (eVar 3) (eCall f_law_next (aCons (eVar 3) (aCons (eVar 1) (aCons (eVar 5) aNil)))))) (sSet 5 (eBin oAdd (eVar 5) (eCon (.int 1))))) 20001)
abbrev u4 : FS := (sSet 6 (eCall f_law_by (aCons (eCon (.str [65])) (aCons (eSl (eVar 3) oNone (oSome (eNeg (eCon (.int 1))))) aNil))))
abbrev u5 : FS := (sSet 7 (eFrz (lDisp (aCons (eCall f_unrolled (aCons (eVar 1) aNil)) (aCons (eCallK f_unrolled 1 [0] (aCons (eVar 1) aNil)) (aCons (eCall f_unrolled_count (aCons (eVar 1) aNil)) (aCons (eCall f_round_marks (aCons (eVar 6) aNil)) (aCons (eCall f_h_count (aCons (eVar 6) aNil)) aNil))))))))
abbrev u6 : FS := (sSet 8 (eSl (eBin oMul (eVar 1) (eCon (.int 24))) oNone (oSome (eCall bLen (aCons (eVar 3) aNil)))))
abbrev u7 : FS := (sRet (eCall (f_law_same 8) (aCons (eVar 7) (aCons (eFrz (lDisp (aCons (eVar 6) (aCons (eVar 6) (aCons (eCall bLen (aCons (eVar 6) aNil)) (aCons (eVar 8) (aCons (eMeth "str" bCount (eVar 8) (aCons (eCon (.str [104])) aNil)) aNil))))))) aNil))))
abbrev uC : FA := (fLc (.nm 2) (iRg (aCons (eBin oAdd (eCon (.int 1)) (eCall f_law_draw (aCons (eVar 0) (aCons (eCon (.int 8)) aNil)))) aNil)) tYes' (eCall f_law_one (aCons (eVar 0) (aCons (eCon (.str [104, 99])) aNil))) [2])
abbrev uE (x0 : PV) (e1 e2 e3 e4 e5 e6 e7 e8 : Option PV) : VEnv := [some x0, e1, e2, e3, e4, e5, e6, e7, e8]
theorem u1_s {n : Nat} {S : Sto} (k : Has n S) {e3 e4 e5 e6 e7 e8 : Option PV} : ∃ r S', u1 (uE (.ref n) none none e3 e4 e5 e6 e7 e8) S = .nx (uE (.ref n) (some (.str r)) none e3 e4 e5 e6 e7 e8) S' ∧ Dr n S S' ∧ Row r := by
  have hd := d_ok (n := n) (m := 8) (S := S) ⟨k, by decide, by decide⟩
  obtain ⟨cs, S4, q4, d4, l4, t4⟩ := lc_draw (p := .nm 2) (elt := eCall f_law_one (aCons (eVar 0) (aCons (eCon (.str [104, 99])) aNil))) (φ := fun k : Nat => .int (k : Nat)) (T := fun c => c ∈ ([104, 99] : List Nat)) (n := n) (n0 := (dS n 8 S).length)
    (env := uE (.ref n) none none e3 e4 e5 e6 e7 e8) (E := fun k : Nat => uE (.ref n) none (some (.int (k : Nat))) e3 e4 e5 e6 e7 e8) (List.range (1 + (dI n 8 S : Nat) : Int).toNat) (dS n 8 S) (by simp [k]) rfl (fun x => rfl) (fun x T kT => by
      obtain ⟨c, T', e, dd, hc⟩ := law_one_s kT (l := [104, 99]) (by simp) (by simp)
      exact ⟨c, T', call2 rfl rfl e, dd, hc⟩)
  rw [List.length_range] at l4
  haveI i3 : EvA uC (uE (.ref n) none none e3 e4 e5 e6 e7 e8) S (cs.map fun c => .str [c]) S4 True := ⟨fun _ => by
    have q1 : iRg (aCons (eBin oAdd (eCon (.int 1)) (eCall f_law_draw (aCons (eVar 0) (aCons (eCon (.int 8)) aNil)))) aNil) (uE (.ref n) none none e3 e4 e5 e6 e7 e8) S = .ok ((List.range (1 + (dI n 8 S : Nat) : Int).toNat).map fun k => .int (k : Nat)) (dS n 8 S) := EvI.run (by simp [k]; omega)
    unfold uC
    rw [z_lc, q1, zb, if_pos (by rw [List.length_map, List.length_range]; exact Nat.lt_of_le_of_lt (show (1 + (dI n 8 S : Nat) : Int).toNat ≤ 24 by omega) (by decide))]
    exact q4⟩
  have d : Dr n S S4 := (dS_dr (Dr.refl k)).trans d4
  refine ⟨cs, S4, (EvS.run ?_).trans ?_, d, fun c hc => by simpa using t4 c hc, by omega, by omega⟩
  · simp
    exact Nat.le_trans (by omega) (show 8 ≤ 16777216 by decide)
  · simp

abbrev uW : FT := (tOr' (toT (eBin oGt (eBin oMod (eVar 5) (eVar 4)) (eCon (.int 0)))) (tOr' (toT (eBin oGt (eBin oMod (eBin oSub (eMeth "str" bCount (eVar 3) (aCons (eCon (.str [43])) aNil)) (eMeth "str" bCount (eVar 3) (aCons (eCon (.str [45])) aNil))) (eCon (.int 3))) (eCon (.int 0)))) (toT (eBin oNe (eCall f_law_next (aCons (eVar 3) (aCons (eVar 1) (aCons (eVar 5) aNil)))) (eCon (.str [43]))))))
abbrev uB : FS := (sSeq (sSet 3 (eBin oAdd (eVar 3) (eCall f_law_next (aCons (eVar 3) (aCons (eVar 1) (aCons (eVar 5) aNil)))))) (sSet 5 (eBin oAdd (eVar 5) (eCon (.int 1)))))
abbrev wE (x0 : PV) (r : List Nat) (j : Nat) (e6 e7 e8 : Option PV) : VEnv := [some x0, some (.str r), none, some (.str (sqn r j)), some (.int (r.length : Nat)), some (.int ((j : Nat) + 1)), e6, e7, e8]
section
variable {r : List Nat} {S : Sto} {x0 : PV} {e3 e4 e5 e6 e7 e8 : Option PV}
theorem u2_s : u2 (uE x0 (some (.str r)) none e3 e4 e5 e6 e7 e8) S = .nx (wE x0 r 0 e6 e7 e8) S := EvS.run (by simp)
theorem w_test (h : Row r) (j : Nat) : uW (wE x0 r j e6 e7 e8) S = .ok (!stopB r j) S := by
  have hr := h.2.1
  have hl := sqn_len r j
  have m0 := Int.emod_nonneg ((j : Int) + 1) (show ((r.length : Nat) : Int) ≠ 0 by omega)
  have m1 := Int.emod_nonneg (dif (sqn r j)) (show (3 : Int) ≠ 0 by decide)
  refine (EvT.run ?_).trans ?_
  · simp
    omega
  · congr 1
    rw [Bool.eq_iff_iff]
    unfold stopB
    simp
    show _ ↔ _
    have : dif (sqn r j) % 3 = (((sqn r j).count 43 : Nat) - ((sqn r j).count 45 : Nat) : Int) % 3 := rfl
    rw [← this]
    constructor
    · rintro (q | q | q)
      · exact .inl (by omega)
      · exact .inr (.inl (by omega))
      · exact .inr (.inr q)
    · rintro (q | q | q)
      · exact .inl (by omega)
      · exact .inr (.inl (by omega))
      · exact .inr (.inr q)
theorem w_step (h : Row r) (j : Nat) (hj : j < 100) : uB (wE x0 r j e6 e7 e8) S = .nx (wE x0 r (j + 1) e6 e7 e8) S := by
  have hr := h.2.1
  have hl := sqn_len r j
  refine (EvS.run ?_).trans ?_
  · simp
    omega
  · rfl
theorem w_all (h : Row r) {N : Nat} (hN : N < 100) (stop : stopB r N = true) (go : ∀ i, i < N → stopB r i = false) : ∀ k j, j + k = N → ∀ f, k < f → whileGo uW uB f (wE x0 r j e6 e7 e8) S = .nx (wE x0 r N e6 e7 e8) S
  | 0, j, e, f + 1, _ => by
    have e : j = N := by omega
    subst e
    unfold whileGo
    rw [w_test h j, stop]
    rfl
  | k + 1, j, e, f + 1, hf => by
    unfold whileGo
    rw [w_test h j, go j (by omega), zbS, Bool.not_false, if_pos rfl, w_step h j (by omega)]
    exact w_all h hN stop go k (j + 1) (by omega) f (by omega)
end
end Lw

set_option synthInstance.maxSize 1000000
set_option synthInstance.maxHeartbeats 0
namespace Lw
open Pv L2
section
variable {r : List Nat} {S : Sto} {x0 : PV} {e1 e2 e3 e4 e5 e6 e7 e8 : Option PV}
theorem unr_len (h : Row r) : (unr r).length = cntP r := by
  have u0 := h.un.c0
  unfold unr
  rw [led_len, List.length_dropLast, sqn_len]
  omega
theorem u4_s (h : Row r) : u4 (uE x0 (some (.str r)) e2 (some (.str (sqn r (cntP r - 1)))) e4 e5 e6 e7 e8) S = .nx (uE x0 (some (.str r)) e2 (some (.str (sqn r (cntP r - 1)))) e4 e5 (some (.str (unr r))) e7 e8) S := by
  have u1 := h.un.c1
  have hl := sqn_len r (cntP r - 1)
  have hd : (sqn r (cntP r - 1)).dropLast.length = cntP r - 1 := by rw [List.length_dropLast, hl]; omega
  have h65 : Lt 65 := .inl rfl
  refine (EvS.run ?_).trans ?_
  · simp [cut_init, h65]
    omega
  · rw [cut_init]
    rfl
abbrev mkR (r : List Nat) : List Nat := rmk (unr r)
theorem u5_s (h : Row r) : u5 (uE x0 (some (.str r)) e2 e3 e4 e5 (some (.str (unr r))) e7 e8) S = .nx (uE x0 (some (.str r)) e2 e3 e4 e5 (some (.str (unr r))) (some (.lst [.str (unr r), .str (unr r), .int (cntP r : Nat), .str (mkR r), .int (((mkR r).count 104 : Nat) : Int)])) e8) S := by
  have c := h.un.cls
  exact EvS.run (by simp [h, c])
theorem u6_s (h : Row r) : u6 (uE x0 (some (.str r)) e2 (some (.str (sqn r (cntP r - 1)))) e4 e5 e6 e7 e8) S = .nx (uE x0 (some (.str r)) e2 (some (.str (sqn r (cntP r - 1)))) e4 e5 e6 e7 (some (.str (mkR r)))) S := by
  have u1 := h.un.mks
  have h2 := h.2.2
  have hl := sqn_len r (cntP r - 1)
  refine (EvS.run ?_).trans ?_
  · simp
    omega
  · rw [hl, cut_take, show mkR r = rmk (unr r) from rfl, u1]
    rfl
theorem u7_s (h : Row r) : u7 (uE x0 e1 e2 e3 e4 e5 (some (.str (unr r))) (some (.lst [.str (unr r), .str (unr r), .int (cntP r : Nat), .str (mkR r), .int (((mkR r).count 104 : Nat) : Int)])) (some (.str (mkR r)))) S = .ret (.bl true) S := by
  have hl := unr_len h
  refine (EvS.run ?_).trans ?_
  · simp [hl]
  · rfl
end
theorem ur_eq : f_law_unrolled_right = fnOf 1 9 (sSeq u1 (sSeq u2 (sSeq (whileGo uW uB 20001) (sSeq u4 (sSeq u5 (sSeq u6 u7)))))) := rfl
theorem unrolled_right {n : Nat} {S : Sto} (k : Has n S) : ∃ S', f_law_unrolled_right [.ref n] S = .ok (.bl true) S' ∧ Dr n S S' := by
  obtain ⟨r, T, q1, d, h⟩ := u1_s (n := n) (S := S) (e3 := none) (e4 := none) (e5 := none) (e6 := none) (e7 := none) (e8 := none) k
  have u1 := h.un.c1
  have q3 := w_all (x0 := .ref n) (S := T) (e6 := none) (e7 := none) (e8 := none) h (show cntP r - 1 < 100 by omega) h.un.stop h.un.go (cntP r - 1) 0 (by omega) 20001 (by omega)
  refine ⟨T, ?_, d⟩
  rw [ur_eq]
  refine fn_st rfl ((seq_nx q1).trans ((seq_nx u2_s).trans ((seq_nx q3).trans ((seq_nx (u4_s h)).trans ((seq_nx (u5_s h)).trans ((seq_nx (u6_s h)).trans (u7_s h))))))) ?_
  rw [z_out_ret, z_out_bl, d.take]
end Lw

set_option synthInstance.maxSize 1000000
set_option synthInstance.maxHeartbeats 0
namespace Lw
open Pv L2
abbrev la1 : FS := (sSet 4 (eCall f_law_round_steps (aCons (eCall f_law_closed (aCons (eVar 2) (aCons (eCon (.int 2)) (aCons (eCall f_law_one (aCons (eVar 2) (aCons (eFrz (lDisp (aCons (eCon (.int 4)) (aCons (eCon (.int 9)) (aCons (eCon (.int 24)) aNil))))) aNil))) aNil)))) aNil)))
abbrev la2 : FS := (sIf (toT (eBin oEq (eCall f_law_draw (aCons (eVar 2) (aCons (eCon (.int 2)) aNil))) (eCon (.int 0)))) (sSeq (sSet 5 (eCall f_law_draw (aCons (eVar 2) (aCons (eCall bLen (aCons (eVar 4) aNil)) aNil)))) (sSet 4 (eBin oAdd (eBin oAdd (eSl (eVar 4) oNone (oSome (eVar 5))) (eCall f_law_one (aCons (eVar 2) (aCons (eCon (.str [43, 45])) aNil)))) (eSl (eVar 4) (oSome (eBin oAdd (eVar 5) (eCon (.int 1)))) oNone)))) sNil)
abbrev la3 : FS := (sIf (toT (eBin oEq (eCall f_law_draw (aCons (eVar 2) (aCons (eCon (.int 8)) aNil))) (eCon (.int 0)))) (sSet 4 (eCall f_law_one (aCons (eVar 2) (aCons (eCon (.str [43, 45])) aNil)))) sNil)
abbrev la4 : FS := (sIf (tOr' (tNot' (toT (eCall f_law_steps_right (aCons (eVar 2) (aCons (eVar 4) aNil))))) (tNot' (toT (eCall f_law_unrolled_right (aCons (eVar 2) aNil))))) (sRet (eCon (.bl false))) sNil)
abbrev laB : FS := sSeq la1 (sSeq la2 (sSeq la3 la4))
abbrev laO : FS := sSeq (sSet 2 (eCall f_law_bag (aCons (eVar 0) (aCons (eVar 1) aNil)))) (sFor (.nm 3) (iRg (aCons (eCon (.int 10)) aNil)) laB)
theorem la_eq : f_law = fnOf 1 6 (sSeq (sFor (.nm 1) (iRg (aCons (eCall bMax2 (aCons (eCon (.int 2)) (aCons (eCall bMin2 (aCons (eCall bLen (aCons (eVar 0) aNil)) (aCons (eCon (.int 5)) aNil))) aNil))) aNil)) laO) (sRet (eCon (.bl true)))) := rfl
abbrev lwE (ns : List Int) (x1 : Option PV) (n : Nat) (x3 : Option PV) (l : List Nat) (x5 : Option PV) : VEnv := [some (.scr ns), x1, some (.ref n), x3, some (.str l), x5]
theorem stp_one {c : Nat} (h : c ∈ ([43, 45] : List Nat)) : Stp [c] := ⟨fun x hx => by rw [List.mem_singleton.mp hx]; simpa using h, by simp, by simp⟩
theorem stp_set {l : List Nat} (h : Stp l) {k : Nat} (hk : k < l.length) {c : Nat} (hc : c ∈ ([43, 45] : List Nat)) : Stp (cut l none (some (k : Int)) ++ [c] ++ cut l (some ((k : Nat) + 1)) none) := by
  rw [cut_take, show ((k : Nat) : Int) + 1 = ((k + 1 : Nat) : Int) by omega, cut_drop]
  refine ⟨fun x hx => ?_, ?_, ?_⟩
  · simp only [List.mem_append, List.mem_singleton] at hx
    rcases hx with (hx | rfl) | hx
    · exact h.1 x (List.mem_of_mem_take hx)
    · simpa using hc
    · exact h.1 x (List.mem_of_mem_drop hx)
  · simp
    omega
  · have := h.2.2
    simp
    omega
theorem rst_stp {l : List Nat} (h : Cls l) : Stp (rst l) := by
  refine ⟨fun c hc => ?_, by rw [rst_len]; exact h.pos, by rw [rst_len]; exact h.1.2.2.1⟩
  obtain ⟨i, hi⟩ := List.getElem?_of_mem hc
  unfold rst at hi
  rw [zz_get] at hi
  split at hi
  · cases hi
    unfold stp
    split <;> simp
  · cases hi
theorem la2_s {ns : List Int} {x1 x3 x5 : Option PV} {n : Nat} {l : List Nat} {T : Sto} (k : Has n T) (c : Stp l) : ∃ l' y5 T', la2 (lwE ns x1 n x3 l x5) T = .nx (lwE ns x1 n x3 l' y5) T' ∧ Dr n T T' ∧ Stp l' := by
  have h0 := c.2.1
  have h1 := c.2.2
  by_cases hd : ((dI n 2 T : Nat) : Int) = 0
  · haveI : DecP (((dI n 2 T : Nat) : Int) = 0) true := ⟨decide_eq_true hd⟩
    have kd := d_ok (n := n) (m := (l.length : Nat)) (S := dS n 2 T) ⟨by simp [k], by omega, by omega⟩
    have hc := on_ok (n := n) (l := [43, 45]) (S := dS n (l.length : Nat) (dS n 2 T)) ⟨by simp [k], by simp, by simp⟩
    have q := stp_set c (k := dI n (l.length : Nat) (dS n 2 T)) (by omega) hc
    refine ⟨_, _, _, EvS.run ?_, onS_dr (dS_dr (dS_dr (Dr.refl k))), q⟩
    have q1 := cut_le l none (some ((dI n (l.length : Nat) (dS n 2 T) : Nat) : Int))
    have q2 := cut_le l (some ((dI n (l.length : Nat) (dS n 2 T) : Nat) + 1 : Int)) none
    simp [k]
    omega
  · haveI : DecP (((dI n 2 T : Nat) : Int) = 0) false := ⟨decide_eq_false hd⟩
    exact ⟨l, x5, _, EvS.run (by simp [k]), dS_dr (Dr.refl k), c⟩
theorem la3_s {ns : List Int} {x1 x3 x5 : Option PV} {n : Nat} {l : List Nat} {T : Sto} (k : Has n T) (c : Stp l) : ∃ l' T', la3 (lwE ns x1 n x3 l x5) T = .nx (lwE ns x1 n x3 l' x5) T' ∧ Dr n T T' ∧ Stp l' := by
  by_cases hd : ((dI n 8 T : Nat) : Int) = 0
  · haveI : DecP (((dI n 8 T : Nat) : Int) = 0) true := ⟨decide_eq_true hd⟩
    have hc := on_ok (n := n) (l := [43, 45]) (S := dS n 8 T) ⟨by simp [k], by simp, by simp⟩
    exact ⟨_, _, EvS.run (by simp [k]), onS_dr (dS_dr (Dr.refl k)), stp_one hc⟩
  · haveI : DecP (((dI n 8 T : Nat) : Int) = 0) false := ⟨decide_eq_false hd⟩
    exact ⟨l, _, EvS.run (by simp [k]), dS_dr (Dr.refl k), c⟩
theorem laB_s {ns : List Int} {x1 x3 x4 x5 : Option PV} {n : Nat} {T : Sto} (k : Has n T) : ∃ y4 y5 T', laB [some (.scr ns), x1, some (.ref n), x3, x4, x5] T = .nx [some (.scr ns), x1, some (.ref n), x3, y4, y5] T' ∧ Dr n T T' := by
  have hz := oi_ok (n := n) (S := T) (l := [4, 9, 24]) ⟨k, by simp, by simp⟩
  have hz' : 4 ≤ oiI n [4, 9, 24] T ∧ oiI n [4, 9, 24] T ≤ 24 := by
    simp at hz
    omega
  have hc := cl_ok (n := n) (a := 2) (b := oiI n [4, 9, 24] T) (S := oiS n [4, 9, 24] T) (by simp [k]; omega)
  have e1 : la1 [some (.scr ns), x1, some (.ref n), x3, x4, x5] T = .nx (lwE ns x1 n x3 (rst (clL n 2 (oiI n [4, 9, 24] T) (oiS n [4, 9, 24] T))) x5) (clS n 2 (oiI n [4, 9, 24] T) (oiS n [4, 9, 24] T)) := EvS.run (by simp [k, hc.1]; omega)
  have d1 : Dr n T (clS n 2 (oiI n [4, 9, 24] T) (oiS n [4, 9, 24] T)) := clS_dr (oiS_dr (Dr.refl k))
  obtain ⟨l2, y5, T2, e2, d2, c2⟩ := la2_s (ns := ns) (x1 := x1) (x3 := x3) (x5 := x5) (d1.has k) (rst_stp hc.1)
  have k2 := d2.has (d1.has k)
  obtain ⟨l3, T3, e3, d3, c3⟩ := la3_s (ns := ns) (x1 := x1) (x3 := x3) (x5 := y5) k2 c2
  have k3 := d3.has k2
  obtain ⟨T4, e4, d4⟩ := steps_right k3 c3
  obtain ⟨T5, e5, d5⟩ := unrolled_right (d4.has k3)
  haveI : EvF f_law_steps_right [.ref n, .str l3] T3 (.bl true) T4 True := ⟨fun _ => e4⟩
  haveI : EvF f_law_unrolled_right [.ref n] T4 (.bl true) T5 True := ⟨fun _ => e5⟩
  have e6 : la4 (lwE ns x1 n x3 l3 y5) T3 = .nx (lwE ns x1 n x3 l3 y5) T5 := EvS.run (by simp)
  exact ⟨_, _, T5, (seq_nx e1).trans ((seq_nx e2).trans ((seq_nx e3).trans e6)), (((d1.trans d2).trans d3).trans d4).trans d5⟩
theorem says (ns : List Int) (hl : ns.length ≤ 63) : ∃ S', f_law [.scr ns] [] = .ok (.bl true) S' := by
  obtain ⟨e1, S1, g1, ⟨x1, x2, x3, x4, x5, rfl⟩⟩ := for_r (p := .nm 1) (body := laO) (m := (if (if 5 < (ns.length : Int) then 5 else (ns.length : Int)) > 2 then if 5 < (ns.length : Int) then 5 else (ns.length : Int) else 2).toNat) (φ := fun k : Nat => .int (k : Nat)) (fun _ env T => ∃ x1 x2 x3 x4 x5, env = [some (PV.scr ns), x1, x2, x3, x4, x5]) (fun i hi env T ⟨x1, x2, x3, x4, x5, h1⟩ => by
    subst h1
    have hi5 : i < 5 := by omega
    have kT := (po_all (ns := ns) (t := (i : Nat)) (S := T) ⟨hl, by omega, by omega⟩).2
    obtain ⟨e3, S3, g3, ⟨y3, y4, y5, rfl, d3⟩⟩ := for_r (p := .nm 3) (body := laB) (m := 10) (φ := fun k : Nat => .int (k : Nat)) (fun _ env U => ∃ x3 x4 x5, env = [some (PV.scr ns), some (.int (i : Nat)), some (.ref T.length), x3, x4, x5] ∧ Dr T.length (T ++ [.lst (poC ns (i : Nat) T)]) U) (fun j hj env U ⟨x3, x4, x5, h1, h2⟩ => by
      subst h1
      obtain ⟨y4, y5, T', e, d⟩ := laB_s (ns := ns) (x1 := some (.int (i : Nat))) (x3 := some (.int (j : Nat))) (x4 := x4) (x5 := x5) (h2.has kT)
      exact ⟨_, _, _, SetP.eq, e, ⟨_, _, _, rfl, h2.trans d⟩⟩) (env := [some (PV.scr ns), some (.int (i : Nat)), some (.ref T.length), x3, x4, x5]) ⟨_, _, _, rfl, Dr.refl kT⟩
    haveI i3 := EvS.mk (C := True) fun _ => sfor_ev (p := .nm 3) (it := iRg (aCons (eCon (.int 10)) aNil)) (body := laB) (by simp) g3
    refine ⟨_, _, S3, SetP.eq, EvS.run ?_, ⟨_, _, _, _, _, rfl⟩⟩
    simp [hl]
    omega) (env := [some (PV.scr ns), none, none, none, none, none]) (S := []) ⟨_, _, _, _, _, rfl⟩
  haveI i1 := EvS.mk (C := True) fun _ => sfor_ev (p := .nm 1) (it := iRg (aCons (eCall bMax2 (aCons (eCon (.int 2)) (aCons (eCall bMin2 (aCons (eCall bLen (aCons (eVar 0) aNil)) (aCons (eCon (.int 5)) aNil))) aNil))) aNil)) (body := laO) (by simp; omega) g1
  rw [la_eq]
  exact ⟨_, fn_top (S1 := S1) rfl (EvS.run (by simp))⟩
end Lw

namespace Hd
open PySem PySem.Spec PyProof.Rows L2 Pv Lw
theorem fx {P : Program} {w w2 : World} {K : PySem.W.Frag} {mg : Str → Option Value} {h h2 base : Heap} (X : K.In h) (G : h.Ns mainGlobals mg) (c : He.SaysX fa fn ts [] ex w h2 K) : Fx P w K mg base where
  d_law_bag := by obtain ⟨fd, F⟩ := c.t.d.def_ 0 (d := dd_law_bag) rfl; exact ⟨_, fd, He.glo_ok X G (c.t.d.fact 0 (f := .glo "_law_bag") rfl), F⟩
  d_law_draw := by obtain ⟨fd, F⟩ := c.t.d.def_ 1 (d := dd_law_draw) rfl; exact ⟨_, fd, He.glo_ok X G (c.t.d.fact 1 (f := .glo "_law_draw") rfl), F⟩
  d_law_one := by obtain ⟨fd, F⟩ := c.t.d.def_ 2 (d := dd_law_one) rfl; exact ⟨_, fd, He.glo_ok X G (c.t.d.fact 2 (f := .glo "_law_one") rfl), F⟩
  d_law_further := by obtain ⟨fd, F⟩ := c.t.d.def_ 3 (d := dd_law_further) rfl; exact ⟨_, fd, He.glo_ok X G (c.t.d.fact 3 (f := .glo "_law_further") rfl), F⟩
  d_law_by := by obtain ⟨fd, F⟩ := c.t.d.def_ 4 (d := dd_law_by) rfl; exact ⟨_, fd, He.glo_ok X G (c.t.d.fact 4 (f := .glo "_law_by") rfl), F⟩
  d_law_stacking := by obtain ⟨fd, F⟩ := c.t.d.def_ 5 (d := dd_law_stacking) rfl; exact ⟨_, fd, He.glo_ok X G (c.t.d.fact 5 (f := .glo "_law_stacking") rfl), F⟩
  d_law_closed := by obtain ⟨fd, F⟩ := c.t.d.def_ 6 (d := dd_law_closed) rfl; exact ⟨_, fd, He.glo_ok X G (c.t.d.fact 6 (f := .glo "_law_closed") rfl), F⟩
  d_law_steps := by obtain ⟨fd, F⟩ := c.t.d.def_ 7 (d := dd_law_steps) rfl; exact ⟨_, fd, He.glo_ok X G (c.t.d.fact 7 (f := .glo "_law_steps") rfl), F⟩
  d_law_round_steps := by obtain ⟨fd, F⟩ := c.t.d.def_ 8 (d := dd_law_round_steps) rfl; exact ⟨_, fd, He.glo_ok X G (c.t.d.fact 8 (f := .glo "_law_round_steps") rfl), F⟩
  d_is_text_of := by obtain ⟨fd, F⟩ := c.t.d.def_ 9 (d := dd_is_text_of) rfl; exact ⟨_, fd, He.glo_ok X G (c.t.d.fact 9 (f := .glo "is_text_of") rfl), F⟩
  d_is_whole := by obtain ⟨fd, F⟩ := c.t.d.def_ 10 (d := dd_is_whole) rfl; exact ⟨_, fd, He.glo_ok X G (c.t.d.fact 10 (f := .glo "is_whole") rfl), F⟩
  d_is_between := by obtain ⟨fd, F⟩ := c.t.d.def_ 11 (d := dd_is_between) rfl; exact ⟨_, fd, He.glo_ok X G (c.t.d.fact 11 (f := .glo "is_between") rfl), F⟩
  d_is_layer_number := by obtain ⟨fd, F⟩ := c.t.d.def_ 12 (d := dd_is_layer_number) rfl; exact ⟨_, fd, He.glo_ok X G (c.t.d.fact 12 (f := .glo "is_layer_number") rfl), F⟩
  d_is_stepped := by obtain ⟨fd, F⟩ := c.t.d.def_ 13 (d := dd_is_stepped) rfl; exact ⟨_, fd, He.glo_ok X G (c.t.d.fact 13 (f := .glo "is_stepped") rfl), F⟩
  d_check_steps := by obtain ⟨fd, F⟩ := c.t.d.def_ 14 (d := dd_check_steps) rfl; exact ⟨_, fd, He.glo_ok X G (c.t.d.fact 14 (f := .glo "check_steps") rfl), F⟩
  d_worth := by obtain ⟨fd, F⟩ := c.t.d.def_ 15 (d := dd_worth) rfl; exact ⟨_, fd, He.glo_ok X G (c.t.d.fact 15 (f := .glo "worth") rfl), F⟩
  d_sum_of := by obtain ⟨fd, F⟩ := c.t.d.def_ 16 (d := dd_sum_of) rfl; exact ⟨_, fd, He.glo_ok X G (c.t.d.fact 16 (f := .glo "sum_of") rfl), F⟩
  d_do_go_round := by obtain ⟨fd, F⟩ := c.t.d.def_ 17 (d := dd_do_go_round) rfl; exact ⟨_, fd, He.glo_ok X G (c.t.d.fact 17 (f := .glo "do_go_round") rfl), F⟩
  d_goes_round := by obtain ⟨fd, F⟩ := c.t.d.def_ 18 (d := dd_goes_round) rfl; exact ⟨_, fd, He.glo_ok X G (c.t.d.fact 18 (f := .glo "goes_round") rfl), F⟩
  d_law_same := by obtain ⟨fd, F⟩ := c.t.d.def_ 19 (d := dd_law_same) rfl; exact ⟨_, fd, He.glo_ok X G (c.t.d.fact 19 (f := .glo "_law_same") rfl), F⟩
  d_is_letter := by obtain ⟨fd, F⟩ := c.t.d.def_ 20 (d := dd_is_letter) rfl; exact ⟨_, fd, He.glo_ok X G (c.t.d.fact 20 (f := .glo "is_letter") rfl), F⟩
  d_check_letter := by obtain ⟨fd, F⟩ := c.t.d.def_ 21 (d := dd_check_letter) rfl; exact ⟨_, fd, He.glo_ok X G (c.t.d.fact 21 (f := .glo "check_letter") rfl), F⟩
  d_number_of := by obtain ⟨fd, F⟩ := c.t.d.def_ 22 (d := dd_number_of) rfl; exact ⟨_, fd, He.glo_ok X G (c.t.d.fact 22 (f := .glo "number_of") rfl), F⟩
  d_further := by obtain ⟨fd, F⟩ := c.t.d.def_ 23 (d := dd_further) rfl; exact ⟨_, fd, He.glo_ok X G (c.t.d.fact 23 (f := .glo "further") rfl), F⟩
  d_led_by := by obtain ⟨fd, F⟩ := c.t.d.def_ 24 (d := dd_led_by) rfl; exact ⟨_, fd, He.glo_ok X G (c.t.d.fact 24 (f := .glo "led_by") rfl), F⟩
  d_stacking_by := by obtain ⟨fd, F⟩ := c.t.d.def_ 25 (d := dd_stacking_by) rfl; exact ⟨_, fd, He.glo_ok X G (c.t.d.fact 25 (f := .glo "stacking_by") rfl), F⟩
  d_is_stacked := by obtain ⟨fd, F⟩ := c.t.d.def_ 26 (d := dd_is_stacked) rfl; exact ⟨_, fd, He.glo_ok X G (c.t.d.fact 26 (f := .glo "is_stacked") rfl), F⟩
  d_is_closed_one := by obtain ⟨fd, F⟩ := c.t.d.def_ 27 (d := dd_is_closed_one) rfl; exact ⟨_, fd, He.glo_ok X G (c.t.d.fact 27 (f := .glo "is_closed_one") rfl), F⟩
  d_check_closed := by obtain ⟨fd, F⟩ := c.t.d.def_ 28 (d := dd_check_closed) rfl; exact ⟨_, fd, He.glo_ok X G (c.t.d.fact 28 (f := .glo "check_closed") rfl), F⟩
  d_step_between := by obtain ⟨fd, F⟩ := c.t.d.def_ 29 (d := dd_step_between) rfl; exact ⟨_, fd, He.glo_ok X G (c.t.d.fact 29 (f := .glo "step_between") rfl), F⟩
  d_steps_by := by obtain ⟨fd, F⟩ := c.t.d.def_ 30 (d := dd_steps_by) rfl; exact ⟨_, fd, He.glo_ok X G (c.t.d.fact 30 (f := .glo "steps_by") rfl), F⟩
  d_round_steps_by := by obtain ⟨fd, F⟩ := c.t.d.def_ 31 (d := dd_round_steps_by) rfl; exact ⟨_, fd, He.glo_ok X G (c.t.d.fact 31 (f := .glo "round_steps_by") rfl), F⟩
  d_round_steps := by obtain ⟨fd, F⟩ := c.t.d.def_ 32 (d := dd_round_steps) rfl; exact ⟨_, fd, He.glo_ok X G (c.t.d.fact 32 (f := .glo "round_steps") rfl), F⟩
  d_law_is_stacking := by obtain ⟨fd, F⟩ := c.t.d.def_ 33 (d := dd_law_is_stacking) rfl; exact ⟨_, fd, He.glo_ok X G (c.t.d.fact 33 (f := .glo "_law_is_stacking") rfl), F⟩
  d_law_is_closed := by obtain ⟨fd, F⟩ := c.t.d.def_ 34 (d := dd_law_is_closed) rfl; exact ⟨_, fd, He.glo_ok X G (c.t.d.fact 34 (f := .glo "_law_is_closed") rfl), F⟩
  d_letter_further := by obtain ⟨fd, F⟩ := c.t.d.def_ 35 (d := dd_letter_further) rfl; exact ⟨_, fd, He.glo_ok X G (c.t.d.fact 35 (f := .glo "letter_further") rfl), F⟩
  d_certify_round := by obtain ⟨fd, F⟩ := c.t.d.def_ 36 (d := dd_certify_round) rfl; exact ⟨_, fd, He.glo_ok X G (c.t.d.fact 36 (f := .glo "certify_round") rfl), F⟩
  d_tells_steps := by obtain ⟨fd, F⟩ := c.t.d.def_ 37 (d := dd_tells_steps) rfl; exact ⟨_, fd, He.glo_ok X G (c.t.d.fact 37 (f := .glo "tells_steps") rfl), F⟩
  d_is_claim := by obtain ⟨fd, F⟩ := c.t.d.def_ 38 (d := dd_is_claim) rfl; exact ⟨_, fd, He.glo_ok X G (c.t.d.fact 38 (f := .glo "is_claim") rfl), F⟩
  d_is_tuple_of := by obtain ⟨fd, F⟩ := c.t.d.def_ 39 (d := dd_is_tuple_of) rfl; exact ⟨_, fd, He.glo_ok X G (c.t.d.fact 39 (f := .glo "is_tuple_of") rfl), F⟩
  d_is_nothing := by obtain ⟨fd, F⟩ := c.t.d.def_ 40 (d := dd_is_nothing) rfl; exact ⟨_, fd, He.glo_ok X G (c.t.d.fact 40 (f := .glo "is_nothing") rfl), F⟩
  d_shows_round := by obtain ⟨fd, F⟩ := c.t.d.def_ 41 (d := dd_shows_round) rfl; exact ⟨_, fd, He.glo_ok X G (c.t.d.fact 41 (f := .glo "shows_round") rfl), F⟩
  d_shows_not_round := by obtain ⟨fd, F⟩ := c.t.d.def_ 42 (d := dd_shows_not_round) rfl; exact ⟨_, fd, He.glo_ok X G (c.t.d.fact 42 (f := .glo "shows_not_round") rfl), F⟩
  d_accepts := by obtain ⟨fd, F⟩ := c.t.d.def_ 43 (d := dd_accepts) rfl; exact ⟨_, fd, He.glo_ok X G (c.t.d.fact 43 (f := .glo "accepts") rfl), F⟩
  d_law_is_whole := by obtain ⟨fd, F⟩ := c.t.d.def_ 44 (d := dd_law_is_whole) rfl; exact ⟨_, fd, He.glo_ok X G (c.t.d.fact 44 (f := .glo "_law_is_whole") rfl), F⟩
  d_law_steps_right := by obtain ⟨fd, F⟩ := c.t.d.def_ 45 (d := dd_law_steps_right) rfl; exact ⟨_, fd, He.glo_ok X G (c.t.d.fact 45 (f := .glo "_law_steps_right") rfl), F⟩
  d_law_next := by obtain ⟨fd, F⟩ := c.t.d.def_ 46 (d := dd_law_next) rfl; exact ⟨_, fd, He.glo_ok X G (c.t.d.fact 46 (f := .glo "_law_next") rfl), F⟩
  d_are_marks := by obtain ⟨fd, F⟩ := c.t.d.def_ 47 (d := dd_are_marks) rfl; exact ⟨_, fd, He.glo_ok X G (c.t.d.fact 47 (f := .glo "are_marks") rfl), F⟩
  d_check_marks := by obtain ⟨fd, F⟩ := c.t.d.def_ 48 (d := dd_check_marks) rfl; exact ⟨_, fd, He.glo_ok X G (c.t.d.fact 48 (f := .glo "check_marks") rfl), F⟩
  d_other_step := by obtain ⟨fd, F⟩ := c.t.d.def_ 49 (d := dd_other_step) rfl; exact ⟨_, fd, He.glo_ok X G (c.t.d.fact 49 (f := .glo "other_step") rfl), F⟩
  d_steps_of_marks := by obtain ⟨fd, F⟩ := c.t.d.def_ 50 (d := dd_steps_of_marks) rfl; exact ⟨_, fd, He.glo_ok X G (c.t.d.fact 50 (f := .glo "steps_of_marks") rfl), F⟩
  d_unrolled_count_of := by obtain ⟨fd, F⟩ := c.t.d.def_ 51 (d := dd_unrolled_count_of) rfl; exact ⟨_, fd, He.glo_ok X G (c.t.d.fact 51 (f := .glo "unrolled_count_of") rfl), F⟩
  d_unrolled_by := by obtain ⟨fd, F⟩ := c.t.d.def_ 52 (d := dd_unrolled_by) rfl; exact ⟨_, fd, He.glo_ok X G (c.t.d.fact 52 (f := .glo "unrolled_by") rfl), F⟩
  d_unrolled := by obtain ⟨fd, F⟩ := c.t.d.def_ 53 (d := dd_unrolled) rfl; exact ⟨_, fd, He.glo_ok X G (c.t.d.fact 53 (f := .glo "unrolled") rfl), F⟩
  d_unrolled_count := by obtain ⟨fd, F⟩ := c.t.d.def_ 54 (d := dd_unrolled_count) rfl; exact ⟨_, fd, He.glo_ok X G (c.t.d.fact 54 (f := .glo "unrolled_count") rfl), F⟩
  d_marks_between := by obtain ⟨fd, F⟩ := c.t.d.def_ 55 (d := dd_marks_between) rfl; exact ⟨_, fd, He.glo_ok X G (c.t.d.fact 55 (f := .glo "marks_between") rfl), F⟩
  d_round_marks_by := by obtain ⟨fd, F⟩ := c.t.d.def_ 56 (d := dd_round_marks_by) rfl; exact ⟨_, fd, He.glo_ok X G (c.t.d.fact 56 (f := .glo "round_marks_by") rfl), F⟩
  d_round_marks := by obtain ⟨fd, F⟩ := c.t.d.def_ 57 (d := dd_round_marks) rfl; exact ⟨_, fd, He.glo_ok X G (c.t.d.fact 57 (f := .glo "round_marks") rfl), F⟩
  d_h_count_of := by obtain ⟨fd, F⟩ := c.t.d.def_ 58 (d := dd_h_count_of) rfl; exact ⟨_, fd, He.glo_ok X G (c.t.d.fact 58 (f := .glo "h_count_of") rfl), F⟩
  d_h_count := by obtain ⟨fd, F⟩ := c.t.d.def_ 59 (d := dd_h_count) rfl; exact ⟨_, fd, He.glo_ok X G (c.t.d.fact 59 (f := .glo "h_count") rfl), F⟩
  d_law_unrolled_right := by obtain ⟨fd, F⟩ := c.t.d.def_ 60 (d := dd_law_unrolled_right) rfl; exact ⟨_, fd, He.glo_ok X G (c.t.d.fact 60 (f := .glo "_law_unrolled_right") rfl), F⟩
  d_law := by obtain ⟨fd, F⟩ := c.t.d.def_ 61 (d := dd_law) rfl; exact ⟨_, fd, He.glo_ok X G (c.t.d.fact 61 (f := .glo "law") rfl), F⟩
  b_abs := He.free_ok X G (c.t.d.fact 65 (f := .free "abs") rfl)
  b_all := He.free_ok X G (c.t.d.fact 66 (f := .free "all") rfl)
  b_any := He.free_ok X G (c.t.d.fact 67 (f := .free "any") rfl)
  b_bool := He.free_ok X G (c.t.d.fact 68 (f := .free "bool") rfl)
  b_divmod := He.free_ok X G (c.t.d.fact 69 (f := .free "divmod") rfl)
  b_enumerate := He.free_ok X G (c.t.d.fact 70 (f := .free "enumerate") rfl)
  b_int := He.free_ok X G (c.t.d.fact 71 (f := .free "int") rfl)
  b_isinstance := He.free_ok X G (c.t.d.fact 72 (f := .free "isinstance") rfl)
  b_len := He.free_ok X G (c.t.d.fact 73 (f := .free "len") rfl)
  b_list := He.free_ok X G (c.t.d.fact 74 (f := .free "list") rfl)
  b_max := He.free_ok X G (c.t.d.fact 75 (f := .free "max") rfl)
  b_min := He.free_ok X G (c.t.d.fact 76 (f := .free "min") rfl)
  b_range := He.free_ok X G (c.t.d.fact 77 (f := .free "range") rfl)
  b_str := He.free_ok X G (c.t.d.fact 78 (f := .free "str") rfl)
  b_sum := He.free_ok X G (c.t.d.fact 79 (f := .free "sum") rfl)
  b_tuple := He.free_ok X G (c.t.d.fact 80 (f := .free "tuple") rfl)
  b_zip := He.free_ok X G (c.t.d.fact 81 (f := .free "zip") rfl)
  t_FORMS := ⟨_, He.glo_ok X G (c.t.d.fact 62 (f := .glo "FORMS") rfl), tab_of (by have e := congrArg (fun z : He.AlT => z.2[0]?) c.t; exact Option.some.inj e), (by obtain ⟨t, h1, h2⟩ := tupIn_ok (Bool.and_eq_true_iff.mp (Bool.and_eq_true_iff.mp (Bool.and_eq_true_iff.mp c.more).1).1).1; exact ⟨t, _, He.glo_ok X G (c.t.d.fact 37 (f := .glo "tells_steps") rfl), h1, h2⟩), (by obtain ⟨t, h1, h2⟩ := tupIn_ok (Bool.and_eq_true_iff.mp (Bool.and_eq_true_iff.mp (Bool.and_eq_true_iff.mp c.more).1).1).2; exact ⟨t, _, He.glo_ok X G (c.t.d.fact 37 (f := .glo "tells_steps") rfl), h1, h2⟩)⟩
  t_OF_ONE := ⟨_, He.glo_ok X G (c.t.d.fact 63 (f := .glo "OF_ONE") rfl), tab_of (by have e := congrArg (fun z : He.AlT => z.2[1]?) c.t; exact Option.some.inj e), ⟨_, He.glo_ok X G (c.t.d.fact 41 (f := .glo "shows_round") rfl), He.eqO_ok (Bool.and_eq_true_iff.mp (Bool.and_eq_true_iff.mp c.more).1).2⟩, ⟨_, He.glo_ok X G (c.t.d.fact 42 (f := .glo "shows_not_round") rfl), He.eqO_ok (Bool.and_eq_true_iff.mp c.more).2⟩⟩
  t_OF_TWO := ⟨_, He.glo_ok X G (c.t.d.fact 64 (f := .glo "OF_TWO") rfl), tab_of (by have e := congrArg (fun z : He.AlT => z.2[2]?) c.t; exact Option.some.inj e)⟩
  g_C := He.str_ok X G (c.t.d.fact 82 (f := .str "C" "c") rfl)
  g_DOWN := He.str_ok X G (c.t.d.fact 83 (f := .str "DOWN" "-") rfl)
  g_H := He.str_ok X G (c.t.d.fact 84 (f := .str "H" "h") rfl)
  g_LETTERS := He.str_ok X G (c.t.d.fact 85 (f := .str "LETTERS" "ABC") rfl)
  g_LONGEST_UNROLLED := He.int_ok X G (c.t.d.fact 86 (f := .int "LONGEST_UNROLLED" 8) rfl)
  g_MARKS := He.str_ok X G (c.t.d.fact 87 (f := .str "MARKS" "hc") rfl)
  g_MOST_LAYERS := He.int_ok X G (c.t.d.fact 88 (f := .int "MOST_LAYERS" 24) rfl)
  g_STEPS := He.str_ok X G (c.t.d.fact 89 (f := .str "STEPS" "+-") rfl)
  g_UP := He.str_ok X G (c.t.d.fact 90 (f := .str "UP" "+") rfl)
end Hd

/-- nothing is kept yet -/
theorem so_start {K : PySem.W.Frag} {H : L2.Hp} : Pv.StOk K [] [] H [] := ⟨rfl, List.nodup_nil, (fun _ h => by cases h), (fun _ h => by cases h), (fun _ _ _ h => by cases h)⟩
open PySem PySem.W PySem.Calls PyProof.Rows
theorem law_holds (says : ∀ ns : List Int, ns.length ≤ 63 → ∃ S', Lw.f_law [.scr ns] [] = .ok (.bl true) S') : PySem.Challenge.rw_layerballs_k90_whole_round_claims.Holds := by
  w_on; o_law
  refine HandSHeadRun.head_imp (r := OpenLaw.row PySem.Challenge.rw_layerballs_k90_whole_round_claims) (q := view (OpenLaw.row PySem.Challenge.rw_layerballs_k90_whole_round_claims).prog [0, 147]) (H := Hd.hk) (ob := Hd.ob) (M := 8000) (loose := Hd.loose) (d := HandSHeadRun.topDef (OpenLaw.row PySem.Challenge.rw_layerballs_k90_whole_round_claims).prog 147) (kwd := []) Hd.ob_eq
    Hd.run (by kernel_rfl) (by kernel_rfl) (by kernel_rfl) (by rfl) (by first | assumption | decide +kernel) (by decide +kernel) ⟨rfl, rfl, rfl, rfl, rfl, by decide +kernel⟩ ?hw ?hc
  case hw => w_witness2
  case hc =>
    refine L2.walk_ofE (l := PySem.Challenge.rw_layerballs_k90_whole_round_claims) (n := 63) (k := 11) (x := "script") (CX := L2.CX0) rfl (by decide) (by kernel_rfl) ⟨rfl, by decide, by decide⟩ ?F (fun _ _ _ _ z => z)
    intro w mg fa h Y G hmg0
    obtain ⟨K, KX, c⟩ := Y
    have hmg : mg ("law" : PySem.Str) = some (.ref fa) := by
      have e : (HandSHeadRun.topDef (OpenLaw.row PySem.Challenge.rw_layerballs_k90_whole_round_claims).prog 147).name = ("law" : PySem.Str) := by kernel_rfl
      rw [← e]
      exact hmg0
    have Z : ∀ base : Heap, Lw.Fx (PySem.Challenge.rw_layerballs_k90_whole_round_claims).prog w K mg base := fun base => Hd.fx (w2 := w) KX G c
    obtain ⟨f, fd, e1, D⟩ := (Z h).d_law
    have ef : fa = f := by rw [hmg] at e1; cases e1; rfl
    subst ef
    refine ⟨K, fd, Pv.spOf K Lw.f_law, KX, fun s u => L2.FunD.bindsA (ps := ["script"]) D (fun _ _ _ _ _ _ us hl => match us, hl with | [_], _ => rfl) s [u] rfl, fun H a ns hl hO hS => ?_, fun base _ _ => ?_⟩
    · obtain ⟨S', e⟩ := says ns hl
      refine ⟨[], [], [], [.scr ns], so_start, .cons (.p (.scr (hS.imp (fun z => ⟨z, fun q => by cases q⟩) fun z => .inr z))) .nil, ?_⟩
      rw [e]
      intro v m' g' H' nx so r
      exact r.bl_inv
    · exact Lw.run_law (Z base) D


theorem PySem.Challenge.cw_layerballs_k90_whole_round_claims_holds : PySem.Challenge.rw_layerballs_k90_whole_round_claims.Holds :=
  law_holds Lw.says
