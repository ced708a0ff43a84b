import PyProof.Rows.All
import Wide.All
import OpenK.AllK
import Wide.FinOn
import KE.KStateDown
import HandS.CallLocal
import HandS.HeadHook3
import HandS.Head3
import HandS.HeadHook4
import PySem.Challenge.RW_layerballs_k93_whole_count_claims
import HandS.Words
import HandS.HeadEnd
import HandS.HeadHook1
import HandS.HeadHook2
import HandS.ForMost
import HandS.Wide
import HandS.TupAny
import HandS.Style
import HandS.Exc
import HandS.WordsExc
import HandS.Defaults
import HandS.IsInst
import HandS.Gcd
import HandS.TupMul
import HandS.Deep
import HandS.Walk
import HandS.Zip
import KE.GoesEnum
import HandS.WideBits
import HandS.ReplaceList
import HandS.ReplaceLit
import HandS.Text
import PyProof.Rows.StrCountLaw
import PyProof.StrLawsFirst
import HandS.Flow
import KE.KRevSl
import PyProof.StrReplace2
import PyProof.EnumMake
import HandS.Replace
import HandS.Conv
import PyProof.CollectStr
import PyProof.ListStr
import PyProof.TupleOfSeq
import KE.GoesZip
import KE.KDictZip
import HandS.SetFor
set_option Elab.async false
set_option linter.all false
set_option maxRecDepth 100000
set_option maxHeartbeats 0
namespace Pv
open PySem PySem.Spec PyProof.Rows L2
/-! ### what the head says of tables -/
/-- the pair kept at a -/
def kTup (K : PySem.W.Frag) (a : Addr) (vs : List V) : Bool := (K.lookup a).any fun o => decide (o.cls = .type "tuple") && (match o.data with
  | .seq its _ => decide (its.size ≤ sizeLine) && He.relAll vs its.toList
  | _ => false)
theorem kTup_ok {K : PySem.W.Frag} {a : Addr} {vs : List V} (h : kTup K a vs = true) (H : Hp) : SqT K H a vs := by
  unfold kTup at h
  cases q : K.lookup a with
  | none => rw [q] at h; cases h
  | some o =>
    rw [q] at h
    have h : (decide (o.cls = .type "tuple") && (match o.data with
      | .seq its _ => decide (its.size ≤ sizeLine) && He.relAll vs its.toList
      | _ => false)) = true := h
    obtain ⟨h1, h2⟩ := Bool.and_eq_true_iff.mp h
    cases e : o.data with
    | seq its n =>
      rw [e] at h2
      obtain ⟨h3, h4⟩ := Bool.and_eq_true_iff.mp h2
      exact .inr ⟨o, its, n, q, of_decide_eq_true h1, e, of_decide_eq_true h3, He.relAll_ok h4⟩
    | _ => rw [e] at h2; cases h2
def tupAd (K : PySem.W.Frag) (D key : Str) : Addr := match PySem.W.nsIn K (He.ga K D) key with
  | some (some (.ref t)) => t
  | _ => 0
def tupIn (K : PySem.W.Frag) (D key : Str) (vs : List V) : Bool := He.eqO (PySem.W.nsIn K (He.ga K D) key) (some (some (.ref (tupAd K D key)))) && kTup K (tupAd K D key) vs
theorem tupIn_ok {K : PySem.W.Frag} {D key : Str} {vs : List V} (h : tupIn K D key vs = true) : ∃ t, PySem.W.nsIn K (He.ga K D) key = some (some (.ref t)) ∧ ∀ H, SqT K H t vs := by
  obtain ⟨h1, h2⟩ := Bool.and_eq_true_iff.mp h
  exact ⟨_, He.eqO_ok h1, kTup_ok h2⟩
end Pv

namespace Lw
open PySem PySem.Spec PyProof.Rows L2
def top (i : Nat) : Stmt := PySem.Challenge.pw_layerballs_k93_whole_count_claims.main.body.getD i (.Pass ⟨0, 0, 0, 0⟩)
end Lw

namespace Hd
open PySem PySem.Spec PyProof.Rows L2 Pv Lw
def dd_law_bag : He.DefD := ⟨("_law_bag", none), "_law_bag", "_law_bag", defArgs (top 107), defBody (top 107), defScope (top 107), [], []⟩
def dd_law_draw : He.DefD := ⟨("_law_draw", none), "_law_draw", "_law_draw", defArgs (top 108), defBody (top 108), defScope (top 108), [], []⟩
def dd_law_one : He.DefD := ⟨("_law_one", none), "_law_one", "_law_one", defArgs (top 109), defBody (top 109), defScope (top 109), [], []⟩
def dd_law_further : He.DefD := ⟨("_law_further", none), "_law_further", "_law_further", defArgs (top 112), defBody (top 112), defScope (top 112), [], []⟩
def dd_law_by : He.DefD := ⟨("_law_by", none), "_law_by", "_law_by", defArgs (top 115), defBody (top 115), defScope (top 115), [], []⟩
def dd_law_stacking : He.DefD := ⟨("_law_stacking", none), "_law_stacking", "_law_stacking", defArgs (top 116), defBody (top 116), defScope (top 116), [], []⟩
def dd_law_closed : He.DefD := ⟨("_law_closed", none), "_law_closed", "_law_closed", defArgs (top 117), defBody (top 117), defScope (top 117), [], []⟩
def dd_law_motions : He.DefD := ⟨("_law_motions", none), "_law_motions", "_law_motions", defArgs (top 119), defBody (top 119), defScope (top 119), [], []⟩
def dd_law_moved : He.DefD := ⟨("_law_moved", none), "_law_moved", "_law_moved", defArgs (top 118), defBody (top 118), defScope (top 118), [], []⟩
def dd_law_steps : He.DefD := ⟨("_law_steps", none), "_law_steps", "_law_steps", defArgs (top 113), defBody (top 113), defScope (top 113), [], []⟩
def dd_law_round_steps : He.DefD := ⟨("_law_round_steps", none), "_law_round_steps", "_law_round_steps", defArgs (top 114), defBody (top 114), defScope (top 114), [], []⟩
def dd_law_exchanged : He.DefD := ⟨("_law_exchanged", none), "_law_exchanged", "_law_exchanged", defArgs (top 123), defBody (top 123), defScope (top 123), [], []⟩
def dd_law_counts : He.DefD := ⟨("_law_counts", none), "_law_counts", "_law_counts", defArgs (top 120), defBody (top 120), defScope (top 120), [], []⟩
def dd_is_text_of : He.DefD := ⟨("is_text_of", none), "is_text_of", "is_text_of", defArgs (top 6), defBody (top 6), defScope (top 6), [], []⟩
def dd_is_whole : He.DefD := ⟨("is_whole", none), "is_whole", "is_whole", defArgs (top 2), defBody (top 2), defScope (top 2), [], []⟩
def dd_is_between : He.DefD := ⟨("is_between", none), "is_between", "is_between", defArgs (top 3), defBody (top 3), defScope (top 3), [], []⟩
def dd_is_layer_number : He.DefD := ⟨("is_layer_number", none), "is_layer_number", "is_layer_number", defArgs (top 13), defBody (top 13), defScope (top 13), [], []⟩
def dd_is_stacked : He.DefD := ⟨("is_stacked", none), "is_stacked", "is_stacked", defArgs (top 14), defBody (top 14), defScope (top 14), [], []⟩
def dd_is_closed_one : He.DefD := ⟨("is_closed_one", none), "is_closed_one", "is_closed_one", defArgs (top 15), defBody (top 15), defScope (top 15), [], []⟩
def dd_check_closed : He.DefD := ⟨("check_closed", none), "check_closed", "check_closed", defArgs (top 44), defBody (top 44), defScope (top 44), [], []⟩
def dd_number_of : He.DefD := ⟨("number_of", none), "number_of", "number_of", defArgs (top 17), defBody (top 17), defScope (top 17), [], []⟩
def dd_count_triple : He.DefD := ⟨("count_triple", none), "count_triple", "count_triple", defArgs (top 47), defBody (top 47), defScope (top 47), [], []⟩
def dd_layer_counts_by : He.DefD := ⟨("layer_counts_by", none), "layer_counts_by", "layer_counts_by", defArgs (top 48), defBody (top 48), defScope (top 48), [], []⟩
def dd_layer_counts : He.DefD := ⟨("layer_counts", none), "layer_counts", "layer_counts", defArgs (top 101), defBody (top 101), defScope (top 101), [], []⟩
def dd_like_row : He.DefD := ⟨("like_row", none), "like_row", "like_row", defArgs (top 102), defBody (top 102), defScope (top 102), [], []⟩
def dd_check_two_closed : He.DefD := ⟨("check_two_closed", none), "check_two_closed", "check_two_closed", defArgs (top 45), defBody (top 45), defScope (top 45), [], []⟩
def dd_first_unlike : He.DefD := ⟨("first_unlike", none), "first_unlike", "first_unlike", defArgs (top 50), defBody (top 50), defScope (top 50), [], []⟩
def dd_exchanged_triples : He.DefD := ⟨("exchanged_triples", none), "exchanged_triples", "exchanged_triples", defArgs (top 49), defBody (top 49), defScope (top 49), [], []⟩
def dd_unlike_places_by : He.DefD := ⟨("unlike_places_by", none), "unlike_places_by", "unlike_places_by", defArgs (top 51), defBody (top 51), defScope (top 51), [], []⟩
def dd_have_like_counts_by : He.DefD := ⟨("have_like_counts_by", none), "have_like_counts_by", "have_like_counts_by", defArgs (top 53), defBody (top 53), defScope (top 53), [], []⟩
def dd_have_like_counts : He.DefD := ⟨("have_like_counts", none), "have_like_counts", "have_like_counts", defArgs (top 103), defBody (top 103), defScope (top 103), [], []⟩
def dd_unlike_places : He.DefD := ⟨("unlike_places", none), "unlike_places", "unlike_places", defArgs (top 104), defBody (top 104), defScope (top 104), [], []⟩
def dd_check_stacking : He.DefD := ⟨("check_stacking", none), "check_stacking", "check_stacking", defArgs (top 43), defBody (top 43), defScope (top 43), [], []⟩
def dd_letter_counts : He.DefD := ⟨("letter_counts", none), "letter_counts", "letter_counts", defArgs (top 105), defBody (top 105), defScope (top 105), [], []⟩
def dd_law_same : He.DefD := ⟨("_law_same", none), "_law_same", "_law_same", defArgs (top 110), defBody (top 110), defScope (top 110), [], []⟩
def dd_certify_counts : He.DefD := ⟨("certify_counts", none), "certify_counts", "certify_counts", defArgs (top 80), defBody (top 80), defScope (top 80), [], []⟩
def dd_tells_two_closed : He.DefD := ⟨("tells_two_closed", none), "tells_two_closed", "tells_two_closed", defArgs (top 73), defBody (top 73), defScope (top 73), [], []⟩
def dd_is_claim : He.DefD := ⟨("is_claim", none), "is_claim", "is_claim", defArgs (top 78), defBody (top 78), defScope (top 78), [], []⟩
def dd_is_tuple_of : He.DefD := ⟨("is_tuple_of", none), "is_tuple_of", "is_tuple_of", defArgs (top 4), defBody (top 4), defScope (top 4), [], []⟩
def dd_is_nothing : He.DefD := ⟨("is_nothing", none), "is_nothing", "is_nothing", defArgs (top 82), defBody (top 82), defScope (top 82), [], []⟩
def dd_shows_like_counts : He.DefD := ⟨("shows_like_counts", none), "shows_like_counts", "shows_like_counts", defArgs (top 88), defBody (top 88), defScope (top 88), [], []⟩
def dd_are_unlike_at : He.DefD := ⟨("are_unlike_at", none), "are_unlike_at", "are_unlike_at", defArgs (top 52), defBody (top 52), defScope (top 52), [], []⟩
def dd_shows_unlike_counts : He.DefD := ⟨("shows_unlike_counts", none), "shows_unlike_counts", "shows_unlike_counts", defArgs (top 89), defBody (top 89), defScope (top 89), [], []⟩
def dd_accepts : He.DefD := ⟨("accepts", none), "accepts", "accepts", defArgs (top 99), defBody (top 99), defScope (top 99), [], []⟩
def dd_law_is_whole : He.DefD := ⟨("_law_is_whole", none), "_law_is_whole", "_law_is_whole", defArgs (top 111), defBody (top 111), defScope (top 111), [], []⟩
def dd_law_is_bar : He.DefD := ⟨("_law_is_bar", none), "_law_is_bar", "_law_is_bar", defArgs (top 121), defBody (top 121), defScope (top 121), [], []⟩
def dd_law_pair_right : He.DefD := ⟨("_law_pair_right", none), "_law_pair_right", "_law_pair_right", defArgs (top 122), defBody (top 122), defScope (top 122), [], []⟩
def dd_law : He.DefD := ⟨("law", none), "law", "law", defArgs (top 124), defBody (top 124), defScope (top 124), [], []⟩
def fn0 : List He.DefD := [dd_law_bag, dd_law_draw, dd_law_one, dd_law_further, dd_law_by, dd_law_stacking, dd_law_closed, dd_law_motions, dd_law_moved, dd_law_steps, dd_law_round_steps, dd_law_exchanged, dd_law_counts, dd_is_text_of, dd_is_whole, dd_is_between, dd_is_layer_number, dd_is_stacked, dd_is_closed_one, dd_check_closed, dd_number_of, dd_count_triple, dd_layer_counts_by, dd_layer_counts, dd_like_row, dd_check_two_closed, dd_first_unlike, dd_exchanged_triples, dd_unlike_places_by, dd_have_like_counts_by, dd_have_like_counts, dd_unlike_places, dd_check_stacking, dd_letter_counts, dd_law_same, dd_certify_counts, dd_tells_two_closed, dd_is_claim, dd_is_tuple_of, dd_is_nothing]
def fn1 : List He.DefD := [dd_shows_like_counts, dd_are_unlike_at, dd_shows_unlike_counts, dd_accepts, dd_law_is_whole, dd_law_is_bar, dd_law_pair_right, dd_law]
def fn : List He.DefD := fn0 ++ fn1
def fa0 : List He.Fa := [.glo "_law_bag", .glo "_law_draw", .glo "_law_one", .glo "_law_further", .glo "_law_by", .glo "_law_stacking", .glo "_law_closed", .glo "_law_motions", .glo "_law_moved", .glo "_law_steps", .glo "_law_round_steps", .glo "_law_exchanged", .glo "_law_counts", .glo "is_text_of", .glo "is_whole", .glo "is_between", .glo "is_layer_number", .glo "is_stacked", .glo "is_closed_one", .glo "check_closed", .glo "number_of", .glo "count_triple", .glo "layer_counts_by", .glo "layer_counts", .glo "like_row", .glo "check_two_closed", .glo "first_unlike", .glo "exchanged_triples", .glo "unlike_places_by", .glo "have_like_counts_by", .glo "have_like_counts", .glo "unlike_places", .glo "check_stacking", .glo "letter_counts", .glo "_law_same", .glo "certify_counts", .glo "tells_two_closed", .glo "is_claim", .glo "is_tuple_of", .glo "is_nothing"]
def fa1 : List He.Fa := [.glo "shows_like_counts", .glo "are_unlike_at", .glo "shows_unlike_counts", .glo "accepts", .glo "_law_is_whole", .glo "_law_is_bar", .glo "_law_pair_right", .glo "law", .glo "FORMS", .glo "OF_ONE", .glo "OF_TWO", .free "abs", .free "all", .free "any", .free "bool", .free "divmod", .free "enumerate", .free "int", .free "isinstance", .free "len", .free "list", .free "max", .free "min", .free "range", .free "str", .free "tuple", .free "zip", .str "LETTERS" "ABC", .int "MOST_LAYERS" 24]
def fa : List He.Fa := fa0 ++ fa1
def loose0 : List PySem.Str := [("__name__" : PySem.Str), ("is_whole" : PySem.Str), ("is_between" : PySem.Str), ("is_tuple_of" : PySem.Str), ("are_wholes" : PySem.Str), ("is_text_of" : PySem.Str), ("LETTERS" : PySem.Str), ("UP" : PySem.Str), ("DOWN" : PySem.Str), ("STEPS" : PySem.Str), ("MOST_LAYERS" : PySem.Str), ("is_layer_number" : PySem.Str), ("is_stacked" : PySem.Str), ("is_closed_one" : PySem.Str), ("is_stepped" : PySem.Str), ("number_of" : PySem.Str), ("further" : PySem.Str), ("worth" : PySem.Str), ("sum_of" : PySem.Str), ("step_between" : PySem.Str), ("steps_by" : PySem.Str), ("round_steps_by" : PySem.Str), ("do_go_round" : PySem.Str), ("others_than" : PySem.Str), ("all_stackings" : PySem.Str), ("all_closed" : PySem.Str), ("periods_of" : PySem.Str), ("is_own_by" : PySem.Str), ("GREATEST" : PySem.Str), ("is_rule" : PySem.Str), ("row_cost" : PySem.Str), ("cost_by" : PySem.Str), ("least_by" : PySem.Str), ("least_cost_by" : PySem.Str), ("BallError" : PySem.Str), ("InvalidStacking" : PySem.Str), ("InvalidClosed" : PySem.Str), ("check_stacking" : PySem.Str), ("check_closed" : PySem.Str), ("check_two_closed" : PySem.Str)]
def loose1 : List PySem.Str := [("count_triple" : PySem.Str), ("layer_counts_by" : PySem.Str), ("exchanged_triples" : PySem.Str), ("first_unlike" : PySem.Str), ("unlike_places_by" : PySem.Str), ("are_unlike_at" : PySem.Str), ("have_like_counts_by" : PySem.Str), ("are_names" : PySem.Str), ("is_motion_of" : PySem.Str), ("renamed_by" : PySem.Str), ("moved_by" : PySem.Str), ("motions_of" : PySem.Str), ("all_moved" : PySem.Str), ("all_alike" : PySem.Str), ("are_alike_by" : PySem.Str), ("both_ways" : PySem.Str), ("reads_alike" : PySem.Str), ("mirrors_by" : PySem.Str), ("slip_gaps_by" : PySem.Str), ("MOST_LEAST" : PySem.Str), ("tells_steps" : PySem.Str), ("tells_closed" : PySem.Str), ("tells_two_closed" : PySem.Str), ("tells_slips" : PySem.Str), ("tells_cost" : PySem.Str), ("tells_small_cost" : PySem.Str), ("FORMS" : PySem.Str), ("is_claim" : PySem.Str), ("certify_counts" : PySem.Str), ("is_nothing" : PySem.Str), ("shows_round" : PySem.Str), ("shows_not_round" : PySem.Str), ("shows_alike" : PySem.Str), ("shows_not_alike" : PySem.Str), ("shows_slips" : PySem.Str), ("shows_like_counts" : PySem.Str), ("shows_unlike_counts" : PySem.Str), ("shows_mirror" : PySem.Str), ("shows_no_mirror" : PySem.Str), ("shows_least" : PySem.Str)]
def loose2 : List PySem.Str := [("shows_not_least" : PySem.Str), ("shows_own" : PySem.Str), ("shows_again" : PySem.Str), ("OF_ONE" : PySem.Str), ("OF_TWO" : PySem.Str), ("accepts" : PySem.Str), ("layer_counts" : PySem.Str), ("like_row" : PySem.Str), ("have_like_counts" : PySem.Str), ("unlike_places" : PySem.Str), ("letter_counts" : PySem.Str), ("_law_bag" : PySem.Str), ("_law_draw" : PySem.Str), ("_law_one" : PySem.Str), ("_law_same" : PySem.Str), ("_law_is_whole" : PySem.Str), ("_law_further" : PySem.Str), ("_law_steps" : PySem.Str), ("_law_round_steps" : PySem.Str), ("_law_by" : PySem.Str), ("_law_stacking" : PySem.Str), ("_law_closed" : PySem.Str), ("_law_moved" : PySem.Str), ("_law_motions" : PySem.Str), ("_law_counts" : PySem.Str), ("_law_is_bar" : PySem.Str), ("_law_pair_right" : PySem.Str), ("_law_exchanged" : PySem.Str)]
def loose : List PySem.Str := loose0 ++ loose1 ++ loose2
def ex (K : PySem.W.Frag) : Bool := tupIn K "FORMS" "like counts" [.int 2, .ref (He.ga K "tells_two_closed")] && tupIn K "FORMS" "unlike counts" [.int 2, .ref (He.ga K "tells_two_closed")] && He.eqO (PySem.W.nsIn K (He.ga K "OF_TWO") "like counts") (some (some (.ref (He.ga K "shows_like_counts")))) && He.eqO (PySem.W.nsIn K (He.ga K "OF_TWO") "unlike counts") (some (some (.ref (He.ga K "shows_unlike_counts"))))
def ts : List He.Tab := [(fun K => He.ga K "FORMS", ["round", "not round", "alike", "not alike", "slips", "like counts", "unlike counts", "mirror", "no mirror", "least", "not least", "own", "again"]), (fun K => He.ga K "OF_ONE", ["round", "not round", "mirror", "no mirror", "own", "again"]), (fun K => He.ga K "OF_TWO", ["alike", "not alike", "like counts", "unlike counts", "least", "not least"])]
abbrev R : PySem.W.OpenRow := PySem.W.OpenLaw.row PySem.Challenge.rw_layerballs_k93_whole_count_claims
abbrev hk : PySem.W.Hook := He.hookX 2 fa fn ts [] ex
def ob (s : PySem.W.SharedT) : He.AlX := He.obsX 2 fa fn ts [] ex (HandSHeadRun.getT s)
theorem ob_eq (s : PySem.W.SharedT) : ob s = hk.obs s.abs := He.obsX_eq (HandSHeadRun.getT_eq s)
theorem map3 {α β γ δ : Type} (o : Option α) (f : α → β) (g : α → γ) (h : α → δ) {b : β} {c : γ} {d : δ} (e1 : o.map (fun x => (f x, g x)) = some (b, c)) (e2 : o.map h = some d) : o.map (fun x => (f x, g x, h x)) = some (b, c, d) := by
  cases o with
  | none => cases e1
  | some x =>
    have h1 := Option.some.inj e1
    have h2 := Option.some.inj e2
    obtain ⟨h3, h4⟩ := Prod.mk.inj h1
    subst h3 h4 h2
    rfl
theorem runf1 (w : World) : (HandSHeadRun.wholeF (fun p => HandSHeadRun.stepQ (HandSHeadRun.denQ HandSHeadRun.tabQ) p (w.withFollow "special-get-raises" false)) HandSHeadRun.fenceQ 8000 R.prog).map (fun x => (HandSHeadRun.looksF R.prog x.1.heap x.2.abs, HandSHeadRun.seenQ (PySem.W.view R.prog [0, 124]) loose (PySem.importedModules R.prog.main.body) (fun s => PySem.W.xlAt (PySem.W.view R.prog [0, 124]) [] s && PySem.W.recOk R.toRowW.records s) x.2.abs)) = some (true, PySem.W.openGood (PySem.W.view R.prog [0, 124]) loose) := by kernel_rfl
theorem runf2 (w : World) : (HandSHeadRun.wholeF (fun p => HandSHeadRun.stepQ (HandSHeadRun.denQ HandSHeadRun.tabQ) p (w.withFollow "special-get-raises" false)) HandSHeadRun.fenceQ 8000 R.prog).map (fun x => ob x.2) = some (hk.val (w.withFollow "special-get-raises" false)) := by kernel_rfl
theorem runf (w : World) : HandSHeadRun.RunEqI R (PySem.W.view R.prog [0, 124]) hk ob 8000 loose (w.withFollow "special-get-raises" false) := by
  unfold HandSHeadRun.RunEqI
  exact map3 _ _ _ _ (runf1 w) (runf2 w)
theorem runt1 (w : World) : (HandSHeadRun.wholeF (fun p => HandSHeadRun.stepQ (HandSHeadRun.denQ HandSHeadRun.tabQ) p (w.withFollow "special-get-raises" true)) HandSHeadRun.fenceQ 8000 R.prog).map (fun x => (HandSHeadRun.looksF R.prog x.1.heap x.2.abs, HandSHeadRun.seenQ (PySem.W.view R.prog [0, 124]) loose (PySem.importedModules R.prog.main.body) (fun s => PySem.W.xlAt (PySem.W.view R.prog [0, 124]) [] s && PySem.W.recOk R.toRowW.records s) x.2.abs)) = some (true, PySem.W.openGood (PySem.W.view R.prog [0, 124]) loose) := by kernel_rfl
theorem runt2 (w : World) : (HandSHeadRun.wholeF (fun p => HandSHeadRun.stepQ (HandSHeadRun.denQ HandSHeadRun.tabQ) p (w.withFollow "special-get-raises" true)) HandSHeadRun.fenceQ 8000 R.prog).map (fun x => ob x.2) = some (hk.val (w.withFollow "special-get-raises" true)) := by kernel_rfl
theorem runt (w : World) : HandSHeadRun.RunEqI R (PySem.W.view R.prog [0, 124]) hk ob 8000 loose (w.withFollow "special-get-raises" true) := by
  unfold HandSHeadRun.RunEqI
  exact map3 _ _ _ _ (runt1 w) (runt2 w)
theorem run (w : World) : HandSHeadRun.RunEqI R (PySem.W.view R.prog [0, 124]) hk ob 8000 loose w := PySem.W.byRow2 "special-get-raises" (P := fun w => HandSHeadRun.RunEqI R (PySem.W.view R.prog [0, 124]) hk ob 8000 loose w) runf runt w
end Hd

/-! Pv: Python's defs as functions on plain values, over HandS. -/
namespace Pv
open PySem PySem.Spec PyProof.Rows L2

/-! ### plain values, the store, results -/
inductive PV where
  | non | bl (b : Bool) | int (i : Int) | str (x : List Nat) | tup (xs : List PV) | lst (xs : List PV) | scr (ns : List Int) | ref (n : Nat)
inductive SO where
  | lst (xs : List PV)
abbrev Sto := List SO
abbrev VEnv := List (Option PV)
inductive R (α : Type) where
  | ok (a : α) (S : Sto)
  | no
/-- go on behind a result -/
def R.to {α ρ : Type} (z : ρ) (r : R α) (k : α → Sto → ρ) : ρ := match r with
  | .ok a S => k a S
  | .no => z
theorem to_ok {α ρ : Type} (z : ρ) (a : α) (S : Sto) (k : α → Sto → ρ) : (R.ok a S).to z k = k a S := rfl
theorem to_no {α ρ : Type} (z : ρ) (k : α → Sto → ρ) : (R.no : R α).to z k = z := rfl
abbrev R.bind {α β : Type} (r : R α) (k : α → Sto → R β) : R β := r.to R.no k
inductive RS where
  | nx (env : VEnv) (S : Sto)
  | ret (v : PV) (S : Sto)
  | no
abbrev R.bindS {α : Type} (r : R α) (k : α → Sto → RS) : RS := r.to RS.no k
def SZ : Nat := 16777216
theorem SZ_eq : SZ = sizeLine := by rw [sizeLine_eq]; rfl

/-! ### what stands for what -/
section
variable (K : PySem.W.Frag)
/-- a list, a tuple that stays as it is -/
def FzT (g : List Addr) (H : Hp) (a : Addr) (vs : List V) : Prop := (Rd H a (.tup vs) ∧ a ∉ g) ∨ SqT K (fun _ => none) a vs
def FzS (g : List Addr) (H : Hp) (a : Addr) (ns : List Int) : Prop := (Rd H a (.lst (ns.map V.int)) ∧ a ∉ g) ∨ SqL K (fun _ => none) a (ns.map V.int)
def FzL (g : List Addr) (H : Hp) (a : Addr) (vs : List V) : Prop := H a = some (.lst vs) ∧ a ∉ g
mutual
inductive RepP (g : List Addr) (H : Hp) : V → PV → Prop
  | non : RepP g H .non .non
  | bl (b : Bool) : RepP g H (.bl b) (.bl b)
  | int (i : Int) : RepP g H (.int i) (.int i)
  | str (x : Str) (l : List Nat) (e : x.cps.toList = l) (hz : l.length ≤ SZ) (ho : ∀ c ∈ l, c < 1114112) : RepP g H (.str x) (.str l)
  | tup {a : Addr} {vs : List V} {xs : List PV} (h : FzT K g H a vs) (r : RepsP g H vs xs) : RepP g H (.ref a) (.tup xs)
  | lst {a : Addr} {vs : List V} {xs : List PV} (h : FzL g H a vs) (r : RepsP g H vs xs) : RepP g H (.ref a) (.lst xs)
  | scr {a : Addr} {ns : List Int} (h : FzS K g H a ns) : RepP g H (.ref a) (.scr ns)
inductive RepsP (g : List Addr) (H : Hp) : List V → List PV → Prop
  | nil : RepsP g H [] []
  | cons {v : V} {x : PV} {vs : List V} {xs : List PV} (h : RepP g H v x) (t : RepsP g H vs xs) : RepsP g H (v :: vs) (x :: xs)
end
inductive Rep (m g : List Addr) (H : Hp) : V → PV → Prop
  | p {v : V} {x : PV} (h : RepP K g H v x) : Rep m g H v x
  | r {n : Nat} {a : Addr} (h : m[n]? = some a) : Rep m g H (.ref a) (.ref n)
inductive Reps (m g : List Addr) (H : Hp) : List V → List PV → Prop
  | nil : Reps m g H [] []
  | cons {v : V} {x : PV} {vs : List V} {xs : List PV} (h : Rep K m g H v x) (t : Reps m g H vs xs) : Reps m g H (v :: vs) (x :: xs)
def CellOk (g : List Addr) (H : Hp) (a : Addr) : SO → Prop
  | .lst xs => ∃ vs, H a = some (.lst vs) ∧ RepsP K g H vs xs
structure StOk (m g : List Addr) (H : Hp) (S : Sto) : Prop where
  len : m.length = S.length
  nd : m.Nodup
  sub : ∀ a ∈ m, a ∈ g
  live : ∀ a ∈ g, H a ≠ none
  cell : ∀ (n : Nat) (a : Addr) (o : SO), m[n]? = some a → S[n]? = some o → CellOk K g H a o
structure EnvOk (m g : List Addr) (H : Hp) (σ : L2.St) (env : VEnv) : Prop where
  len : σ.length = env.length
  at_ : ∀ (i : Nat) (x : PV), env[i]? = some (some x) → ∃ v, σ[i]? = some (some v) ∧ Rep K m g H v x
end
/-- later worlds -/
structure Nx (m g : List Addr) (H : Hp) (m' g' : List Addr) (H' : Hp) : Prop where
  ext : ∀ a o, H a = some o → a ∉ m → H' a = some o
  free : ∀ a, H' a = none → H a = none
  app : ∃ new, m' = m ++ new ∧ ∀ a ∈ new, H a = none
  gs : ∀ a, a ∈ g → a ∈ g'
  gn : ∀ a, a ∈ g' → a ∈ g ∨ H a = none
theorem Nx.refl {m g : List Addr} {H : Hp} : Nx m g H m g H := ⟨fun _ _ e _ => e, fun _ e => e, ⟨[], by simp⟩, fun _ h => h, fun _ h => .inl h⟩
section
variable {K : PySem.W.Frag} {m g m' g' m2 g2 : List Addr} {H H' H2 : Hp} {S S' : Sto}
theorem Nx.trans (a : Nx m g H m' g' H') (b : Nx m' g' H' m2 g2 H2) : Nx m g H m2 g2 H2 := by
  obtain ⟨n1, e1, f1⟩ := a.app
  obtain ⟨n2, e2, f2⟩ := b.app
  refine ⟨fun c o e hm => b.ext c o (a.ext c o e hm) fun hc => ?_, fun c e => a.free c (b.free c e), ⟨n1 ++ n2, by rw [e2, e1, List.append_assoc], fun c hc => ?_⟩, fun c h => b.gs c (a.gs c h), fun c h => ?_⟩
  · rw [e1] at hc
    rcases List.mem_append.mp hc with z | z
    · exact hm z
    · rw [f1 c z] at e; cases e
  · rcases List.mem_append.mp hc with z | z
    · exact f1 c z
    · exact a.free c (f2 c z)
  · rcases b.gn c h with q | q
    · exact a.gn c q
    · exact .inr (a.free c q)
/-- what is needed to carry a plain value on -/
structure Kp (g : List Addr) (H : Hp) (g' : List Addr) (H' : Hp) : Prop where
  ext : ∀ a o, H a = some o → a ∉ g → H' a = some o
  gn : ∀ a, a ∈ g' → a ∈ g ∨ H a = none
theorem Nx.kp (a : Nx m g H m' g' H') (sub : ∀ c ∈ m, c ∈ g) : Kp g H g' H' := ⟨fun c o e h => a.ext c o e fun z => h (sub c z), a.gn⟩
theorem Kp.rd {a : Addr} {o : HO} (k : Kp g H g' H') (h : Rd H a o ∧ a ∉ g) : Rd H' a o ∧ a ∉ g' := by
  obtain ⟨h, n⟩ := h
  refine ⟨?_, fun z => ?_⟩
  · rcases h with h | ⟨o', h⟩
    · exact .inl (k.ext a _ h n)
    · exact .inr ⟨o', k.ext a _ h n⟩
  · rcases k.gn a z with q | q
    · exact n q
    · rcases h with h | ⟨o', h⟩ <;> (rw [q] at h; cases h)
theorem FzT.mono {a : Addr} {vs : List V} (k : Kp g H g' H') (h : FzT K g H a vs) : FzT K g' H' a vs := h.imp k.rd id
theorem FzL.mono {a : Addr} {vs : List V} (k : Kp g H g' H') (h : FzL g H a vs) : FzL g' H' a vs := by
  obtain ⟨h, n⟩ := h
  have q := k.rd ⟨.inl h, n⟩
  exact ⟨k.ext a _ h n, q.2⟩
theorem FzT.sq {a : Addr} {vs : List V} (h : FzT K g H a vs) : SqT K H a vs := by
  rcases h with ⟨h, _⟩ | h
  · exact .inl h
  · rcases h with h | h
    · rcases h with h | ⟨_, h⟩ <;> cases h
    · exact .inr h
theorem FzS.sq {a : Addr} {ns : List Int} (h : FzS K g H a ns) : SqL K H a (ns.map V.int) := by
  rcases h with ⟨h, _⟩ | h
  · exact .inl h
  · rcases h with h | h
    · rcases h with h | ⟨_, h⟩ <;> cases h
    · exact .inr h
mutual
theorem RepP.mono (k : Kp g H g' H') : ∀ {v : V} {x : PV}, RepP K g H v x → RepP K g' H' v x
  | _, _, .non => .non
  | _, _, .bl b => .bl b
  | _, _, .int i => .int i
  | _, _, .str x l e hz ho => .str x l e hz ho
  | _, _, .tup h r => .tup (h.mono k) (RepsP.mono k r)
  | _, _, .lst h r => .lst (h.mono k) (RepsP.mono k r)
  | _, _, .scr h => .scr (h.imp k.rd id)
theorem RepsP.mono (k : Kp g H g' H') : ∀ {vs : List V} {xs : List PV}, RepsP K g H vs xs → RepsP K g' H' vs xs
  | _, _, .nil => .nil
  | _, _, .cons h t => .cons (RepP.mono k h) (RepsP.mono k t)
end
theorem Rep.mono (a : Nx m g H m' g' H') (sub : ∀ c ∈ m, c ∈ g) {v : V} {x : PV} (h : Rep K m g H v x) : Rep K m' g' H' v x := by
  cases h with
  | p h => exact .p (h.mono (a.kp sub))
  | r h =>
    obtain ⟨new, e, _⟩ := a.app
    refine .r ?_
    rw [e, List.getElem?_append_left (List.getElem?_eq_some_iff.mp h).1]
    exact h
theorem Reps.mono (a : Nx m g H m' g' H') (sub : ∀ c ∈ m, c ∈ g) : ∀ {vs : List V} {xs : List PV}, Reps K m g H vs xs → Reps K m' g' H' vs xs
  | _, _, .nil => .nil
  | _, _, .cons h t => .cons (h.mono a sub) (Reps.mono a sub t)
theorem EnvOk.mono (a : Nx m g H m' g' H') (sub : ∀ c ∈ m, c ∈ g) {σ : L2.St} {env : VEnv} (h : EnvOk K m g H σ env) : EnvOk K m' g' H' σ env :=
  ⟨h.len, fun i x e => let ⟨v, e1, r⟩ := h.at_ i x e; ⟨v, e1, r.mono a sub⟩⟩
theorem Reps.length : ∀ {vs : List V} {xs : List PV}, Reps K m g H vs xs → vs.length = xs.length
  | _, _, .nil => rfl
  | _, _, .cons _ t => congrArg Nat.succ t.length
theorem RepsP.length : ∀ {vs : List V} {xs : List PV}, RepsP K g H vs xs → vs.length = xs.length
  | _, _, .nil => rfl
  | _, _, .cons _ t => congrArg Nat.succ t.length
theorem EnvOk.set {σ : L2.St} {env : VEnv} (h : EnvOk K m g H σ env) {v : V} {x : PV} (r : Rep K m g H v x) (i : Nat) : EnvOk K m g H (σ.set i (some v)) (env.set i (some x)) := by
  refine ⟨by simp [h.len], fun j y e => ?_⟩
  by_cases hj : i = j
  · subst hj
    by_cases hl : i < env.length
    · rw [List.getElem?_set_self hl] at e
      cases e
      exact ⟨v, by rw [List.getElem?_set_self (by rw [h.len]; exact hl)], r⟩
    · rw [List.getElem?_eq_none (by simpa using hl)] at e; cases e
  · rw [List.getElem?_set_ne hj] at e ⊢
    exact h.at_ j y e

/-! ### what is wanted of a result -/
def PostV (K : PySem.W.Frag) (m g : List Addr) (H : Hp) (r : R PV) (Q : V → Hp → Prop) : Prop := match r with
  | .ok x S' => ∀ v m' g' H', Nx m g H m' g' H' → StOk K m' g' H' S' → Rep K m' g' H' v x → Q v H'
  | .no => False
def PostL (K : PySem.W.Frag) (m g : List Addr) (H : Hp) (r : R (List PV)) (Q : List V → Hp → Prop) : Prop := match r with
  | .ok xs S' => ∀ vs m' g' H', Nx m g H m' g' H' → StOk K m' g' H' S' → Reps K m' g' H' vs xs → Q vs H'
  | .no => False
def PostB (K : PySem.W.Frag) (m g : List Addr) (H : Hp) (r : R Bool) (Q : Bool → Hp → Prop) : Prop := match r with
  | .ok b S' => ∀ m' g' H', Nx m g H m' g' H' → StOk K m' g' H' S' → Q b H'
  | .no => False
def PostS (K : PySem.W.Frag) (m g : List Addr) (H : Hp) (r : RS) (D : Ends) : Prop := match r with
  | .nx env' S' => ∀ σ' m' g' H', Nx m g H m' g' H' → StOk K m' g' H' S' → EnvOk K m' g' H' σ' env' → D.nx σ' H'
  | .ret x S' => ∀ v m' g' H', Nx m g H m' g' H' → StOk K m' g' H' S' → Rep K m' g' H' v x → D.rt v H'
  | .no => False
theorem PostV.mono {r : R PV} {Q : V → Hp → Prop} (h : PostV K m g H r Q) (a : Nx m g H m' g' H') : PostV K m' g' H' r Q := by
  cases r with
  | ok x S' => exact fun v m2 g2 H2 b so rp => h v m2 g2 H2 (a.trans b) so rp
  | no => exact h
theorem PostL.mono {r : R (List PV)} {Q : List V → Hp → Prop} (h : PostL K m g H r Q) (a : Nx m g H m' g' H') : PostL K m' g' H' r Q := by
  cases r with
  | ok x S' => exact fun v m2 g2 H2 b so rp => h v m2 g2 H2 (a.trans b) so rp
  | no => exact h
theorem PostB.mono {r : R Bool} {Q : Bool → Hp → Prop} (h : PostB K m g H r Q) (a : Nx m g H m' g' H') : PostB K m' g' H' r Q := by
  cases r with
  | ok x S' => exact fun m2 g2 H2 b so => h m2 g2 H2 (a.trans b) so
  | no => exact h
theorem PostS.mono {r : RS} {D : Ends} (h : PostS K m g H r D) (a : Nx m g H m' g' H') : PostS K m' g' H' r D := by
  cases r with
  | nx x S' => exact fun v m2 g2 H2 b so rp => h v m2 g2 H2 (a.trans b) so rp
  | ret x S' => exact fun v m2 g2 H2 b so rp => h v m2 g2 H2 (a.trans b) so rp
  | no => exact h
end

/-! ### readings -/
abbrev FE := VEnv → Sto → R PV
abbrev FT := VEnv → Sto → R Bool
abbrev FA := VEnv → Sto → R (List PV)
abbrev FS := VEnv → Sto → RS
def tO (K : PySem.W.Frag) (f : FE) : TE := fun σ H Q => ∃ m g S env, StOk K m g H S ∧ EnvOk K m g H σ env ∧ PostV K m g H (f env S) Q
def tT (K : PySem.W.Frag) (f : FT) : TT := fun σ H Q => ∃ m g S env, StOk K m g H S ∧ EnvOk K m g H σ env ∧ PostB K m g H (f env S) Q
def tA (K : PySem.W.Frag) (f : FA) : TA := fun σ H Q => ∃ m g S env, StOk K m g H S ∧ EnvOk K m g H σ env ∧ PostL K m g H (f env S) Q
def tS (K : PySem.W.Frag) (f : FS) : TS := fun D σ H => ∃ m g S env, StOk K m g H S ∧ EnvOk K m g H σ env ∧ PostS K m g H (f env S) D
/-- an expression, a test, arguments, a statement, a block reads so -/
def SE (X : Cx) (e : Expr) (f : FE) : Prop := PE X e (tO X.K f)
def ST (X : Cx) (e : Expr) (f : FT) : Prop := PT X e (tT X.K f)
def SW (X : Cx) (e : Expr) (f : FT) : Prop := PW X e (tT X.K f)
def SA (X : Cx) (es : List Expr) (f : FA) : Prop := PA X es (tA X.K f)
def SS (X : Cx) (st : Stmt) (f : FS) : Prop := PS X st (tS X.K f)
def SSs (X : Cx) (st : List Stmt) (f : FS) : Prop := PSs X st (tS X.K f)
theorem imE {X : Cx} {e : Expr} {t t' : TE} (h : PE X e t) (w : ∀ σ H Q, t' σ H Q → t σ H Q) : PE X e t' := ⟨fun pins s σ H Q I q => h.run pins s σ H Q I (w σ H Q q)⟩
theorem imT {X : Cx} {e : Expr} {t t' : TT} (h : PT X e t) (w : ∀ σ H Q, t' σ H Q → t σ H Q) : PT X e t' := ⟨fun pins s σ H Q I q => h.run pins s σ H Q I (w σ H Q q)⟩
theorem imW {X : Cx} {e : Expr} {t t' : TT} (h : PW X e t) (w : ∀ σ H Q, t' σ H Q → t σ H Q) : PW X e t' := ⟨fun wh pins s σ H Q I q => h.run wh pins s σ H Q I (w σ H Q q)⟩
theorem imA {X : Cx} {es : List Expr} {t t' : TA} (h : PA X es t) (w : ∀ σ H Q, t' σ H Q → t σ H Q) : PA X es t' := ⟨fun pos pins s σ H Q I q => h.run pos pins s σ H Q I (w σ H Q q)⟩
theorem imS {X : Cx} {st : Stmt} {t t' : TS} (h : PS X st t) (w : ∀ D σ H, t' D σ H → t D σ H) : PS X st t' := ⟨fun pins s σ H D I q => h.run pins s σ H D I (w D σ H q)⟩
theorem imSs {X : Cx} {st : List Stmt} {t t' : TS} (h : PSs X st t) (w : ∀ D σ H, t' D σ H → t D σ H) : PSs X st t' := ⟨fun pins s σ H D I q => h.run pins s σ H D I (w D σ H q)⟩

/-! ### one part behind another -/
section
variable {K : PySem.W.Frag} {m g : List Addr} {H : Hp} {S : Sto} {env : VEnv} {σ : L2.St}
/-- an expression, then whatever goes on -/
theorem seqV {ρ : Type} {z : ρ} {f : FE} {k : PV → Sto → ρ} {P : List Addr → List Addr → Hp → ρ → Prop} (hno : ∀ m g H, ¬ P m g H z) (hm : ∀ {m g H m' g' H'} {r : ρ}, P m g H r → Nx m g H m' g' H' → P m' g' H' r)
    (so : StOk K m g H S) (eo : EnvOk K m g H σ env) (h : P m g H ((f env S).to z k)) {Q : V → Hp → Prop}
    (go : ∀ x S' v m' g' H', Nx m g H m' g' H' → StOk K m' g' H' S' → EnvOk K m' g' H' σ env → Rep K m' g' H' v x → P m' g' H' (k x S') → Q v H') : tO K f σ H Q := by
  refine ⟨m, g, S, env, so, eo, ?_⟩
  unfold PostV
  cases e : f env S with
  | ok x S' =>
    rw [e] at h
    exact fun v m' g' H' nx so' r => go x S' v m' g' H' nx so' (eo.mono nx so.sub) r (hm h nx)
  | no =>
    rw [e] at h
    exact absurd h (hno m g H)
theorem seqB {ρ : Type} {z : ρ} {f : FT} {k : Bool → Sto → ρ} {P : List Addr → List Addr → Hp → ρ → Prop} (hno : ∀ m g H, ¬ P m g H z) (hm : ∀ {m g H m' g' H'} {r : ρ}, P m g H r → Nx m g H m' g' H' → P m' g' H' r)
    (so : StOk K m g H S) (eo : EnvOk K m g H σ env) (h : P m g H ((f env S).to z k)) {Q : Bool → Hp → Prop}
    (go : ∀ x S' m' g' H', Nx m g H m' g' H' → StOk K m' g' H' S' → EnvOk K m' g' H' σ env → P m' g' H' (k x S') → Q x H') : tT K f σ H Q := by
  refine ⟨m, g, S, env, so, eo, ?_⟩
  unfold PostB
  cases e : f env S with
  | ok x S' =>
    rw [e] at h
    exact fun m' g' H' nx so' => go x S' m' g' H' nx so' (eo.mono nx so.sub) (hm h nx)
  | no =>
    rw [e] at h
    exact absurd h (hno m g H)
theorem seqL {ρ : Type} {z : ρ} {f : FA} {k : List PV → Sto → ρ} {P : List Addr → List Addr → Hp → ρ → Prop} (hno : ∀ m g H, ¬ P m g H z) (hm : ∀ {m g H m' g' H'} {r : ρ}, P m g H r → Nx m g H m' g' H' → P m' g' H' r)
    (so : StOk K m g H S) (eo : EnvOk K m g H σ env) (h : P m g H ((f env S).to z k)) {Q : List V → Hp → Prop}
    (go : ∀ x S' v m' g' H', Nx m g H m' g' H' → StOk K m' g' H' S' → EnvOk K m' g' H' σ env → Reps K m' g' H' v x → P m' g' H' (k x S') → Q v H') : tA K f σ H Q := by
  refine ⟨m, g, S, env, so, eo, ?_⟩
  unfold PostL
  cases e : f env S with
  | ok x S' =>
    rw [e] at h
    exact fun v m' g' H' nx so' r => go x S' v m' g' H' nx so' (eo.mono nx so.sub) r (hm h nx)
  | no =>
    rw [e] at h
    exact absurd h (hno m g H)
end
/-- more wishes -/
def PostF (K : PySem.W.Frag) (m g : List Addr) (H : Hp) (r : R (List PV)) (Q : V → Hp → Prop) : Prop := match r with
  | .ok xs S' => ∀ p vs m' g' H', Nx m g H m' g' H' → p ∉ g' → p ∉ m' → H p = none → StOk K m' (p :: g') H' S' → H' p = some (.lst vs) → RepsP K (p :: g') H' vs xs → Q (.ref p) H'
  | .no => False
theorem PostF.mono {K : PySem.W.Frag} {m g m' g' : List Addr} {H H' : Hp} {r : R (List PV)} {Q : V → Hp → Prop} (h : PostF K m g H r Q) (a : Nx m g H m' g' H') : PostF K m' g' H' r Q := by
  cases r with
  | ok x S' => exact fun p vs m2 g2 H2 b np nm hp => h p vs m2 g2 H2 (a.trans b) np nm (a.free p hp)
  | no => exact h
section
variable {K : PySem.W.Frag} {m g : List Addr} {H : Hp} {S : Sto} {env : VEnv} {σ : L2.St}
theorem vV {f : FE} {k : PV → Sto → R PV} {W : V → Hp → Prop} (so : StOk K m g H S) (eo : EnvOk K m g H σ env) (h : PostV K m g H ((f env S).to R.no k) W) {Q : V → Hp → Prop} (go : ∀ x S' v m' g' H', Nx m g H m' g' H' → StOk K m' g' H' S' → EnvOk K m' g' H' σ env → Rep K m' g' H' v x → PostV K m' g' H' (k x S') W → Q v H') : tO K f σ H Q :=
  seqV (z := R.no) (P := fun m g H r => PostV K m g H r W) (fun _ _ _ h => h) (fun h a => PostV.mono h a) so eo h go
theorem vB {f : FE} {k : PV → Sto → R Bool} {W : Bool → Hp → Prop} (so : StOk K m g H S) (eo : EnvOk K m g H σ env) (h : PostB K m g H ((f env S).to R.no k) W) {Q : V → Hp → Prop} (go : ∀ x S' v m' g' H', Nx m g H m' g' H' → StOk K m' g' H' S' → EnvOk K m' g' H' σ env → Rep K m' g' H' v x → PostB K m' g' H' (k x S') W → Q v H') : tO K f σ H Q :=
  seqV (z := R.no) (P := fun m g H r => PostB K m g H r W) (fun _ _ _ h => h) (fun h a => PostB.mono h a) so eo h go
theorem vL {f : FE} {k : PV → Sto → R (List PV)} {W : List V → Hp → Prop} (so : StOk K m g H S) (eo : EnvOk K m g H σ env) (h : PostL K m g H ((f env S).to R.no k) W) {Q : V → Hp → Prop} (go : ∀ x S' v m' g' H', Nx m g H m' g' H' → StOk K m' g' H' S' → EnvOk K m' g' H' σ env → Rep K m' g' H' v x → PostL K m' g' H' (k x S') W → Q v H') : tO K f σ H Q :=
  seqV (z := R.no) (P := fun m g H r => PostL K m g H r W) (fun _ _ _ h => h) (fun h a => PostL.mono h a) so eo h go
theorem vF {f : FE} {k : PV → Sto → R (List PV)} {W : V → Hp → Prop} (so : StOk K m g H S) (eo : EnvOk K m g H σ env) (h : PostF K m g H ((f env S).to R.no k) W) {Q : V → Hp → Prop} (go : ∀ x S' v m' g' H', Nx m g H m' g' H' → StOk K m' g' H' S' → EnvOk K m' g' H' σ env → Rep K m' g' H' v x → PostF K m' g' H' (k x S') W → Q v H') : tO K f σ H Q :=
  seqV (z := R.no) (P := fun m g H r => PostF K m g H r W) (fun _ _ _ h => h) (fun h a => PostF.mono h a) so eo h go
theorem vS {f : FE} {k : PV → Sto → RS} {W : Ends} (so : StOk K m g H S) (eo : EnvOk K m g H σ env) (h : PostS K m g H ((f env S).to RS.no k) W) {Q : V → Hp → Prop} (go : ∀ x S' v m' g' H', Nx m g H m' g' H' → StOk K m' g' H' S' → EnvOk K m' g' H' σ env → Rep K m' g' H' v x → PostS K m' g' H' (k x S') W → Q v H') : tO K f σ H Q :=
  seqV (z := RS.no) (P := fun m g H r => PostS K m g H r W) (fun _ _ _ h => h) (fun h a => PostS.mono h a) so eo h go
theorem bV {f : FT} {k : Bool → Sto → R PV} {W : V → Hp → Prop} (so : StOk K m g H S) (eo : EnvOk K m g H σ env) (h : PostV K m g H ((f env S).to R.no k) W) {Q : Bool → Hp → Prop} (go : ∀ x S' m' g' H', Nx m g H m' g' H' → StOk K m' g' H' S' → EnvOk K m' g' H' σ env → PostV K m' g' H' (k x S') W → Q x H') : tT K f σ H Q :=
  seqB (z := R.no) (P := fun m g H r => PostV K m g H r W) (fun _ _ _ h => h) (fun h a => PostV.mono h a) so eo h go
theorem bB {f : FT} {k : Bool → Sto → R Bool} {W : Bool → Hp → Prop} (so : StOk K m g H S) (eo : EnvOk K m g H σ env) (h : PostB K m g H ((f env S).to R.no k) W) {Q : Bool → Hp → Prop} (go : ∀ x S' m' g' H', Nx m g H m' g' H' → StOk K m' g' H' S' → EnvOk K m' g' H' σ env → PostB K m' g' H' (k x S') W → Q x H') : tT K f σ H Q :=
  seqB (z := R.no) (P := fun m g H r => PostB K m g H r W) (fun _ _ _ h => h) (fun h a => PostB.mono h a) so eo h go
theorem bL {f : FT} {k : Bool → Sto → R (List PV)} {W : List V → Hp → Prop} (so : StOk K m g H S) (eo : EnvOk K m g H σ env) (h : PostL K m g H ((f env S).to R.no k) W) {Q : Bool → Hp → Prop} (go : ∀ x S' m' g' H', Nx m g H m' g' H' → StOk K m' g' H' S' → EnvOk K m' g' H' σ env → PostL K m' g' H' (k x S') W → Q x H') : tT K f σ H Q :=
  seqB (z := R.no) (P := fun m g H r => PostL K m g H r W) (fun _ _ _ h => h) (fun h a => PostL.mono h a) so eo h go
theorem bF {f : FT} {k : Bool → Sto → R (List PV)} {W : V → Hp → Prop} (so : StOk K m g H S) (eo : EnvOk K m g H σ env) (h : PostF K m g H ((f env S).to R.no k) W) {Q : Bool → Hp → Prop} (go : ∀ x S' m' g' H', Nx m g H m' g' H' → StOk K m' g' H' S' → EnvOk K m' g' H' σ env → PostF K m' g' H' (k x S') W → Q x H') : tT K f σ H Q :=
  seqB (z := R.no) (P := fun m g H r => PostF K m g H r W) (fun _ _ _ h => h) (fun h a => PostF.mono h a) so eo h go
theorem bS {f : FT} {k : Bool → Sto → RS} {W : Ends} (so : StOk K m g H S) (eo : EnvOk K m g H σ env) (h : PostS K m g H ((f env S).to RS.no k) W) {Q : Bool → Hp → Prop} (go : ∀ x S' m' g' H', Nx m g H m' g' H' → StOk K m' g' H' S' → EnvOk K m' g' H' σ env → PostS K m' g' H' (k x S') W → Q x H') : tT K f σ H Q :=
  seqB (z := RS.no) (P := fun m g H r => PostS K m g H r W) (fun _ _ _ h => h) (fun h a => PostS.mono h a) so eo h go
theorem lV {f : FA} {k : List PV → Sto → R PV} {W : V → Hp → Prop} (so : StOk K m g H S) (eo : EnvOk K m g H σ env) (h : PostV K m g H ((f env S).to R.no k) W) {Q : List V → Hp → Prop} (go : ∀ x S' v m' g' H', Nx m g H m' g' H' → StOk K m' g' H' S' → EnvOk K m' g' H' σ env → Reps K m' g' H' v x → PostV K m' g' H' (k x S') W → Q v H') : tA K f σ H Q :=
  seqL (z := R.no) (P := fun m g H r => PostV K m g H r W) (fun _ _ _ h => h) (fun h a => PostV.mono h a) so eo h go
theorem lB {f : FA} {k : List PV → Sto → R Bool} {W : Bool → Hp → Prop} (so : StOk K m g H S) (eo : EnvOk K m g H σ env) (h : PostB K m g H ((f env S).to R.no k) W) {Q : List V → Hp → Prop} (go : ∀ x S' v m' g' H', Nx m g H m' g' H' → StOk K m' g' H' S' → EnvOk K m' g' H' σ env → Reps K m' g' H' v x → PostB K m' g' H' (k x S') W → Q v H') : tA K f σ H Q :=
  seqL (z := R.no) (P := fun m g H r => PostB K m g H r W) (fun _ _ _ h => h) (fun h a => PostB.mono h a) so eo h go
theorem lL {f : FA} {k : List PV → Sto → R (List PV)} {W : List V → Hp → Prop} (so : StOk K m g H S) (eo : EnvOk K m g H σ env) (h : PostL K m g H ((f env S).to R.no k) W) {Q : List V → Hp → Prop} (go : ∀ x S' v m' g' H', Nx m g H m' g' H' → StOk K m' g' H' S' → EnvOk K m' g' H' σ env → Reps K m' g' H' v x → PostL K m' g' H' (k x S') W → Q v H') : tA K f σ H Q :=
  seqL (z := R.no) (P := fun m g H r => PostL K m g H r W) (fun _ _ _ h => h) (fun h a => PostL.mono h a) so eo h go
theorem lF {f : FA} {k : List PV → Sto → R (List PV)} {W : V → Hp → Prop} (so : StOk K m g H S) (eo : EnvOk K m g H σ env) (h : PostF K m g H ((f env S).to R.no k) W) {Q : List V → Hp → Prop} (go : ∀ x S' v m' g' H', Nx m g H m' g' H' → StOk K m' g' H' S' → EnvOk K m' g' H' σ env → Reps K m' g' H' v x → PostF K m' g' H' (k x S') W → Q v H') : tA K f σ H Q :=
  seqL (z := R.no) (P := fun m g H r => PostF K m g H r W) (fun _ _ _ h => h) (fun h a => PostF.mono h a) so eo h go
theorem lS {f : FA} {k : List PV → Sto → RS} {W : Ends} (so : StOk K m g H S) (eo : EnvOk K m g H σ env) (h : PostS K m g H ((f env S).to RS.no k) W) {Q : List V → Hp → Prop} (go : ∀ x S' v m' g' H', Nx m g H m' g' H' → StOk K m' g' H' S' → EnvOk K m' g' H' σ env → Reps K m' g' H' v x → PostS K m' g' H' (k x S') W → Q v H') : tA K f σ H Q :=
  seqL (z := RS.no) (P := fun m g H r => PostS K m g H r W) (fun _ _ _ h => h) (fun h a => PostS.mono h a) so eo h go
end
end Pv

namespace Pv
open PySem PySem.Spec PyProof.Rows L2
section
variable {X : Cx} {e a b c : Expr} {es rest : List Expr} {fa fb fc : FE} {pos : Pos}

/-! ### names, constants -/
def eVar (i : Nat) : FE := fun env S => match env[i]? with
  | some (some v) => .ok v S
  | _ => .no
def eCon (v : PV) : FE := fun _ S => .ok v S
theorem s_var (i : Nat) {x : Str} (hN : X.N[i]? = some x := by rfl) (hv : Vis X.env.scope x := by first | exact Or.inl rfl | exact Or.inr (Or.inl rfl) | exact Or.inr (Or.inr rfl)) (hd : (x == ("__debug__" : Str)) = false := by decide)
    (hcd : (x == ("__classdict__" : Str)) = false := by decide) : SE X (.Name x pos) (eVar i) := by
  refine imE (pe_var (i := i) hN hv hd hcd) fun σ H Q h => ?_
  obtain ⟨m, g, S, env, so, eo, h⟩ := h
  unfold eVar at h
  split at h
  · rename_i v e
    obtain ⟨u, e1, r⟩ := eo.at_ i v e
    exact ⟨u, e1, h u m g H .refl so r⟩
  · exact h.elim
theorem s_con {t : TE} {v : V} {x : PV} (h : PE X e (tC v)) (r : ∀ g H, RepP X.K g H v x) : SE X e (eCon x) := by
  refine imE h fun σ H Q h => ?_
  obtain ⟨m, g, S, env, so, eo, h⟩ := h
  exact h v m g H .refl so (.p (r g H))
theorem s_int {i : Int} {j} : SE X (.Constant (.int i) j pos) (eCon (.int i)) := s_con (t := tC (.int i)) pe_int fun _ _ => .int i
theorem s_bl {i : Bool} {j} : SE X (.Constant (.bool i) j pos) (eCon (.bl i)) := s_con (t := tC (.bl i)) pe_bl fun _ _ => .bl i
theorem s_non {j} : SE X (.Constant .none j pos) (eCon .non) := s_con (t := tC .non) pe_non fun _ _ => .non
def strOkL (l : List Nat) : Bool := decide (l.length ≤ SZ) && l.all fun c => decide (c < 1114112)
theorem rep_str {K : PySem.W.Frag} {g : List Addr} {H : Hp} {x : Str} {l : List Nat} (e : x.cps.toList = l) (h : strOkL l = true) : RepP K g H (.str x) (.str l) := by
  obtain ⟨h1, h2⟩ := Bool.and_eq_true_iff.mp h
  exact .str x l e (of_decide_eq_true h1) fun c hc => of_decide_eq_true (List.all_eq_true.mp h2 c hc)
theorem s_str {x : Str} {l : List Nat} {j} (e : x.cps.toList = l := by rfl) (h : strOkL l = true := by rfl) : SE X (.Constant (.str x) j pos) (eCon (.str l)) := s_con (t := tC (.str x)) pe_str fun _ _ => rep_str e h
/-- a module's int, text -/
theorem s_gI {x : Str} {i : Int} (hm : ∃ t, X.mg x = some (.int i t)) (hg : Gl X x := by rfl) (hd : (x == ("__debug__" : Str)) = false := by decide) : SE X (.Name x pos) (eCon (.int i)) := by
  obtain ⟨t, hm⟩ := hm
  exact s_con (t := tC (.int i)) (pe_glob (v := .int i) hg hm ⟨_, rfl⟩ hd) fun _ _ => .int i
theorem s_gS {x z : Str} {l : List Nat} (hm : ∃ t, X.mg x = some (.str z t)) (hg : Gl X x := by rfl) (e : z.cps.toList = l := by rfl) (h : strOkL l = true := by rfl) (hd : (x == ("__debug__" : Str)) = false := by decide) : SE X (.Name x pos) (eCon (.str l)) := by
  obtain ⟨t, hm⟩ := hm
  exact s_con (t := tC (.str z)) (pe_glob (v := .str z) hg hm ⟨_, rfl⟩ hd) fun _ _ => rep_str e h

/-! ### operators -/
abbrev F2 := PV → PV → Sto → R PV
def rO (K : PySem.W.Frag) (g : F2) : R2 := fun x y H Q => ∃ m gg S px py, StOk K m gg H S ∧ Rep K m gg H x px ∧ Rep K m gg H y py ∧ PostV K m gg H (g px py S) Q
def Op2 (X : Cx) (f : Value → Value → Sem Value) (g : F2) : Prop := OpR X f (rO X.K g)
def eBin (g : F2) (fa fb : FE) : FE := fun env S => (fa env S).bind fun x S => (fb env S).bind fun y S => g x y S
theorem tOp_of {K : PySem.W.Frag} {g : F2} {σ : L2.St} {H : Hp} {Q : VK} (h : tO K (eBin g fa fb) σ H Q) : tOp (rO K g) (tO K fa) (tO K fb) σ H Q := by
  obtain ⟨m, gg, S, env, so, eo, h⟩ := h
  refine vV so eo h fun x S1 u m1 g1 H1 n1 so1 eo1 r1 h1 => ?_
  refine vV so1 eo1 h1 fun y S2 w m2 g2 H2 n2 so2 eo2 r2 h2 => ?_
  exact ⟨m2, g2, S2, x, y, so2, r1.mono n2 so1.sub, r2, h2⟩
theorem s_bin {op : Operator} {g : F2} (ho : Op2 X (binaryOp op) g) (ha : SE X a fa) (hb : SE X b fb) : SE X (.BinOp a op b pos) (eBin g fa fb) := imE (pe_op ho ha hb) fun _ _ _ h => tOp_of h
theorem s_cmp {op : CmpOp} {g : F2} (ho : Op2 X (compareOp op) g) (ha : SE X a fa) (hb : SE X b fb) (hm : behindInMarks op b = false := by first | exact nomark _ | rfl) : SE X (.Compare a [op] [b] pos) (eBin g fa fb) := imE (pe_cmpR ho ha hb hm) fun _ _ _ h => tOp_of h
/-- an answer as a test -/
def toT (f : FE) : FT := fun env S => (f env S).bind fun x S => match x with
  | .bl b => .ok b S
  | _ => .no
theorem tTest_of {K : PySem.W.Frag} {t : TE} {f : FE} (w : ∀ σ H Q, tO K f σ H Q → t σ H Q) {σ : L2.St} {H : Hp} {Q : Bool → Hp → Prop} (h : tT K (toT f) σ H Q) : tTest t σ H Q := by
  obtain ⟨m, g, S, env, so, eo, h⟩ := h
  refine w _ _ _ (vB so eo h fun x S1 u m1 g1 H1 n1 so1 eo1 r1 h1 => ?_)
  cases x with
  | bl b =>
    cases r1 with
    | p r1 =>
      cases r1
      exact ⟨b, rfl, h1 m1 g1 H1 .refl so1⟩
  | _ => exact h1.elim
theorem t_cmp {op : CmpOp} {g : F2} (ho : Op2 X (compareOp op) g) (ha : SE X a fa) (hb : SE X b fb) (hm : behindInMarks op b = false := by first | exact nomark _ | rfl) : ST X (.Compare a [op] [b] pos) (toT (eBin g fa fb)) :=
  imT (pt_cmpR ho ha hb hm) fun _ _ _ h => tTest_of (fun _ _ _ h => tOp_of h) h
theorem t_val (h : SE X e fa) (he : ∀ whole, isTrue e X.env whole = (do let v ← whole; standAt e.pos; holding [v] (truthy v)) := by intro _; rfl) : ST X e (toT fa) :=
  imT (pt_val h he) fun _ _ _ h => tTest_of (fun _ _ _ h => h) h
def eChain (g g' : F2) (fa fb fc : FE) : FE := fun env S => (fa env S).bind fun x S => (fb env S).bind fun y S => (g x y S).bind fun z S => match z with
  | .bl true => (fc env S).bind fun w S => g' y w S
  | .bl false => .ok (.bl false) S
  | _ => .no
theorem tChain_of {K : PySem.W.Frag} {g g' : F2} {σ : L2.St} {H : Hp} {Q : VK} (h : tO K (eChain g g' fa fb fc) σ H Q) : tChain (rO K g) (rO K g') (tO K fa) (tO K fb) (tO K fc) σ H Q := by
  obtain ⟨m, gg, S, env, so, eo, h⟩ := h
  refine vV so eo h fun x S1 u m1 g1 H1 n1 so1 eo1 r1 h1 => ?_
  refine vV so1 eo1 h1 fun y S2 w m2 g2 H2 n2 so2 eo2 r2 h2 => ?_
  refine ⟨m2, g2, S2, x, y, so2, r1.mono n2 so1.sub, r2, ?_⟩
  cases e : g x y S2 with
  | no => rw [e] at h2; exact h2.elim
  | ok z S3 =>
    rw [e] at h2
    intro zv m3 g3 H3 n3 so3 r3
    cases z with
    | bl k =>
      cases r3 with
      | p r3 =>
        cases r3
        refine ⟨k, rfl, ?_⟩
        have h3 := PostV.mono (K := K) (Q := Q) h2 n3
        cases k with
        | true =>
          rw [if_pos rfl]
          refine vV so3 (eo2.mono n3 so2.sub) h3 fun w' S4 wv m4 g4 H4 n4 so4 eo4 r4 h4 => ?_
          exact ⟨m4, g4, S4, y, w', so4, (r2.mono n3 so2.sub).mono n4 so3.sub, r4, h4⟩
        | false =>
          rw [if_neg Bool.false_ne_true]
          exact h3 _ m3 g3 H3 .refl so3 (.p (.bl false))
    | _ => exact absurd h2 id
theorem s_chain {op op' : CmpOp} {g g' : F2} (ho : Op2 X (compareOp op) g) (ho' : Op2 X (compareOp op') g') (ha : SE X a fa) (hb : SE X b fb) (hc : SE X c fc) (hm : lastMarks [op, op'] [b, c] = false := by with_unfolding_all rfl) :
    SE X (.Compare a [op, op'] [b, c] pos) (eChain g g' fa fb fc) := imE (pe_chain ho ho' ha hb hc hm) fun _ _ _ h => tChain_of h
theorem t_chain {op op' : CmpOp} {g g' : F2} (ho : Op2 X (compareOp op) g) (ho' : Op2 X (compareOp op') g') (ha : SE X a fa) (hb : SE X b fb) (hc : SE X c fc) (hm : lastMarks [op, op'] [b, c] = false := by with_unfolding_all rfl) :
    ST X (.Compare a [op, op'] [b, c] pos) (toT (eChain g g' fa fb fc)) := imT (pt_chain ho ho' ha hb hc hm) fun _ _ _ h => tTest_of (fun _ _ _ h => tChain_of h) h

/-! ### and, or, not, a if t else b -/
variable {ta tb : FT}
def tAnd' (f g : FT) : FT := fun env S => (f env S).bind fun b S => if b = true then g env S else .ok false S
def tOr' (f g : FT) : FT := fun env S => (f env S).bind fun b S => if b = true then .ok true S else g env S
def tNot' (f : FT) : FT := fun env S => (f env S).bind fun b S => .ok (!b) S
theorem t_and1 (ha : ST X a ta) : SW X (.BoolOp .And [a] pos) ta := pw_and1 ha
theorem t_or1 (ha : ST X a ta) : SW X (.BoolOp .Or [a] pos) ta := pw_or1 ha
theorem t_and (ha : ST X a ta) (hb : SW X (.BoolOp .And (b :: rest) pos) tb) : SW X (.BoolOp .And (a :: b :: rest) pos) (tAnd' ta tb) := imW (pw_and ha hb) fun σ H Q h => by
  obtain ⟨m, g, S, env, so, eo, h⟩ := h
  refine bB so eo h fun x S1 m1 g1 H1 n1 so1 eo1 h1 => ?_
  cases x with
  | true => rw [if_pos rfl]; exact ⟨m1, g1, S1, env, so1, eo1, h1⟩
  | false => rw [if_neg Bool.false_ne_true]; exact h1 m1 g1 H1 .refl so1
theorem t_or (ha : ST X a ta) (hb : SW X (.BoolOp .Or (b :: rest) pos) tb) : SW X (.BoolOp .Or (a :: b :: rest) pos) (tOr' ta tb) := imW (pw_or ha hb) fun σ H Q h => by
  obtain ⟨m, g, S, env, so, eo, h⟩ := h
  refine bB so eo h fun x S1 m1 g1 H1 n1 so1 eo1 h1 => ?_
  cases x with
  | true => rw [if_pos rfl]; exact h1 m1 g1 H1 .refl so1
  | false => rw [if_neg Bool.false_ne_true]; exact ⟨m1, g1, S1, env, so1, eo1, h1⟩
theorem t_w (h : SW X e ta) : ST X e ta := PW.pt h
theorem t_not (ha : ST X a ta) : ST X (.UnaryOp .Not a pos) (tNot' ta) := imT (pt_not ha) fun σ H Q h => by
  obtain ⟨m, g, S, env, so, eo, h⟩ := h
  exact bB so eo h fun x S1 m1 g1 H1 n1 so1 eo1 h1 => h1 m1 g1 H1 .refl so1
/-- as values -/
def eAnd (f g : FE) : FE := fun env S => (f env S).bind fun x S => match x with
  | .bl true => g env S
  | .bl false => .ok (.bl false) S
  | _ => .no
def eOr (f g : FE) : FE := fun env S => (f env S).bind fun x S => match x with
  | .bl true => .ok (.bl true) S
  | .bl false => g env S
  | _ => .no
def eNot (f : FE) : FE := fun env S => (f env S).bind fun x S => match x with
  | .bl b => .ok (.bl (!b)) S
  | _ => .no
theorem s_one {op} (h : SE X a fa) : SE X (.BoolOp op [a] pos) fa := pe_one h
theorem s_and (ha : SE X a fa) (hb : SE X (.BoolOp .And (b :: rest) pos) fb) : SE X (.BoolOp .And (a :: b :: rest) pos) (eAnd fa fb) := imE (pe_and ha hb) fun σ H Q h => by
  obtain ⟨m, g, S, env, so, eo, h⟩ := h
  refine vV so eo h fun x S1 u m1 g1 H1 n1 so1 eo1 r1 h1 => ?_
  cases x with
  | bl k =>
    cases r1 with
    | p r1 =>
      cases r1
      refine ⟨k, rfl, ?_⟩
      cases k with
      | true => rw [if_pos rfl]; exact ⟨m1, g1, S1, env, so1, eo1, h1⟩
      | false => rw [if_neg Bool.false_ne_true]; exact h1 _ m1 g1 H1 .refl so1 (.p (.bl false))
  | _ => exact h1.elim
theorem s_or (ha : SE X a fa) (hb : SE X (.BoolOp .Or (b :: rest) pos) fb) : SE X (.BoolOp .Or (a :: b :: rest) pos) (eOr fa fb) := imE (pe_or ha hb) fun σ H Q h => by
  obtain ⟨m, g, S, env, so, eo, h⟩ := h
  refine vV so eo h fun x S1 u m1 g1 H1 n1 so1 eo1 r1 h1 => ?_
  cases x with
  | bl k =>
    cases r1 with
    | p r1 =>
      cases r1
      refine ⟨k, rfl, ?_⟩
      cases k with
      | true => rw [if_pos rfl]; exact h1 _ m1 g1 H1 .refl so1 (.p (.bl true))
      | false => rw [if_neg Bool.false_ne_true]; exact ⟨m1, g1, S1, env, so1, eo1, h1⟩
  | _ => exact h1.elim
theorem s_not (ha : SE X a fa) : SE X (.UnaryOp .Not a pos) (eNot fa) := imE (pe_not ha) fun σ H Q h => by
  obtain ⟨m, g, S, env, so, eo, h⟩ := h
  refine vV so eo h fun x S1 u m1 g1 H1 n1 so1 eo1 r1 h1 => ?_
  cases x with
  | bl k =>
    cases r1 with
    | p r1 =>
      cases r1
      exact ⟨k, rfl, h1 _ m1 g1 H1 .refl so1 (.p (.bl _))⟩
  | _ => exact h1.elim
def eIf (t : FT) (f g : FE) : FE := fun env S => (t env S).bind fun b S => if b = true then f env S else g env S
theorem s_if {t : Expr} (ht : ST X t ta) (ha : SE X a fa) (hb : SE X b fb) : SE X (.IfExp t a b pos) (eIf ta fa fb) := imE (pe_ifExp ht ha hb) fun σ H Q h => by
  obtain ⟨m, g, S, env, so, eo, h⟩ := h
  refine bV so eo h fun x S1 m1 g1 H1 n1 so1 eo1 h1 => ?_
  cases x with
  | true => rw [if_pos rfl]; exact ⟨m1, g1, S1, env, so1, eo1, h1⟩
  | false => rw [if_neg Bool.false_ne_true]; exact ⟨m1, g1, S1, env, so1, eo1, h1⟩

/-! ### arguments, displays -/
def aNil : FA := fun _ S => .ok [] S
def aCons (f : FE) (r : FA) : FA := fun env S => (f env S).bind fun x S => (r env S).bind fun xs S => .ok (x :: xs) S
theorem a_nil : SA X [] aNil := imA pa_nil fun σ H Q h => by
  obtain ⟨m, g, S, env, so, eo, h⟩ := h
  exact h [] m g H .refl so .nil
theorem a_cons {r : FA} (ha : SE X a fa) (hr : SA X es r) (hs : starEach (a :: es) X.env = (false, eval a X.env) :: starEach es X.env := by rfl) : SA X (a :: es) (aCons fa r) := imA (pa_cons ha hr hs) fun σ H Q h => by
  obtain ⟨m, g, S, env, so, eo, h⟩ := h
  refine vL so eo h fun x S1 u m1 g1 H1 n1 so1 eo1 r1 h1 => ?_
  refine lL so1 eo1 h1 fun xs S2 us m2 g2 H2 n2 so2 eo2 r2 h2 => ?_
  exact h2 _ m2 g2 H2 .refl so2 (.cons (r1.mono n2 so1.sub) r2)
def isP : PV → Bool
  | .ref _ => false
  | _ => true
theorem Rep.pure {K : PySem.W.Frag} {m g : List Addr} {H : Hp} {v : V} {x : PV} (h : Rep K m g H v x) (p : isP x = true) : RepP K g H v x := by
  cases h with
  | p h => exact h
  | r h => cases p
theorem Reps.pure {K : PySem.W.Frag} {m g : List Addr} {H : Hp} : ∀ {vs : List V} {xs : List PV}, Reps K m g H vs xs → xs.all isP = true → RepsP K g H vs xs
  | _, _, .nil, _ => .nil
  | _, _, .cons h t, p => by
    rw [List.all_cons] at p
    obtain ⟨p1, p2⟩ := Bool.and_eq_true_iff.mp p
    exact .cons (h.pure p1) (t.pure p2)
theorem RepsP.reps {K : PySem.W.Frag} {m g : List Addr} {H : Hp} : ∀ {vs : List V} {xs : List PV}, RepsP K g H vs xs → Reps K m g H vs xs
  | _, _, .nil => .nil
  | _, _, .cons h t => .cons (.p h) t.reps
/-- a new object is laid -/
theorem nx_new {m g : List Addr} {H : Hp} {p : Addr} {o : HO} (hp : H p = none) : Nx m g H m g (upd H p o) :=
  ⟨fun a u e _ => by rw [upd_ne (ne_of_none e hp)]; exact e, fun a e => by
    by_cases h : a = p
    · subst h; exact hp
    · rw [upd_ne h] at e; exact e, ⟨[], by simp⟩, fun _ h => h, fun _ h => .inl h⟩
theorem CellOk.mono {K : PySem.W.Frag} {g g' : List Addr} {H H' : Hp} {a : Addr} {o : SO} (h : CellOk K g H a o) (k : Kp g H g' H') (e : ∀ u, H a = some u → H' a = some u) : CellOk K g' H' a o := by
  cases o with
  | lst xs =>
    obtain ⟨vs, h1, h2⟩ := h
    exact ⟨vs, e _ h1, h2.mono k⟩
theorem so_new {K : PySem.W.Frag} {m g : List Addr} {H : Hp} {S : Sto} {p : Addr} {o : HO} (so : StOk K m g H S) (hp : H p = none) : StOk K m g (upd H p o) S := by
  have ne : ∀ a, a ∈ g → a ≠ p := fun a h e => so.live a h (by rw [e]; exact hp)
  refine ⟨so.len, so.nd, so.sub, fun a h e => so.live a h (by rw [upd_ne (ne a h)] at e; exact e), fun n a o h1 h2 => (so.cell n a o h1 h2).mono ((nx_new (m := m) hp).kp so.sub) fun u e => ?_⟩
  rw [upd_ne (ne_of_none e hp)]
  exact e
def eTup (f : FA) : FE := fun env S => (f env S).bind fun xs S => if (decide (xs.length ≤ SZ) && xs.all isP) = true then .ok (.tup xs) S else .no
theorem s_tup {f : FA} {x1} (h : SA X es f) : SE X (.Tuple es x1 pos) (eTup f) := imE (pe_tup h) fun σ H Q h => by
  obtain ⟨m, g, S, env, so, eo, h⟩ := h
  refine lV so eo h fun xs S1 us m1 g1 H1 n1 so1 eo1 r1 h1 => ?_
  split at h1
  · rename_i hp
    obtain ⟨hz, hp⟩ := Bool.and_eq_true_iff.mp hp
    refine ⟨by rw [r1.length, ← SZ_eq]; exact of_decide_eq_true hz, fun p np => h1 _ m1 g1 _ (nx_new np) (so_new so1 np) (.p (.tup (.inl ⟨.inl upd_same, fun hg => so1.live p hg np⟩) (((r1.pure hp).mono ((nx_new (m := m1) np).kp so1.sub)))))⟩
  · exact h1.elim

/-! ### new lists -/
def tF (K : PySem.W.Frag) (f : FA) : TE := fun σ H Q => ∃ m g S env, StOk K m g H S ∧ EnvOk K m g H σ env ∧ PostF K m g H (f env S) Q
/-- e makes a new list -/
def SF (X : Cx) (e : Expr) (f : FA) : Prop := PE X e (tF X.K f)
/-- fewer things are kept apart -/
theorem StOk.less {K : PySem.W.Frag} {m g : List Addr} {H : Hp} {S : Sto} {p : Addr} (h : StOk K m (p :: g) H S) (hm : ∀ a ∈ m, a ∈ g) : StOk K m g H S :=
  ⟨h.len, h.nd, hm, fun a z => h.live a (List.mem_cons_of_mem _ z), fun n a o h1 h2 => (h.cell n a o h1 h2).mono ⟨fun _ _ e _ => e, fun a z => .inl (List.mem_cons_of_mem _ z)⟩ fun _ e => e⟩
def eFrz (f : FA) : FE := fun env S => (f env S).bind fun xs S => .ok (.lst xs) S
def eCell (f : FA) : FE := fun env S => (f env S).bind fun xs S => .ok (.ref S.length) (S ++ [.lst xs])
theorem Nx.subs {K : PySem.W.Frag} {m g m' g' : List Addr} {H H' : Hp} {S S' : Sto} {p : Addr} (n : Nx m g H m' g' H') (so : StOk K m g H S) (np : p ∉ g') (hp : H p = none) (so' : StOk K m' (p :: g') H' S') (hp' : p ∉ m') : ∀ a ∈ m', a ∈ g' := fun a h => by
  rcases List.mem_cons.mp (so'.sub a h) with e | e
  · exact absurd (e ▸ h) hp'
  · exact e
end
end Pv

namespace Pv
open PySem PySem.Spec PyProof.Rows L2
section
variable {X : Cx} {e a b c : Expr} {es rest : List Expr} {fa fb fc : FE} {pos : Pos}
theorem s_frz {f : FA} (h : SF X e f) : SE X e (eFrz f) := imE h fun σ H Q h => by
  obtain ⟨m, g, S, env, so, eo, h⟩ := h
  refine ⟨m, g, S, env, so, eo, ?_⟩
  unfold eFrz at h
  unfold PostF
  cases ef : f env S with
  | no => rw [ef] at h; exact h
  | ok xs S' =>
    rw [ef] at h
    intro p vs m' g' H' nx np nm hp so' hp' r
    have sb := nx.subs so np hp so' nm
    exact h _ m' g' H' nx (so'.less sb) (.p (.lst ⟨hp', np⟩ (r.mono ⟨fun _ _ e _ => e, fun a z => .inl (List.mem_cons_of_mem _ z)⟩)))
theorem s_cell {f : FA} (h : SF X e f) : SE X e (eCell f) := imE h fun σ H Q h => by
  obtain ⟨m, g, S, env, so, eo, h⟩ := h
  refine ⟨m, g, S, env, so, eo, ?_⟩
  unfold eCell at h
  unfold PostF
  cases ef : f env S with
  | no => rw [ef] at h; exact h
  | ok xs S' =>
    rw [ef] at h
    intro p vs m' g' H' nx np nm hp so' hp' r
    have sb := nx.subs so np hp so' nm
    obtain ⟨new, e1, e2⟩ := nx.app
    have el : m'.length = S'.length := so'.len
    refine h (.ref p) (m' ++ [p]) (p :: g') H' ⟨nx.ext, nx.free, ⟨new ++ [p], by rw [e1, List.append_assoc], fun a ha => ?_⟩, fun a z => List.mem_cons_of_mem _ (nx.gs a z), fun a z => ?_⟩ ⟨by simp [el], ?_, fun a z => ?_, so'.live, fun n a o h1 h2 => ?_⟩ (.r ?_)
    · rcases List.mem_append.mp ha with z | z
      · exact e2 a z
      · rw [List.mem_singleton.mp z]; exact hp
    · rcases List.mem_cons.mp z with z | z
      · rw [z]; exact .inr hp
      · exact nx.gn a z
    · rw [List.nodup_append]
      refine ⟨so'.nd, by simp, fun a ha b hb => ?_⟩
      rw [List.mem_singleton.mp hb]
      rintro rfl
      exact nm ha
    · rcases List.mem_append.mp z with z | z
      · exact so'.sub a z
      · rw [List.mem_singleton.mp z]; exact List.mem_cons_self
    · by_cases hn : n < m'.length
      · rw [List.getElem?_append_left hn] at h1
        rw [List.getElem?_append_left (by omega)] at h2
        exact so'.cell n a o h1 h2
      · have hn2 : n = m'.length := by
          have := (List.getElem?_eq_some_iff.mp h1).1
          simp at this
          omega
        subst hn2
        rw [List.getElem?_append_right (by omega)] at h1
        rw [List.getElem?_append_right (by omega)] at h2
        have z1 : m'.length - S'.length = 0 := by omega
        simp [z1] at h1 h2
        subst h1 h2
        exact ⟨vs, hp', r⟩
    · show (m' ++ [p])[S'.length]? = some p
      rw [← el]
      simp
def lDisp (f : FA) : FA := fun env S => (f env S).bind fun xs S => if (decide (xs.length ≤ SZ) && xs.all isP) = true then .ok xs S else .no
/-- the world behind a new list at p -/
theorem post_new {K : PySem.W.Frag} {m g m1 g1 : List Addr} {H H1 : Hp} {S1 : Sto} {xs : List PV} {vs : List V} {Q : V → Hp → Prop} {p : Addr} (h : PostF K m g H (.ok xs S1) Q) (nx : Nx m g H m1 g1 H1) (so1 : StOk K m1 g1 H1 S1) (r : RepsP K g1 H1 vs xs) (np : H1 p = none) : Q (.ref p) (upd H1 p (.lst vs)) := by
  have n2 : Nx m1 g1 H1 m1 g1 (upd H1 p (.lst vs)) := nx_new np
  have hg : p ∉ g1 := fun hg => so1.live p hg np
  have hm : p ∉ m1 := fun h => hg (so1.sub p h)
  have so2 : StOk K m1 g1 (upd H1 p (.lst vs)) S1 := so_new so1 np
  have kp : Kp g1 H1 (p :: g1) (upd H1 p (.lst vs)) := ⟨(n2.kp so1.sub).ext, fun a z => by
    rcases List.mem_cons.mp z with z | z
    · rw [z]; exact .inr np
    · exact .inl z⟩
  refine h p vs m1 g1 _ (nx.trans n2) hg hm (nx.free p np) ⟨so2.len, so2.nd, fun a z => List.mem_cons_of_mem _ (so2.sub a z), fun a z => ?_, fun n a o h1 h2 => ?_⟩ upd_same (r.mono kp)
  · rcases List.mem_cons.mp z with z | z
    · rw [z, upd_same]; exact fun z => nomatch z
    · exact so2.live a z
  · exact (so1.cell n a o h1 h2).mono kp fun u e => by rw [upd_ne (ne_of_none e np)]; exact e
theorem f_lst {f : FA} (h : SA X es f) : SF X (.List es pos) (lDisp f) := imE (pe_lst h) fun σ H Q h => by
  obtain ⟨m, g, S, env, so, eo, h⟩ := h
  refine lF so eo h fun xs S1 us m1 g1 H1 n1 so1 eo1 r1 h1 => ?_
  split at h1
  · rename_i hp
    obtain ⟨hz, hp⟩ := Bool.and_eq_true_iff.mp hp
    exact ⟨by rw [r1.length, ← SZ_eq]; exact of_decide_eq_true hz, fun p np => post_new h1 .refl so1 (r1.pure hp) np⟩
  · exact h1.elim

/-! ### reading a list, kept or a cell -/
def dl (S : Sto) : PV → Option (List PV)
  | .lst xs => some xs
  | .ref n => match S[n]? with
    | some (.lst xs) => some xs
    | _ => none
  | _ => none
theorem dl_ok {K : PySem.W.Frag} {m g : List Addr} {H : Hp} {S : Sto} {v : V} {x : PV} {xs : List PV} (so : StOk K m g H S) (r : Rep K m g H v x) (h : dl S x = some xs) : ∃ a vs, v = .ref a ∧ H a = some (.lst vs) ∧ RepsP K g H vs xs := by
  cases r with
  | p r =>
    cases r with
    | lst h1 r1 =>
      cases h
      exact ⟨_, _, rfl, h1.1, r1⟩
    | _ => cases h
  | @r n a h1 =>
    have hn : n < S.length := by rw [← so.len]; exact (List.getElem?_eq_some_iff.mp h1).1
    obtain ⟨o, e⟩ : ∃ o, S[n]? = some o := ⟨_, List.getElem?_eq_getElem hn⟩
    have h : (match S[n]? with
      | some (.lst xs) => some xs
      | _ => none) = some xs := h
    rw [e] at h
    have c := so.cell n a _ h1 e
    cases o with
    | lst ys =>
      obtain ⟨vs, c1, c2⟩ := c
      cases h
      exact ⟨a, vs, rfl, c1, c2⟩
end
end Pv

namespace Pv
open PySem PySem.Spec PyProof.Rows L2
section
variable {K : PySem.W.Frag} {m g : List Addr} {H : Hp} {S : Sto}
theorem RepsP.append {vs ws : List V} {xs ys : List PV} : RepsP K g H vs xs → RepsP K g H ws ys → RepsP K g H (vs ++ ws) (xs ++ ys)
  | .nil, h => h
  | .cons a t, h => .cons a (t.append h)
theorem RepsP.drop : ∀ (n : Nat) {vs : List V} {xs : List PV}, RepsP K g H vs xs → RepsP K g H (vs.drop n) (xs.drop n)
  | 0, _, _, h => h
  | _ + 1, _, _, .nil => .nil
  | n + 1, _, _, .cons _ t => RepsP.drop n t
theorem RepsP.take : ∀ (n : Nat) {vs : List V} {xs : List PV}, RepsP K g H vs xs → RepsP K g H (vs.take n) (xs.take n)
  | 0, _, _, _ => .nil
  | _ + 1, _, _, .nil => .nil
  | n + 1, _, _, .cons a t => .cons a (RepsP.take n t)
theorem RepsP.reverse {vs : List V} {xs : List PV} (h : RepsP K g H vs xs) : RepsP K g H vs.reverse xs.reverse := by
  induction vs generalizing xs with
  | nil => cases h; exact .nil
  | cons v vs ih =>
    cases h with
    | cons a t => rw [List.reverse_cons, List.reverse_cons]; exact (ih t).append (.cons a .nil)
theorem RepsP.get {i : Nat} {x : PV} : ∀ {vs : List V} {xs : List PV}, RepsP K g H vs xs → xs[i]? = some x → ∃ v, vs[i]? = some v ∧ RepP K g H v x := by
  induction i with
  | zero =>
    intro vs xs h e
    cases h with
    | nil => cases e
    | cons a t => cases e; exact ⟨_, rfl, a⟩
  | succ n ih =>
    intro vs xs h e
    cases h with
    | nil => cases e
    | cons a t => exact ih t (by simpa using e)
theorem RepsP.set : ∀ (i : Nat) {v : V} {x : PV} {vs : List V} {xs : List PV}, RepP K g H v x → RepsP K g H vs xs → RepsP K g H (vs.set i v) (xs.set i x)
  | _, _, _, _, _, _, .nil => .nil
  | 0, _, _, _, _, r, .cons _ t => .cons r t
  | n + 1, _, _, _, _, r, .cons a t => .cons a (RepsP.set n r t)
theorem RepsP.rep {vs : List V} {xs : List PV} (h : RepsP K g H vs xs) : ∀ n : Nat, RepsP K g H (List.replicate n vs).flatten (List.replicate n xs).flatten
  | 0 => .nil
  | n + 1 => by
    rw [List.replicate_succ, List.flatten_cons, List.replicate_succ, List.flatten_cons]
    exact h.append (h.rep n)
theorem RepP.int_inv {v : V} {i : Int} (h : RepP K g H v (.int i)) : v = .int i := by cases h; rfl
theorem RepP.bl_inv {v : V} {i : Bool} (h : RepP K g H v (.bl i)) : v = .bl i := by cases h; rfl
theorem Rep.int_inv {v : V} {i : Int} (h : Rep K m g H v (.int i)) : v = .int i := by
  cases h with
  | p h => exact h.int_inv
theorem Rep.bl_inv {v : V} {i : Bool} (h : Rep K m g H v (.bl i)) : v = .bl i := by
  cases h with
  | p h => exact h.bl_inv
theorem Rep.non_inv {v : V} (h : Rep K m g H v .non) : v = .non := by
  cases h with
  | p h => cases h; rfl
theorem Rep.str_inv {v : V} {l : List Nat} (h : Rep K m g H v (.str l)) : ∃ x : Str, v = .str x ∧ x.cps.toList = l ∧ l.length ≤ SZ ∧ ∀ c ∈ l, c < 1114112 := by
  cases h with
  | p h => cases h with | str x l e hz ho => exact ⟨x, rfl, e, hz, ho⟩
theorem Rep.tup_inv {v : V} {xs : List PV} (h : Rep K m g H v (.tup xs)) : ∃ a vs, v = .ref a ∧ FzT K g H a vs ∧ RepsP K g H vs xs := by
  cases h with
  | p h => cases h with | tup h r => exact ⟨_, _, rfl, h, r⟩
theorem str_len {x : Str} {l : List Nat} (e : x.cps.toList = l) : x.length = l.length := by subst e; rfl
theorem app_cps (x y : Str) : (x ++ y).cps.toList = x.cps.toList ++ y.cps.toList := by
  show (x.cps ++ y.cps).toList = _
  simp
theorem ints_inv : ∀ {ns : List Int} {vs : List V}, RepsP K g H vs (ns.map PV.int) → vs = ns.map V.int
  | [], _, .nil => rfl
  | _ :: _, _, .cons h t => by
    rw [List.map_cons, h.int_inv, ints_inv t]
theorem bls_inv : ∀ {ns : List Bool} {vs : List V}, RepsP K g H vs (ns.map PV.bl) → vs = ns.map V.bl
  | [], _, .nil => rfl
  | _ :: _, _, .cons h t => by
    rw [List.map_cons, h.bl_inv, bls_inv t]
/-- the answer, nothing laid -/
theorem post_p {x : PV} {v : V} {Q : V → Hp → Prop} (h : PostV K m g H (.ok x S) Q) (so : StOk K m g H S) (r : RepP K g H v x) : Q v H := h v m g H .refl so (.p r)
/-- a new tuple, a new list is the answer -/
theorem post_t {xs : List PV} {vs : List V} {p : Addr} {Q : V → Hp → Prop} (h : PostV K m g H (.ok (.tup xs) S) Q) (so : StOk K m g H S) (r : RepsP K g H vs xs) (np : H p = none) : Q (.ref p) (upd H p (.tup vs)) :=
  h _ m g _ (nx_new np) (so_new so np) (.p (.tup (.inl ⟨.inl upd_same, fun hg => so.live p hg np⟩) (r.mono ((nx_new (m := m) np).kp so.sub))))
theorem post_l {xs : List PV} {vs : List V} {p : Addr} {Q : V → Hp → Prop} (h : PostV K m g H (.ok (.lst xs) S) Q) (so : StOk K m g H S) (r : RepsP K g H vs xs) (np : H p = none) : Q (.ref p) (upd H p (.lst vs)) :=
  h _ m g _ (nx_new np) (so_new so np) (.p (.lst ⟨upd_same, fun hg => so.live p hg np⟩ (r.mono ((nx_new (m := m) np).kp so.sub))))
theorem rep_app {x y : Str} {a b : List Nat} (ex : x.cps.toList = a) (ey : y.cps.toList = b) (ha : ∀ c ∈ a, c < 1114112) (hb : ∀ c ∈ b, c < 1114112) (hz : a.length + b.length ≤ SZ) : RepP K g H (.str (x ++ y)) (.str (a ++ b)) := by
  refine .str _ _ (by rw [app_cps, ex, ey]) (by rw [List.length_append]; exact hz) fun c hc => ?_
  rcases List.mem_append.mp hc with h | h
  · exact ha c h
  · exact hb c h
end
section
variable {X : Cx}
def oAdd : F2 := fun x y S => match x, y with
  | .int i, .int j => .ok (.int (i + j)) S
  | .str a, .str b => if a.length + b.length ≤ SZ then .ok (.str (a ++ b)) S else .no
  | .tup a, .tup b => if a.length + b.length ≤ SZ then .ok (.tup (a ++ b)) S else .no
  | x, y => match dl S x, dl S y with
    | some a, some b => if a.length + b.length ≤ SZ then .ok (.lst (a ++ b)) S else .no
    | _, _ => .no
theorem o_add : Op2 X (binaryOp .Add) oAdd := by
  intro pins s σ H x y v u Q I rx ry h
  obtain ⟨m, g, S, px, py, so, r1, r2, h⟩ := h
  unfold oAdd at h
  split at h
  · obtain rfl := r1.int_inv
    obtain rfl := r2.int_inv
    exact op_add pins s σ H _ _ v u Q I rx ry ⟨_, _, rfl, rfl, post_p h so (.int _)⟩
  · split at h
    · rename_i hz
      obtain ⟨x, rfl, e1, _, o1⟩ := r1.str_inv
      obtain ⟨y, rfl, e2, _, o2⟩ := r2.str_inv
      exact op_add_str pins s σ H _ _ v u Q I rx ry ⟨_, _, rfl, rfl, by rw [str_len e1, str_len e2, ← SZ_eq]; exact hz, post_p h so (rep_app e1 e2 o1 o2 hz)⟩
    · exact h.elim
  · split at h
    · rename_i hz
      obtain ⟨a, vs, rfl, f1, q1⟩ := r1.tup_inv
      obtain ⟨b, ws, rfl, f2, q2⟩ := r2.tup_inv
      refine op_catA pins s σ H _ _ v u Q I rx ry ⟨_, _, _, _, rfl, rfl, f1.sq, f2.sq, by rw [q1.length, q2.length, ← SZ_eq]; exact hz, fun e => ?_, fun _ e => ?_, fun _ _ p np => ?_⟩
      · subst e
        cases q1
        exact post_p h so (.tup f2 q2)
      · subst e
        cases q2
        rw [List.append_nil] at h
        exact post_p h so (.tup f1 q1)
      · exact post_t h so (q1.append q2) np
    · exact h.elim
  · split at h
    · rename_i a b e1 e2
      split at h
      · rename_i hz
        obtain ⟨p, vs, rfl, f1, q1⟩ := dl_ok so r1 e1
        obtain ⟨q, ws, rfl, f2, q2⟩ := dl_ok so r2 e2
        exact op_cat pins s σ H _ _ v u Q I rx ry ⟨_, _, _, _, rfl, rfl, f1, f2, by rw [q1.length, q2.length, ← SZ_eq]; exact hz, fun p np => post_l h so (q1.append q2) np⟩
      · exact h.elim
    · exact h.elim
def oI (C : Int → Int → Bool) (f : Int → Int → PV) : F2 := fun x y S => match x, y with
  | .int i, .int j => if C i j = true then .ok (f i j) S else .no
  | _, _ => .no
theorem o_I {f : Value → Value → Sem Value} {C : Int → Int → Bool} {D : Int → Int → Prop} {k : Int → Int → PV} {l : Int → Int → V} (h : OpR X f (rI D l)) (hc : ∀ i j, C i j = true → D i j) (hl : ∀ K g H i j, RepP K g H (l i j) (k i j)) : Op2 X f (oI C k) := by
  intro pins s σ H x y v u Q I rx ry q
  obtain ⟨m, g, S, px, py, so, r1, r2, q⟩ := q
  unfold oI at q
  split at q
  · split at q
    · rename_i hz
      obtain rfl := r1.int_inv
      obtain rfl := r2.int_inv
      exact h pins s σ H _ _ v u Q I rx ry ⟨_, _, rfl, rfl, hc _ _ hz, post_p q so (hl _ _ _ _ _)⟩
    · exact q.elim
  · exact q.elim
theorem rI0_of {f : Value → Value → Sem Value} {l : Int → Int → V} (h : OpR X f (rI0 l)) : OpR X f (rI (fun _ _ => True) l) := fun pins s σ H x y v u Q I rx ry q => by
  obtain ⟨i, j, e1, e2, _, q⟩ := q
  exact h pins s σ H x y v u Q I rx ry ⟨i, j, e1, e2, q⟩
def oSub : F2 := oI (fun _ _ => true) fun i j => .int (i - j)
theorem o_sub : Op2 X (binaryOp .Sub) oSub := o_I (rI0_of op_sub) (fun _ _ _ => trivial) fun _ _ _ _ _ => .int _
def oMod : F2 := oI (fun _ j => decide (0 < j)) fun i j => .int (i % j)
theorem o_mod : Op2 X (binaryOp .Mod) oMod := o_I op_mod (fun _ _ h => of_decide_eq_true h) fun _ _ _ _ _ => .int _
def divOk (_ j : Int) : Bool := decide (0 < j) && decide (j.natAbs.log2 < 9000)
def oDiv : F2 := oI divOk fun i j => .int (i / j)
theorem o_div : Op2 X (binaryOp .FloorDiv) oDiv := o_I op_fdivW (fun _ _ h => by
  obtain ⟨h1, h2⟩ := Bool.and_eq_true_iff.mp h
  exact ⟨of_decide_eq_true h1, of_decide_eq_true h2⟩) fun _ _ _ _ _ => .int _
def powOk (i j : Int) : Bool := decide (0 ≤ j) && decide (j ≤ 1000000) && decide (i.natAbs < 2 ^ 64)
def oPow : F2 := oI powOk fun i j => .int (i ^ j.toNat)
theorem powOk_of {i j : Int} (h : powOk i j = true) : CPow i j := by
  obtain ⟨h1, h2⟩ := Bool.and_eq_true_iff.mp h
  obtain ⟨h0, h1⟩ := Bool.and_eq_true_iff.mp h1
  exact ⟨of_decide_eq_true h0, of_decide_eq_true h1, of_decide_eq_true h2⟩
theorem o_pow : Op2 X (binaryOp .Pow) oPow := o_I op_pow (fun _ _ h => powOk_of h) fun _ _ _ _ _ => .int _
def oShl : F2 := oI powOk fun i j => .int (i * 2 ^ j.toNat)
theorem o_shl : Op2 X (binaryOp .LShift) oShl := o_I op_shl (fun _ _ h => powOk_of h) fun _ _ _ _ _ => .int _
def oShr : F2 := oI (fun _ j => decide (0 ≤ j)) fun i j => .int (i / 2 ^ j.toNat)
theorem o_shr : Op2 X (binaryOp .RShift) oShr := o_I op_shr (fun _ _ h => of_decide_eq_true h) fun _ _ _ _ _ => .int _
def mulOk (i j : Int) : Bool := decide (-(2 ^ 64) < i ∧ i < 2 ^ 64) || decide (-(2 ^ 64) < j ∧ j < 2 ^ 64) || decide (i.natAbs.log2 + j.natAbs.log2 < 1000000)
def mulRep (n : Nat) (k : Int) : Bool := decide (-(2 ^ 63) ≤ k) && decide (k < 2 ^ 63) && decide (n * k.toNat ≤ SZ)
def oMul : F2 := fun x y S => match x, y with
  | .int i, .int j => if mulOk i j = true then .ok (.int (i * j)) S else .no
  | .str a, .int k => if mulRep a.length k = true then .ok (.str (List.replicate k.toNat a).flatten) S else .no
  | .tup a, .int k => if (decide (2 ≤ k) && decide (k ≤ 1000) && decide (a.length ≤ 1000) && !a.isEmpty) = true then .ok (.tup (List.replicate k.toNat a).flatten) S else .no
  | x, .int k => match dl S x with
    | some a => if mulRep a.length k = true then .ok (.lst (List.replicate k.toNat a).flatten) S else .no
    | _ => .no
  | _, _ => .no
theorem mulOk_cases {i j : Int} (h : mulOk i j = true) : CMul i j ∨ CMulW i j := by
  unfold mulOk at h
  simp only [Bool.or_eq_true, decide_eq_true_eq] at h
  rcases h with (h | h) | h
  · exact .inl (.inl h)
  · exact .inl (.inr h)
  · exact .inr h
theorem mulRep_of {n : Nat} {k : Int} (h : mulRep n k = true) : -(2 ^ 63) ≤ k ∧ k < 2 ^ 63 ∧ n * k.toNat ≤ SZ := by
  unfold mulRep at h
  simp only [Bool.and_eq_true, decide_eq_true_eq] at h
  exact ⟨h.1.1, h.1.2, h.2⟩
theorem foldl_cps (x : Array Nat) : ∀ (n : Nat) (acc : Array Nat), ((List.replicate n x).foldl (· ++ ·) acc).toList = acc.toList ++ (List.replicate n x.toList).flatten
  | 0, acc => by simp
  | n + 1, acc => by
    rw [List.replicate_succ, List.foldl_cons, foldl_cps x n, List.replicate_succ, List.flatten_cons]
    simp
theorem op_mul_str : OpR X (binaryOp .Mult) (fun x y H Q => ∃ (z : Str) (k : Int), x = .str z ∧ y = .int k ∧ -(2 ^ 63) ≤ k ∧ k < 2 ^ 63 ∧ z.length * k.toNat ≤ SZ ∧ ∀ w : Str, w.cps.toList = (List.replicate k.toNat z.cps.toList).flatten → Q (.str w) H) := by
  intro pins s σ H x y v u Q I rx ry h
  obtain ⟨z, k, rfl, rfl, h1, h2, h3, q⟩ := h
  obtain ⟨t, rfl⟩ := rx
  obtain ⟨t', rfl⟩ := ry
  have hs : SZ = 16777216 := rfl
  have tl : ¬ k < 1 → Builtin.Str.tooLong (z.length * k.toNat) = false := fun _ => by
    have := sizeLine_eq
    unfold Builtin.Str.tooLong
    exact decide_eq_false (by omega)
  refine P.mul_str (by rw [decide_eq_false (by omega), decide_eq_false (by omega)]; rfl) (fun hk hn => ?_) (fun hk _ => tl hk) ?_
  · have hk1 : 1 ≤ k := by omega
    obtain ⟨n, rfl⟩ : ∃ n : Nat, k = n := ⟨k.toNat, by omega⟩
    have e : ((n : Int)).toNat = n := by simp
    rw [e] at h3
    have h4 : ((z.length * n : Nat) : Int) ≤ 16777216 := by omega
    rw [Int.natCast_mul] at h4
    have h5 : (z.length : Int) ≤ (2 ^ 63 - 1) / (n : Int) := by
      rw [Int.le_ediv_iff_mul_le (by omega)]
      omega
    omega
  · split
    · rename_i hk
      refine ⟨by decide, .str Str.empty, H, I.tok _, ⟨_, rfl⟩, q _ ?_⟩
      have : k.toNat = 0 := by omega
      rw [this]
      rfl
    · split
      · rename_i hk hn
        refine ⟨.str z, H, I, ⟨_, rfl⟩, q _ ?_⟩
        rcases (Bool.or_eq_true _ _).mp hn with e | e
        · have e1 : k = 1 := eq_of_beq e
          subst e1
          simp
        · have e1 : z.length = 0 := eq_of_beq e
          have e2 : z.cps.toList = [] := List.eq_nil_of_length_eq_zero (by rw [Array.length_toList]; exact e1)
          rw [e2]
          symm
          rw [List.flatten_eq_nil_iff]
          intro l hl
          exact (List.eq_of_mem_replicate hl)
      · rename_i hk hn
        have e := foldl_cps z.cps k.toNat #[]
        refine ⟨?_, .str _, H, I.tok _, ⟨_, rfl⟩, q _ ?_⟩
        · show ((List.replicate k.toNat z.cps).foldl (· ++ ·) #[]).size ≤ sizeLine
          rw [← Array.length_toList, e]
          have : (List.replicate k.toNat z.cps.toList).flatten.length = k.toNat * z.length := by
            rw [List.length_flatten, List.map_replicate, List.sum_replicate_nat, Array.length_toList]
            rfl
          rw [show (#[] : Array Nat).toList = [] from rfl, List.nil_append, this, ← SZ_eq, Nat.mul_comm]
          exact h3
        · rw [e]
          rfl
theorem o_mul : Op2 X (binaryOp .Mult) oMul := by
  intro pins s σ H x y v u Q I rx ry h
  obtain ⟨m, g, S, px, py, so, r1, r2, h⟩ := h
  unfold oMul at h
  split at h
  · split at h
    · rename_i hz
      obtain rfl := r1.int_inv
      obtain rfl := r2.int_inv
      rcases mulOk_cases hz with hz | hz
      · exact op_mul pins s σ H _ _ v u Q I rx ry ⟨_, _, rfl, rfl, hz, post_p h so (.int _)⟩
      · exact op_mulW pins s σ H _ _ v u Q I rx ry ⟨_, _, rfl, rfl, hz, post_p h so (.int _)⟩
    · exact h.elim
  · split at h
    · rename_i hz
      obtain ⟨x, rfl, e1, z1, o1⟩ := r1.str_inv
      obtain rfl := r2.int_inv
      obtain ⟨a1, a2, a3⟩ := mulRep_of hz
      refine op_mul_str pins s σ H _ _ v u Q I rx ry ⟨_, _, rfl, rfl, a1, a2, by rw [str_len e1]; exact a3, fun w ew => post_p h so (.str _ _ (by rw [ew, e1]) ?_ fun c hc => ?_)⟩
      · rw [List.length_flatten, List.map_replicate, List.sum_replicate_nat, Nat.mul_comm]
        exact a3
      · obtain ⟨l, hl, hc⟩ := List.mem_flatten.mp hc
        exact o1 c (List.eq_of_mem_replicate hl ▸ hc)
    · exact h.elim
  · split at h
    · rename_i hz
      simp only [Bool.and_eq_true, decide_eq_true_eq, Bool.not_eq_true'] at hz
      obtain ⟨⟨⟨a1, a2⟩, a3⟩, a4⟩ := hz
      obtain ⟨a, vs, rfl, f1, q1⟩ := r1.tup_inv
      obtain rfl := r2.int_inv
      refine op_repT pins s σ H _ _ v u Q I rx ry ⟨_, _, _, rfl, rfl, f1.sq, fun e => ?_, a1, a2, by rw [q1.length]; exact a3, fun p np => post_t h so (q1.rep _) np⟩
      subst e
      cases q1
      cases a4
    · exact h.elim
  · split at h
    · rename_i a e1
      split at h
      · rename_i hz
        obtain ⟨p, vs, rfl, f1, q1⟩ := dl_ok so r1 e1
        obtain rfl := r2.int_inv
        obtain ⟨a1, a2, a3⟩ := mulRep_of hz
        exact op_rep pins s σ H _ _ v u Q I rx ry ⟨_, _, _, rfl, rfl, f1, a1, a2, by rw [q1.length, ← SZ_eq]; exact a3, fun p np => post_l h so (q1.rep _) np⟩
      · exact h.elim
    · exact h.elim
  · exact h.elim
end
end Pv

namespace Pv
open PySem PySem.Spec PyProof.Rows L2
mutual
def toD : PV → PyData
  | .non => .none
  | .bl b => .bool b
  | .int i => .int i
  | .str l => .str ⟨l.toArray⟩
  | .tup xs => .tuple (toDs xs)
  | .lst xs => .list (toDs xs)
  | .scr _ => .none
  | .ref _ => .none
def toDs : List PV → List PyData
  | [] => []
  | x :: xs => toD x :: toDs xs
end
mutual
def dpt : PV → Nat
  | .non => 0
  | .bl _ => 0
  | .int _ => 0
  | .str _ => 0
  | .tup xs => dpts xs + 1
  | .lst xs => dpts xs + 1
  | .scr _ => 1000
  | .ref _ => 1000
def dpts : List PV → Nat
  | [] => 0
  | x :: xs => max (dpt x) (dpts xs)
end
mutual
def eqPV : PV → PV → Bool
  | .non, .non => true
  | .bl a, .bl b => a == b
  | .bl a, .int j => (if a then 1 else 0) == j
  | .int i, .bl b => i == (if b then 1 else 0)
  | .int i, .int j => i == j
  | .str x, .str y => x == y
  | .lst xs, .lst ys => eqPVs xs ys
  | .tup xs, .tup ys => eqPVs xs ys
  | _, _ => false
def eqPVs : List PV → List PV → Bool
  | [], [] => true
  | x :: xs, y :: ys => eqPV x y && eqPVs xs ys
  | _, _ => false
end
theorem str_beq (a b : List Nat) : ((⟨a.toArray⟩ : Str) == ⟨b.toArray⟩) = (a == b) := by
  rw [Bool.eq_iff_iff, beq_iff_eq, beq_iff_eq]
  constructor
  · intro h
    injection h with h
    simpa using h
  · rintro rfl
    rfl
mutual
theorem eqv_toD : ∀ x y : PV, dpt x ≤ 64 → dpt y ≤ 64 → PyData.eqv (toD x) (toD y) = eqPV x y
  | .non, y, _, hy => by cases y <;> simp [toD, PyData.eqv, eqPV, dpt] at hy ⊢
  | .bl a, y, _, hy => by cases y <;> simp [toD, PyData.eqv, eqPV, dpt] at hy ⊢
  | .int a, y, _, hy => by cases y <;> simp [toD, PyData.eqv, eqPV, dpt] at hy ⊢
  | .str a, y, _, hy => by
    cases y with
    | str b =>
      show ((⟨a.toArray⟩ : Str) == ⟨b.toArray⟩) = (a == b)
      exact str_beq a b
    | _ => simp [toD, PyData.eqv, eqPV, dpt] at hy ⊢
  | .lst a, y, hx, hy => by
    cases y with
    | lst b =>
      show PyData.eqvAll (toDs a) (toDs b) = eqPVs a b
      exact eqv_toDs a b (by simp only [dpt] at hx; omega) (by simp only [dpt] at hy; omega)
    | _ => simp [toD, PyData.eqv, eqPV, dpt] at hy ⊢
  | .tup a, y, hx, hy => by
    cases y with
    | tup b =>
      show PyData.eqvAll (toDs a) (toDs b) = eqPVs a b
      exact eqv_toDs a b (by simp only [dpt] at hx; omega) (by simp only [dpt] at hy; omega)
    | _ => simp [toD, PyData.eqv, eqPV, dpt] at hy ⊢
  | .scr a, y, hx, hy => by simp [dpt] at hx
  | .ref a, y, hx, hy => by simp [dpt] at hx
theorem eqv_toDs : ∀ xs ys : List PV, dpts xs ≤ 64 → dpts ys ≤ 64 → PyData.eqvAll (toDs xs) (toDs ys) = eqPVs xs ys
  | [], [], _, _ => rfl
  | [], _ :: _, _, _ => rfl
  | _ :: _, [], _, _ => rfl
  | x :: xs, y :: ys, hx, hy => by
    simp only [dpts] at hx hy
    show (PyData.eqv (toD x) (toD y) && PyData.eqvAll (toDs xs) (toDs ys)) = (eqPV x y && eqPVs xs ys)
    rw [eqv_toD x y (by omega) (by omega), eqv_toDs xs ys (by omega) (by omega)]
end
mutual
theorem depth_toD : ∀ x : PV, dpt x ≤ 64 → (toD x).depth = dpt x
  | .non, _ => rfl
  | .bl _, _ => rfl
  | .int _, _ => rfl
  | .str _, _ => rfl
  | .tup xs, h => by
    simp only [dpt] at h
    show PyData.depthAll (toDs xs) + 1 = dpts xs + 1
    rw [depth_toDs xs (by omega)]
  | .lst xs, h => by
    simp only [dpt] at h
    show PyData.depthAll (toDs xs) + 1 = dpts xs + 1
    rw [depth_toDs xs (by omega)]
  | .scr _, h => by simp [dpt] at h
  | .ref _, h => by simp [dpt] at h
theorem depth_toDs : ∀ xs : List PV, dpts xs ≤ 64 → PyData.depthAll (toDs xs) = dpts xs
  | [], _ => rfl
  | x :: xs, h => by
    simp only [dpts] at h
    show max (toD x).depth (PyData.depthAll (toDs xs)) = max (dpt x) (dpts xs)
    rw [depth_toD x (by omega), depth_toDs xs (by omega)]
end
section
variable {K : PySem.W.Frag} {m g : List Addr} {H : Hp} {S : Sto}
mutual
theorem RepP.dp : ∀ {x : PV} {v : V}, RepP K g H v x → dpt x ≤ 64 → Dp K H v (toD x) ∧ (toD x).canLay0 = true
  | .non, _, h, _ => by cases h; exact ⟨.non, rfl⟩
  | .bl b, _, h, _ => by cases h; exact ⟨.bl b, rfl⟩
  | .int i, _, h, _ => by cases h; exact ⟨.int i, rfl⟩
  | .str l, _, h, _ => by
    cases h with
    | str x l e hz ho =>
      subst e
      refine ⟨.str x, ?_⟩
      show PyData.canLay0 (.str x) = true
      simp only [PyData.canLay0, PyData.strOk]
      rw [Array.all_eq_true']
      intro c hc
      exact decide_eq_true (ho c (by simpa using hc))
  | .tup xs, _, h, hd => by
    cases h with
    | tup h1 r =>
      simp only [dpt] at hd
      obtain ⟨d1, d2⟩ := RepsP.dp r (by omega)
      exact ⟨.tup h1.sq d1, d2⟩
  | .lst xs, _, h, hd => by
    cases h with
    | lst h1 r =>
      simp only [dpt] at hd
      obtain ⟨d1, d2⟩ := RepsP.dp r (by omega)
      exact ⟨.lst (.of h1.1) d1, d2⟩
  | .scr _, _, _, hd => by simp [dpt] at hd
  | .ref _, _, _, hd => by simp [dpt] at hd
theorem RepsP.dp : ∀ {xs : List PV} {vs : List V}, RepsP K g H vs xs → dpts xs ≤ 64 → DpAll K H vs (toDs xs) ∧ PyData.canLayAll0 (toDs xs) = true
  | [], _, h, _ => by cases h; exact ⟨.nil, rfl⟩
  | x :: xs, _, h, hd => by
    cases h with
    | cons h1 h2 =>
      simp only [dpts] at hd
      obtain ⟨a1, a2⟩ := RepP.dp h1 (by omega)
      obtain ⟨b1, b2⟩ := RepsP.dp h2 (by omega)
      refine ⟨.cons a1 b1, ?_⟩
      show (PyData.canLay0 (toD x) && PyData.canLayAll0 (toDs xs)) = true
      rw [a2, b2]
      rfl
end
/-- a cell read as a list -/
def dv (S : Sto) : PV → PV
  | .ref n => match S[n]? with
    | some (.lst xs) => .lst xs
    | _ => .ref n
  | x => x
theorem dv_dp {v : V} {x : PV} (so : StOk K m g H S) (r : Rep K m g H v x) (hd : dpt (dv S x) ≤ 64) : Dp K H v (toD (dv S x)) ∧ (toD (dv S x)).canLay0 = true := by
  cases r with
  | p r =>
    have e : dv S x = x := by cases r <;> rfl
    rw [e] at hd ⊢
    exact r.dp hd
  | @r n a h1 =>
    have hn : n < S.length := by rw [← so.len]; exact (List.getElem?_eq_some_iff.mp h1).1
    obtain ⟨o, e⟩ : ∃ o, S[n]? = some o := ⟨_, List.getElem?_eq_getElem hn⟩
    have c := so.cell n a _ h1 e
    cases o with
    | lst ys =>
      obtain ⟨vs, c1, c2⟩ := c
      have e2 : dv S (.ref n) = .lst ys := by
        show (match S[n]? with
          | some (.lst xs) => PV.lst xs
          | _ => .ref n) = _
        rw [e]
      rw [e2] at hd ⊢
      simp only [dpt] at hd
      obtain ⟨d1, d2⟩ := c2.dp (by omega)
      exact ⟨.lst (.of c1) d1, d2⟩
theorem dv_shaped {v : V} {x : PV} (so : StOk K m g H S) (r : Rep K m g H v x) (hd : dpt (dv S x) ≤ 64) : SeqAt.shaped (toD (dv S x)) = true := by
  unfold SeqAt.shaped
  rw [(dv_dp so r hd).2, depth_toD _ hd]
  exact decide_eq_true hd
end
section
variable {X : Cx}
def oEq : F2 := fun x y S => if (decide (dpt (dv S x) ≤ 64) && decide (dpt (dv S y) ≤ 64)) = true then .ok (.bl (eqPV (dv S x) (dv S y))) S else .no
def oNe : F2 := fun x y S => if (decide (dpt (dv S x) ≤ 64) && decide (dpt (dv S y) ≤ 64)) = true then .ok (.bl (!eqPV (dv S x) (dv S y))) S else .no
theorem o_eq (hu : X.A.units + 64 < cLine) : Op2 X (compareOp .Eq) oEq := by
  intro pins s σ H x y v u Q I rx ry h
  obtain ⟨m, g, S, px, py, so, r1, r2, h⟩ := h
  unfold oEq at h
  split at h
  · rename_i hd
    simp only [Bool.and_eq_true, decide_eq_true_eq] at hd
    refine op_eqD hu pins s σ H _ _ v u Q I rx ry ⟨_, _, (dv_dp so r1 hd.1).1, (dv_dp so r2 hd.2).1, dv_shaped so r1 hd.1, dv_shaped so r2 hd.2, ?_⟩
    rw [eqv_toD _ _ hd.1 hd.2]
    exact post_p h so (.bl _)
  · exact h.elim
theorem o_ne (hu : X.A.units + 64 < cLine) : Op2 X (compareOp .NotEq) oNe := by
  intro pins s σ H x y v u Q I rx ry h
  obtain ⟨m, g, S, px, py, so, r1, r2, h⟩ := h
  unfold oNe at h
  split at h
  · rename_i hd
    simp only [Bool.and_eq_true, decide_eq_true_eq] at hd
    refine op_neD hu pins s σ H _ _ v u Q I rx ry ⟨_, _, (dv_dp so r1 hd.1).1, (dv_dp so r2 hd.2).1, dv_shaped so r1 hd.1, dv_shaped so r2 hd.2, ?_⟩
    rw [eqv_toD _ _ hd.1 hd.2]
    exact post_p h so (.bl _)
  · exact h.elim
/-- order of ints, of texts -/
def oOrd (f : Int → Int → Bool) (k : List Nat → List Nat → Bool) : F2 := fun x y S => match x, y with
  | .int i, .int j => .ok (.bl (f i j)) S
  | .str a, .str b => .ok (.bl (k a b)) S
  | _, _ => .no
theorem o_ord {op : CmpOp} {f : Int → Int → Bool} {k : List Nat → List Nat → Bool} (h1 : OpR X (compareOp op) (rI0 fun i j => .bl (f i j)))
    (h2 : OpR X (compareOp op) (fun x y H Q => ∃ i j, x = .str i ∧ y = .str j ∧ Q (.bl (k i.cps.toList j.cps.toList)) H)) : Op2 X (compareOp op) (oOrd f k) := by
  intro pins s σ H x y v u Q I rx ry h
  obtain ⟨m, g, S, px, py, so, r1, r2, h⟩ := h
  unfold oOrd at h
  split at h
  · obtain rfl := r1.int_inv
    obtain rfl := r2.int_inv
    exact h1 pins s σ H _ _ v u Q I rx ry ⟨_, _, rfl, rfl, post_p h so (.bl _)⟩
  · obtain ⟨x, rfl, e1, _, _⟩ := r1.str_inv
    obtain ⟨y, rfl, e2, _, _⟩ := r2.str_inv
    subst e1 e2
    exact h2 pins s σ H _ _ v u Q I rx ry ⟨_, _, rfl, rfl, post_p h so (.bl _)⟩
  · exact h.elim
def oLt : F2 := oOrd (fun i j => decide (i < j)) fun a b => decide (a < b)
theorem o_lt : Op2 X (compareOp .Lt) oLt := o_ord op_lt op_lt_str
def oLe : F2 := oOrd (fun i j => decide (i ≤ j)) fun a b => !decide (b < a)
theorem o_le : Op2 X (compareOp .LtE) oLe := o_ord op_le op_le_str
def oGt : F2 := oOrd (fun i j => decide (j < i)) fun a b => decide (b < a)
theorem o_gt : Op2 X (compareOp .Gt) oGt := o_ord op_gt op_gt_str
def oGe : F2 := oOrd (fun i j => decide (j ≤ i)) fun a b => !decide (a < b)
theorem o_ge : Op2 X (compareOp .GtE) oGe := o_ord op_ge op_ge_str
/-- is None -/
def isNon : PV → Bool
  | .non => true
  | _ => false
def oIs : F2 := fun x y S => match y with
  | .non => .ok (.bl (isNon x)) S
  | _ => .no
def oIsNot : F2 := fun x y S => match y with
  | .non => .ok (.bl (!isNon x)) S
  | _ => .no
theorem isNon_of {K : PySem.W.Frag} {m g : List Addr} {H : Hp} {v : V} {x : PV} (r : Rep K m g H v x) : decide (v = .non) = isNon x := by
  cases r with
  | p r => cases r <;> simp [isNon]
  | r h => simp [isNon]
theorem o_is : Op2 X (compareOp .Is) oIs := by
  intro pins s σ H x y v u Q I rx ry h
  obtain ⟨m, g, S, px, py, so, r1, r2, h⟩ := h
  unfold oIs at h
  split at h
  · obtain rfl := r2.non_inv
    refine op_isN pins s σ H _ _ v u Q I rx ry ⟨rfl, ?_⟩
    rw [isNon_of r1]
    exact post_p h so (.bl _)
  · exact h.elim
theorem o_isnot : Op2 X (compareOp .IsNot) oIsNot := by
  intro pins s σ H x y v u Q I rx ry h
  obtain ⟨m, g, S, px, py, so, r1, r2, h⟩ := h
  unfold oIsNot at h
  split at h
  · obtain rfl := r2.non_inv
    refine op_notN pins s σ H _ _ v u Q I rx ry ⟨rfl, ?_⟩
    rw [isNon_of r1]
    exact post_p h so (.bl _)
  · exact h.elim
end
end Pv

namespace Pv
open PySem PySem.Spec PyProof.Rows L2
theorem any_toDs (x : PV) (hx : dpt x ≤ 64) : ∀ ys : List PV, dpts ys ≤ 64 → (toDs ys).any (fun z => PyData.eqv z (toD x)) = ys.any fun z => eqPV z x
  | [], _ => rfl
  | y :: ys, h => by
    simp only [dpts] at h
    show (PyData.eqv (toD y) (toD x) || (toDs ys).any (fun z => PyData.eqv z (toD x))) = _
    rw [eqv_toD y x (by omega) hx, any_toDs x hx ys (by omega)]
    rfl
section
variable {X : Cx} {e a b : Expr} {fa fb : FE} {pos p2 : Pos}
/-- one sign in a text; something in a list, in a tuple -/
def inPV (S : Sto) (x y : PV) : Option Bool := match x, y with
  | .str [c], .str l => some (decide (c ∈ l))
  | x, y => match dv S y with
    | .lst ys => if (decide (dpt (dv S x) ≤ 64) && decide (dpts ys ≤ 63)) = true then some (ys.any fun z => eqPV z (dv S x)) else none
    | .tup ys => if (decide (dpt (dv S x) ≤ 64) && decide (dpts ys ≤ 63)) = true then some (ys.any fun z => eqPV z (dv S x)) else none
    | _ => none
def oIn : F2 := fun x y S => match inPV S x y with
  | some b => .ok (.bl b) S
  | none => .no
def oNotIn : F2 := fun x y S => match inPV S x y with
  | some b => .ok (.bl (!b)) S
  | none => .no
theorem op_inDT (hu : X.A.units + 65 < cLine) : OpR X (compareOp .In) (fun x y H Q => ∃ d ds, Dp X.K H x d ∧ Dp X.K H y (.tuple ds) ∧ SeqAt.shaped d = true ∧ SeqAt.shaped (.tuple ds) = true ∧ Q (.bl (ds.any fun z => PyData.eqv z d)) H) := by
  intro pins s σ H x y v u Q I rx ry h
  obtain ⟨d, ds, hd, he, sd, se, q⟩ := h
  obtain ⟨as, r1⟩ := Dp.reads I d x v hd rx
  obtain ⟨bs, r2⟩ := Dp.reads I (.tuple ds) y u he ry
  exact SeqAt.in_tuple_reads r2 r1 (SeqAt.canLay_of_shaped se) (SeqAt.canLay_of_shaped sd) (room_in_shaped sd hu) ⟨.bl _, H, I, rfl, q⟩
theorem op_notInDT (hu : X.A.units + 65 < cLine) : OpR X (compareOp .NotIn) (fun x y H Q => ∃ d ds, Dp X.K H x d ∧ Dp X.K H y (.tuple ds) ∧ SeqAt.shaped d = true ∧ SeqAt.shaped (.tuple ds) = true ∧ Q (.bl (!ds.any fun z => PyData.eqv z d)) H) := by
  intro pins s σ H x y v u Q I rx ry h
  obtain ⟨d, ds, hd, he, sd, se, q⟩ := h
  obtain ⟨as, r1⟩ := Dp.reads I d x v hd rx
  obtain ⟨bs, r2⟩ := Dp.reads I (.tuple ds) y u he ry
  exact SeqAt.notIn_tuple_reads r2 r1 (SeqAt.canLay_of_shaped se) (SeqAt.canLay_of_shaped sd) (room_in_shaped sd hu) ⟨.bl _, H, I, rfl, q⟩
/-- what the two rules ask, from inPV's answer -/
theorem inPV_ok {K : PySem.W.Frag} {m g : List Addr} {H : Hp} {S : Sto} {v u : V} {x y : PV} {k : Bool} (so : StOk K m g H S) (r1 : Rep K m g H v x) (r2 : Rep K m g H u y) (h : inPV S x y = some k) :
    (∃ (c : Nat) (z : Str), v = .str ⟨#[c]⟩ ∧ u = .str z ∧ decide (c ∈ z.cps.toList) = k) ∨
    (∃ d ds, Dp K H v d ∧ Dp K H u (.list ds) ∧ SeqAt.shaped d = true ∧ SeqAt.shaped (.list ds) = true ∧ (ds.any fun z => PyData.eqv z d) = k) ∨
    (∃ d ds, Dp K H v d ∧ Dp K H u (.tuple ds) ∧ SeqAt.shaped d = true ∧ SeqAt.shaped (.tuple ds) = true ∧ (ds.any fun z => PyData.eqv z d) = k) := by
  unfold inPV at h
  split at h
  · rename_i c l
    obtain ⟨z1, rfl, e1, _, _⟩ := r1.str_inv
    obtain ⟨z2, rfl, e2, _, _⟩ := r2.str_inv
    refine .inl ⟨c, z2, ?_, rfl, ?_⟩
    · congr 1
      obtain ⟨arr⟩ := z1
      congr 1
      apply Array.toList_inj.mp
      simpa using e1
    · subst e2
      exact Option.some.inj h
  · split at h
    · rename_i ys ey
      split at h
      · rename_i hd
        simp only [Bool.and_eq_true, decide_eq_true_eq] at hd
        have hy : dpt (dv S y) ≤ 64 := by rw [ey]; simp only [dpt]; omega
        have d1 := dv_dp so r1 hd.1
        have d2 := dv_dp so r2 hy
        have s2 := dv_shaped so r2 hy
        rw [ey] at d2 s2
        exact .inr (.inl ⟨_, toDs ys, d1.1, d2.1, dv_shaped so r1 hd.1, s2, by rw [any_toDs _ hd.1 ys (by omega)]; exact Option.some.inj h⟩)
      · cases h
    · rename_i ys ey
      split at h
      · rename_i hd
        simp only [Bool.and_eq_true, decide_eq_true_eq] at hd
        have hy : dpt (dv S y) ≤ 64 := by rw [ey]; simp only [dpt]; omega
        have d1 := dv_dp so r1 hd.1
        have d2 := dv_dp so r2 hy
        have s2 := dv_shaped so r2 hy
        rw [ey] at d2 s2
        exact .inr (.inr ⟨_, toDs ys, d1.1, d2.1, dv_shaped so r1 hd.1, s2, by rw [any_toDs _ hd.1 ys (by omega)]; exact Option.some.inj h⟩)
      · cases h
    · cases h
theorem o_in (hu : X.A.units + 65 < cLine) : Op2 X (compareOp .In) oIn := by
  intro pins s σ H x y v u Q I rx ry h
  obtain ⟨m, g, S, px, py, so, r1, r2, h⟩ := h
  unfold oIn at h
  split at h
  · rename_i k hk
    rcases inPV_ok so r1 r2 hk with ⟨c, z, rfl, rfl, e⟩ | ⟨d, ds, a1, a2, a3, a4, e⟩ | ⟨d, ds, a1, a2, a3, a4, e⟩
    · exact op_in_sign pins s σ H _ _ v u Q I rx ry ⟨c, z, rfl, rfl, by rw [e]; exact post_p h so (.bl _)⟩
    · exact op_inD hu pins s σ H _ _ v u Q I rx ry ⟨d, ds, a1, a2, a3, a4, by rw [e]; exact post_p h so (.bl _)⟩
    · exact op_inDT hu pins s σ H _ _ v u Q I rx ry ⟨d, ds, a1, a2, a3, a4, by rw [e]; exact post_p h so (.bl _)⟩
  · exact h.elim
theorem o_notin (hu : X.A.units + 65 < cLine) : Op2 X (compareOp .NotIn) oNotIn := by
  intro pins s σ H x y v u Q I rx ry h
  obtain ⟨m, g, S, px, py, so, r1, r2, h⟩ := h
  unfold oNotIn at h
  split at h
  · rename_i k hk
    rcases inPV_ok so r1 r2 hk with ⟨c, z, rfl, rfl, e⟩ | ⟨d, ds, a1, a2, a3, a4, e⟩ | ⟨d, ds, a1, a2, a3, a4, e⟩
    · exact op_notIn_sign pins s σ H _ _ v u Q I rx ry ⟨c, z, rfl, rfl, by rw [e]; exact post_p h so (.bl _)⟩
    · exact op_notInD hu pins s σ H _ _ v u Q I rx ry ⟨d, ds, a1, a2, a3, a4, by rw [e]; exact post_p h so (.bl _)⟩
    · exact op_notInDT hu pins s σ H _ _ v u Q I rx ry ⟨d, ds, a1, a2, a3, a4, by rw [e]; exact post_p h so (.bl _)⟩
  · exact h.elim
theorem in_mark {op : CmpOp} {x : Str} {pos' : Pos} : behindInMarks op (.Name x pos') = false := by cases op <;> rfl

/-! ### subscripts -/
def oIx : F2 := fun x y S => match x, y with
  | .str l, .int i => match atI l i with
    | some c => .ok (.str [c]) S
    | none => .no
  | .tup xs, .int i => match atI xs i with
    | some v => .ok v S
    | none => .no
  | .scr ns, .int i => match atI ns i with
    | some v => .ok (.int v) S
    | none => .no
  | x, .int i => match dl S x with
    | some xs => match atI xs i with
      | some v => .ok v S
      | none => .no
    | none => .no
  | _, _ => .no
theorem RepsP.at {K : PySem.W.Frag} {g : List Addr} {H : Hp} {vs : List V} {xs : List PV} {i : Int} {x : PV} (r : RepsP K g H vs xs) (h : atI xs i = some x) : ∃ v, atI vs i = some v ∧ RepP K g H v x := by
  unfold atI at h ⊢
  rw [r.length]
  cases e : ixN xs.length i with
  | none => rw [e] at h; cases h
  | some j =>
    rw [e] at h
    obtain ⟨v, h1, h2⟩ := r.get (i := j) (x := x) h
    exact ⟨v, h1, h2⟩
theorem i_ix : IxR X (rO X.K oIx) := by
  intro value slice pins s σ H x y v u Q I rx ry h
  obtain ⟨m, g, S, px, py, so, r1, r2, h⟩ := h
  unfold oIx at h
  split at h
  · rename_i l i
    split at h
    · rename_i c hc
      obtain ⟨z, rfl, e, hz, ho⟩ := r1.str_inv
      obtain rfl := r2.int_inv
      subst e
      have hm : c ∈ z.cps.toList := by
        unfold atI at hc
        cases e2 : ixN z.cps.toList.length i with
        | none => rw [e2] at hc; cases hc
        | some j => rw [e2] at hc; exact List.mem_of_getElem? hc
      refine ix_seq value slice pins s σ H _ _ v u Q I rx ry (.inr (.inr ⟨z, i, c, rfl, rfl, by rw [← SZ_eq]; exact (by rw [str_len rfl]; exact hz), hc, post_p h so (.str _ _ rfl (by show (1 : Nat) ≤ SZ; decide) fun d hd => ?_)⟩))
      rw [List.mem_singleton.mp hd]
      exact ho c hm
    · exact h.elim
  · rename_i xs i
    split at h
    · rename_i x hx
      obtain ⟨a, vs, rfl, f, q⟩ := r1.tup_inv
      obtain rfl := r2.int_inv
      obtain ⟨w, h1, h2⟩ := q.at hx
      exact ix_seq value slice pins s σ H _ _ v u Q I rx ry (.inr (.inl ⟨a, vs, i, w, rfl, rfl, f.sq, h1, post_p h so h2⟩))
    · exact h.elim
  · rename_i ns i
    split at h
    · rename_i n hn
      cases r1 with
      | p r1 =>
        cases r1 with
        | scr hq =>
          obtain rfl := r2.int_inv
          refine ix_seq value slice pins s σ H _ _ v u Q I rx ry (.inl ⟨_, _, i, .int n, rfl, rfl, hq.sq, ?_, post_p h so (.int _)⟩)
          unfold atI at hn ⊢
          rw [List.length_map]
          cases e2 : ixN ns.length i with
          | none => rw [e2] at hn; cases hn
          | some j =>
            rw [e2] at hn
            show (ns.map V.int)[j]? = _
            rw [List.getElem?_map]
            have hn : ns[j]? = some n := hn
            rw [hn]
            rfl
    · exact h.elim
  · split at h
    · rename_i xs hxs
      split at h
      · rename_i x hx
        obtain ⟨a, vs, rfl, f, q⟩ := dl_ok so r1 hxs
        obtain rfl := r2.int_inv
        obtain ⟨w, h1, h2⟩ := q.at hx
        exact ix_seq value slice pins s σ H _ _ v u Q I rx ry (.inl ⟨a, vs, _, w, rfl, rfl, .of f, h1, post_p h so h2⟩)
      · exact h.elim
    · exact h.elim
  · exact h.elim
theorem s_ix (ha : SE X a fa) (hb : SE X b fb) (hs : PlainIx b := by exact fun _ _ => rfl) : SE X (.Subscript a b pos) (eBin oIx fa fb) := imE (pe_ix i_ix ha hb hs) fun _ _ _ h => tOp_of h

/-! ### slices -/
abbrev FO := VEnv → Sto → R (Option Int)
def oNone : FO := fun _ S => .ok none S
def oSome (f : FE) : FO := fun env S => (f env S).bind fun x S => match x with
  | .int i => .ok (some i) S
  | _ => .no
def PostO (K : PySem.W.Frag) (m g : List Addr) (H : Hp) (r : R (Option Int)) (Q : Option Int → Hp → Prop) : Prop := match r with
  | .ok b S' => ∀ m' g' H', Nx m g H m' g' H' → StOk K m' g' H' S' → Q b H'
  | .no => False
def tOp' (K : PySem.W.Frag) (f : FO) : TO := fun σ H Q => ∃ m g S env, StOk K m g H S ∧ EnvOk K m g H σ env ∧ PostO K m g H (f env S) Q
def SO' (X : Cx) (e : Option Expr) (f : FO) : Prop := PO X e (tOp' X.K f)
theorem so_none : SO' X none oNone := ⟨fun pins s σ H Q I h => po_none.run pins s σ H Q I (by
  obtain ⟨m, g, S, env, so, eo, h⟩ := h
  exact h m g H .refl so)⟩
theorem so_some (ha : SE X a fa) : SO' X (some a) (oSome fa) := ⟨fun pins s σ H Q I h => (po_some ha).run pins s σ H Q I (by
  obtain ⟨m, g, S, env, so, eo, h⟩ := h
  refine ⟨m, g, S, env, so, eo, ?_⟩
  unfold oSome at h
  unfold PostV
  cases e : fa env S with
  | no => rw [e] at h; exact h
  | ok x S' =>
    rw [e] at h
    intro v m' g' H' nx so' r
    cases x with
    | int i =>
      obtain rfl := r.int_inv
      exact ⟨i, rfl, h m' g' H' nx so'⟩
    | _ => exact absurd h id)⟩
def cut {α : Type} (xs : List α) (lo hi : Option Int) : List α := (xs.drop (HT.sIx xs.length 0 lo)).take (HT.sIx xs.length xs.length hi - HT.sIx xs.length 0 lo)
def oSl (x : PV) (lo hi : Option Int) (S : Sto) : R PV := match x with
  | .str l => .ok (.str (cut l lo hi)) S
  | .tup xs => .ok (.tup (cut xs lo hi)) S
  | .scr ns => .ok (.lst ((cut ns lo hi).map .int)) S
  | x => match dl S x with
    | some xs => .ok (.lst (cut xs lo hi)) S
    | none => .no
theorem RepsP.cut {K : PySem.W.Frag} {g : List Addr} {H : Hp} {vs : List V} {xs : List PV} (r : RepsP K g H vs xs) (lo hi : Option Int) : RepsP K g H (cutV vs lo hi) (Pv.cut xs lo hi) := by
  unfold cutV Pv.cut
  rw [r.length]
  exact (r.drop _).take _
theorem cut_len {α : Type} (xs : List α) (lo hi : Option Int) : (cut xs lo hi).length ≤ xs.length := by
  unfold cut
  rw [List.length_take, List.length_drop]
  omega
theorem cut_mem {α : Type} {xs : List α} {lo hi : Option Int} {c : α} (h : c ∈ cut xs lo hi) : c ∈ xs := List.mem_of_mem_drop (List.mem_of_mem_take h)
theorem ints_rep {K : PySem.W.Frag} {g : List Addr} {H : Hp} : ∀ ns : List Int, RepsP K g H (ns.map V.int) (ns.map PV.int)
  | [] => .nil
  | n :: ns => .cons (.int n) (ints_rep ns)
theorem sl_ok : SlR X (fun x lo hi H Q => ∃ m g S px, StOk X.K m g H S ∧ Rep X.K m g H x px ∧ PostV X.K m g H (oSl px lo hi S) Q) := by
  intro pins s σ H x v vl vu lo hi sl Q I rx hs pl pu h
  obtain ⟨m, g, S, px, so, r, h⟩ := h
  unfold oSl at h
  split at h
  · obtain ⟨z, rfl, e, hz, ho⟩ := r.str_inv
    subst e
    refine sl_str pins s σ H _ v vl vu lo hi sl Q I rx hs pl pu ⟨z, rfl, by rw [← SZ_eq, str_len rfl]; exact hz, post_p h so (.str _ _ ?_ (Nat.le_trans (cut_len _ _ _) hz) fun c hc => ho c (cut_mem hc))⟩
    show ((z.cps.toList.drop (HT.sIx z.length 0 lo)).take (HT.sIx z.length z.length hi - HT.sIx z.length 0 lo)).toArray.toList = _
    rw [List.toList_toArray]
    rfl
  · obtain ⟨a, vs, rfl, f, q⟩ := r.tup_inv
    refine sl_tupA pins s σ H _ v vl vu lo hi sl Q I rx hs pl pu ⟨a, vs, rfl, f.sq, fun hw => ?_, fun hw p np => post_t h so (q.cut lo hi) np⟩
    have e : ∀ {α : Type} (xs : List α), HT.sIx xs.length 0 lo = 0 ∧ HT.sIx xs.length xs.length hi = xs.length → Pv.cut xs lo hi = xs := fun xs h => by
      unfold Pv.cut
      rw [h.1, h.2, List.drop_zero, Nat.sub_zero, List.take_length]
    rw [q.length] at hw
    rw [e _ hw] at h
    exact post_p h so (.tup f q)
  · rename_i ns
    cases r with
    | p r =>
      cases r with
      | scr hq =>
        refine sl_list pins s σ H _ v vl vu lo hi sl Q I rx hs pl pu ⟨_, _, rfl, hq.sq, fun p np => post_l h so ?_ np⟩
        have e : cutV (ns.map V.int) lo hi = (Pv.cut ns lo hi).map V.int := by
          unfold cutV Pv.cut
          rw [List.length_map, List.map_take, List.map_drop]
        rw [e]
        exact ints_rep _
  · split at h
    · rename_i xs hxs
      obtain ⟨a, vs, rfl, f, q⟩ := dl_ok so r hxs
      exact sl_list pins s σ H _ v vl vu lo hi sl Q I rx hs pl pu ⟨_, _, rfl, .of f, fun p np => post_l h so (q.cut lo hi) np⟩
    · exact h.elim
def eSl (f : FE) (lo hi : FO) : FE := fun env S => (f env S).bind fun x S => (lo env S).bind fun l S => (hi env S).bind fun h S => oSl x l h S
theorem s_sl {lo hi : Option Expr} {fl fh : FO} (ha : SE X a fa) (hl : SO' X lo fl) (hh : SO' X hi fh) : SE X (.Subscript a (.Slice lo hi none p2) pos) (eSl fa fl fh) := imE (pe_slice sl_ok ha hl hh) fun σ H Q h => by
  obtain ⟨m, g, S, env, so, eo, h⟩ := h
  refine vV so eo h fun x S1 v m1 g1 H1 n1 so1 eo1 r1 h1 => ?_
  refine ⟨m1, g1, S1, env, so1, eo1, ?_⟩
  unfold PostO
  cases e1 : fl env S1 with
  | no => rw [e1] at h1; exact h1
  | ok l S2 =>
    rw [e1] at h1
    intro m2 g2 H2 n2 so2
    refine ⟨m2, g2, S2, env, so2, eo1.mono n2 so1.sub, ?_⟩
    replace h1 : PostV X.K m2 g2 H2 ((fh env S2).bind fun h S => oSl x l h S) Q := PostV.mono (K := X.K) (Q := Q) h1 n2
    unfold PostO
    cases e2 : fh env S2 with
    | no => rw [e2] at h1; exact h1
    | ok hv S3 =>
      rw [e2] at h1
      intro m3 g3 H3 n3 so3
      exact ⟨m3, g3, S3, x, so3, (r1.mono n2 so1.sub).mono n3 so2.sub, PostV.mono (K := X.K) (Q := Q) h1 n3⟩
end
end Pv

namespace Pv
open PySem PySem.Spec PyProof.Rows L2

/-! ### defs: called, shown -/
abbrev FF := List PV → Sto → R PV
/-- what a def promises -/
def spOf (K : PySem.W.Frag) (F : FF) : Sp := fun vs H Q E => ∃ m g S xs, StOk K m g H S ∧ Reps K m g H vs xs ∧ PostV K m g H (F xs S) Q
/-- the def x stands, and does F -/
structure DefOk (P : Program) (w : World) (K : PySem.W.Frag) (mg : Str → Option Value) (base : Heap) (CX : CXT) (x : Str) (ps : List Str) (k : Nat) (F : FF) : Prop where
  ex : ∃ (f : Addr) (fd : FuncData), mg x = some (.ref f) ∧ PySem.W.keepIn K (.ref f) = true ∧ Binds K fd ps [] ∧ FnOk P w K mg base CX k f fd ps (spOf K F)
section
variable {X : Cx} {e a b : Expr} {es : List Expr} {fa fb : FE} {pos p : Pos} {CX : CXT} {k : Nat} {x : Str} {ps : List Str} {F : FF}
def eCall (F : FF) (f : FA) : FE := fun env S => (f env S).bind fun xs S => F xs S
theorem DefOk.mono {P : Program} {w : World} {K : PySem.W.Frag} {mg : Str → Option Value} {base : Heap} {j : Nat} (D : DefOk P w K mg base CX x ps j F) (h : j ≤ k) : DefOk P w K mg base CX x ps k F := by
  obtain ⟨f, fd, h1, h2, h3, h4⟩ := D.ex
  exact ⟨f, fd, h1, h2, h3, h4.mono h⟩
theorem eCall_sp {K : PySem.W.Frag} {fs : FA} {σ : L2.St} {H : Hp} {Q : V → Hp → Prop} {E : XK} (h : tO K (eCall F fs) σ H Q) : tA K fs σ H (fun vs H1 => spOf K F vs H1 Q E) := by
  obtain ⟨m, g, S, env, so, eo, h⟩ := h
  exact lV so eo h fun xs S' vs m' g' H' nx so' eo' r h => ⟨m', g', S', xs, so', r, h⟩
/-- a def of the text is called, positionally -/
theorem s_call {fs : FA} (D : DefOk X.prog X.w X.K X.mg X.base CX x ps k F) (hr : Room k X.A) (hx : Passes CX X E0) (ha : SA X (e :: es) fs) (hg : Gl X x := by rfl)
    (hdb : (x == ("__debug__" : Str)) = false := by decide) (he : starEach (e :: es) X.env = (false, eval e X.env) :: starEach es X.env := by rfl) (hpl : (backTo pos (starEach es X.env)).any (·.1) = false := by rfl) : SE X (.Call (.Name x p) (e :: es) [] pos) (eCall F fs) := by
  obtain ⟨f, fd, h1, h2, h3, h4⟩ := D.ex
  refine imE (pe_call h4 hr hg h1 h2 h3 .nil hx ha hdb he hpl) fun σ H Q h => ?_
  have q := eCall_sp (E := E0) h
  show tA X.K fs σ H (fun vs H1 => spOf X.K F (vs ++ []) H1 Q E0)
  simp only [List.append_nil]
  exact q

/-! ### what a def does -/
def startE (N : Nat) (xs : List PV) : VEnv := xs.map some ++ List.replicate (N - xs.length) none
def out (n0 : Nat) (v : PV) (S : Sto) : R PV := match v with
  | .ref n => if n < n0 then .ok (.ref n) (S.take n0) else match S[n]? with
    | some (.lst xs) => .ok (.lst xs) (S.take n0)
    | _ => .no
  | v => .ok v (S.take n0)
def outS (n0 : Nat) (r : RS) : R PV := match r with
  | .nx _ S => .ok .non (S.take n0)
  | .ret v S => out n0 v S
  | .no => .no
/-- a def of np parameters and N slots; its own lists are let go (or handed out, for good) -/
def fnOf (np N : Nat) (body : FS) : FF := fun xs S => if xs.length = np then outS S.length (body (startE N xs) S) else .no
/-- .. that hands out a list to be changed -/
def fnKeep (np N : Nat) (body : FS) : FF := fun xs S => if xs.length = np then (match body (startE N xs) S with
  | .nx _ S' => .ok .non S'
  | .ret v S' => .ok v S'
  | .no => .no) else .no
theorem Nx.back {m g m' g' : List Addr} {H H' : Hp} (n : Nx m g H m' g' H') : Nx m g H m g H' := ⟨n.ext, n.free, ⟨[], by simp⟩, fun _ h => h, fun _ h => .inl h⟩
theorem StOk.back {K : PySem.W.Frag} {m g m' g' : List Addr} {H H' : Hp} {S S' : Sto} (so : StOk K m g H S) (n : Nx m g H m' g' H') (so' : StOk K m' g' H' S') : StOk K m g H' (S'.take S.length) := by
  obtain ⟨new, e, f⟩ := n.app
  have hl : m'.length = S'.length := so'.len
  have hl2 : m.length ≤ m'.length := by rw [e, List.length_append]; omega
  refine ⟨by rw [List.length_take, ← hl, ← so.len]; omega, so.nd, so.sub, fun a h => so'.live a (n.gs a h), fun i a o h1 h2 => ?_⟩
  have hi : i < m.length := (List.getElem?_eq_some_iff.mp h1).1
  have h1' : m'[i]? = some a := by rw [e, List.getElem?_append_left hi]; exact h1
  have h2' : S'[i]? = some o := by
    rw [List.getElem?_take] at h2
    split at h2
    · exact h2
    · cases h2
  exact (so'.cell i a o h1' h2').mono ⟨fun _ _ e _ => e, fun a z => .inl (n.gs a z)⟩ fun _ e => e
theorem RepP.back {K : PySem.W.Frag} {m g m' g' : List Addr} {H H' : Hp} {v : V} {x : PV} (n : Nx m g H m' g' H') (r : RepP K g' H' v x) : RepP K g H' v x := r.mono ⟨fun _ _ e _ => e, fun a z => .inl (n.gs a z)⟩
theorem start_ok {K : PySem.W.Frag} {m g : List Addr} {H : Hp} {N : List Str} {vs : List V} {xs : List PV} (r : Reps K m g H vs xs) : EnvOk K m g H (L2.start N vs) (startE N.length xs) := by
  refine ⟨by unfold L2.start startE; simp [r.length], fun i x e => ?_⟩
  unfold startE at e
  by_cases hi : i < xs.length
  · rw [List.getElem?_append_left (by simpa using hi), List.getElem?_map] at e
    have : ∀ {i : Nat} {vs : List V} {xs : List PV}, Reps K m g H vs xs → xs[i]? = some x → ∃ v, vs[i]? = some v ∧ Rep K m g H v x := by
      intro i
      induction i with
      | zero =>
        intro vs xs h e
        cases h with
        | nil => cases e
        | cons a t => cases e; exact ⟨_, rfl, a⟩
      | succ n ih =>
        intro vs xs h e
        cases h with
        | nil => cases e
        | cons a t => exact ih t (by simpa using e)
    cases q : xs[i]? with
    | none => rw [q] at e; cases e
    | some y =>
      rw [q] at e
      cases e
      obtain ⟨v, h1, h2⟩ := this r q
      refine ⟨v, ?_, h2⟩
      unfold L2.start
      rw [List.getElem?_append_left (by rw [List.length_map, r.length]; exact hi), List.getElem?_map, h1]
      rfl
  · rw [List.getElem?_append_right (by simp; omega)] at e
    rw [List.getElem?_replicate] at e
    split at e <;> cases e
theorem fn_sp {K : PySem.W.Frag} {N : List Str} {np : Nat} {body : FS} {vs : List V} {H : Hp} {Q : VK} {E : XK} (h : spOf K (fnOf np N.length body) vs H Q E) : tS K body { nx := fun _ H' => Q .non H', rt := Q } (L2.start N vs) H := by
  obtain ⟨m, g, S, xs, so, r, h⟩ := h
  refine ⟨m, g, S, _, so, start_ok r, ?_⟩
  unfold fnOf at h
  split at h
  · unfold outS at h
    unfold PostS
    split at h
    · rename_i env S' eb
      try rw [eb]
      exact fun σ' m' g' H' nx so' eo' => h .non m g H' nx.back (so.back nx so') (.p .non)
    · rename_i v S' eb
      try rw [eb]
      intro u m' g' H' nx so' r'
      unfold out at h
      split at h
      · rename_i n
        cases r' with
        | p r' => cases r'
        | r hm =>
          rename_i a
          obtain ⟨new, e, f⟩ := nx.app
          split at h
          · rename_i hn
            refine h (.ref a) m g H' nx.back (so.back nx so') (.r ?_)
            rw [e, List.getElem?_append_left (by rw [so.len]; exact hn)] at hm
            exact hm
          · rename_i hn
            split at h
            · rename_i ys es
              obtain ⟨ws, c1, c2⟩ := so'.cell n a _ hm es
              refine h (.ref a) m g H' nx.back (so.back nx so') (.p (.lst ⟨c1, fun hg => ?_⟩ (c2.mono ⟨fun _ _ e _ => e, fun a z => .inl (nx.gs a z)⟩)))
              rw [e, List.getElem?_append_right (by rw [so.len]; omega)] at hm
              exact so.live a hg (f a (List.mem_of_getElem? hm))
            · exact h.elim
      · rename_i hv
        cases r' with
        | p r' => exact h u m g H' nx.back (so.back nx so') (.p (r'.back nx))
        | r hm => exact (hv _ rfl).elim
    · exact h.elim
  · exact h.elim
theorem fk_sp {K : PySem.W.Frag} {N : List Str} {np : Nat} {body : FS} {vs : List V} {H : Hp} {Q : VK} {E : XK} (h : spOf K (fnKeep np N.length body) vs H Q E) : tS K body { nx := fun _ H' => Q .non H', rt := Q } (L2.start N vs) H := by
  obtain ⟨m, g, S, xs, so, r, h⟩ := h
  refine ⟨m, g, S, _, so, start_ok r, ?_⟩
  unfold fnKeep at h
  split at h
  · unfold PostS
    split at h
    · rename_i env S' eb
      try rw [eb]
      exact fun σ' m' g' H' nx so' eo' => h .non m' g' H' nx so' (.p .non)
    · rename_i v S' eb
      try rw [eb]
      exact fun u m' g' H' nx so' r' => h u m' g' H' nx so' r'
    · exact h.elim
  · exact h.elim
theorem sp_len {K : PySem.W.Frag} {F : FF} {np : Nat} (hF : ∀ xs S, xs.length ≠ np → F xs S = .no) : ∀ vs H Q E, spOf K F vs H Q E → vs.length = np := fun vs H Q E ⟨m, g, S, xs, so, r, h⟩ => by
  rw [r.length]
  refine Classical.byContradiction fun hn => ?_
  rw [hF xs S hn] at h
  exact h
theorem fnOf_len {np N : Nat} {body : FS} : ∀ xs S, xs.length ≠ np → fnOf np N body xs S = .no := fun xs S h => if_neg h
theorem fnKeep_len {np N : Nat} {body : FS} : ∀ xs S, xs.length ≠ np → fnKeep np N body xs S = .no := fun xs S h => if_neg h
/-- the context of a def's body -/
abbrev bodyCx (P : Program) (w : World) (K : PySem.W.Frag) (mg : Str → Option Value) (base : Heap) (N : List Str) (qual : Str) (scope : Scope) (f : Addr) (cdv : Value) (A : Around) (outer : List Env) (s : Shared) (H : Hp) (E : XK) : Cx :=
  (cxOf CX0 P w K mg base N qual scope f cdv A outer s H E).nox
section
variable {P : Program} {w : World} {K : PySem.W.Frag} {mg : Str → Option Value} {base : Heap} {qual : Str} {params : Arguments} {body : List Stmt} {scope : Scope} {f : Addr} {fd : FuncData} {N : List Str}
theorem def_ok {fs : FS} (D : FunD K x qual params body scope [] [] f fd) (hm : mg x = some (.ref f)) (S : FnScope N ps scope)
    (hb : ∀ (kV doc pm : Value) (an : Option Addr) (cdv ct : Value) (us : List Value), us.length = ps.length → bindArgs (PySem.W.fnOf x qual params body scope .none kV doc pm an cdv ct) ⟨us, []⟩ = pure (ps.zip us))
    (h : ∀ (cdv : Value) (A : Around) (outer : List Env) (s : Shared) (H : Hp) (E : XK), Room k (A.deeper (envOfC qual scope s.heap.objs.size f cdv)) → SSs (bodyCx P w K mg base N qual scope f cdv A outer s H E) body fs) :
    DefOk P w K mg base CX0 x ps (k + 1) (fnOf ps.length N.length fs) :=
  ⟨f, fd, hm, D.kp, D.bindsN hb, D.ok S (sp_len fnOf_len) fun cdv A outer s H vs Q E hr hsp => ⟨tS K fs, PSs.nox (h cdv A outer s H E hr), fn_sp hsp⟩⟩
theorem def_keep {fs : FS} (D : FunD K x qual params body scope [] [] f fd) (hm : mg x = some (.ref f)) (S : FnScope N ps scope)
    (hb : ∀ (kV doc pm : Value) (an : Option Addr) (cdv ct : Value) (us : List Value), us.length = ps.length → bindArgs (PySem.W.fnOf x qual params body scope .none kV doc pm an cdv ct) ⟨us, []⟩ = pure (ps.zip us))
    (h : ∀ (cdv : Value) (A : Around) (outer : List Env) (s : Shared) (H : Hp) (E : XK), Room k (A.deeper (envOfC qual scope s.heap.objs.size f cdv)) → SSs (bodyCx P w K mg base N qual scope f cdv A outer s H E) body fs) :
    DefOk P w K mg base CX0 x ps (k + 1) (fnKeep ps.length N.length fs) :=
  ⟨f, fd, hm, D.kp, D.bindsN hb, D.ok S (sp_len fnKeep_len) fun cdv A outer s H vs Q E hr hsp => ⟨tS K fs, PSs.nox (h cdv A outer s H E hr), fk_sp hsp⟩⟩
/-- a def's meaning by another function, where that says something -/
theorem DefOk.imp {F' : FF} (D : DefOk P w K mg base CX x ps k F) (h : ∀ xs S v S', F' xs S = .ok v S' → F xs S = .ok v S') : DefOk P w K mg base CX x ps k F' := by
  obtain ⟨f, fd, h1, h2, h3, h4⟩ := D.ex
  refine ⟨f, fd, h1, h2, h3, h4.imp fun vs H Q E ⟨m, g, S, xs, so, r, q⟩ => ⟨m, g, S, xs, so, r, ?_⟩⟩
  cases e : F' xs S with
  | no => rw [e] at q; exact q.elim
  | ok v S' => rw [h _ _ _ _ e, ← e]; exact q
end

/-! ### statements -/
variable {st : Stmt} {rest : List Stmt} {fs gs : FS}
def sNil : FS := fun env S => .nx env S
def sSeq (f g : FS) : FS := fun env S => match f env S with
  | .nx env' S' => g env' S'
  | .ret v S' => .ret v S'
  | .no => .no
theorem ss_nil : SSs X [] sNil := imSs pss_nil fun D σ H h => by
  obtain ⟨m, g, S, env, so, eo, h⟩ := h
  exact h σ m g H .refl so eo
theorem ss_cons (h1 : SS X st fs) (h2 : SSs X rest gs) : SSs X (st :: rest) (sSeq fs gs) := imSs (pss_cons h1 h2) fun D σ H h => by
  obtain ⟨m, g, S, env, so, eo, h⟩ := h
  refine ⟨m, g, S, env, so, eo, ?_⟩
  unfold sSeq at h
  unfold PostS
  cases e : fs env S with
  | nx env' S' =>
    rw [e] at h
    exact fun σ' m' g' H' nx so' eo' => ⟨m', g', S', env', so', eo', PostS.mono (K := X.K) (D := D) h nx⟩
  | ret v S' =>
    rw [e] at h
    exact h
  | no =>
    rw [e] at h
    exact h
theorem ss_one (h1 : SS X st fs) : SSs X [st] fs := pss_one h1
def sRet (f : FE) : FS := fun env S => (f env S).bindS fun x S => .ret x S
theorem ss_ret (ha : SE X e fa) : SS X (.Return (some e) pos) (sRet fa) := imS (ps_ret ha) fun D σ H h => by
  obtain ⟨m, g, S, env, so, eo, h⟩ := h
  exact vS so eo h fun x S' v m' g' H' nx so' eo' r h => h v m' g' H' .refl so' r
def sExpr (f : FE) : FS := fun env S => (f env S).bindS fun _ S => .nx env S
theorem ss_expr (ha : SE X e fa) (hs : swapsWith e none pos.line X.env = pure false := by rfl) : SS X (.Expr e pos) (sExpr fa) := imS (ps_expr ha hs) fun D σ H h => by
  obtain ⟨m, g, S, env, so, eo, h⟩ := h
  exact vS so eo h fun x S' v m' g' H' nx so' eo' r h => h σ m' g' H' .refl so' eo'
def sSet (i : Nat) (f : FE) : FS := fun env S => (f env S).bindS fun x S => .nx (env.set i (some x)) S
theorem ss_set (i : Nat) {pos' : Pos} (hN : X.N.Nodup) (ha : SE X e fa) (hi : X.N[i]? = some x := by rfl) (hx : Loc X.env.scope x := by first | exact Or.inl rfl | exact Or.inr rfl) (hs : swapsWith e (some (.Name x pos')) pos.line X.env = pure false := by rfl)
    (hf : X.fn x = true ∨ X.env.scope.names.lookup x = some .local := by first | exact .inl rfl | exact .inr rfl | assumption) : SS X (.Assign [.Name x pos'] e pos) (sSet i fa) := imS (ps_set hN hi hx ha hs hf) fun D σ H h => by
  obtain ⟨m, g, S, env, so, eo, h⟩ := h
  exact vS so eo h fun x S' v m' g' H' nx so' eo' r h => h _ m' g' H' .refl so' (eo'.set r i)
def sIf (t : FT) (f g : FS) : FS := fun env S => (t env S).bindS fun b S => if b = true then f env S else g env S
theorem ss_if {c : Expr} {A B : List Stmt} {t : FT} (hc : ST X c t) (ha : SSs X A fs) (hb : SSs X B gs) : SS X (.If c A B pos) (sIf t fs gs) := imS (ps_if hc ha hb) fun D σ H h => by
  obtain ⟨m, g, S, env, so, eo, h⟩ := h
  refine bS so eo h fun b S' m' g' H' nx so' eo' h => ?_
  cases b with
  | true => rw [if_pos rfl]; exact ⟨m', g', S', env, so', eo', h⟩
  | false => rw [if_neg Bool.false_ne_true]; exact ⟨m', g', S', env, so', eo', h⟩
/-- never come to -/
def sNo : FS := fun _ _ => .no
theorem ss_no : SS X st sNo := imS ps_never fun D σ H h => by
  obtain ⟨m, g, S, env, so, eo, h⟩ := h
  exact h
theorem ss_pass : SS X (.Pass pos) sNil := imS ps_pass fun D σ H h => by
  obtain ⟨m, g, S, env, so, eo, h⟩ := h
  exact h σ m g H .refl so eo
end
end Pv

namespace Pv
open PySem PySem.Spec PyProof.Rows L2

/-! ### targets -/
inductive Pat where
  | nm (i : Nat)
  | tp (ps : List Pat)
mutual
def setPat : Pat → PV → VEnv → Option VEnv
  | .nm i, x, env => some (env.set i (some x))
  | .tp ps, .tup xs, env => setPats ps xs env
  | .tp _, _, _ => none
def setPats : List Pat → List PV → VEnv → Option VEnv
  | [], [], env => some env
  | p :: ps, x :: xs, env => match setPat p x env with
    | some env' => setPats ps xs env'
    | none => none
  | _, _, _ => none
end
mutual
def gPat (K : PySem.W.Frag) : Pat → TG
  | .nm i => gName i
  | .tp ps => gTup K ps.length (gPats K ps)
def gPats (K : PySem.W.Frag) : List Pat → TGs
  | [] => gNil
  | p :: ps => gCons (gPat K p) (gPats K ps)
end
mutual
def slotsP : Pat → List Nat
  | .nm i => [i]
  | .tp ps => slotsPs ps
def slotsPs : List Pat → List Nat
  | [] => []
  | p :: ps => slotsP p ++ slotsPs ps
end
theorem wipe_set {σ : L2.St} {i : Nat} {x : Option V} : ∀ {vs : List Nat}, i ∈ vs → wipe (σ.set i x) vs = wipe σ vs
  | [], h => by cases h
  | v :: vs, h => by
    show (wipe (σ.set i x) vs).set v none = (wipe σ vs).set v none
    by_cases hv : i ∈ vs
    · rw [wipe_set hv]
    · have e : i = v := by
        rcases List.mem_cons.mp h with h | h
        · exact h
        · exact absurd h hv
      subst e
      have key : ∀ (σ : L2.St) (ws : List Nat), i ∉ ws → wipe (σ.set i x) ws = (wipe σ ws).set i x := by
        intro σ ws
        induction ws with
        | nil => intro _; rfl
        | cons w ws ih =>
          intro hw
          simp only [List.mem_cons, not_or] at hw
          show (wipe (σ.set i x) ws).set w none = ((wipe σ ws).set w none).set i x
          rw [ih hw.2, List.set_comm _ _ hw.1]
      rw [key σ vs hv, List.set_set]
theorem wipe_wipe {σ : L2.St} {vs : List Nat} : ∀ {ws : List Nat}, (∀ i ∈ ws, i ∈ vs) → wipe (wipe σ ws) vs = wipe σ vs
  | [], _ => rfl
  | w :: ws, h => by
    show wipe ((wipe σ ws).set w none) vs = _
    rw [wipe_set (h w List.mem_cons_self)]
    exact wipe_wipe fun i hi => h i (List.mem_cons_of_mem _ hi)
section
variable {K : PySem.W.Frag} {m g : List Addr} {H : Hp}
mutual
theorem pat_ok : ∀ (p : Pat) {x : PV} {v : V} {σ : L2.St} {env env' : VEnv} {Q : L2.St → Hp → Prop}, setPat p x env = some env' → Rep K m g H v x → EnvOk K m g H σ env →
    (∀ σ', EnvOk K m g H σ' env' → (∀ vs, (∀ i ∈ slotsP p, i ∈ vs) → wipe σ' vs = wipe σ vs) → Q σ' H) → gPat K p v σ H Q
  | .nm i, x, v, σ, env, env', Q, h, r, eo, q => by
    cases h
    exact q _ (eo.set r i) fun vs hv => wipe_set (hv i (by simp [slotsP]))
  | .tp ps, x, v, σ, env, env', Q, h, r, eo, q => by
    cases x with
    | tup xs =>
      obtain ⟨a, vs, rfl, f, rp⟩ := r.tup_inv
      have hl : ∀ (ps : List Pat) (xs : List PV) (env env' : VEnv), setPats ps xs env = some env' → xs.length = ps.length := by
        intro ps
        induction ps with
        | nil => intro xs env env' h; cases xs with
          | nil => rfl
          | cons _ _ => cases h
        | cons p ps ih => intro xs env env' h; cases xs with
          | nil => cases h
          | cons x xs =>
            have h : (match setPat p x env with
              | some env' => setPats ps xs env'
              | none => none) = some env' := h
            split at h
            · exact congrArg Nat.succ (ih _ _ _ h)
            · cases h
      refine ⟨a, vs, rfl, f.sq, ?_, ?_⟩
      · rw [rp.length]; exact hl ps xs env env' h
      · exact pats_ok ps (show setPats ps xs env = some env' from h) rp eo q
    | _ => cases h
theorem pats_ok : ∀ (ps : List Pat) {xs : List PV} {vs : List V} {σ : L2.St} {env env' : VEnv} {Q : L2.St → Hp → Prop}, setPats ps xs env = some env' → RepsP K g H vs xs → EnvOk K m g H σ env →
    (∀ σ', EnvOk K m g H σ' env' → (∀ vs, (∀ i ∈ slotsPs ps, i ∈ vs) → wipe σ' vs = wipe σ vs) → Q σ' H) → gPats K ps vs σ H Q
  | [], xs, vs, σ, env, env', Q, h, r, eo, q => by
    cases xs with
    | nil =>
      cases r
      cases h
      exact ⟨rfl, q σ eo fun _ _ => rfl⟩
    | cons x xs => cases h
  | p :: ps, xs, vs, σ, env, env', Q, h, r, eo, q => by
    cases xs with
    | nil => cases h
    | cons x xs =>
      cases r with
      | cons r1 r2 =>
        have h : (match setPat p x env with
          | some env' => setPats ps xs env'
          | none => none) = some env' := h
        split at h
        · rename_i env1 e1
          refine ⟨_, _, rfl, pat_ok p e1 (.p r1) eo fun σ1 eo1 w1 => ?_⟩
          refine pats_ok ps h r2 eo1 fun σ2 eo2 w2 => ?_
          exact q σ2 eo2 fun vs hv => (w2 vs fun i hi => hv i (by simp only [slotsPs]; exact List.mem_append_right _ hi)).trans (w1 vs fun i hi => hv i (by simp only [slotsPs]; exact List.mem_append_left _ hi))
        · cases h
end
end
section
variable {X : Cx} {e a b : Expr} {es : List Expr} {fa fb : FE} {pos p : Pos} {k : Nat} {x : Str}
def GP (X : Cx) (tg : Expr) (p : Pat) : Prop := PG X tg (gPat X.K p)
def GPs (X : Cx) (tgs : List Expr) (ps : List Pat) : Prop := PGs X tgs (gPats X.K ps)
theorem g_nm (i : Nat) (hN : X.N.Nodup) (hi : X.N[i]? = some x := by rfl) (hx : Loc X.env.scope x := by first | exact Or.inl rfl | exact Or.inr rfl) (hf : X.fn x = true ∨ X.env.scope.names.lookup x = some .local := by first | exact .inl rfl | exact .inr rfl | assumption) : GP X (.Name x pos) (.nm i) := pg_name hN hi hx hf
theorem g_nil : GPs X [] [] := pgs_nil
theorem g_cons {p : Pat} {ps : List Pat} (h1 : GP X e p) (h2 : GPs X es ps) (hs : (assignEach (e :: es) X.env).map (·.2) = assign e X.env :: (assignEach es X.env).map (·.2) := by rfl) : GPs X (e :: es) (p :: ps) := pgs_cons h1 h2 hs
theorem g_tup {ps : List Pat} (hc : X.calm = true) (h : GPs X es ps) (hn : (assignEach es X.env).length = ps.length := by rfl) (hst : (assignEach es X.env).findIdx? (·.1) = none := by rfl) : GP X (.Tuple es k pos) (.tp ps) := pg_tup hc h hn hst
/-- target = value -/
def sAsg (p : Pat) (f : FE) : FS := fun env S => (f env S).bindS fun x S => match setPat p x env with
  | some env' => .nx env' S
  | none => .no
theorem ss_asg {tg : Expr} {p : Pat} (ha : SE X e fa) (hg : GP X tg p) (hs : swapsWithSole [tg] e pos.line X.env = pure false := by rfl) (hw : swappedStores [tg] e X.env = pure none := by rfl)
    (h1 : (assignEach [tg] X.env).map (·.2) = [assign tg X.env] := by rfl) : SS X (.Assign [tg] e pos) (sAsg p fa) := imS (ps_asg ha hg hs hw h1) fun D σ H h => by
  obtain ⟨m, g, S, env, so, eo, h⟩ := h
  refine vS so eo h fun x S' v m' g' H' nx so' eo' r h => ?_
  split at h
  · rename_i env' e1
    exact pat_ok p e1 r eo' fun σ' eo2 _ => h σ' m' g' H' .refl so' eo2
  · exact h.elim
/-- x, y = a, b -/
def sPar (i j : Nat) (f : FA) : FS := fun env S => (f env S).bindS fun xs S => match xs with
  | [x, y] => .nx ((env.set i (some x)).set j (some y)) S
  | _ => .no
theorem ss_par (i j : Nat) {f : FA} {y : Str} {px py pt : Pos} {kt k2 pt2} (hc : X.calm = true) (hN : X.N.Nodup) (ha : SA X [a, b] f) (hij : i ≠ j := by decide) (hi : X.N[i]? = some x := by rfl) (hj : X.N[j]? = some y := by rfl)
    (hx : X.env.scope.names.lookup x = some .local := by rfl) (hy : X.env.scope.names.lookup y = some .local := by rfl)
    (hw : swappedStores [.Tuple [.Name x px, .Name y py] kt pt] (.Tuple [a, b] k2 pt2) X.env = pure (some [x, y]) := by rfl)
    (hs : swapsWithSole [.Tuple [.Name x px, .Name y py] kt pt] (.Tuple [a, b] k2 pt2) pos.line X.env = pure false := by rfl) :
    SS X (.Assign [.Tuple [.Name x px, .Name y py] kt pt] (.Tuple [a, b] k2 pt2) pos) (sPar i j f) := imS (ps_par hc hN hi hj hij hx hy ha hw hs) fun D σ H h => by
  obtain ⟨m, g, S, env, so, eo, h⟩ := h
  refine lS so eo h fun xs S' vs m' g' H' nx so' eo' r h => ?_
  split at h
  · cases r with
    | cons r1 r =>
      cases r with
      | cons r2 r =>
        cases r
        exact ⟨_, _, rfl, h _ m' g' H' .refl so' ((eo'.set r1 i).set r2 j)⟩
  · exact h.elim
/-- x, y, z = a, b, c -/
def sPar3 (i j l : Nat) (f : FA) : FS := fun env S => (f env S).bindS fun xs S => match xs with
  | [x, y, z] => .nx (((env.set i (some x)).set j (some y)).set l (some z)) S
  | _ => .no
theorem ss_par3 (i j l : Nat) {f : FA} {c : Expr} {y z : Str} {px py pz pt : Pos} {kt k2 pt2} (hc : X.calm = true) (hN : X.N.Nodup) (ha : SA X [a, b, c] f) (hij : i ≠ j := by decide) (hil : i ≠ l := by decide) (hjl : j ≠ l := by decide) (hi : X.N[i]? = some x := by rfl) (hj : X.N[j]? = some y := by rfl) (hl : X.N[l]? = some z := by rfl)
    (hx : X.env.scope.names.lookup x = some .local := by rfl) (hy : X.env.scope.names.lookup y = some .local := by rfl) (hz : X.env.scope.names.lookup z = some .local := by rfl)
    (hw : swappedStores [.Tuple [.Name x px, .Name y py, .Name z pz] kt pt] (.Tuple [a, b, c] k2 pt2) X.env = pure (some [x, y, z]) := by rfl)
    (hs : swapsWithSole [.Tuple [.Name x px, .Name y py, .Name z pz] kt pt] (.Tuple [a, b, c] k2 pt2) pos.line X.env = pure false := by rfl) :
    SS X (.Assign [.Tuple [.Name x px, .Name y py, .Name z pz] kt pt] (.Tuple [a, b, c] k2 pt2) pos) (sPar3 i j l f) := imS (ps_par3 hc hN hi hj hl hij hil hjl hx hy hz ha hw hs) fun D σ H h => by
  obtain ⟨m, g, S, env, so, eo, h⟩ := h
  refine lS so eo h fun xs S' vs m' g' H' nx so' eo' r h => ?_
  split at h
  · cases r with
    | cons r1 r =>
      cases r with
      | cons r2 r =>
        cases r with
        | cons r3 r =>
          cases r
          exact ⟨_, _, _, rfl, h _ m' g' H' .refl so' (((eo'.set r1 i).set r2 j).set r3 l)⟩
  · exact h.elim
end

/-! ### what is walked -/
structure ItOk (K : PySem.W.Frag) (J : It) (m g : List Addr) (H : Hp) (items : List PV) : Prop where
  go : ∀ (i : Nat) m' g' H', Nx m g H m' g' H' → i < items.length → J.go i H'
  stop : ∀ (i : Nat) m' g' H', Nx m g H m' g' H' → i = items.length → J.stop i H'
  yld : ∀ (i : Nat) m' g' H' v H'', Nx m g H m' g' H' → (∀ a ∈ m', a ∈ g') → (∀ a ∈ g', H' a ≠ none) → J.yld i H' v H'' → ∃ x, (i < items.length → items[i]? = some x) ∧ (i < items.length → RepP K g' H'' v x) ∧ (H'' = H' ∨ (∃ T o, H' T = none ∧ H'' = upd H' T o) ∨ ∃ T o U o2, H' T = none ∧ upd H' T o U = none ∧ H'' = upd (upd H' T o) U o2)
abbrev FI := VEnv → Sto → R (List PV)
def tI (K : PySem.W.Frag) (f : FI) : TI := fun σ H Q => ∃ m g S env, StOk K m g H S ∧ EnvOk K m g H σ env ∧ match f env S with
  | .ok items S' => ∀ J m' g' H', Nx m g H m' g' H' → StOk K m' g' H' S' → ItOk K J m' g' H' items → Q J H'
  | .no => False
def SI (X : Cx) (tg it : Expr) (f : FI) : Prop := PI X tg it (tI X.K f)
theorem imI {X : Cx} {tg e : Expr} {t t' : TI} (h : PI X tg e t) (w : ∀ σ H Q, t' σ H Q → t σ H Q) : PI X tg e t' := ⟨fun pins s σ H R I q => h.run pins s σ H R I (w σ H R q)⟩

/-! ### for -/
def forGo (p : Pat) (body : FS) : List PV → VEnv → Sto → RS
  | [], env, S => .nx env S
  | x :: xs, env, S => match setPat p x env with
    | none => .no
    | some env1 => match body env1 S with
      | .nx env2 S2 => forGo p body xs env2 S2
      | .ret v S2 => .ret v S2
      | .no => .no
def sFor (p : Pat) (f : FI) (body : FS) : FS := fun env S => (f env S).bindS fun items S => forGo p body items env S
section
variable {X : Cx} {pos : Pos}
theorem ss_for {tg it : Expr} {body : List Stmt} {p : Pat} {f : FI} {fb : FS} (hp : PassesOwn (model X.prog X.w) X.A X.env X.xe) (hc : X.calm = true) (hi : SI X tg it f) (hg : GP X tg p) (hb : SSs X body fb)
    (hs : ∀ x, foldedSetIterable it X.env x = pure x := by intro _; rfl) : SS X (.For tg it body [] pos) (sFor p f fb) := imS (ps_for hp hc hi hg hb hs) fun D σ H h => by
  obtain ⟨m, g, S, env, so, eo, h⟩ := h
  refine ⟨m, g, S, env, so, eo, ?_⟩
  unfold sFor at h
  cases e : f env S with
  | no => rw [e] at h; exact h
  | ok items S1 =>
    rw [e] at h
    intro J m1 g1 H1 n1 so1 ok
    refine ⟨fun i me σ' H' => me = items.length - i ∧ i ≤ items.length ∧ ∃ m' g' S' env', Nx m1 g1 H1 m' g' H' ∧ StOk X.K m' g' H' S' ∧ EnvOk X.K m' g' H' σ' env' ∧ PostS X.K m' g' H' (forGo p fb (items.drop i) env' S') D,
      ⟨_, rfl, Nat.zero_le _, m1, g1, S1, env, .refl, so1, eo.mono n1 so.sub, PostS.mono (K := X.K) (D := D) h n1⟩, ?_⟩
    rintro i me σ' H' ⟨rfl, hi, m', g', S', env', n', so', eo', h'⟩
    by_cases hlt : i < items.length
    · refine .inr ⟨ok.go i m' g' H' n' hlt, _, fun σ2 H2 q => ⟨items.length - (i + 1), by omega, q⟩, fun v H2 hy => ?_⟩
      obtain ⟨x, hx, r, hh⟩ := ok.yld i m' g' H' v H2 n' so'.sub so'.live hy
      replace hx := hx hlt
      replace r := r hlt
      have ed : items.drop i = x :: items.drop (i + 1) := by
        rw [List.drop_eq_getElem_cons hlt]
        rw [List.getElem?_eq_getElem hlt] at hx
        rw [Option.some.inj hx]
      rw [ed] at h'
      have nn : Nx m' g' H' m' g' H2 ∧ StOk X.K m' g' H2 S' := by
        rcases hh with rfl | ⟨T, o, hT, rfl⟩ | ⟨T, o, U, o2, hT, hU, rfl⟩
        · exact ⟨.refl, so'⟩
        · exact ⟨nx_new hT, so_new so' hT⟩
        · exact ⟨(nx_new hT).trans (nx_new hU), so_new (so_new so' hT) hU⟩
      obtain ⟨n2, so2⟩ := nn
      have eo2 := eo'.mono n2 so'.sub
      unfold forGo at h'
      cases es : setPat p x env' with
      | none => rw [es] at h'; exact h'.elim
      | some env1 =>
        rw [es] at h'
        refine pat_ok p es (.p r) eo2 fun σ3 eo3 _ => ⟨m', g', S', env1, so2, eo3, ?_⟩
        have h' : PostS X.K m' g' H' (match fb env1 S' with
          | .nx env2 S2 => forGo p fb (items.drop (i + 1)) env2 S2
          | .ret v S2 => .ret v S2
          | .no => .no) D := h'
        unfold PostS
        cases eb : fb env1 S' with
        | nx env2 S2 =>
          rw [eb] at h'
          exact fun σ4 m4 g4 H4 n4 so4 eo4 => ⟨rfl, hlt, m4, g4, S2, env2, (n'.trans n2).trans n4, so4, eo4, PostS.mono (K := X.K) (D := D) h' (n2.trans n4)⟩
        | ret v S2 =>
          rw [eb] at h'
          exact fun u m4 g4 H4 n4 so4 r4 => PostS.mono (K := X.K) (D := D) h' n2 u m4 g4 H4 n4 so4 r4
        | no => rw [eb] at h'; exact h'
    · have ei : i = items.length := by omega
      subst ei
      rw [List.drop_length] at h'
      exact .inl ⟨ok.stop _ m' g' H' n' rfl, h' σ' m' g' H' .refl so' eo'⟩
end

/-! ### comprehensions -/
def wipeE (env : VEnv) : List Nat → VEnv
  | [] => env
  | v :: vs => (wipeE env vs).set v none
def lcGo (p : Pat) (t : FT) (elt : FE) (env : VEnv) (n0 : Nat) : List PV → Sto → R (List PV)
  | [], S => .ok [] S
  | x :: xs, S => match setPat p x env with
    | none => .no
    | some env1 => (t env1 S).bind fun b S1 => if b = true then (elt env1 S1).bind fun y S2 => if isP y = true then (lcGo p t elt env n0 xs (S2.take n0)).bind fun ys S3 => .ok (y :: ys) S3 else .no
      else lcGo p t elt env n0 xs (S1.take n0)
def fLc (p : Pat) (f : FI) (t : FT) (elt : FE) (vs : List Nat) : FA := fun env S => (f env S).bind fun items S => if items.length < SZ then lcGo p t elt (wipeE env vs) S.length items S else .no
def tYes' : FT := fun _ S => .ok true S
def STs (X : Cx) (ifs : List Expr) (t : FT) : Prop := PTs X ifs (tT X.K t)
section
variable {X : Cx} {pos : Pos}
theorem sts_nil : STs X [] tYes' := ⟨fun pins s σ H Q I h => pts_nil.run pins s σ H Q I (by
  obtain ⟨m, g, S, env, so, eo, h⟩ := h
  exact h m g H .refl so)⟩
theorem sts_one {c : Expr} {t : FT} (h : ST X c t) : STs X [c] t := pts_one h
theorem wipe_ok {K : PySem.W.Frag} {m g : List Addr} {H : Hp} {σ : L2.St} {env : VEnv} (eo : EnvOk K m g H σ env) : ∀ vs : List Nat, EnvOk K m g H (wipe σ vs) (wipeE env vs)
  | [] => eo
  | v :: vs => by
    have ih := wipe_ok eo vs
    refine ⟨by show ((wipe σ vs).set v none).length = ((wipeE env vs).set v none).length; simp [ih.len], fun i x e => ?_⟩
    have e : ((wipeE env vs).set v none)[i]? = some (some x) := e
    by_cases hv : v = i
    · subst hv
      by_cases hl : v < (wipeE env vs).length
      · rw [List.getElem?_set_self hl] at e; cases e
      · rw [List.getElem?_eq_none (by simpa using hl)] at e; cases e
    · rw [List.getElem?_set_ne hv] at e
      obtain ⟨u, e1, r⟩ := ih.at_ i x e
      refine ⟨u, ?_, r⟩
      show ((wipe σ vs).set v none)[i]? = _
      rw [List.getElem?_set_ne hv]
      exact e1
theorem lc_read {K : PySem.W.Frag} {p : Pat} {f : FI} {t : FT} {elt : FE} {vs : List Nat} (hsl : ∀ i ∈ slotsP p, i ∈ vs) {σ : L2.St} {H : Hp} {Q : V → Hp → Prop} (h : tF K (fLc p f t elt vs) σ H Q) : tLc (tI K f) (gPat K p) (tT K t) (tO K elt) vs σ H Q := by
  obtain ⟨m, g, S, env, so, eo, h⟩ := h
  refine ⟨m, g, S, env, so, eo, ?_⟩
  unfold fLc at h
  cases e : f env S with
  | no => rw [e] at h; exact h
  | ok items S1 =>
    rw [e] at h
    intro J m1 g1 H1 n1 so1 ok D hD
    have h : PostF K m g H (if items.length < SZ then lcGo p t elt (wipeE env vs) S1.length items S1 else .no) Q := h
    split at h
    · rename_i hz
      have hDg : D ∉ g1 := fun z => so1.live D z hD
      have hDm : D ∉ m1 := fun z => hDg (so1.sub D z)
      have hDH : H D = none := n1.free D hD
      -- a turn's state
      refine ⟨fun i me H' => me = items.length - i ∧ i ≤ items.length ∧ ∃ acc done S', Nx m1 g1 H1 m1 (D :: g1) H' ∧ StOk K m1 (D :: g1) H' S' ∧ S'.length = S1.length ∧ H' D = some (.lst acc) ∧ RepsP K (D :: g1) H' acc done ∧ done.length ≤ i ∧
        PostF K m1 g1 H1 ((lcGo p t elt (wipeE env vs) S1.length (items.drop i) S').bind fun ys S'' => .ok (done ++ ys) S'') Q, ⟨_, rfl, Nat.zero_le _, [], [], S1, ?_, ?_, rfl, upd_same, .nil, Nat.le_refl _, ?_⟩, ?_⟩
      · have n2 : Nx m1 g1 H1 m1 g1 (upd H1 D (.lst [])) := nx_new hD
        exact ⟨n2.ext, n2.free, n2.app, fun a z => List.mem_cons_of_mem _ z, fun a z => by
          rcases List.mem_cons.mp z with z | z
          · rw [z]; exact .inr hD
          · exact .inl z⟩
      · have so2 : StOk K m1 g1 (upd H1 D (.lst [])) S1 := so_new so1 hD
        refine ⟨so2.len, so2.nd, fun a z => List.mem_cons_of_mem _ (so2.sub a z), fun a z => ?_, fun n a o h1 h2 => ?_⟩
        · rcases List.mem_cons.mp z with z | z
          · rw [z, upd_same]; exact fun z => nomatch z
          · exact so2.live a z
        · refine (so1.cell n a o h1 h2).mono ⟨fun a o e hg => by rw [upd_ne (ne_of_none e hD)]; exact e, fun a z => ?_⟩ fun u e => by rw [upd_ne (ne_of_none e hD)]; exact e
          rcases List.mem_cons.mp z with z | z
          · rw [z]; exact .inr hD
          · exact .inl z
      · have h := PostF.mono (K := K) (Q := Q) h n1
        rw [List.drop_zero]
        cases el : lcGo p t elt (wipeE env vs) S1.length items S1 with
        | no => rw [el] at h; exact h
        | ok ys S'' => rw [el] at h; exact h
      · rintro i me H' ⟨rfl, hi, acc, done, S', n', so', hS', hA, rA, hdl, h'⟩
        by_cases hlt : i < items.length
        · refine .inr ⟨ok.go i m1 (D :: g1) H' n' hlt, _, fun H2 q => ⟨items.length - (i + 1), by omega, q⟩, fun v H2 hy => ?_⟩
          obtain ⟨x, hx, r, hh⟩ := ok.yld i m1 (D :: g1) H' v H2 n' so'.sub so'.live hy
          replace hx := hx hlt
          replace r := r hlt
          have ed : items.drop i = x :: items.drop (i + 1) := by
            rw [List.drop_eq_getElem_cons hlt]
            rw [List.getElem?_eq_getElem hlt] at hx
            rw [Option.some.inj hx]
          rw [ed] at h'
          have nn : Nx m1 (D :: g1) H' m1 (D :: g1) H2 ∧ StOk K m1 (D :: g1) H2 S' := by
            rcases hh with rfl | ⟨T, o, hT, rfl⟩ | ⟨T, o, U, o2, hT, hU, rfl⟩
            · exact ⟨.refl, so'⟩
            · exact ⟨nx_new hT, so_new so' hT⟩
            · exact ⟨(nx_new hT).trans (nx_new hU), so_new (so_new so' hT) hU⟩
          obtain ⟨n2, so2⟩ := nn
          have n02 := n'.trans n2
          have eo2 : EnvOk K m1 (D :: g1) H2 σ env := (eo.mono n1 so.sub).mono n02 so1.sub
          unfold lcGo at h'
          cases es : setPat p x (wipeE env vs) with
          | none => rw [es] at h'; exact h'.elim
          | some env1 =>
            rw [es] at h'
            refine pat_ok p es (.p r) (wipe_ok eo2 vs) fun σ3 eo3 w3 => ⟨?_, m1, D :: g1, S', env1, so2, eo3, ?_⟩
            · exact (w3 vs hsl).trans (wipe_wipe (fun i h => h))
            have h' : PostF K m1 g1 H1 (((t env1 S').bind fun b S1' => if b = true then (elt env1 S1').bind fun y S2 => if isP y = true then (lcGo p t elt (wipeE env vs) S1.length (items.drop (i + 1)) (S2.take S1.length)).bind fun ys S3 => .ok (y :: ys) S3 else .no
              else lcGo p t elt (wipeE env vs) S1.length (items.drop (i + 1)) (S1'.take S1.length)).bind fun ys S'' => .ok (done ++ ys) S'') Q := h'
            unfold PostB
            cases et : t env1 S' with
            | no => rw [et] at h'; exact h'
            | ok bb S3 =>
              rw [et] at h'
              intro m3 g3 H3 n3 so3
              have hA3 : H3 D = some (.lst acc) := n3.ext D _ (n2.ext D _ hA hDm) hDm
              have rA3 : RepsP K (D :: g1) H3 acc done := ((rA.mono (n2.kp so'.sub)).mono (n3.kp so2.sub)).mono ⟨fun _ _ e _ => e, fun a z => .inl (n3.gs a z)⟩
              cases bb with
              | false =>
                rw [if_neg Bool.false_ne_true]
                have sob := so2.back n3 so3
                rw [hS'] at sob
                refine ⟨rfl, hlt, acc, done, S3.take S1.length, n02.trans n3.back, sob, ?_, hA3, rA3, by omega, h'⟩
                rw [← sob.len, so1.len]
              | true =>
                rw [if_pos rfl]
                refine ⟨m3, g3, S3, env1, so3, eo3.mono n3 so2.sub, ?_⟩
                have h' : PostF K m1 g1 H1 (((elt env1 S3).bind fun y S2 => if isP y = true then (lcGo p t elt (wipeE env vs) S1.length (items.drop (i + 1)) (S2.take S1.length)).bind fun ys S3 => .ok (y :: ys) S3 else .no).bind fun ys S'' => .ok (done ++ ys) S'') Q := h'
                unfold PostV
                cases ee : elt env1 S3 with
                | no => rw [ee] at h'; exact h'
                | ok y S4 =>
                  rw [ee] at h'
                  intro u m4 g4 H4 n4 so4 r4
                  have n24 := n3.trans n4
                  have hA4 : H4 D = some (.lst acc) := n4.ext D _ hA3 (fun z => by
                    obtain ⟨new, e1, e2⟩ := n3.app
                    rw [e1] at z
                    rcases List.mem_append.mp z with z | z
                    · exact hDm z
                    · have := e2 D z
                      rw [n2.ext D _ hA hDm] at this
                      cases this)
                  have h' : PostF K m1 g1 H1 ((if isP y = true then (lcGo p t elt (wipeE env vs) S1.length (items.drop (i + 1)) (S4.take S1.length)).bind fun ys S3 => .ok (y :: ys) S3 else .no).bind fun ys S'' => .ok (done ++ ys) S'') Q := h'
                  split at h'
                  · rename_i hp
                    have sob := so2.back n24 so4
                    rw [hS'] at sob
                    have ry : RepP K (D :: g1) H4 u y := (r4.pure hp).back n24
                    have rA4 : RepsP K (D :: g1) H4 acc done := (rA.mono (n2.kp so'.sub)).mono ((n24.back).kp so2.sub)
                    refine ⟨acc, hA4, ?_, ?_⟩
                    · rw [rA.length]
                      rw [← SZ_eq]
                      omega
                    · have kD : Kp (D :: g1) H4 (D :: g1) (upd H4 D (.lst (acc ++ [u]))) := ⟨fun a o e hg => by rw [upd_ne (fun z => hg (by rw [z]; exact List.mem_cons_self))]; exact e, fun a z => .inl z⟩
                      have n04 : Nx m1 g1 H1 m1 (D :: g1) (upd H4 D (.lst (acc ++ [u]))) := by
                        have n := n02.trans n24.back
                        exact ⟨fun a o e hm => by
                          have ne : a ≠ D := ne_of_none e hD
                          rw [upd_ne ne]
                          exact n.ext a o e hm, fun a e => by
                          by_cases ha : a = D
                          · rw [ha]; exact hD
                          · rw [upd_ne ha] at e; exact n.free a e, n.app, n.gs, n.gn⟩
                      refine ⟨rfl, hlt, acc ++ [u], done ++ [y], S4.take S1.length, n04, ⟨sob.len, sob.nd, sob.sub, fun a z => ?_, fun n a o h1 h2 => ?_⟩, ?_, upd_same, ?_, ?_, ?_⟩
                      · by_cases ha : a = D
                        · rw [ha, upd_same]; exact fun z => nomatch z
                        · rw [upd_ne ha]; exact sob.live a z
                      · have ne : a ≠ D := fun z => hDm (z ▸ List.mem_of_getElem? h1)
                        exact (sob.cell n a o h1 h2).mono kD fun w e => by rw [upd_ne ne]; exact e
                      · rw [← sob.len, so1.len]
                      · exact (rA4.mono kD).append (.cons (ry.mono kD) .nil)
                      · rw [List.length_append]
                        show done.length + 1 ≤ i + 1
                        omega
                      · cases el : lcGo p t elt (wipeE env vs) S1.length (items.drop (i + 1)) (S4.take S1.length) with
                        | no => rw [el] at h'; exact h'
                        | ok ys S'' =>
                          rw [el] at h'
                          have h' : PostF K m1 g1 H1 (.ok (done ++ y :: ys) S'') Q := h'
                          show PostF K m1 g1 H1 (.ok ((done ++ [y]) ++ ys) S'') Q
                          rw [List.append_assoc]
                          exact h'
                  · exact h'.elim
        · have ei : i = items.length := by omega
          subst ei
          rw [List.drop_length] at h'
          have h' : PostF K m1 g1 H1 (.ok (done ++ []) S') Q := h'
          rw [List.append_nil] at h'
          refine .inl ⟨ok.stop _ m1 (D :: g1) H' n' rfl, h' D acc m1 g1 H' ⟨n'.ext, n'.free, n'.app, fun _ z => z, fun _ z => .inl z⟩ hDg hDm hD so' hA rA⟩
    · exact h.elim
theorem f_lc {elt tg iter : Expr} {ifs : List Expr} {scope : Scope} {own : List (Str × Nat)} {p : Pat} {f : FI} {t : FT} {fe : FE} (hc : X.calm = true) (hN : X.N.Nodup) (hi : SI X tg iter f) (ok : BlkOk X.N X.env.scope scope own) (hsl : ∀ i ∈ slotsP p, i ∈ own.map (·.2))
    (hg : ∀ (s : Shared) (H : Hp) (C : Addr) (cl : List (Str × Addr)) (fp : List Addr), GP (X.blk s H scope (compEnvC scope cl C X.env) fp) tg p) (ht : ∀ (s : Shared) (H : Hp) (C : Addr) (cl : List (Str × Addr)) (fp : List Addr), STs (X.blk s H scope (compEnvC scope cl C X.env) fp) ifs t)
    (he : ∀ (s : Shared) (H : Hp) (C : Addr) (cl : List (Str × Addr)) (fp : List Addr), SE (X.blk s H scope (compEnvC scope cl C X.env) fp) elt fe) (hs : ∀ x, foldedSetIterable iter X.env x = pure x := by intro _; rfl) :
    SF X (.ListComp elt [⟨tg, iter, ifs, 0⟩] scope pos) (fLc p f t fe (own.map (·.2))) := imE (pe_lc (wi := tI X.K f) (g := gPat X.K p) (tt := tT X.K t) (te := tO X.K fe) hc hN hi ok hg ht he hs) fun σ H Q h => lc_read hsl h
end
end Pv

namespace Pv
open PySem PySem.Spec PyProof.Rows L2

/-! ### lists, tuples, texts, walked -/
def seqI : PV → Option (List PV)
  | .lst xs => some xs
  | .tup xs => some xs
  | .str l => some (l.map fun c => .str [c])
  | .scr ns => some (ns.map .int)
  | _ => none
theorem sign_rep {K : PySem.W.Frag} {g : List Addr} {H : Hp} {c : Nat} (h : c < 1114112) : RepP K g H (.str ⟨#[c]⟩) (.str [c]) :=
  .str _ _ rfl (by show (1 : Nat) ≤ SZ; decide) fun d hd => by rw [List.mem_singleton.mp hd]; exact h
/-- what is walked, over the heap: a list, a tuple, a text -/
inductive Zs where
  | l (a : Addr) | t (a : Addr) | s (x : Str)
def Zs.val : Zs → V
  | .l a => .ref a
  | .t a => .ref a
  | .s x => .str x
def Zs.Has (K : PySem.W.Frag) (H : Hp) : Zs → List V → Prop
  | .l a, xs => SqL K H a xs
  | .t a, xs => SqT K H a xs
  | .s x, xs => xs = x.cps.toList.map fun c => V.str ⟨#[c]⟩
def Zs.At : Zs → Addr → Nat → Heap → Prop
  | .l a, it, i, h => h.IsListIter it a i
  | .t a, it, i, h => h.IsTupleIter it a i
  | .s x, it, i, h => ∃ t, h.IsStrIter it (strIterType x) x t i
def Zs.ad : Zs → List Addr
  | .l a => [a]
  | .t a => [a]
  | .s _ => []
theorem Zs.At.obj {z : Zs} {it : Addr} {i : Nat} {h : Heap} (q : z.At it i h) : ∃ o, h.get? it = some o ∧ ∀ v, o.data ≠ .cell v := by
  cases z with
  | l a => obtain ⟨o, e, _, d⟩ := q; exact ⟨o, e, fun v z => by rw [d] at z; cases z⟩
  | t a => obtain ⟨o, e, _, d⟩ := q; exact ⟨o, e, fun v z => by rw [d] at z; cases z⟩
  | s x => obtain ⟨t, o, e, _, d⟩ := q; exact ⟨o, e, fun v z => by rw [d] at z; cases z⟩
theorem Zs.At.keep {z : Zs} {it : Addr} {i : Nat} {h h' : Heap} (q : z.At it i h) (k : ∀ o, h.get? it = some o → h'.get? it = some o) : z.At it i h' := by
  cases z with
  | l a => obtain ⟨o, e, c, d⟩ := q; exact ⟨o, k o e, c, d⟩
  | t a => obtain ⟨o, e, c, d⟩ := q; exact ⟨o, k o e, c, d⟩
  | s x => obtain ⟨t, o, e, c, d⟩ := q; exact ⟨t, o, k o e, c, d⟩
theorem Zs.draws {X : Cx} {pins : List (Addr × Obj)} {σ : L2.St} {H : Hp} {s : Shared} {z : Zs} {xs : List V} {it : Addr} {i : Nat} {A : Around} (I : Inv X pins σ H s) (hh : A.handled = none) (h : z.Has X.K H xs) (hit : ∀ b ∈ z.ad, b ≠ it) (q : z.At it i s.heap) :
    ∃ (P : Nat → Value → Prop) (St : Nat → Heap → Prop), Draws X.prog X.w A it (it :: z.ad) xs.length P St ∧ (∀ i v, P i v → ∃ y, xs[i]? = some y ∧ RelV y v) ∧ St i s.heap ∧ ∀ i h, St i h → z.At it i h := by
  cases z with
  | l a =>
    obtain ⟨its, rv, p, hz⟩ := I.list h
    have D := Draws.list (prog := X.prog) (w := X.w) hh it a (hit a (by simp [Zs.ad])) its.toArray
    rw [show its.toArray.size = xs.length from by rw [List.size_toArray, rv.length]] at D
    refine ⟨_, _, D, fun i v e => ?_, ⟨q, p.isList⟩, fun i h q => q.1⟩
    have e : its[i]? = some v := by simpa using e
    have hl : i < xs.length := by rw [rv.length]; exact (List.getElem?_eq_some_iff.mp e).1
    obtain ⟨u, hu, ru⟩ := rv.get (List.getElem?_eq_getElem hl)
    rw [hu] at e
    cases e
    exact ⟨_, List.getElem?_eq_getElem hl, ru⟩
  | t a =>
    obtain ⟨its, rv, p, hz⟩ := I.tuple h
    have D := Draws.tuple (prog := X.prog) (w := X.w) hh it a (hit a (by simp [Zs.ad])) its.toArray
    rw [show its.toArray.size = xs.length from by rw [List.size_toArray, rv.length]] at D
    refine ⟨_, _, D, fun i v e => ?_, ⟨q, show s.heap.IsTuple a its.toArray from p⟩, fun i h q => q.1⟩
    have e : its[i]? = some v := by simpa using e
    have hl : i < xs.length := by rw [rv.length]; exact (List.getElem?_eq_some_iff.mp e).1
    obtain ⟨u, hu, ru⟩ := rv.get (List.getElem?_eq_getElem hl)
    rw [hu] at e
    cases e
    exact ⟨_, List.getElem?_eq_getElem hl, ru⟩
  | s x =>
    obtain ⟨t, q⟩ := q
    have D := Draws.text (prog := X.prog) (w := X.w) hh it x t
    have h : xs = x.cps.toList.map fun c => V.str ⟨#[c]⟩ := h
    rw [show x.cps.size = xs.length from by rw [h, List.length_map]; rfl] at D
    refine ⟨_, _, D, fun i v e => ?_, q, fun i h q => ⟨t, q⟩⟩
    obtain ⟨c, u, e, rfl⟩ := e
    refine ⟨.str ⟨#[c]⟩, ?_, u, rfl⟩
    rw [h, List.getElem?_map]
    have e : x.cps.toList[i]? = some c := by simpa using e
    rw [e]
    rfl

/-! ### zip -/
theorem Zs.inj {X : Cx} {pins : List (Addr × Obj)} {σ : L2.St} {H : Hp} {s : Shared} {z : Zs} {xs ys : List V} (I : Inv X pins σ H s) (h : z.Has X.K H xs) (h' : z.Has X.K H ys) : xs = ys := by
  cases z with
  | l a => exact I.list_inj h h'
  | t a => exact I.tuple_inj h h'
  | s x => exact Eq.trans h (Eq.symm h')
theorem neA {N a b : Nat} (h : a ≠ b) : N + a ≠ N + b := by omega
theorem neZ {N b : Nat} (h : 0 ≠ b) : N ≠ N + b := by omega
theorem neY {N b : Nat} (h : 0 ≠ b) : N + b ≠ N := by omega
theorem lt5 {N c z : Nat} (h : c = N + 4 ∨ c = N + 2 ∨ c = N + 3 ∨ c = N ∨ c = N + 1) (hz : N + 4 < z) : c < z := by omega
theorem le5 {N c : Nat} (h : c = N + 4 ∨ c = N + 2 ∨ c = N + 3 ∨ c = N ∨ c = N + 1) : N ≤ c := by omega
def Itg (K : PySem.W.Frag) (z1 z2 : Zs) : It :=
  ⟨fun i H => ∃ (xs ys : List V), z1.Has K H xs ∧ z2.Has K H ys ∧ i < xs.length ∧ i < ys.length,
    fun i H v H' => ∃ T x y, v = .ref T ∧ H T = none ∧ H' = upd H T (.tup [x, y]) ∧ (∀ xs, z1.Has K H xs → xs[i]? = some x) ∧ ∀ ys, z2.Has K H ys → ys[i]? = some y,
    fun i H => ∃ xs ys : List V, z1.Has K H xs ∧ z2.Has K H ys ∧ i = min xs.length ys.length⟩
theorem turn_g {P : Program} {w : World} {K : PySem.W.Frag} {elts : List Expr} {kk : Nat} {tpos : Pos} {z1 z2 : Zs} {N : Nat} (h1 : ∀ b ∈ z1.ad, b < N) (h2 : ∀ b ∈ z2.ad, b < N) :
    Turn P w K (.Tuple elts kk tpos) (Itg K z1 z2) [N + 4, N + 2, N + 3, N, N + 1] (N + 4) (fun i h => IsZip h (N + 4) (N + 2) (N + 3) .none ∧ IsTupOf2 h (N + 2) (.ref N) (.ref (N + 1)) ∧ (∃ x y, IsTupOf2 h (N + 3) x y) ∧ z1.At N i h ∧ z2.At (N + 1) i h) where
  mem := by simp
  obj := fun i h st c hc => by
    obtain ⟨hz, hTI, ⟨x, y, hTO⟩, q1, q2⟩ := st
    have e' : c = N + 4 ∨ c = N + 2 ∨ c = N + 3 ∨ c = N ∨ c = N + 1 := by simpa using hc
    rcases e' with q | q | q | q | q
    · rw [q]; exact ⟨_, hz, fun v q => nomatch q⟩
    · rw [q]; exact ⟨_, hTI, fun v q => nomatch q⟩
    · rw [q]; exact ⟨_, hTO, fun v q => nomatch q⟩
    · rw [q]; exact q1.obj
    · rw [q]; exact q2.obj
  keep := fun i h h' st k => by
    obtain ⟨hz, hTI, ⟨x, y, hTO⟩, q1, q2⟩ := st
    exact ⟨k (N + 4) (by simp) _ hz, k (N + 2) (by simp) _ hTI, ⟨x, y, k (N + 3) (by simp) _ hTO⟩, q1.keep fun o q => k N (by simp) o q, q2.keep fun o q => k (N + 1) (by simp) o q⟩
  item := by
    intro X hP hw hK hc i pins s σ H E I hf st hg
    subst hP hw hK
    obtain ⟨hz, hTI, ⟨x0, y0, hTO⟩, q1, q2⟩ := st
    obtain ⟨xs, ys, hqx, hqy, hx, hy⟩ := hg
    have hh : X.A.in1.handled = none := I.ok.hd hc
    obtain ⟨P1, St1, D1, f1, s1, g1⟩ := Zs.draws I hh hqx (it := N) (fun b hb => Nat.ne_of_lt (h1 b hb)) q1
    obtain ⟨P2, St2, D2, f2, s2, g2⟩ := Zs.draws I hh hqy (it := N + 1) (fun b hb => Nat.ne_of_lt (Nat.lt_succ_of_lt (h2 b hb))) q2
    have hzl : N + 4 < s.heap.objs.size := Heap.lt_size hz
    refine wpAny_pyNext_zipD2_item (zip_sep2 h1 h2) D1 D2 hz hTI hTO s1 s2 hx hy fun x1 x2 h' tk p1 p2 z' TO' n1 n2 hT hsz hk => ?_
    obtain ⟨y1, e1, r1⟩ := f1 i x1 p1
    obtain ⟨y2, e2, r2⟩ := f2 i x2 p2
    refine ⟨_, rfl, wpAny_letOwnedTupleGo_zip (s := { s with heap := h', toks := tk }) z' fun h'' z'' sb => ?_⟩
    have hT2 : h''.get? s.heap.objs.size = some { cls := .type "tuple", data := .seq #[x1, x2] } := (sb.2 _ (Nat.ne_of_gt hzl)).trans hT
    have new : ObjOk X.prog X.w (upd H s.heap.objs.size (.tup [y1, y2])) h'' s.heap.objs.size (.tup [y1, y2]) :=
      ⟨by show 2 ≤ sizeLine; decide, [x1, x2], .cons r1 (.cons r2 .nil), ⟨_, hT2, rfl, _, rfl⟩⟩
    have I1 : Inv X pins σ (upd H s.heap.objs.size (.tup [y1, y2])) { s with heap := h'', toks := tk } :=
      I.turnedNew (t' := tk) (ch := [N + 4, N + 2, N + 3, N, N + 1]) (fun c o hb q => (sb.2 c (fun q' => hb (by simp [q']))).trans (hk c o (fun q' => hb (by simp [q'])) (fun q' => hb (by simp [q'])) (fun q' => hb (by simp [q'])) (fun q' => hb (by simp [q'])) q)) hf (Nat.le_refl _) new
    refine ⟨.ref s.heap.objs.size, _, I1, rfl, ⟨_, y1, y2, rfl, I.hok.fresh (Nat.le_refl _), rfl, fun l hl => by rw [Zs.inj I hl hqx]; exact e1, fun l hl => by rw [Zs.inj I hl hqy]; exact e2⟩, ⟨z'', ?_, ⟨x1, x2, ?_⟩, ?_, ?_⟩, fun c hcm => ?_⟩
    · exact (sb.2 _ (neA (by decide))).trans (hk _ _ (neA (by decide)) (neA (by decide)) (neY (by decide)) (neA (by decide)) hTI)
    · exact (sb.2 _ (neA (by decide))).trans TO'
    · exact (g1 _ _ n1).keep fun o q => (sb.2 _ (neZ (by decide))).trans q
    · exact (g2 _ _ n2).keep fun o q => (sb.2 _ (neA (by decide))).trans q
    · have hlt : c < s.heap.objs.size := by
        have e' : c = N + 4 ∨ c = N + 2 ∨ c = N + 3 ∨ c = N ∨ c = N + 1 := by simpa using hcm
        exact lt5 e' hzl
      rw [upd_ne (Nat.ne_of_lt hlt)]
      exact (hf c hcm).1
  done := by
    intro X hP hw hK hc i pins s σ H E I hf st hg
    subst hP hw hK
    obtain ⟨hz, hTI, ⟨x0, y0, hTO⟩, q1, q2⟩ := st
    obtain ⟨xs, ys, hqx, hqy, hend⟩ := hg
    have hh : X.A.in1.handled = none := I.ok.hd hc
    obtain ⟨P1, St1, D1, f1, s1, g1⟩ := Zs.draws I hh hqx (it := N) (fun b hb => Nat.ne_of_lt (h1 b hb)) q1
    obtain ⟨P2, St2, D2, f2, s2, g2⟩ := Zs.draws I hh hqy (it := N + 1) (fun b hb => Nat.ne_of_lt (Nat.lt_succ_of_lt (h2 b hb))) q2
    exact wpAny_pyNext_zipD2_end (zip_sep2 h1 h2) D1 D2 hz hTI hTO s1 s2 (by omega) (by omega) (by omega) fun h' tk hk => ⟨rfl, I.turnedL (t' := tk) (ch := [N + 4, N + 2, N + 3, N, N + 1]) (fun c o hb q =>
      hk c o (fun q' => hb (by simp [q'])) (fun q' => hb (by simp [q'])) (fun q' => hb (by simp [q'])) (fun q' => hb (by simp [q'])) q) hf⟩
  self := fun A i s Q E st h => wpAny_pyIter_zip st.1 h
theorem Zs.begins {X : Cx} {pins : List (Addr × Obj)} {σ : L2.St} {H : Hp} {s : Shared} {z : Zs} {xs : List V} {v : Value} (I : Inv X pins σ H s) (h : z.Has X.K H xs) (r : RelV z.val v) :
    ∃ (o : Obj) (Hh : Heap → Prop), Begins v o Hh ∧ Hh s.heap ∧ (∀ b ∈ z.ad, b < s.heap.objs.size) ∧ ∀ (it : Addr) (h' : Heap), h'.get? it = some o → z.At it 0 h' := by
  cases z with
  | l a =>
    obtain ⟨its, rv, p, hz⟩ := I.list h
    cases r
    exact ⟨_, _, begins_list a its.toArray, p.isList, fun b hb => by rw [List.mem_singleton.mp hb]; exact p.lt, fun it h' e => ⟨_, e, rfl, rfl⟩⟩
  | t a =>
    obtain ⟨its, rv, p, hz⟩ := I.tuple h
    cases r
    obtain ⟨o1, ho1, _⟩ := id p
    exact ⟨_, _, begins_tuple a its.toArray, show s.heap.IsTuple a its.toArray from p, fun b hb => by rw [List.mem_singleton.mp hb]; exact Heap.lt_size ho1, fun it h' e => ⟨_, e, rfl, rfl⟩⟩
  | s x =>
    obtain ⟨t, rfl⟩ := r
    exact ⟨_, _, begins_text x t, trivial, (fun b hb => by cases hb), fun it h' e => ⟨t, _, e, rfl, rfl⟩⟩
def iZipG (K : PySem.W.Frag) (ta : TA) : TI := fun σ H R => ta σ H fun vs H1 => ∃ z1 z2 xs ys, vs = [Zs.val z1, Zs.val z2] ∧ z1.Has K H1 xs ∧ z2.Has K H1 ys ∧ R (Itg K z1 z2) H1
theorem pi_zipG {X : Cx} {e e2 : Expr} {ta : TA} {p pos tpos : Pos} {elts : List Expr} {kk : Nat} (hg : Gl X "zip") (hm : X.mg "zip" = none) (ha : PA X [e, e2] ta)
    (hs : starEach [e, e2] X.env = (false, eval e X.env) :: starEach [e2] X.env := by rfl) (hpl : (backTo pos (starEach [e2] X.env)).any (·.1) = false := by rfl) :
    PI X (.Tuple elts kk tpos) (.Call (.Name "zip" p) [e, e2] [] pos) (iZipG X.K ta) := by
  refine ⟨fun pins s σ H R I h => ?_⟩
  refine Call_ (ld_blt I hg hm PyProof.Rows.boot_zip (PyProof.Rows.callWith_type1 (thn (ha.run pos pins s σ H _ I h) fun us s1 ⟨vs, H1, I1, r1, q1⟩ => ?_) hs hpl))
  obtain ⟨z1, z2, xs, ys, ex, hqx, hqy, q⟩ := q1
  subst ex
  cases r1 with
  | cons r rr =>
    cases rr with
    | cons r' rr =>
      cases rr
      obtain ⟨o1, G1, B1, b1, l1, a1⟩ := Zs.begins I1 hqx r
      obtain ⟨o2, G2, B2, b2, l2, a2⟩ := Zs.begins I1 hqy r'
      refine zip_begins2 B1 B2 b1 b2 fun h' hz hTI hTO h1 h2 hsz hk => wpAny_pyIter_zip hz ?_
      have I2 : Inv X pins σ H1 { s1 with heap := h' } := I1.kept (t' := s1.toks) hk
      refine ⟨s1.heap.objs.size + 4, [s1.heap.objs.size + 4, s1.heap.objs.size + 2, s1.heap.objs.size + 3, s1.heap.objs.size, s1.heap.objs.size + 1], _, _, H1, rfl, I2, turn_g (N := s1.heap.objs.size) l1 l2, ⟨hz, hTI, ⟨_, _, hTO⟩, a1 _ _ h1, a2 _ _ h2⟩, fun c hcm => ?_, q⟩
      have e' : c = s1.heap.objs.size + 4 ∨ c = s1.heap.objs.size + 2 ∨ c = s1.heap.objs.size + 3 ∨ c = s1.heap.objs.size ∨ c = s1.heap.objs.size + 1 := by simpa using hcm
      have hle : s1.heap.objs.size ≤ c := le5 e'
      exact I1.fpOk hle (I1.hok.fresh hle)

/-! ### over plain values -/
theorem strs_rep {K : PySem.W.Frag} {g : List Addr} {H : Hp} : ∀ {l : List Nat}, (∀ c ∈ l, c < 1114112) → RepsP K g H (l.map fun c => V.str ⟨#[c]⟩) (l.map fun c => .str [c])
  | [], _ => .nil
  | c :: l, h => .cons (sign_rep (h c List.mem_cons_self)) (strs_rep fun d hd => h d (List.mem_cons_of_mem _ hd))
def kdZ : PV → Zs → Prop
  | .lst _, .l _ => True
  | .scr _, .l _ => True
  | .tup _, .t _ => True
  | .str _, .s _ => True
  | _, _ => False
theorem zs_of {K : PySem.W.Frag} {m g : List Addr} {H : Hp} {S : Sto} {v : V} {x : PV} {items : List PV} (so : StOk K m g H S) (r : Rep K m g H v x) (h : seqI x = some items) :
    ∃ (z : Zs) (vs : List V), kdZ x z ∧ v = z.val ∧ ∀ m' g' H', Nx m g H m' g' H' → z.Has K H' vs ∧ RepsP K g' H' vs items := by
  cases r with
  | r h1 => cases h
  | p r =>
    cases r with
    | @tup a vs xs f q =>
      cases h
      exact ⟨.t a, vs, trivial, rfl, fun m' g' H' n => ⟨(f.mono (n.kp so.sub)).sq, q.mono (n.kp so.sub)⟩⟩
    | @lst a vs xs f q =>
      cases h
      exact ⟨.l a, vs, trivial, rfl, fun m' g' H' n => ⟨.of (f.mono (n.kp so.sub)).1, q.mono (n.kp so.sub)⟩⟩
    | @scr a ns f =>
      cases h
      exact ⟨.l a, ns.map V.int, trivial, rfl, fun m' g' H' n => ⟨FzS.sq (f.imp (n.kp so.sub).rd id), ints_rep _⟩⟩
    | str z l e hz ho =>
      cases h
      subst e
      exact ⟨.s z, _, trivial, rfl, fun m' g' H' n => ⟨rfl, strs_rep ho⟩⟩
    | _ => cases h
section
variable {X : Cx} {e a b : Expr} {es : List Expr} {fa fb : FE} {pos p : Pos} {tg : Expr}
theorem sqL_one {K : PySem.W.Frag} {H : Hp} {a : Addr} {xs : List V} (h : SqL K H a xs) : SqL K H a xs := h
def iVal (f : FE) : FI := fun env S => (f env S).bind fun x S => match seqI x with
  | some items => .ok items S
  | none => .no
def itOf (K : PySem.W.Frag) : Zs → It
  | .l a => Itl K a
  | .t a => Itt K a
  | .s x => Its x
/-- what a walk gives, at a Zs whose items stay -/
theorem it_zs {K : PySem.W.Frag} {m g : List Addr} {H : Hp} {z : Zs} {vs : List V} {items : List PV} (h : ∀ m' g' H', Nx m g H m' g' H' → z.Has K H' vs ∧ RepsP K g' H' vs items) : ItOk K (itOf K z) m g H items := by
  have hl : vs.length = items.length := (h m g H .refl).2.length
  cases z with
  | l a =>
    refine ⟨fun i m' g' H' n hi => ⟨vs, vs[i], (h m' g' H' n).1, List.getElem?_eq_getElem (by omega)⟩, fun i m' g' H' n hi => ⟨vs, (h m' g' H' n).1, by omega⟩, fun i m' g' H' v H'' n s1 s2 hy => ?_⟩
    obtain ⟨e, hy⟩ := hy
    subst e
    obtain ⟨q1, q2⟩ := h m' g' H'' n
    have e := hy vs q1
    have hi : i < vs.length := (List.getElem?_eq_some_iff.mp e).1
    obtain ⟨x, hx⟩ : ∃ x, items[i]? = some x := ⟨_, List.getElem?_eq_getElem (by omega)⟩
    refine ⟨x, fun _ => hx, fun _ => ?_, .inl rfl⟩
    obtain ⟨u, hu, ru⟩ := q2.get hx
    rw [hu] at e
    cases e
    exact ru
  | t a =>
    refine ⟨fun i m' g' H' n hi => ⟨vs, vs[i], (h m' g' H' n).1, List.getElem?_eq_getElem (by omega)⟩, fun i m' g' H' n hi => ⟨vs, (h m' g' H' n).1, by omega⟩, fun i m' g' H' v H'' n s1 s2 hy => ?_⟩
    obtain ⟨e, hy⟩ := hy
    subst e
    obtain ⟨q1, q2⟩ := h m' g' H'' n
    have e := hy vs q1
    have hi : i < vs.length := (List.getElem?_eq_some_iff.mp e).1
    obtain ⟨x, hx⟩ : ∃ x, items[i]? = some x := ⟨_, List.getElem?_eq_getElem (by omega)⟩
    refine ⟨x, fun _ => hx, fun _ => ?_, .inl rfl⟩
    obtain ⟨u, hu, ru⟩ := q2.get hx
    rw [hu] at e
    cases e
    exact ru
  | s z =>
    have hv : vs = z.cps.toList.map fun c => V.str ⟨#[c]⟩ := (h m g H .refl).1
    have hs : z.cps.size = items.length := by rw [← hl, hv, List.length_map]; rfl
    refine ⟨fun i m' g' H' n hi => show i < z.cps.size by omega, fun i m' g' H' n hi => show z.cps.size ≤ i by omega, fun i m' g' H' v H'' n s1 s2 hy => ?_⟩
    obtain ⟨e, c, hc, rfl⟩ := hy
    subst e
    obtain ⟨q1, q2⟩ := h m' g' H'' n
    have hc2 : z.cps.toList[i]? = some c := by simpa using hc
    have hi : i < items.length := by
      rw [← hs]
      exact (List.getElem?_eq_some_iff.mp hc2).1
    obtain ⟨x, hx⟩ : ∃ x, items[i]? = some x := ⟨_, List.getElem?_eq_getElem hi⟩
    refine ⟨x, fun _ => hx, fun _ => ?_, .inl rfl⟩
    obtain ⟨u, hu, ru⟩ := q2.get hx
    rw [hv, List.getElem?_map, hc2] at hu
    cases hu
    exact ru
theorem si_val (ha : SE X e fa) : SI X tg e (iVal fa) := by
  refine ⟨fun pins s σ H R I h => ?_⟩
  obtain ⟨m, g, S, env, so, eo, h⟩ := h
  unfold iVal at h
  cases ef : fa env S with
  | no => rw [ef] at h; exact h.elim
  | ok x S1 =>
    rw [ef] at h
    cases es : seqI x with
    | none =>
      simp only [Pv.R.bind, Pv.R.to, es] at h
    | some items =>
      simp only [Pv.R.bind, Pv.R.to, es] at h
      have key : tO X.K fa σ H fun v H1 => ∃ z : Zs, kdZ x z ∧ v = z.val ∧ (∃ vs, z.Has X.K H1 vs) ∧ R (itOf X.K z) H1 := by
        refine ⟨m, g, S, env, so, eo, ?_⟩
        unfold PostV
        rw [ef]
        intro v m1 g1 H1 n1 so1 r1
        obtain ⟨z, vs, kd, ev, hz⟩ := zs_of so1 r1 es
        exact ⟨z, kd, ev, ⟨vs, (hz m1 g1 H1 .refl).1⟩, h _ m1 g1 H1 n1 so1 (it_zs hz)⟩
      have w1 : ∀ (P : V → Hp → Prop), (∀ z H1, kdZ x z → (∃ vs, z.Has X.K H1 vs) → R (itOf X.K z) H1 → P z.val H1) → tO X.K fa σ H P := fun P hP => by
        obtain ⟨m, g, S, env, so, eo, h⟩ := key
        refine ⟨m, g, S, env, so, eo, ?_⟩
        unfold PostV at h ⊢
        cases ef : fa env S with
        | no => rw [ef] at h; exact h
        | ok x S1 =>
          rw [ef] at h
          intro v m1 g1 H1 n1 so1 r1
          obtain ⟨z, kd, ev, hz, q⟩ := h v m1 g1 H1 n1 so1 r1
          rw [ev]
          exact hP z H1 kd hz q
      cases x with
      | str l =>
        refine (pi_str ha).run pins s σ H R I (w1 _ fun z H1 kd hz q => ?_)
        cases z with
        | s y => exact ⟨y, rfl, q⟩
        | _ => exact kd.elim
      | tup l =>
        refine (pi_tup ha).run pins s σ H R I (w1 _ fun z H1 kd hz q => ?_)
        cases z with
        | t a => exact ⟨a, rfl, hz, q⟩
        | _ => exact kd.elim
      | lst l =>
        refine (pi_list ha).run pins s σ H R I (w1 _ fun z H1 kd hz q => ?_)
        cases z with
        | l a => exact ⟨a, rfl, hz, q⟩
        | _ => exact kd.elim
      | scr l =>
        refine (pi_list ha).run pins s σ H R I (w1 _ fun z H1 kd hz q => ?_)
        cases z with
        | l a => exact ⟨a, rfl, hz, q⟩
        | _ => exact kd.elim
      | _ => cases es
def iZip' (f : FA) : FI := fun env S => (f env S).bind fun xs S => match xs with
  | [x, y] => match seqI x, seqI y with
    | some a, some b => .ok (List.zipWith (fun p q => .tup [p, q]) a b) S
    | _, _ => .no
  | _ => .no
theorem si_zip {f : FA} {elts : List Expr} {kk : Nat} {tpos : Pos} (hg : Gl X "zip") (hm : X.mg "zip" = none) (ha : SA X [a, b] f)
    (hs : starEach [a, b] X.env = (false, eval a X.env) :: starEach [b] X.env := by rfl) (hpl : (backTo pos (starEach [b] X.env)).any (·.1) = false := by rfl) :
    SI X (.Tuple elts kk tpos) (.Call (.Name "zip" p) [a, b] [] pos) (iZip' f) := imI (pi_zipG hg hm ha hs hpl) fun σ H R h => by
  obtain ⟨m, g, S, env, so, eo, h⟩ := h
  refine ⟨m, g, S, env, so, eo, ?_⟩
  unfold iZip' at h
  unfold PostL
  cases ef : f env S with
  | no => rw [ef] at h; exact h.elim
  | ok xs S1 =>
    rw [ef] at h
    intro vs m1 g1 H1 n1 so1 r1
    match xs, r1, h with
    | [x, y], .cons rx (.cons ry .nil), h =>
      cases ex : seqI x with
      | none => simp only [Pv.R.bind, Pv.R.to, ex] at h
      | some xs =>
        cases ey : seqI y with
        | none => simp only [Pv.R.bind, Pv.R.to, ex, ey] at h
        | some ys =>
          simp only [Pv.R.bind, Pv.R.to, ex, ey] at h
          obtain ⟨z1, v1, kd1, rfl, hz1⟩ := zs_of so1 rx ex
          obtain ⟨z2, v2, kd2, rfl, hz2⟩ := zs_of so1 ry ey
          have l1 := (hz1 m1 g1 H1 .refl).2.length
          have l2 := (hz2 m1 g1 H1 .refl).2.length
          refine ⟨z1, z2, v1, v2, rfl, (hz1 m1 g1 H1 .refl).1, (hz2 m1 g1 H1 .refl).1, h _ m1 g1 H1 n1 so1 ⟨fun i m' g' H' n hi => ⟨v1, v2, (hz1 m' g' H' n).1, (hz2 m' g' H' n).1, ?_, ?_⟩, fun i m' g' H' n hi => ⟨v1, v2, (hz1 m' g' H' n).1, (hz2 m' g' H' n).1, ?_⟩, fun i m' g' H' v H'' n s1 s2 hy => ?_⟩⟩
          · rw [List.length_zipWith] at hi; omega
          · rw [List.length_zipWith] at hi; omega
          · rw [List.length_zipWith] at hi; omega
          · obtain ⟨T, x', y', rfl, hT, rfl, f1, f2⟩ := hy
            obtain ⟨a1, b1⟩ := hz1 m' g' H' n
            obtain ⟨a2, b2⟩ := hz2 m' g' H' n
            have e1 := f1 v1 a1
            have e2 := f2 v2 a2
            have i1 := (List.getElem?_eq_some_iff.mp e1).1
            have i2 := (List.getElem?_eq_some_iff.mp e2).1
            obtain ⟨p, hp⟩ : ∃ x, xs[i]? = some x := ⟨_, List.getElem?_eq_getElem (by omega)⟩
            obtain ⟨q, hq⟩ : ∃ x, ys[i]? = some x := ⟨_, List.getElem?_eq_getElem (by omega)⟩
            refine ⟨.tup [p, q], fun _ => ?_, fun _ => ?_, .inr (.inl ⟨T, _, hT, rfl⟩)⟩
            · rw [List.getElem?_zipWith, hp, hq]
            · obtain ⟨u, hu, ru⟩ := b1.get hp
              obtain ⟨w, hw, rw'⟩ := b2.get hq
              rw [hu] at e1
              rw [hw] at e2
              cases e1
              cases e2
              have kp : Kp g' H' g' (upd H' T (.tup [x', y'])) := (nx_new (m := m') hT).kp s1
              exact .tup (.inl ⟨.inl upd_same, fun hg => s2 T hg hT⟩) (.cons (ru.mono kp) (.cons (rw'.mono kp) .nil))
    | [], _, h => exact h.elim
    | [_], _, h => exact h.elim
    | _ :: _ :: _ :: _, _, h => exact h.elim
/-! ### ranges -/
def rgI (lo c : Int) (n : Nat) : List PV := (List.range n).map fun k => .int (lo + (k : Nat) * c)
theorem rg_len {lo c : Int} {n : Nat} : (rgI lo c n).length = n := by simp [rgI]
theorem rg_at {lo c : Int} {n i : Nat} (h : i < n) : (rgI lo c n)[i]? = some (.int (lo + (i : Nat) * c)) := by
  unfold rgI
  rw [List.getElem?_map, List.getElem?_range h]
  rfl
theorem it_rgC {K : PySem.W.Frag} {m g : List Addr} {H : Hp} {lo c : Int} {n : Nat} : ItOk K (Itc lo c n) m g H (rgI lo c n) := by
  refine ⟨fun i m' g' H' _ hi => by rw [rg_len] at hi; exact hi, fun i m' g' H' _ hi => by rw [rg_len] at hi; exact Nat.le_of_eq hi.symm, fun i m' g' H' v H'' _ s1 s2 hy => ?_⟩
  obtain ⟨rfl, rfl⟩ := hy
  exact ⟨_, fun hi => rg_at (by rw [rg_len] at hi; exact hi), fun _ => .int _, .inl rfl⟩
theorem it_rg {K : PySem.W.Frag} {m g : List Addr} {H : Hp} {lo : Int} {n : Nat} : ItOk K (Itr lo n) m g H (rgI lo 1 n) := by
  refine ⟨fun i m' g' H' _ hi => by rw [rg_len] at hi; exact hi, fun i m' g' H' _ hi => by rw [rg_len] at hi; exact Nat.le_of_eq hi.symm, fun i m' g' H' v H'' _ s1 s2 hy => ?_⟩
  obtain ⟨rfl, rfl⟩ := hy
  exact ⟨_, fun hi => rg_at (by rw [rg_len] at hi; exact hi), fun _ => by rw [Int.mul_one]; exact .int _, .inl rfl⟩
def smI (i : Int) : Bool := decide (-(2 ^ 62) ≤ i) && decide (i < 2 ^ 62)
def iRg (f : FA) : FI := fun env S => (f env S).bind fun xs S => match xs with
  | [.int j] => if smI j = true then .ok (rgI 0 1 j.toNat) S else .no
  | [.int i, .int j] => if (smI i && smI j) = true then .ok (rgI i 1 (j - i).toNat) S else .no
  | [.int i, .int j, .int c] => if (decide (c ≠ 0) && decide (c.natAbs < 1073741824) && Builtin.Range.small i j c && decide (Builtin.Range.rangeSize i j c = ((Builtin.Range.rangeSize i j c).toNat : Nat))) = true then .ok (rgI i c (Builtin.Range.rangeSize i j c).toNat) S else .no
  | _ => .no
theorem smI_of {i : Int} (h : smI i = true) : -(2 ^ 62) ≤ i ∧ i < 2 ^ 62 := by
  simp only [smI, Bool.and_eq_true, decide_eq_true_eq] at h
  exact h
variable {f : FA} {c : Expr}
def isA1 : List PV → Bool
  | [_] => true
  | _ => false
theorem si_range1 (hg : Gl X "range") (hm : X.mg "range" = none) (ha : SA X [a] (aCons fa aNil)) (hs : starEach [a] X.env = [(false, eval a X.env)] := by rfl) : SI X tg (.Call (.Name "range" p) [a] [] pos) (iRg (aCons fa aNil)) := imI (pi_range1 hg hm ha hs) fun σ H R h => by
  obtain ⟨m, g, S, env, so, eo, h⟩ := h
  unfold iRg aCons aNil at h
  refine ⟨m, g, S, env, so, eo, ?_⟩
  unfold PostL aCons aNil
  cases ef : fa env S with
  | no => simp only [ef, Pv.R.bind, Pv.R.to] at h
  | ok x S1 =>
    simp only [ef, Pv.R.bind, Pv.R.to] at h ⊢
    intro vs m1 g1 H1 n1 so1 r1
    match x, r1, h with
    | .int j, .cons rx .nil, h =>
      obtain rfl := rx.int_inv
      by_cases hj : smI j = true
      · simp only [hj, if_true] at h
        obtain ⟨a1, a2⟩ := smI_of hj
        exact ⟨j, rfl, a1, a2, h _ m1 g1 H1 n1 so1 it_rg⟩
      · simp only [hj] at h
        exact h.elim
theorem si_range2 (hg : Gl X "range") (hm : X.mg "range" = none) (ha : SA X [a, b] (aCons fa (aCons fb aNil))) (hs : starEach [a, b] X.env = [(false, eval a X.env), (false, eval b X.env)] := by rfl) (hs2 : starEach [b] X.env = [(false, eval b X.env)] := by rfl) : SI X tg (.Call (.Name "range" p) [a, b] [] pos) (iRg (aCons fa (aCons fb aNil))) := imI (pi_range2 hg hm ha hs hs2) fun σ H R h => by
  obtain ⟨m, g, S, env, so, eo, h⟩ := h
  unfold iRg aCons aNil at h
  refine ⟨m, g, S, env, so, eo, ?_⟩
  unfold PostL aCons aNil
  cases ef : fa env S with
  | no => simp only [ef, Pv.R.bind, Pv.R.to] at h
  | ok x S1 =>
    cases eg : fb env S1 with
    | no => simp only [ef, eg, Pv.R.bind, Pv.R.to] at h
    | ok y S2 =>
      simp only [ef, eg, Pv.R.bind, Pv.R.to] at h ⊢
      intro vs m1 g1 H1 n1 so1 r1
      match x, y, r1, h with
      | .int i, .int j, .cons rx (.cons ry .nil), h =>
        obtain rfl := rx.int_inv
        obtain rfl := ry.int_inv
        by_cases hj : (smI i && smI j) = true
        · simp only [hj, if_true] at h
          obtain ⟨k1, k2⟩ := Bool.and_eq_true_iff.mp hj
          obtain ⟨a1, a2⟩ := smI_of k1
          obtain ⟨a3, a4⟩ := smI_of k2
          exact ⟨i, j, rfl, ⟨a1, a2, a3, a4⟩, h _ m1 g1 H1 n1 so1 it_rg⟩
        · simp only [hj] at h
          exact h.elim
theorem si_range3 {fc : FE} (hg : Gl X "range") (hm : X.mg "range" = none) (ha : SA X [a, b, c] (aCons fa (aCons fb (aCons fc aNil)))) (hs : starEach [a, b, c] X.env = (false, eval a X.env) :: starEach [b, c] X.env := by rfl) (hpl : (backTo pos (starEach [b, c] X.env)).any (·.1) = false := by rfl) : SI X tg (.Call (.Name "range" p) [a, b, c] [] pos) (iRg (aCons fa (aCons fb (aCons fc aNil)))) := imI (pi_range3 hg hm ha hs hpl) fun σ H R h => by
  obtain ⟨m, g, S, env, so, eo, h⟩ := h
  unfold iRg aCons aNil at h
  refine ⟨m, g, S, env, so, eo, ?_⟩
  unfold PostL aCons aNil
  cases ef : fa env S with
  | no => simp only [ef, Pv.R.bind, Pv.R.to] at h
  | ok x S1 =>
    cases eg : fb env S1 with
    | no => simp only [ef, eg, Pv.R.bind, Pv.R.to] at h
    | ok y S2 =>
      cases eh : fc env S2 with
      | no => simp only [ef, eg, eh, Pv.R.bind, Pv.R.to] at h
      | ok z S3 =>
        simp only [ef, eg, eh, Pv.R.bind, Pv.R.to] at h ⊢
        intro vs m1 g1 H1 n1 so1 r1
        match x, y, z, r1, h with
        | .int i, .int j, .int c, .cons rx (.cons ry (.cons rz .nil)), h =>
          obtain rfl := rx.int_inv
          obtain rfl := ry.int_inv
          obtain rfl := rz.int_inv
          by_cases hj : (decide (c ≠ 0) && decide (c.natAbs < 1073741824) && Builtin.Range.small i j c && decide (Builtin.Range.rangeSize i j c = ((Builtin.Range.rangeSize i j c).toNat : Nat))) = true
          · simp only [hj, if_true] at h
            simp only [Bool.and_eq_true, decide_eq_true_eq] at hj
            obtain ⟨⟨⟨a1, a2⟩, a3⟩, a4⟩ := hj
            exact ⟨i, j, c, _, rfl, ⟨a1, a2, a3, a4⟩, h _ m1 g1 H1 n1 so1 it_rgC⟩
          · simp only [hj] at h
            exact h.elim
end
end Pv

namespace Pv
open PySem PySem.Spec PyProof.Rows L2

/-! ### built-in calls -/
/-- what a call does, over plain values -/
def rC (K : PySem.W.Frag) (G : FF) : List V → Hp → VK → Prop := fun vs H Q => ∃ m g S xs, StOk K m g H S ∧ Reps K m g H vs xs ∧ PostV K m g H (G xs S) Q
def Cal (X : Cx) (f : Value) (G : FF) : Prop := CallR X f (rC X.K G)
section
variable {X : Cx} {e a b : Expr} {es : List Expr} {fa fb : FE} {fs : FA} {pos p : Pos} {x : Str} {id : String} {G : FF}
theorem tCB_of {K : PySem.W.Frag} {σ : L2.St} {H : Hp} {Q : V → Hp → Prop} (h : tO K (eCall G fs) σ H Q) : tCB (rC K G) (tA K fs) σ H Q := by
  obtain ⟨m, g, S, env, so, eo, h⟩ := h
  exact lV so eo h fun xs S' vs m' g' H' nx so' eo' r h => ⟨m', g', S', xs, so', r, h⟩
theorem s_blt (hc : Cal X (.builtin id) G) (hv : bootBuiltins x = some (.builtin id)) (hm : X.mg x = none) (ha : SA X (e :: es) fs) (hg : Gl X x := by rfl) (hn : x ≠ "__name__" := by decide) (hdb : (x == ("__debug__" : Str)) = false := by decide)
    (he : starEach (e :: es) X.env = (false, eval e X.env) :: starEach es X.env := by rfl) (hpl : (backTo pos (starEach es X.env)).any (·.1) = false := by rfl) : SE X (.Call (.Name x p) (e :: es) [] pos) (eCall G fs) :=
  imE (pe_callB hc hg hm hv ha hn hdb he hpl) fun _ _ _ h => tCB_of h
theorem s_typ (hc : Cal X (.type id) G) (hv : bootBuiltins x = some (.type id)) (hm : X.mg x = none) (ha : SA X (e :: es) fs) (hg : Gl X x := by rfl) (hn : x ≠ "__name__" := by decide) (hdb : (x == ("__debug__" : Str)) = false := by decide)
    (he : starEach (e :: es) X.env = (false, eval e X.env) :: starEach es X.env := by rfl) (hpl : (backTo pos (starEach es X.env)).any (·.1) = false := by rfl) : SE X (.Call (.Name x p) (e :: es) [] pos) (eCall G fs) :=
  imE (pe_callTy hc hg hm hv ha hn hdb he hpl) fun _ _ _ h => tCB_of h
/-- a function that the module took from another -/
theorem s_mod (hc : Cal X (.builtin id) G) (hm : X.mg x = some (.builtin id)) (ha : SA X (e :: es) fs) (hg : Gl X x := by rfl) (hdb : (x == ("__debug__" : Str)) = false := by decide)
    (he : starEach (e :: es) X.env = (false, eval e X.env) :: starEach es X.env := by rfl) (hpl : (backTo pos (starEach es X.env)).any (·.1) = false := by rfl) : SE X (.Call (.Name x p) (e :: es) [] pos) (eCall G fs) :=
  imE (pe_callBfun hc hg hm ha hdb he hpl) fun _ _ _ h => tCB_of h

/-! ### len -/
def lenPV (S : Sto) : PV → Option Nat
  | .str l => some l.length
  | .tup xs => some xs.length
  | .scr ns => some ns.length
  | x => (dl S x).map List.length
def bLen : FF := fun xs S => match xs with
  | [x] => match lenPV S x with
    | some n => .ok (.int n) S
    | none => .no
  | _ => .no
theorem lenPV_ok {K : PySem.W.Frag} {m g : List Addr} {H : Hp} {S : Sto} {v : V} {x : PV} {n : Nat} (so : StOk K m g H S) (r : Rep K m g H v x) (h : lenPV S x = some n) : LenV K v H n := by
  unfold lenPV at h
  split at h
  · obtain ⟨z, rfl, e, hz, ho⟩ := r.str_inv
    cases h
    exact ⟨by rw [← SZ_eq, str_len rfl, e]; exact hz, by rw [str_len e]⟩
  · obtain ⟨a, vs, rfl, f, q⟩ := r.tup_inv
    cases h
    exact .inr ⟨vs, f.sq, q.length.symm⟩
  · cases r with
    | p r =>
      cases r with
      | scr hq =>
        cases h
        exact .inl ⟨_, hq.sq, by rw [List.length_map]⟩
  · cases e : dl S x with
    | none => rw [e] at h; cases h
    | some ys =>
      rw [e] at h
      cases h
      obtain ⟨a, vs, rfl, f, q⟩ := dl_ok so r e
      exact .inl ⟨vs, .of f, q.length.symm⟩
theorem c_len : Cal X (.builtin "len") bLen := by
  intro pins s σ H vs us Q I rv h
  obtain ⟨m, g, S, xs, so, r, h⟩ := h
  unfold bLen at h
  split at h
  · cases r with
    | cons r1 r2 =>
      cases r2
      split at h
      · rename_i n hn
        exact call_len pins s σ H _ us Q I rv ⟨_, n, rfl, lenPV_ok so r1 hn, post_p h so (.int _)⟩
      · exact h.elim
  · exact h.elim

/-! ### int, abs, max, min, gcd, divmod -/
def bInt : FF := fun xs S => match xs with
  | [.int i] => .ok (.int i) S
  | [.bl k] => .ok (.int (if k = true then 1 else 0)) S
  | _ => .no
theorem c_int : Cal X (.type "int") bInt := by
  intro pins s σ H vs us Q I rv h
  obtain ⟨m, g, S, xs, so, r, h⟩ := h
  unfold bInt at h
  split at h
  · cases r with
    | cons r1 r2 =>
      cases r2
      obtain rfl := r1.int_inv
      exact call_int1 pins s σ H _ us Q I rv (.inl ⟨_, rfl, post_p h so (.int _)⟩)
  · cases r with
    | cons r1 r2 =>
      cases r2
      obtain rfl := r1.bl_inv
      exact call_int1 pins s σ H _ us Q I rv (.inr ⟨_, rfl, post_p h so (.int _)⟩)
  · exact h.elim
def bAbs : FF := fun xs S => match xs with
  | [.int i] => .ok (.int (if i < 0 then -i else i)) S
  | _ => .no
theorem c_abs : Cal X (.builtin "abs") bAbs := by
  intro pins s σ H vs us Q I rv h
  obtain ⟨m, g, S, xs, so, r, h⟩ := h
  unfold bAbs at h
  split at h
  · cases r with
    | cons r1 r2 =>
      cases r2
      obtain rfl := r1.int_inv
      exact call_abs pins s σ H _ us Q I rv ⟨_, rfl, post_p h so (.int _)⟩
  · exact h.elim
def b2I (k : Int → Int → PV) (c : Int → Int → Bool) : FF := fun xs S => match xs with
  | [.int i, .int j] => if c i j = true then .ok (k i j) S else .no
  | _ => .no
def bMax2 : FF := b2I (fun i j => .int (if j > i then j else i)) fun _ _ => true
def bMin2 : FF := b2I (fun i j => .int (if j < i then j else i)) fun _ _ => true
def bGcd : FF := b2I (fun i j => .int ((Nat.gcd i.natAbs j.natAbs : Nat) : Int)) fun _ _ => true
def bDivmod : FF := b2I (fun i j => .tup [.int (i / j), .int (i % j)]) divOk
theorem c_max2 (hc : X.calm = true) : Cal X (.builtin "max") bMax2 := by
  intro pins s σ H vs us Q I rv h
  obtain ⟨m, g, S, xs, so, r, h⟩ := h
  unfold bMax2 b2I at h
  split at h
  · cases r with
    | cons r1 r2 =>
      cases r2 with
      | cons r2 r3 =>
        cases r3
        obtain rfl := r1.int_inv
        obtain rfl := r2.int_inv
        exact call_max2 hc pins s σ H _ us Q I rv ⟨_, _, rfl, post_p h so (.int _)⟩
  · exact h.elim
theorem c_min2 (hc : X.calm = true) : Cal X (.builtin "min") bMin2 := by
  intro pins s σ H vs us Q I rv h
  obtain ⟨m, g, S, xs, so, r, h⟩ := h
  unfold bMin2 b2I at h
  split at h
  · cases r with
    | cons r1 r2 =>
      cases r2 with
      | cons r2 r3 =>
        cases r3
        obtain rfl := r1.int_inv
        obtain rfl := r2.int_inv
        exact call_min2 hc pins s σ H _ us Q I rv ⟨_, _, rfl, post_p h so (.int _)⟩
  · exact h.elim
theorem c_gcd : Cal X (.builtin "math.gcd") bGcd := by
  intro pins s σ H vs us Q I rv h
  obtain ⟨m, g, S, xs, so, r, h⟩ := h
  unfold bGcd b2I at h
  split at h
  · cases r with
    | cons r1 r2 =>
      cases r2 with
      | cons r2 r3 =>
        cases r3
        obtain rfl := r1.int_inv
        obtain rfl := r2.int_inv
        exact cr_gcd pins s σ H _ us Q I rv ⟨_, _, rfl, post_p h so (.int _)⟩
  · exact h.elim
theorem divP_of {i j : Int} (h : divOk i j = true) : CDivP i j := by
  obtain ⟨h1, h2⟩ := Bool.and_eq_true_iff.mp h
  have hj := of_decide_eq_true h1
  have hl := of_decide_eq_true h2
  refine ⟨hj, ?_⟩
  show (decide ((if j == 0 then 0 else j.natAbs.log2 / 30 + 1) > 300) && _) = false
  rw [if_neg (show ¬ (j == 0) = true by simpa using (show j ≠ 0 by omega)), decide_eq_false (by omega), Bool.false_and]
theorem c_divmod : Cal X (.builtin "divmod") bDivmod := by
  intro pins s σ H vs us Q I rv h
  obtain ⟨m, g, S, xs, so, r, h⟩ := h
  unfold bDivmod b2I at h
  split at h
  · cases r with
    | cons r1 r2 =>
      cases r2 with
      | cons r2 r3 =>
        cases r3
        obtain rfl := r1.int_inv
        obtain rfl := r2.int_inv
        split at h
        · rename_i hd
          exact call_divmodW pins s σ H _ us Q I rv ⟨_, _, rfl, divP_of hd, fun p np => post_t h so (.cons (.int _) (.cons (.int _) .nil)) np⟩
        · exact h.elim
  · exact h.elim

/-! ### sum, all, any, of lists -/
def intsOf : List PV → Option (List Int)
  | [] => some []
  | .int i :: xs => (intsOf xs).map (i :: ·)
  | _ => none
def blsOf : List PV → Option (List Bool)
  | [] => some []
  | .bl i :: xs => (blsOf xs).map (i :: ·)
  | _ => none
theorem intsOf_eq : ∀ {xs : List PV} {ns : List Int}, intsOf xs = some ns → xs = ns.map .int
  | [], ns, h => by cases h; rfl
  | x :: xs, ns, h => by
    cases x with
    | int i =>
      have h : (intsOf xs).map (i :: ·) = some ns := h
      cases e : intsOf xs with
      | none => rw [e] at h; cases h
      | some ms => rw [e] at h; cases h; rw [intsOf_eq e]; rfl
    | _ => cases h
theorem blsOf_eq : ∀ {xs : List PV} {ns : List Bool}, blsOf xs = some ns → xs = ns.map .bl
  | [], ns, h => by cases h; rfl
  | x :: xs, ns, h => by
    cases x with
    | bl i =>
      have h : (blsOf xs).map (i :: ·) = some ns := h
      cases e : blsOf xs with
      | none => rw [e] at h; cases h
      | some ms => rw [e] at h; cases h; rw [blsOf_eq e]; rfl
    | _ => cases h
theorem intsOf_map (ns : List Int) : intsOf (ns.map .int) = some ns := by
  induction ns with
  | nil => rfl
  | cons n ns ih => show (intsOf (ns.map .int)).map (n :: ·) = _; rw [ih]; rfl
theorem blsOf_map (ns : List Bool) : blsOf (ns.map .bl) = some ns := by
  induction ns with
  | nil => rfl
  | cons n ns ih => show (blsOf (ns.map .bl)).map (n :: ·) = _; rw [ih]; rfl
/-- a list, the locked one too -/
def dlS (S : Sto) : PV → Option (List PV)
  | .scr ns => some (ns.map .int)
  | x => dl S x
theorem dlS_ok {K : PySem.W.Frag} {m g : List Addr} {H : Hp} {S : Sto} {v : V} {x : PV} {xs : List PV} (so : StOk K m g H S) (r : Rep K m g H v x) (h : dlS S x = some xs) : ∃ a vs, v = .ref a ∧ SqL K H a vs ∧ RepsP K g H vs xs := by
  unfold dlS at h
  split at h
  · cases h
    cases r with
    | p r =>
      cases r with
      | scr hq => exact ⟨_, _, rfl, hq.sq, ints_rep _⟩
  · obtain ⟨a, vs, rfl, f, q⟩ := dl_ok so r h
    exact ⟨a, vs, rfl, .of f, q⟩
def bSum : FF := fun xs S => match xs with
  | [x] => match (dlS S x).bind intsOf with
    | some ns => .ok (.int ns.sum) S
    | none => .no
  | _ => .no
theorem obind {α β : Type} {o : Option α} {f : α → Option β} {b : β} (h : o.bind f = some b) : ∃ a, o = some a ∧ f a = some b := by
  cases o with
  | none => cases h
  | some a => exact ⟨a, rfl, h⟩
theorem c_sum (hc : X.calm = true) : Cal X (.builtin "sum") bSum := by
  intro pins s σ H vs us Q I rv h
  obtain ⟨m, g, S, xs, so, r, h⟩ := h
  unfold bSum at h
  split at h
  · cases r with
    | cons r1 r2 =>
      cases r2
      split at h
      · rename_i ns hn
        obtain ⟨ys, e1, e2⟩ := obind hn
        obtain ⟨a, vs, rfl, f, q⟩ := dlS_ok so r1 e1
        rw [intsOf_eq e2] at q
        rw [ints_inv q] at f
        exact cr_sum hc pins s σ H _ us Q I rv ⟨_, ns, rfl, f, post_p h so (.int _)⟩
      · exact h.elim
  · exact h.elim
def bAll : FF := fun xs S => match xs with
  | [x] => match (dl S x).bind blsOf with
    | some ns => .ok (.bl (ns.all _root_.id)) S
    | none => .no
  | _ => .no
def bAny : FF := fun xs S => match xs with
  | [x] => match (dl S x).bind blsOf with
    | some ns => .ok (.bl (ns.any _root_.id)) S
    | none => .no
  | _ => .no
theorem c_all (hc : X.calm = true) : Cal X (.builtin "all") bAll := by
  intro pins s σ H vs us Q I rv h
  obtain ⟨m, g, S, xs, so, r, h⟩ := h
  unfold bAll at h
  split at h
  · cases r with
    | cons r1 r2 =>
      cases r2
      split at h
      · rename_i ns hn
        obtain ⟨ys, e1, e2⟩ := obind hn
        obtain ⟨a, vs, rfl, f, q⟩ := dl_ok so r1 e1
        rw [blsOf_eq e2] at q
        rw [bls_inv q] at f
        exact cr_all hc pins s σ H _ us Q I rv ⟨_, ns, rfl, .of f, post_p h so (.bl _)⟩
      · exact h.elim
  · exact h.elim
theorem c_any (hc : X.calm = true) : Cal X (.builtin "any") bAny := by
  intro pins s σ H vs us Q I rv h
  obtain ⟨m, g, S, xs, so, r, h⟩ := h
  unfold bAny at h
  split at h
  · cases r with
    | cons r1 r2 =>
      cases r2
      split at h
      · rename_i ns hn
        obtain ⟨ys, e1, e2⟩ := obind hn
        obtain ⟨a, vs, rfl, f, q⟩ := dl_ok so r1 e1
        rw [blsOf_eq e2] at q
        rw [bls_inv q] at f
        exact cr_any hc pins s σ H _ us Q I rv ⟨_, ns, rfl, .of f, post_p h so (.bl _)⟩
      · exact h.elim
  · exact h.elim

/-! ### isinstance(x, T) -/
def tyPV : PV → String
  | .non => "NoneType"
  | .bl _ => "bool"
  | .int _ => "int"
  | .str _ => "str"
  | .tup _ => "tuple"
  | .lst _ => "list"
  | .scr _ => "list"
  | .ref _ => "list"
theorem ty_ok {K : PySem.W.Frag} {m g : List Addr} {H : Hp} {S : Sto} {v : V} {x : PV} (so : StOk K m g H S) (r : Rep K m g H v x) : TyX K H v (.type (tyPV x)) := by
  cases r with
  | p r =>
    cases r with
    | non => exact .base .non
    | bl k => exact .base (.bl _)
    | int i => exact .base (.int _)
    | str z l e hz ho => exact .base (.str _)
    | tup f q =>
      rcases f.sq with (h | ⟨o, h⟩) | ⟨o, its, n, h, c, _⟩
      · exact .base (.tup h)
      · exact .fTuple h
      · exact .kTuple h c
    | lst f q => exact .base (.lst f.1)
    | scr f =>
      rcases f.sq with (h | ⟨o, h⟩) | ⟨o, its, n, h, c, _⟩
      · exact .base (.lst h)
      · exact .base (.frz h)
      · exact .kList h c
  | @r n a h =>
    have hn : n < S.length := by rw [← so.len]; exact (List.getElem?_eq_some_iff.mp h).1
    have c := so.cell n a _ h (List.getElem?_eq_getElem hn)
    cases e : S[n] with
    | lst ys =>
      rw [e] at c
      obtain ⟨vs, c1, c2⟩ := c
      exact .base (.lst c1)
def eIsi (T : String) (f : FE) : FE := fun env S => (f env S).bind fun x S => match kitB (tyPV x) T with
  | some b => .ok (.bl b) S
  | none => .no
theorem s_isi {T : String} {p2 : Pos} (hm : X.mg "isinstance" = none) (ha : SE X e fa) (hmT : X.mg x = none) (hvT : bootBuiltins x = some (.type T)) (hg : Gl X "isinstance" := by rfl) (hgT : Gl X x := by rfl) (hn : x ≠ "__name__" := by decide) (hd : (x == ("__debug__" : Str)) = false := by decide)
    (he : starEach [e, .Name x p2] X.env = (false, eval e X.env) :: starEach [.Name x p2] X.env := by rfl) (hpl : (backTo pos (starEach [.Name x p2] X.env)).any (·.1) = false := by rfl) (h1 : starEach [.Name x p2] X.env = (false, eval (.Name x p2) X.env) :: starEach [] X.env := by rfl) :
    SE X (.Call (.Name "isinstance" p) [e, .Name x p2] [] pos) (eIsi T fa) :=
  imE (pe_callB call_isi hg hm boot_isinstance (pa_cons ha (pa_cons (pe_bltn (v := .ty T) hgT hmT hvT rfl hn hd) pa_nil h1) he) (by decide) (by decide) he hpl) fun σ H Q h => by
    obtain ⟨m, g, S, env, so, eo, h⟩ := h
    refine vV so eo h fun y S1 v m1 g1 H1 n1 so1 eo1 r1 h1 => ?_
    split at h1
    · rename_i k hk
      exact ⟨v, .ty T, .type (tyPV y), .type T, k, rfl, .ty T, ty_ok so1 r1, kit_ty hk, post_p h1 so1 (.bl _)⟩
    · exact h1.elim
end
end Pv

namespace Pv
open PySem PySem.Spec PyProof.Rows L2

/-! ### methods -/
abbrev FM := PV → List PV → Sto → R PV
def rM (K : PySem.W.Frag) (G : FM) : V → List V → Hp → VK → Prop := fun v vs H Q => ∃ m g S x xs, StOk K m g H S ∧ Rep K m g H v x ∧ Reps K m g H vs xs ∧ PostV K m g H (G x xs S) Q
def Mth (X : Cx) (id : String) (G : FM) : Prop := MtR X id (rM X.K G)
def kdB (T : String) (S : Sto) (x : PV) : Bool := match x with
  | .str _ => T == "str"
  | .lst _ => T == "list"
  | .scr _ => T == "list"
  | .ref n => T == "list" && decide (n < S.length)
  | _ => false
theorem kdB_ok {K : PySem.W.Frag} {m g : List Addr} {H : Hp} {S : Sto} {v : V} {x : PV} {T : String} (so : StOk K m g H S) (r : Rep K m g H v x) (h : kdB T S x = true) : tyV K T v H := by
  cases r with
  | p r =>
    cases r with
    | str z l e hz ho => exact eq_of_beq h
    | lst f q => exact .inl ⟨eq_of_beq h, _, .of f.1⟩
    | scr f => exact .inl ⟨eq_of_beq h, _, f.sq⟩
    | _ => exact absurd h Bool.false_ne_true
  | @r n a hm =>
    obtain ⟨h1, h2⟩ := Bool.and_eq_true_iff.mp h
    have hn := of_decide_eq_true h2
    have c := so.cell n a _ hm (List.getElem?_eq_getElem hn)
    cases e : S[n] with
    | lst ys =>
      rw [e] at c
      obtain ⟨vs, c1, c2⟩ := c
      exact .inl ⟨eq_of_beq h1, vs, .of c1⟩
def eMeth (T : String) (G : FM) (f : FE) (fs : FA) : FE := fun env S => (f env S).bind fun x S => if kdB T S x = true then (fs env S).bind fun xs S => G x xs S else .no
section
variable {X : Cx} {o e a b : Expr} {es : List Expr} {fo fa fb : FE} {fs : FA} {pos p apos cpos : Pos} {x name : Str} {T id : String} {G : FM}
theorem s_meth (pa : PlainAttrs T) (slot : Slot T name id) (hty : typeOf (.builtin id) = pure (.type "method_descriptor")) (hm : Mth X id G) (ho : SE X o fo) (ha : SA X (e :: es) fs)
    (hbase : attributeBase o name X.env (eval o X.env) = eval o X.env := by rfl)
    (hfew : ((backTo cpos (starEach (e :: es) X.env)).all (fun x => !x.1) && (backToKw cpos (keywordEach [] X.env)).all (fun x => x.1.isSome)
      && decide ((e :: es).length + ([] : List Keyword).length + (if ([] : List Keyword).isEmpty then 0 else 1) < 30)) = true := by rfl)
    (hline : (apos.endLine == cpos.line) = true := by rfl) (hs : starEach (e :: es) X.env = (false, eval e X.env) :: starEach es X.env := by rfl) (hplain : (backTo cpos (starEach es X.env)).any (·.1) = false := by rfl) :
    SE X (.Call (.Attribute o name apos) (e :: es) [] cpos) (eMeth T G fo fs) := imE (pe_bm pa slot hty hm ho ha hbase hfew hline hs hplain) fun σ H Q h => by
  obtain ⟨m, g, S, env, so, eo, h⟩ := h
  refine vV so eo h fun y S1 v m1 g1 H1 n1 so1 eo1 r1 h1 => ?_
  split at h1
  · rename_i hk
    refine ⟨kdB_ok so1 r1 hk, lV so1 eo1 h1 fun ys S2 vs m2 g2 H2 n2 so2 eo2 r2 h2 => ?_⟩
    exact ⟨m2, g2, S2, y, ys, so2, r1.mono n2 so1.sub, r2, h2⟩
  · exact h1.elim
theorem s_meth0 (pa : PlainAttrs T) (slot : Slot T name id) (hty : typeOf (.builtin id) = pure (.type "method_descriptor")) (hm : Mth X id G) (ho : SE X o fo)
    (hbase : attributeBase o name X.env (eval o X.env) = eval o X.env := by rfl) (hline : (apos.endLine == cpos.line) = true := by rfl) : SE X (.Call (.Attribute o name apos) [] [] cpos) (eMeth T G fo aNil) := imE (pe_bm0 pa slot hty hm ho hbase hline) fun σ H Q h => by
  obtain ⟨m, g, S, env, so, eo, h⟩ := h
  refine vV so eo h fun y S1 v m1 g1 H1 n1 so1 eo1 r1 h1 => ?_
  split at h1
  · rename_i hk
    exact ⟨kdB_ok so1 r1 hk, m1, g1, S1, y, [], so1, r1, .nil, h1⟩
  · exact h1.elim

/-! text.index, text.count of one sign; sep.join(texts) -/
def bIndex : FM := fun x xs S => match x, xs with
  | .str l, [.str [c]] => if decide (c ∈ l) = true then .ok (.int (l.idxOf c)) S else .no
  | _, _ => .no
theorem sign_eq {z : Str} {c : Nat} (e : z.cps.toList = [c]) : z = ⟨#[c]⟩ := by
  obtain ⟨arr⟩ := z
  congr 1
  apply Array.toList_inj.mp
  simpa using e
theorem idx_first {c : Nat} : ∀ {l : List Nat} (i : Nat), l[i]? = some c → (∀ k, k < i → l[k]? ≠ some c) → l.idxOf c = i
  | [], i, h, _ => nomatch h
  | d :: l, 0, h, _ => by
    have h : d = c := by simpa using h
    simp [h]
  | d :: l, i + 1, h, hn => by
    have h0 : d ≠ c := fun e => hn 0 (Nat.succ_pos i) (by simp [e])
    have ih := idx_first (l := l) i (by simpa using h) fun k hk => by simpa using hn (k + 1) (Nat.succ_lt_succ hk)
    rw [List.idxOf_cons, ih, show (d == c) = false from beq_false_of_ne h0]
    rfl
theorem m_index : Mth X "str.index" bIndex := by
  intro pins s σ H v vs u us Q I rx rs h
  obtain ⟨m, g, S, y, ys, so, r1, r2, h⟩ := h
  unfold bIndex at h
  split at h
  · rename_i l c
    split at h
    · rename_i hc
      have hc := of_decide_eq_true hc
      obtain ⟨z, rfl, e, hz, ho⟩ := r1.str_inv
      cases r2 with
      | cons r2 r3 =>
        cases r3
        obtain ⟨z2, rfl, e2, _, _⟩ := r2.str_inv
        obtain rfl := sign_eq e2
        subst e
        obtain ⟨i, rest, h0, hA, hn⟩ : ∃ i r, Builtin.Str.occurrences z ⟨#[c]⟩ 0 z.length 1 = i :: r ∧ StrLaws.At z ⟨#[c]⟩ z.length i ∧ ∀ k, k < i → ¬ StrLaws.At z ⟨#[c]⟩ z.length k := by
          rcases StrLaws.occ_head z ⟨#[c]⟩ 1 (Nat.le_refl _) with ⟨_, q⟩ | q
          · obtain ⟨i, hi⟩ := List.mem_iff_getElem?.mp hc
            exact absurd ((StrLaws.subAt_one z c i).mpr hi) (q i)
          · exact q
        have hi : z.cps.toList[i]? = some c := (StrLaws.subAt_one z c i).mp hA
        have ei : z.cps.toList.idxOf c = i := idx_first i hi fun k hk q => hn k hk ((StrLaws.subAt_one z c k).mpr q)
        rw [ei] at h
        exact mt_sindex pins s σ H _ _ u us Q I rx rs ⟨z, ⟨#[c]⟩, i, rest, rfl, rfl, h0, post_p h so (.int _)⟩
    · exact h.elim
  · exact h.elim
def bCount : FM := fun x xs S => match x, xs with
  | .str l, [.str [c]] => .ok (.int (l.count c : Nat)) S
  | _, _ => .no
theorem cnt_list (c : Nat) : ∀ l : List Nat, PyProof.Rows.cnt c l = (l.count c : Nat)
  | [] => rfl
  | d :: l => by
    rw [PyProof.Rows.cnt_cons, cnt_list c l, List.count_cons]
    by_cases h : d = c <;> simp [h] <;> omega
theorem m_count : Mth X "str.count" bCount := by
  intro pins s σ H v vs u us Q I rx rs h
  obtain ⟨m, g, S, y, ys, so, r1, r2, h⟩ := h
  unfold bCount at h
  split at h
  · rename_i l c
    obtain ⟨z, rfl, e, hz, ho⟩ := r1.str_inv
    cases r2 with
    | cons r2 r3 =>
      cases r3
      obtain ⟨z2, rfl, e2, _, _⟩ := r2.str_inv
      obtain rfl := sign_eq e2
      subst e
      refine mt_count pins s σ H _ _ u us Q I rx rs ⟨z, ⟨#[c]⟩, rfl, rfl, ?_⟩
      rw [PyProof.Rows.count_is]
      have := cnt_list c z.cps.toList
      unfold PyProof.Rows.cnt at this
      rw [this]
      exact post_p h so (.int _)
  · exact h.elim
def strsOf : List PV → Option (List (List Nat))
  | [] => some []
  | .str i :: xs => (strsOf xs).map (i :: ·)
  | _ => none
theorem strsOf_eq : ∀ {xs : List PV} {ns : List (List Nat)}, strsOf xs = some ns → xs = ns.map .str
  | [], ns, h => by cases h; rfl
  | x :: xs, ns, h => by
    cases x with
    | str i =>
      have h : (strsOf xs).map (i :: ·) = some ns := h
      cases e : strsOf xs with
      | none => rw [e] at h; cases h
      | some ms => rw [e] at h; cases h; rw [strsOf_eq e]; rfl
    | _ => cases h
theorem strsOf_map (ns : List (List Nat)) : strsOf (ns.map .str) = some ns := by
  induction ns with
  | nil => rfl
  | cons n ns ih => show (strsOf (ns.map .str)).map (n :: ·) = _; rw [ih]; rfl
def joinL (z : List Nat) : List (List Nat) → List Nat
  | [] => []
  | x :: r => x ++ (r.map (z ++ ·)).flatten
theorem join_fold (z : Str) : ∀ (r : List Str) (acc : Array Nat), (r.foldl (fun acc p => acc ++ z.cps ++ p.cps) acc).toList = acc.toList ++ (r.map fun p => z.cps.toList ++ p.cps.toList).flatten
  | [], acc => by simp
  | p :: r, acc => by
    rw [List.foldl_cons, join_fold z r]
    simp
theorem join_cps (z : Str) (ys : List Str) : (Txt.join z ys).cps.toList = joinL z.cps.toList (ys.map fun y => y.cps.toList) := by
  cases ys with
  | nil => rfl
  | cons y r =>
    show (r.foldl (fun acc p => acc ++ z.cps ++ p.cps) y.cps).toList = y.cps.toList ++ ((r.map fun y => y.cps.toList).map (z.cps.toList ++ ·)).flatten
    rw [join_fold, List.map_map]
    rfl
def joinOk (z : List Nat) (ns : List (List Nat)) : Bool := decide ((ns.map List.length).sum + ns.length * z.length ≤ SZ)
def bJoin : FM := fun x xs S => match x, xs with
  | .str z, [y] => match (match y with | .tup ys => some ys | y => dl S y).bind strsOf with
    | some ns => if joinOk z ns = true then .ok (.str (joinL z ns)) S else .no
    | none => .no
  | _, _ => .no
theorem strs_inv {K : PySem.W.Frag} {g : List Addr} {H : Hp} : ∀ {ns : List (List Nat)} {vs : List V}, RepsP K g H vs (ns.map PV.str) → ∃ zs : List Str, vs = zs.map V.str ∧ zs.map (fun z => z.cps.toList) = ns ∧ ∀ n ∈ ns, ∀ c ∈ n, c < 1114112
  | [], _, .nil => ⟨[], rfl, rfl, fun n h => nomatch h⟩
  | n :: ns, _, .cons h t => by
    obtain ⟨zs, rfl, e, k⟩ := strs_inv t
    obtain ⟨z, rfl, e2, _, ho⟩ := (Rep.p (m := []) h).str_inv
    exact ⟨z :: zs, rfl, by rw [List.map_cons, e, e2], fun n' hn => by
      rcases List.mem_cons.mp hn with q | q
      · rw [q]; exact ho
      · exact k n' q⟩
theorem joinL_len (z : List Nat) : ∀ ns : List (List Nat), (joinL z ns).length ≤ (ns.map List.length).sum + ns.length * z.length
  | [] => Nat.zero_le _
  | n :: ns => by
    have : ∀ r : List (List Nat), ((r.map (z ++ ·)).flatten).length = (r.map List.length).sum + r.length * z.length := by
      intro r
      induction r with
      | nil => simp
      | cons a r ih => simp [ih, Nat.succ_mul]; omega
    unfold joinL
    rw [List.length_append, this, List.map_cons, List.sum_cons, List.length_cons, Nat.succ_mul]
    omega
theorem joinL_mem {z : List Nat} {c : Nat} : ∀ {ns : List (List Nat)}, c ∈ joinL z ns → c ∈ z ∨ ∃ n ∈ ns, c ∈ n
  | [], h => nomatch h
  | n :: ns, h => by
    unfold joinL at h
    rcases List.mem_append.mp h with h | h
    · exact .inr ⟨n, List.mem_cons_self, h⟩
    · obtain ⟨a, ha, hc⟩ := List.mem_flatten.mp h
      obtain ⟨b, hb, rfl⟩ := List.mem_map.mp ha
      rcases List.mem_append.mp hc with q | q
      · exact .inl q
      · exact .inr ⟨b, List.mem_cons_of_mem _ hb, q⟩
theorem m_join : Mth X "str.join" bJoin := by
  intro pins s σ H v vs u us Q I rx rs h
  obtain ⟨m, g, S, y, ys, so, r1, r2, h⟩ := h
  unfold bJoin at h
  split at h
  · rename_i z y
    split at h
    · rename_i ns hns
      split at h
      · rename_i hj
        obtain ⟨a, rfl, ea, hza, hoa⟩ := r1.str_inv
        cases r2 with
        | cons r2 r3 =>
          cases r3
          obtain ⟨ys, e1, e2⟩ := obind hns
          rw [strsOf_eq e2] at e1
          have key : ∀ {v0 : V}, Rep X.K m g H v0 y → ∃ p ws, (SqL X.K H p ws ∨ SqT X.K H p ws) ∧ RepsP X.K g H ws (ns.map .str) ∧ v0 = V.ref p := by
            intro v0 r2
            have e1' := e1
            split at e1'
            · cases e1'
              obtain ⟨p, ws, e, f, q⟩ := r2.tup_inv
              exact ⟨p, ws, .inr f.sq, q, e⟩
            · obtain ⟨p, ws, e, f, q⟩ := dl_ok so r2 e1'
              exact ⟨p, ws, .inl (.of f), q, e⟩
          obtain ⟨p, ws, hp, q, rfl⟩ := key r2
          obtain ⟨zs, rfl, e3, ho⟩ := strs_inv q
          have hz := of_decide_eq_true hj
          refine mt_join pins s σ H _ _ u us Q I rx rs ⟨a, p, zs, rfl, rfl, hp, ?_, post_p h so (.str _ _ ?_ (Nat.le_trans (joinL_len _ _) hz) fun c hc => ?_)⟩
          · rw [← e3, List.map_map, List.length_map] at hz
            rw [← ea] at hz
            exact hz
          · rw [join_cps, ea, e3]
          · rcases joinL_mem hc with k | ⟨n, hn, k⟩
            · exact hoa c k
            · exact ho n hn c k
      · exact h.elim
    · exact h.elim
  · exact h.elim

/-! ### cells are written -/
theorem nx_set {m g : List Addr} {H : Hp} {a : Addr} {o o' : HO} (ha : a ∈ m) (h : H a = some o) : Nx m g H m g (upd H a o') :=
  ⟨fun b u e hb => by rw [upd_ne (fun z => hb (by rw [z]; exact ha))]; exact e, fun b e => by
    by_cases hb : b = a
    · rw [hb, upd_same] at e; cases e
    · rw [upd_ne hb] at e; exact e, ⟨[], by simp⟩, fun _ h => h, fun _ h => .inl h⟩
theorem so_set {K : PySem.W.Frag} {m g : List Addr} {H : Hp} {S : Sto} {n : Nat} {a : Addr} {o : HO} {vs : List V} {xs : List PV} (so : StOk K m g H S) (hm : m[n]? = some a) (h : H a = some o) (r : RepsP K g H vs xs) : StOk K m g (upd H a (.lst vs)) (S.set n (.lst xs)) := by
  have ha : a ∈ m := List.mem_of_getElem? hm
  have kp : Kp g H g (upd H a (.lst vs)) := (nx_set (g := g) ha h).kp so.sub
  refine ⟨by rw [List.length_set]; exact so.len, so.nd, so.sub, fun b hb => ?_, fun j b u h1 h2 => ?_⟩
  · by_cases q : b = a
    · rw [q, upd_same]; exact fun z => nomatch z
    · rw [upd_ne q]; exact so.live b hb
  · by_cases hj : n = j
    · subst hj
      rw [hm] at h1
      cases h1
      have hn : n < S.length := by rw [← so.len]; exact (List.getElem?_eq_some_iff.mp hm).1
      rw [List.getElem?_set_self hn] at h2
      cases h2
      exact ⟨vs, upd_same, r.mono kp⟩
    · rw [List.getElem?_set_ne hj] at h2
      have hb : b ≠ a := fun q => by
        subst q
        have hn := (List.getElem?_eq_some_iff.mp hm)
        have hk := (List.getElem?_eq_some_iff.mp h1)
        exact hj ((List.getElem_inj so.nd).mp (hn.2.trans hk.2.symm))
      exact (so.cell j b u h1 h2).mono kp fun w e => by rw [upd_ne hb]; exact e
/-- the list at a cell -/
def cl (S : Sto) (n : Nat) : Option (List PV) := match S[n]? with
  | some (.lst xs) => some xs
  | none => none
theorem cl_ok {K : PySem.W.Frag} {m g : List Addr} {H : Hp} {S : Sto} {v : V} {n : Nat} {xs : List PV} (so : StOk K m g H S) (r : Rep K m g H v (.ref n)) (h : cl S n = some xs) : ∃ a vs, v = .ref a ∧ m[n]? = some a ∧ H a = some (.lst vs) ∧ RepsP K g H vs xs := by
  cases r with
  | p r => cases r
  | @r _ a hm =>
    unfold cl at h
    split at h
    · rename_i ys e
      cases h
      obtain ⟨vs, c1, c2⟩ := so.cell n a _ hm e
      exact ⟨a, vs, rfl, hm, c1, c2⟩
    · cases h
theorem post_w {K : PySem.W.Frag} {m g : List Addr} {H : Hp} {S : Sto} {n : Nat} {a : Addr} {vs ws : List V} {xs : List PV} {x : PV} {v : V} {Q : V → Hp → Prop} (h : PostV K m g H (.ok x (S.set n (.lst xs))) Q) (so : StOk K m g H S) (hm : m[n]? = some a) (ha : H a = some (.lst ws)) (r : RepsP K g H vs xs) (rv : RepP K g H v x) : Q v (upd H a (.lst vs)) :=
  h v m g _ (nx_set (List.mem_of_getElem? hm) ha) (so_set so hm ha r) (.p (rv.mono ((nx_set (g := g) (List.mem_of_getElem? hm) ha).kp so.sub)))
def bAppend : FM := fun x xs S => match x, xs with
  | .ref n, [y] => match cl S n with
    | some ys => if (isP y && decide (ys.length < SZ)) = true then .ok .non (S.set n (.lst (ys ++ [y]))) else .no
    | none => .no
  | _, _ => .no
theorem m_append : Mth X "list.append" bAppend := by
  intro pins s σ H v vs u us Q I rx rs h
  obtain ⟨m, g, S, y, ys, so, r1, r2, h⟩ := h
  unfold bAppend at h
  split at h
  · rename_i n y
    split at h
    · rename_i zs hz
      split at h
      · rename_i hp
        obtain ⟨h1, h2⟩ := Bool.and_eq_true_iff.mp hp
        have h2 := of_decide_eq_true h2
        cases r2 with
        | cons r2 r3 =>
          cases r3
          obtain ⟨a, ws, rfl, hm, ha, q⟩ := cl_ok so r1 hz
          exact mt_append pins s σ H _ _ u us Q I rx rs ⟨a, ws, _, rfl, rfl, ha, by rw [q.length, ← SZ_eq]; exact h2, post_w h so hm ha (q.append (.cons (r2.pure h1) .nil)) .non⟩
      · exact h.elim
    · exact h.elim
  · exact h.elim
def bPop : FM := fun x xs S => match x, xs with
  | .ref n, [] => match cl S n with
    | some ys => match ys[ys.length - 1]? with
      | some y => .ok y (S.set n (.lst ys.dropLast))
      | none => .no
    | none => .no
  | _, _ => .no
theorem RepsP.dropLast {K : PySem.W.Frag} {g : List Addr} {H : Hp} {vs : List V} {xs : List PV} (h : RepsP K g H vs xs) : RepsP K g H vs.dropLast xs.dropLast := by
  rw [List.dropLast_eq_take, List.dropLast_eq_take, h.length]
  exact h.take _
theorem m_pop : Mth X "list.pop" bPop := by
  intro pins s σ H v vs u us Q I rx rs h
  obtain ⟨m, g, S, y, ys, so, r1, r2, h⟩ := h
  unfold bPop at h
  split at h
  · rename_i n
    split at h
    · rename_i zs hz
      split at h
      · rename_i y hy
        cases r2
        obtain ⟨a, ws, rfl, hm, ha, q⟩ := cl_ok so r1 hz
        obtain ⟨w, hw, rw'⟩ := q.get hy
        exact mt_pop pins s σ H _ _ u us Q I rx rs ⟨a, ws, w, rfl, rfl, ha, by rw [q.length]; exact hw, post_w h so hm ha q.dropLast rw'⟩
      · exact h.elim
    · exact h.elim
  · exact h.elim
end
end Pv

namespace Pv
open PySem PySem.Spec PyProof.Rows L2

/-! ### while -/
def whileGo (t : FT) (b : FS) : Nat → FS
  | 0, _, _ => .no
  | n + 1, env, S => (t env S).bindS fun k S1 => if k = true then (match b env S1 with
    | .nx env2 S2 => whileGo t b n env2 S2
    | .ret v S2 => .ret v S2
    | .no => .no) else .nx env S1
section
variable {X : Cx} {o i e a b : Expr} {es : List Expr} {fo fi fa fb : FE} {fs : FA} {pos p apos cpos : Pos} {x : Str}
theorem ss_while (n : Nat) {c : Expr} {body : List Stmt} {t : FT} {fb : FS} (hp : PassesOwn (model X.prog X.w) X.A X.env X.xe) (hc : ST X c t) (hb : SSs X body fb) : SS X (.While c body [] pos) (whileGo t fb n) := imS (ps_while hp hc hb) fun D σ H h => by
  obtain ⟨m, g, S, env, so, eo, h⟩ := h
  refine ⟨fun n σ H => ∃ m g S env, StOk X.K m g H S ∧ EnvOk X.K m g H σ env ∧ PostS X.K m g H (whileGo t fb n env S) D, ⟨n, m, g, S, env, so, eo, h⟩, ?_⟩
  rintro n σ H ⟨m, g, S, env, so, eo, h⟩
  cases n with
  | zero => exact h.elim
  | succ n =>
    refine bS (W := D) (k := fun k S1 => if k = true then (match fb env S1 with
      | .nx env2 S2 => whileGo t fb n env2 S2
      | .ret v S2 => .ret v S2
      | .no => .no) else .nx env S1) so eo h fun k S1 m1 g1 H1 n1 so1 eo1 h1 => ?_
    cases k with
    | false =>
      rw [if_neg Bool.false_ne_true] at h1 ⊢
      exact h1 σ m1 g1 H1 .refl so1 eo1
    | true =>
      rw [if_pos rfl] at h1 ⊢
      refine ⟨fun σ H => ∃ m g S env, StOk X.K m g H S ∧ EnvOk X.K m g H σ env ∧ PostS X.K m g H (whileGo t fb n env S) D, fun σ' H' q => ⟨n, Nat.lt_succ_self n, q⟩, m1, g1, S1, env, so1, eo1, ?_⟩
      unfold PostS
      cases eb : fb env S1 with
      | nx env2 S2 =>
        rw [eb] at h1
        exact fun σ' m' g' H' nx so' eo' => ⟨m', g', S2, env2, so', eo', PostS.mono (K := X.K) (D := D) h1 nx⟩
      | ret v S2 =>
        rw [eb] at h1
        exact h1
      | no => rw [eb] at h1; exact h1

/-! ### o[i] = e; o[i], y = e -/
def setCl (S : Sto) (o i x : PV) : Option Sto := match o, i with
  | .ref n, .int k => match cl S n with
    | some ys => match ixN ys.length k with
      | some j => if isP x = true then some (S.set n (.lst (ys.set j x))) else none
      | none => none
    | none => none
  | _, _ => none
theorem setCl_ok {K : PySem.W.Frag} {m g : List Addr} {H : Hp} {S S' : Sto} {ov iv xv : V} {o i x : PV} (so : StOk K m g H S) (r1 : Rep K m g H ov o) (r2 : Rep K m g H iv i) (r3 : Rep K m g H xv x) (h : setCl S o i x = some S') {Q : Hp → Prop}
    (q : ∀ H', Nx m g H m g H' → StOk K m g H' S' → Q H') : rSetL ov iv xv H Q := by
  unfold setCl at h
  split at h
  · rename_i n k
    split at h
    · rename_i ys hy
      split at h
      · rename_i j hj
        split at h
        · rename_i hp
          cases h
          obtain ⟨a, ws, rfl, hm, ha, r⟩ := cl_ok so r1 hy
          obtain rfl := r2.int_inv
          refine ⟨a, ws, k, j, rfl, rfl, ha, by rw [r.length]; exact hj, q _ (nx_set (List.mem_of_getElem? hm) ha) (so_set so hm ha (RepsP.set j (r3.pure hp) r))⟩
        · cases h
      · cases h
    · cases h
  · cases h
def sSub (fo fi f : FE) : FS := fun env S => (f env S).bindS fun x S => (fo env S).bindS fun o S => (fi env S).bindS fun i S => match setCl S o i x with
  | some S' => .nx env S'
  | none => .no
theorem ss_sub {p2 : Pos} (ha : SE X e fa) (ho : SE X o fo) (hi : SE X i fi) (hs : swapsWithSole [.Subscript o i p2] e pos.line X.env = pure false := by rfl) (hw : swappedStores [.Subscript o i p2] e X.env = pure none := by rfl)
    (h1 : (assignEach [.Subscript o i p2] X.env).map (·.2) = [assign (.Subscript o i p2) X.env] := by rfl)
    (h2 : ∀ v, assign (.Subscript o i p2) X.env v = (do
      let ov ← holding [v] (eval o X.env)
      let iv ← holding [v, ov] (eval i X.env)
      standAt p2
      holding [v, ov, iv] (setItem ov iv v)
      release [v, ov, iv] []) := by intro _; rfl) : SS X (.Assign [.Subscript o i p2] e pos) (sSub fo fi fa) := imS (ps_asg ha (pg_sub ho hi set_list h2) hs hw h1) fun D σ H h => by
  obtain ⟨m, g, S, env, so, eo, h⟩ := h
  refine vS so eo h fun x S1 v m1 g1 H1 n1 so1 eo1 r1 h1 => ?_
  refine vS so1 eo1 h1 fun y S2 u m2 g2 H2 n2 so2 eo2 r2 h2 => ?_
  refine vS so2 eo2 h2 fun z S3 w m3 g3 H3 n3 so3 eo3 r3 h3 => ?_
  split at h3
  · rename_i S' e1
    exact setCl_ok so3 (r2.mono n3 so2.sub) r3 ((r1.mono n2 so1.sub).mono n3 so2.sub) e1 fun H' nx so' => h3 σ m3 g3 H' nx so' (eo3.mono nx so3.sub)
  · exact h3.elim
def sDm (fo fi : FE) (j : Nat) (f : FE) : FS := fun env S => (f env S).bindS fun x S => match x with
  | .tup [p, q] => (fo env S).bindS fun o S => (fi env S).bindS fun i S => match setCl S o i p with
    | some S' => .nx (env.set j (some q)) S'
    | none => .no
  | _ => .no
theorem ss_dm (j : Nat) {k : Nat} {p2 p3 p4 : Pos} (hc : X.calm = true) (hN : X.N.Nodup) (ha : SE X e fa) (ho : SE X o fo) (hi : SE X i fi) (hj : X.N[j]? = some x := by rfl) (hx : Loc X.env.scope x := by first | exact Or.inl rfl | exact Or.inr rfl)
    (hs : swapsWithSole [.Tuple [.Subscript o i p2, .Name x p3] k p4] e pos.line X.env = pure false := by rfl) (hw : swappedStores [.Tuple [.Subscript o i p2, .Name x p3] k p4] e X.env = pure none := by rfl)
    (h1 : (assignEach [.Tuple [.Subscript o i p2, .Name x p3] k p4] X.env).map (·.2) = [assign (.Tuple [.Subscript o i p2, .Name x p3] k p4) X.env] := by rfl)
    (h2 : ∀ v, assign (.Subscript o i p2) X.env v = (do
      let ov ← holding [v] (eval o X.env)
      let iv ← holding [v, ov] (eval i X.env)
      standAt p2
      holding [v, ov, iv] (setItem ov iv v)
      release [v, ov, iv] []) := by intro _; rfl)
    (hf : X.fn x = true ∨ X.env.scope.names.lookup x = some .local := by first | exact .inl rfl | exact .inr rfl | assumption)
    (hs2 : (assignEach [.Subscript o i p2, .Name x p3] X.env).map (·.2) = assign (.Subscript o i p2) X.env :: (assignEach [.Name x p3] X.env).map (·.2) := by rfl)
    (hs3 : (assignEach [.Name x p3] X.env).map (·.2) = assign (.Name x p3) X.env :: (assignEach [] X.env).map (·.2) := by rfl)
    (hn : (assignEach [.Subscript o i p2, .Name x p3] X.env).length = 2 := by rfl) (hst : (assignEach [.Subscript o i p2, .Name x p3] X.env).findIdx? (·.1) = none := by rfl) :
    SS X (.Assign [.Tuple [.Subscript o i p2, .Name x p3] k p4] e pos) (sDm fo fi j fa) := imS (ps_asg ha (pg_tup (n := 2) hc (pgs_cons (pg_sub ho hi set_list h2) (pgs_cons (pg_name hN hj hx hf) pgs_nil hs3) hs2) hn hst) hs hw h1) fun D σ H h => by
  obtain ⟨m, g, S, env, so, eo, h⟩ := h
  refine vS so eo h fun x S1 v m1 g1 H1 n1 so1 eo1 r1 h1 => ?_
  split at h1
  · rename_i p q
    obtain ⟨a, vs, rfl, f, rp⟩ := r1.tup_inv
    cases rp with
    | cons rp1 rp =>
      cases rp with
      | cons rp2 rp =>
        cases rp
        refine ⟨a, _, rfl, f.sq, rfl, _, _, rfl, ?_⟩
        refine vS so1 eo1 h1 fun y S2 u m2 g2 H2 n2 so2 eo2 r2 h2 => ?_
        refine vS so2 eo2 h2 fun z S3 w m3 g3 H3 n3 so3 eo3 r3 h3 => ?_
        split at h3
        · rename_i S' e1
          have n13 := n2.trans n3
          refine setCl_ok so3 (r2.mono n3 so2.sub) r3 ((Rep.p rp1).mono n13 so1.sub) e1 fun H' nx so' => ?_
          refine ⟨_, _, rfl, ?_⟩
          refine ⟨rfl, ?_⟩
          have rq : Rep X.K m3 g3 H' _ q := ((Rep.p rp2).mono n13 so1.sub).mono nx so3.sub
          exact h3 _ m3 g3 H' nx so' ((eo3.mono nx so3.sub).set rq j)
        · exact h3.elim
  · exact h1.elim

/-! ### -a -/
def eNeg (f : FE) : FE := fun env S => (f env S).bind fun x S => match x with
  | .int i => .ok (.int (-i)) S
  | _ => .no
theorem s_neg (ha : SE X a fa) : SE X (.UnaryOp .USub a pos) (eNeg fa) := imE (pe_un un_neg ha) fun σ H Q h => by
  obtain ⟨m, g, S, env, so, eo, h⟩ := h
  refine vV so eo h fun x S1 v m1 g1 H1 n1 so1 eo1 r1 h1 => ?_
  cases x with
  | int i =>
    obtain rfl := r1.int_inv
    exact ⟨i, rfl, post_p h1 so1 (.int _)⟩
  | _ => exact h1.elim

/-! ### a[::-1] -/
abbrev revIx (k : Nat) (p1 p2 p3 : Pos) : Expr := .Slice none none (some (.UnaryOp .USub (.Constant (.int 1) k p1) p2)) p3
theorem rev_text (z : Str) (t : Tok) : ((slicePicked z none none (some (-1, t))).filterMap (z.cps[·]?)) = z.cps.toList.reverse := by
  show ((Builtin.Str.strSliceIndices none none (-1) z.length).filterMap (z.cps[·]?)) = _
  have e : Builtin.Str.strSliceIndices none none (-1) z.length = sliceRange ((z.length : Int) - 1) (-1) (-1) := rfl
  rw [e, PySem.W.krv_sliceRange, PySem.W.krv_range, List.filterMap_reverse]
  exact congrArg List.reverse (PySem.W.krv_all z.cps)
def tRevS (te : TE) : TE := fun σ H Q => te σ H fun x H1 => ∃ z, x = .str z ∧ z.length ≤ sizeLine ∧ Q (.str ⟨z.cps.toList.reverse.toArray⟩) H1
theorem pe_revS {te : TE} {k : Nat} {p1 p2 p3 : Pos} (he : PE X e te) : PE X (.Subscript e (revIx k p1 p2 p3) pos) (tRevS te) := by
  refine ⟨fun pins s σ H Q I h => ?_⟩
  refine Subscript_ (thn (he.run pins s σ H _ I h) fun v s1 ⟨x, H1, I1, r1, q1⟩ => ?_)
  obtain ⟨z, ex, hz, q⟩ := q1
  subst ex
  obtain ⟨t, rfl⟩ := r1
  have hst : PO X (some (.UnaryOp .USub (.Constant (.int 1) k p1) p2)) (tPart (tUn (rU fun i => .int (-i)) (tC (.int 1)))) := po_some (pe_un un_neg pe_int)
  refine wpAny_Slice (thn (po_none.run pins s1 σ H1 (fun o H2 => o = none ∧ H2 = H1) I1 ⟨rfl, rfl⟩) fun vl s2 ⟨l, H2, I2, pl, el, e2⟩ => ?_)
  subst el e2
  refine thn (po_none.run pins s2 σ H2 (fun o H3 => o = none ∧ H3 = H2) I2 ⟨rfl, rfl⟩) fun vu s3 ⟨u, H3, I3, pu, eu, e3⟩ => ?_
  subst eu e3
  refine thn (hst.run pins s3 σ H3 (fun o H4 => o = some (-1) ∧ H4 = H3) I3 ⟨1, rfl, -1, rfl, rfl, rfl⟩) fun vs s4 ⟨o, H4, I4, ps, eo, e4⟩ => ?_
  subst eo e4
  have I5 : Inv X pins σ H4 { s4 with heap := s4.heap.push { cls := .type "slice", data := .fields #[vl, vu, vs] } } := I4.kept (t' := s4.toks) fun b ob q => Heap.get?_push_of_some _ q
  show wpAny (model X.prog X.w) X.A (subscriptTail e (revIx k p1 p2 p3) (.str z t) (.ref s4.heap.objs.size)) (EP X pins σ Q) X.xe { s4 with heap := s4.heap.push { cls := .type "slice", data := .fields #[vl, vu, vs] } }
  refine PyProof.Rows.tail_any (ops := [.str z t, .ref s4.heap.objs.size]) (typeIs_str _ z t) (PySem.F.slot_str_getitem.lookup) ?_ (by with_unfolding_all rfl)
  cases pl
  cases pu
  obtain ⟨tk, rfl⟩ : ∃ tk, vs = .int (-1) tk := by cases ps; exact ⟨_, rfl⟩
  refine wpAny_getItem_str_slice (l := none) (u := none) (st := some (-1, tk)) ⟨_, Heap.get?_push_size _ rfl, rfl, rfl⟩ rfl ?_
  unfold sliceMade
  rw [rev_text]
  rw [if_neg (by show ¬ ((decide ((-1 : Int) = 1) && _) = true); simp)]
  refine ⟨?_, .str _, H4, I5.tok _, ⟨_, rfl⟩, q⟩
  show z.cps.toList.reverse.toArray.size ≤ sizeLine
  rw [List.size_toArray, List.length_reverse]
  exact hz
def oRev (x : PV) (S : Sto) : R PV := match x with
  | .str l => .ok (.str l.reverse) S
  | x => match dlS S x with
    | some xs => .ok (.lst xs.reverse) S
    | none => .no
def eRev (f : FE) : FE := fun env S => (f env S).bind oRev
theorem s_rev {k : Nat} {p1 p2 p3 : Pos} (ha : SE X e fa) : SE X (.Subscript e (revIx k p1 p2 p3) pos) (eRev fa) := by
  refine ⟨fun pins s σ H Q I h => ?_⟩
  obtain ⟨m, g, S, env, so, eo, h⟩ := h
  unfold eRev at h
  cases ef : fa env S with
  | no => rw [ef] at h; exact h.elim
  | ok x S1 =>
    rw [ef] at h
    have h : PostV X.K m g H (oRev x S1) Q := h
    have gen : ∀ (P : V → Hp → Prop), (∀ v m1 g1 H1, StOk X.K m1 g1 H1 S1 → Rep X.K m1 g1 H1 v x → PostV X.K m1 g1 H1 (oRev x S1) Q → P v H1) → tO X.K fa σ H P := fun P hP => by
      refine ⟨m, g, S, env, so, eo, ?_⟩
      unfold PostV
      rw [ef]
      exact fun v m1 g1 H1 n1 so1 r1 => hP v m1 g1 H1 so1 r1 (PostV.mono (K := X.K) (Q := Q) h n1)
    cases ex : isP x && (match x with | .str _ => true | _ => false) with
    | true =>
      cases x with
      | str l =>
        refine (pe_revS ha).run pins s σ H Q I (gen _ fun v m1 g1 H1 so1 r1 h1 => ?_)
        obtain ⟨z, rfl, e1, hz, ho⟩ := r1.str_inv
        subst e1
        exact ⟨z, rfl, by rw [← SZ_eq, str_len rfl]; exact hz, post_p h1 so1 (.str _ _ (by simp) (by rw [List.length_reverse]; exact hz) fun c hc => ho c (List.mem_reverse.mp hc))⟩
      | _ => simp [isP] at ex
    | false =>
      refine (pe_revL ha).run pins s σ H Q I (gen _ fun v m1 g1 H1 so1 r1 h1 => ?_)
      unfold oRev at h1
      split at h1
      · simp [isP] at ex
      · split at h1
        · rename_i xs hxs
          obtain ⟨a, vs, rfl, f, q⟩ := dlS_ok so1 r1 hxs
          exact ⟨a, vs, rfl, f, fun p np => post_l h1 so1 q.reverse np⟩
        · exact h1.elim
end
end Pv

namespace Pv
open PySem PySem.Spec PyProof.Rows L2

/-! ### o.replace(t[i], ''), behind a token -/
structure SE1 (X : Cx) (e : Expr) (f : FE) : Prop where
  run : ∀ (pins : List (Addr × Obj)) (s : Shared) (σ : L2.St) (H : Hp) (Q : VK), Inv X pins σ H s → tO X.K f σ H Q → wpAny (model X.prog X.w) X.A (eval e X.env) (fun v s1 => 1 ≤ s1.toks ∧ EP X pins σ Q v s1) X.xe s
section
variable {X : Cx} {o e a b : Expr} {es : List Expr} {fo fa fb : FE} {fs : FA} {pos p apos cpos : Pos} {x : Str}
theorem SE1.se {f : FE} (h : SE1 X e f) : SE X e f := ⟨fun pins s σ H Q I q => wpAny_mono (h.run pins s σ H Q I q) (fun _ _ z => z.2) fun _ _ z => z⟩
theorem s1_str {x : Str} {l : List Nat} {j} (e : x.cps.toList = l := by rfl) (h : strOkL l = true := by rfl) : SE1 X (.Constant (.str x) j pos) (eCon (.str l)) := ⟨fun pins s σ H Q I q => by
  obtain ⟨m, g, S, env, so, eo, q⟩ := q
  exact Calls.Constant_str ⟨by show 1 ≤ s.toks + 1; omega, .str x, H, I.tok _, ⟨_, rfl⟩, post_p q so (rep_str e h)⟩⟩
theorem replL_one (c : Nat) : ∀ l : List Nat, StrLaws.replL [c] [] l = l.filter fun d => d != c
  | [] => StrLaws.replL_nil
  | d :: l => by
    by_cases h : d = c
    · subst h
      rw [StrLaws.replL_hit (by simp) (by simp), List.nil_append, List.filter_cons]
      show StrLaws.replL [d] [] l = _
      rw [replL_one]
      simp
    · rw [StrLaws.replL_miss (by simpa using h), replL_one, List.filter_cons, if_pos (by simpa using h)]
def oRep (l : List Nat) (y i : PV) (S : Sto) : R PV := match y, i with
  | .str t, .int i => match atI t i with
    | some c => .ok (.str (l.filter fun d => d != c)) S
    | none => .no
  | _, _ => .no
def eRepK (fa fb : FE) (env : VEnv) (x : PV) (S : Sto) : R PV := match x with
  | .str l => (fa env S).bind fun y S => (fb env S).bind fun i S => oRep l y i S
  | _ => .no
def eRep (fo fa fb : FE) : FE := fun env S => (fo env S).bind fun x S => eRepK fa fb env x S
theorem s_rep {z : Str} {k : Nat} {p2 c1 : Pos} (ho : SE1 X o fo) (ha : SE X a fa) (hb : SE X b fb) (hz : z.cps.toList = [] := by rfl) (hs : PlainIx b := by exact fun _ _ => rfl)
    (hst : starEach [.Subscript a b p2, .Constant (.str z) k c1] X.env = [(false, eval (.Subscript a b p2) X.env), (false, eval (.Constant (.str z) k c1) X.env)] := by rfl)
    (hbase : attributeBase o "replace" X.env (eval o X.env) = eval o X.env := by rfl) (hline : (apos.endLine == pos.line) = true := by rfl) :
    SE1 X (.Call (.Attribute o "replace" apos) [.Subscript a b p2, .Constant (.str z) k c1] [] pos) (eRep fo fa fb) := ⟨fun pins s σ H Q I h => by
  obtain ⟨m, g, S, env, so, eo, h⟩ := h
  have h0 : tO X.K fo σ H fun v H1 => ∃ m1 g1 S1 x, StOk X.K m1 g1 H1 S1 ∧ EnvOk X.K m1 g1 H1 σ env ∧ Rep X.K m1 g1 H1 v x ∧ PostV X.K m1 g1 H1 (eRepK fa fb env x S1) Q :=
    vV (W := Q) (k := fun x S1 => eRepK fa fb env x S1) so eo h fun x S1 v m1 g1 H1 n1 so1 eo1 r1 h1 => ⟨m1, g1, S1, x, so1, eo1, r1, h1⟩
  refine PySem.Call_method2 hbase hst hline (wpAny_mono (ho.run pins s σ H _ I h0) (fun v s1 q => ?_) fun _ _ z => z)
  obtain ⟨hk, v', H1, I1, rv, m1, g1, S1, x, so1, eo1, r1, h1⟩ := q
  cases x with
  | str l =>
    obtain ⟨zx, rfl, e1, hz1, ho1⟩ := r1.str_inv
    subst e1
    obtain ⟨tx, e2⟩ := rv
    subst e2
    refine ⟨"str", _, PySem.F.plainAttrs_str, PySem.F.slot_str_replace, PySem.F.type_str_replace, typeIs_str _ _ _, (fun _ e => nomatch e), Calls.callWith_builtin rfl (Calls.evalArgs_plain (Calls.spliced_cons ?_))⟩
    refine Subscript_ (wpAny_mono (PySem.wpAny_toks (ha.run pins s1 σ H1 _ I1 (vV (W := Q) (k := fun y S => (fb env S).bind fun i S => oRep zx.cps.toList y i S) so1 eo1 h1 fun y S2 u m2 g2 H2 n2 so2 eo2 r2 h2 =>
      (show ∃ m2 g2 S2 y, StOk X.K m2 g2 H2 S2 ∧ EnvOk X.K m2 g2 H2 σ env ∧ Rep X.K m2 g2 H2 u y ∧ PostV X.K m2 g2 H2 ((fb env S2).bind fun i S => oRep zx.cps.toList y i S) Q from ⟨m2, g2, S2, y, so2, eo2, r2, h2⟩)))) (fun vy s2 q => ?_) fun _ _ z => z.2)
    obtain ⟨hk2, v2, H2, I2, rv2, m2, g2, S2, y, so2, eo2, r2, h2⟩ := q
    refine wpAny_mono (PySem.wpAny_toks (hb.run pins s2 σ H2 _ I2 (vV (W := Q) (k := fun i S => oRep zx.cps.toList y i S) so2 eo2 h2 fun i S3 u m3 g3 H3 n3 so3 eo3 r3 h3 =>
      (show ∃ m3 g3 S3 i, StOk X.K m3 g3 H3 S3 ∧ Rep X.K m3 g3 H3 v2 y ∧ Rep X.K m3 g3 H3 u i ∧ PostV X.K m3 g3 H3 (oRep zx.cps.toList y i S3) Q from ⟨m3, g3, S3, i, so3, r2.mono n3 so2.sub, r3, h3⟩)))) (fun vi s3 q => ?_) fun _ _ z => z.2
    obtain ⟨hk3, v3, H3, I3, rv3, m3, g3, S3, i, so3, r3, r4, h3⟩ := q
    unfold oRep at h3
    split at h3
    · rename_i t' i'
      split at h3
      · rename_i c hc
        obtain ⟨zy, rfl, e3, hz3, ho3⟩ := r3.str_inv
        subst e3
        obtain rfl := r4.int_inv
        obtain ⟨ty, rfl⟩ := rv2
        obtain ⟨ti, rfl⟩ := rv3
        obtain ⟨j, a1, a2, a3, a4, a5⟩ := atI_get hc
        have hl : zy.cps.toList.length = zy.length := by simp [Str.length]
        rw [hl] at a1 a4 a5
        have hn := line63
        have hzz : zy.length ≤ sizeLine := by rw [← SZ_eq, str_len rfl]; exact hz3
        refine PyProof.Rows.tail_any (typeIs_str s3 zy ty) PyProof.Rows.slot_str_getitem.lookup (PyProof.Rows.getItem_str (c := c) (by
          have e1 : decide (i' < -(2 ^ 63 : Int)) = false := decide_eq_false (by omega)
          have e2 : decide (i' ≥ 2 ^ 63) = false := decide_eq_false (by omega)
          rw [e1, e2, Bool.or_false]) (by rw [a1]; simpa using a2) ?_) (hs _ _)
        refine Calls.spliced_cons (Calls.Constant_str (Calls.spliced_nil ?_))
        have ht : 1 ≤ s3.toks := by omega
        refine wpAny_with_toks (n := 1) (by show 1 ≤ s3.toks + 1 + 1; omega) ?_
        obtain rfl : z = ⟨#[]⟩ := by
          obtain ⟨arr⟩ := z
          congr 1
          apply Array.toList_inj.mp
          simpa using hz
        refine PySem.SC.replace (by show s3.toks ≠ 0; omega) (by show s3.toks + 1 ≠ 0; omega) (by show s3.toks ≠ s3.toks + 1; omega) ((str_beq [c] []).trans rfl) ?_ fun t' k hk4 => ⟨hk4, .str _, H3, (I3.tok _).tok k, ⟨t', rfl⟩, post_p h3 so3 (.str _ _ ?_ ?_ fun d hd => ?_)⟩
        · show zx.length + (zx.length + 1) * 0 ≤ SZ
          rw [Nat.mul_zero, Nat.add_zero, str_len rfl]
          exact hz1
        · rw [StrLaws.replace_list (by show 1 ≤ 1; omega), hz]
          exact replL_one c _
        · exact Nat.le_trans (List.length_filter_le _ _) hz1
        · exact ho1 d (List.mem_filter.mp hd).1
      · exact h3.elim
    · exact h3.elim
  | _ => exact h1.elim⟩

/-! ### f(k = v, ..) -/
def permL {α : Type} (is : List Nat) (l : List α) : List α := is.filterMap (l[·]?)
def SK (X : Cx) (kws : List Keyword) (f : FA) : Prop := PK X kws (tA X.K f)
theorem imK {X : Cx} {kws : List Keyword} {t t' : TA} (h : PK X kws t) (w : ∀ σ H Q, t' σ H Q → t σ H Q) : PK X kws t' := ⟨fun pos pins s σ H Q I q => h.run pos pins s σ H Q I (w σ H Q q)⟩
theorem sk_nil : SK X [] aNil := imK pk_nil fun σ H Q h => by
  obtain ⟨m, g, S, env, so, eo, h⟩ := h
  exact h [] m g H .refl so .nil
theorem sk_cons {kws : List Keyword} {nm : Option Str} {kpos : Pos} {f : FA} (ha : SE X e fa) (hr : SK X kws f) : SK X (⟨nm, e, kpos⟩ :: kws) (aCons fa f) := imK (pk_cons ha hr) fun σ H Q h => by
  obtain ⟨m, g, S, env, so, eo, h⟩ := h
  refine vL so eo h fun x S1 u m1 g1 H1 n1 so1 eo1 r1 h1 => ?_
  refine lL so1 eo1 h1 fun xs S2 us m2 g2 H2 n2 so2 eo2 r2 h2 => ?_
  exact h2 _ m2 g2 H2 .refl so2 (.cons (r1.mono n2 so1.sub) r2)
/-- the def x stands, does F, and is called so: the keywords' values, told in the order is, are its parameters' -/
structure DefKw (P : Program) (w : World) (K : PySem.W.Frag) (mg : Str → Option Value) (base : Heap) (CX : CXT) (x : Str) (ps ks : List Str) (is : List Nat) (k : Nat) (F : FF) : Prop where
  ex : ∃ (f : Addr) (fd : FuncData), mg x = some (.ref f) ∧ PySem.W.keepIn K (.ref f) = true ∧ KBn K fd ps 0 ks (fun _ ws => permL is ws) (fun _ zs => permL is zs) ∧ FnOk P w K mg base CX k f fd ps (spOf K F)
theorem Vals.perm {vs : List V} {us : List Value} (r : Vals vs us) : ∀ is : List Nat, Vals (permL is vs) (permL is us)
  | [] => .nil
  | i :: is => by
    unfold permL
    rw [List.filterMap_cons, List.filterMap_cons]
    have ih := Vals.perm r is
    have hl := r.length
    cases e : vs[i]? with
    | none =>
      have e2 : us[i]? = none := List.getElem?_eq_none (by rw [← hl]; exact List.getElem?_eq_none_iff.mp e)
      rw [e2]
      exact ih
    | some v =>
      obtain ⟨u, hu, ru⟩ := r.get e
      rw [hu]
      exact .cons ru ih
theorem Reps.get' {K : PySem.W.Frag} {m g : List Addr} {H : Hp} {i : Nat} {x : PV} : ∀ {vs : List V} {xs : List PV}, Reps K m g H vs xs → xs[i]? = some x → ∃ v, vs[i]? = some v ∧ Rep K m g H v x := by
  induction i with
  | zero =>
    intro vs xs h e
    cases h with
    | nil => cases e
    | cons a t => cases e; exact ⟨_, rfl, a⟩
  | succ n ih =>
    intro vs xs h e
    cases h with
    | nil => cases e
    | cons a t => exact ih t (by simpa using e)
theorem Reps.perm {K : PySem.W.Frag} {m g : List Addr} {H : Hp} {vs : List V} {xs : List PV} (r : Reps K m g H vs xs) : ∀ is : List Nat, Reps K m g H (permL is vs) (permL is xs)
  | [] => .nil
  | i :: is => by
    unfold permL
    rw [List.filterMap_cons, List.filterMap_cons]
    have ih := Reps.perm r is
    have hl := r.length
    cases e : xs[i]? with
    | none =>
      have e2 : vs[i]? = none := List.getElem?_eq_none (by rw [hl]; exact List.getElem?_eq_none_iff.mp e)
      rw [e2]
      exact ih
    | some v =>
      obtain ⟨u, hu, ru⟩ := r.get' e
      rw [hu]
      exact .cons ru ih
def eCallK (F : FF) (n : Nat) (is : List Nat) (f : FA) : FE := fun env S => (f env S).bind fun xs S => if xs.length = n then F (permL is xs) S else .no
theorem s_callK {CX : CXT} {k : Nat} {ps ks : List Str} {is : List Nat} {F : FF} {kws : List Keyword} {nm : Str} (D : DefKw X.prog X.w X.K X.mg X.base CX nm ps ks is k F) (hr : Room k X.A) (hx : Passes CX X E0) (hkw : SK X kws fs) (hg : Gl X nm := by rfl)
    (hall : (backToKw pos (keywordEach kws X.env)).all (·.1.isSome) = true := by rfl) (hks : (backToKw pos (keywordEach kws X.env)).filterMap (·.1) = ks := by rfl) (hdb : (nm == ("__debug__" : Str)) = false := by decide)
    (hpl : ((backTo pos (starEach [] X.env)).any (·.1) || (backToKw pos (keywordEach kws X.env)).any (·.1.isNone)) = false := by rfl) : SE X (.Call (.Name nm p) [] kws pos) (eCallK F ks.length is fs) := by
  obtain ⟨f, fd, hm, hk, hb, hF⟩ := D.ex
  refine ⟨fun pins s σ H Q I h => ?_⟩
  refine wpAny_Call_Name_kw (ld_glob I hg hm ?_ hdb)
  refine PySem.W.callWith_KW0 (h₀ := X.base) I.ok.mod.kin hk hall ?_ hpl
  have q : tA X.K fs σ H fun vs H1 => vs.length = ks.length ∧ spOf X.K F (permL is vs) H1 Q E0 := by
    obtain ⟨m, g, S, env, so, eo, h⟩ := h
    refine lV so eo h fun xs S' vs m' g' H' nx so' eo' r h => ?_
    split at h
    · rename_i hl
      exact ⟨by rw [r.length]; exact hl, m', g', S', _, so', r.perm is, h⟩
    · exact h.elim
  refine thn (hkw.run pos pins s σ H _ I q) fun ws s2 ⟨zs, H2, I2, rz, l2, q2⟩ => ⟨I2.kIn, ?_⟩
  rw [hks]
  exact run_fnN (us := []) (vs := []) hF hr hb hx I2 .nil rz rfl l2 q2
theorem FunD.kw {K : PySem.W.Frag} {qual : Str} {params : Arguments} {body : List Stmt} {scope : Scope} {f : Addr} {fd : FuncData} {ps ks : List Str} {is : List Nat} {x : Str} (D : FunD K x qual params body scope [] [] f fd)
    (h : ∀ (kV doc pm : Value) (an : Option Addr) (cdv ct : Value) (ws : List Value), ws.length = ks.length → bindArgs (PySem.W.fnOf x qual params body scope .none kV doc pm an cdv ct) ⟨[], ks.zip ws⟩ = pure (ps.zip (permL is ws))) :
    KBn K fd ps 0 ks (fun _ ws => permL is ws) (fun _ zs => permL is zs) := by
  obtain ⟨oc, od, dV, kV, doc, pm, an, cdv, ct, osl, rfl, lk, hcd, hD, hK⟩ := D.ex
  rcases hD with ⟨_, rfl⟩ | ⟨e, _⟩
  · refine ⟨fun s us ws X l1 l2 => ?_, fun r1 r2 => Vals.perm r2 is⟩
    cases us with
    | nil => exact .of_eq (h kV doc pm an cdv ct ws l2)
    | cons _ _ => cases l1
  · exact absurd rfl e
section
variable {P : Program} {w : World} {K : PySem.W.Frag} {mg : Str → Option Value} {base : Heap} {qual : Str} {params : Arguments} {body : List Stmt} {scope : Scope} {f : Addr} {fd : FuncData} {N ps ks : List Str} {k : Nat} {is : List Nat}
theorem def_run {fs : FS} (D : FunD K x qual params body scope [] [] f fd) (S : FnScope N ps scope)
    (h : ∀ (cdv : Value) (A : Around) (outer : List Env) (s : Shared) (H : Hp) (E : XK), Room k (A.deeper (envOfC qual scope s.heap.objs.size f cdv)) → SSs (bodyCx P w K mg base N qual scope f cdv A outer s H E) body fs) :
    FnOk P w K mg base CX0 (k + 1) f fd ps (spOf K (fnOf ps.length N.length fs)) := D.ok S (sp_len fnOf_len) fun cdv A outer s H vs Q E hr hsp => ⟨tS K fs, PSs.nox (h cdv A outer s H E hr), fn_sp hsp⟩
theorem kw_of {F : FF} {CX : CXT} (O : FnOk P w K mg base CX k f fd ps (spOf K F)) (D : FunD K x qual params body scope [] [] f fd) (hm : mg x = some (.ref f))
    (h : ∀ (kV doc pm : Value) (an : Option Addr) (cdv ct : Value) (ws : List Value), ws.length = ks.length → bindArgs (PySem.W.fnOf x qual params body scope .none kV doc pm an cdv ct) ⟨[], ks.zip ws⟩ = pure (ps.zip (permL is ws))) : DefKw P w K mg base CX x ps ks is k F :=
  ⟨f, fd, hm, D.kp, FunD.kw D h, O⟩
theorem DefKw.mono {F : FF} {CX : CXT} {j : Nat} (D : DefKw P w K mg base CX x ps ks is j F) (h : j ≤ k) : DefKw P w K mg base CX x ps ks is k F := by
  obtain ⟨f, fd, h1, h2, h3, h4⟩ := D.ex
  exact ⟨f, fd, h1, h2, h3, h4.mono h⟩
theorem DefKw.imp {F F' : FF} {CX : CXT} (D : DefKw P w K mg base CX x ps ks is k F) (h : ∀ xs S v S', F' xs S = .ok v S' → F xs S = .ok v S') : DefKw P w K mg base CX x ps ks is k F' := by
  obtain ⟨f, fd, h1, h2, h3, h4⟩ := D.ex
  refine ⟨f, fd, h1, h2, h3, h4.imp fun vs H Q E ⟨m, g, S, xs, so, r, q⟩ => ⟨m, g, S, xs, so, r, ?_⟩⟩
  cases e : F' xs S with
  | no => rw [e] at q; exact q.elim
  | ok v S' => rw [h _ _ _ _ e, ← e]; exact q
end
end
end Pv

namespace Pv
open PySem PySem.Spec PyProof.Rows L2
theorem frz_to {K : PySem.W.Frag} {f : FA} {σ : L2.St} {H : Hp} {Q : V → Hp → Prop} (h : tO K (eFrz f) σ H Q) : tF K f σ H Q := by
  obtain ⟨m, g, S, env, so, eo, h⟩ := h
  refine ⟨m, g, S, env, so, eo, ?_⟩
  unfold eFrz at h
  unfold PostF
  cases ef : f env S with
  | no => rw [ef] at h; exact h
  | ok xs S' =>
    rw [ef] at h
    intro p vs m' g' H' nx np nm hp so' hp' r
    have sb := nx.subs so np hp so' nm
    exact h _ m' g' H' nx (so'.less sb) (.p (.lst ⟨hp', np⟩ (r.mono ⟨fun _ _ e _ => e, fun a z => .inl (List.mem_cons_of_mem _ z)⟩)))
/-- a new list, its cell: as PvC's s_cell, of the readings alone -/
theorem cell_to {K : PySem.W.Frag} {f : FA} {σ : L2.St} {H : Hp} {Q : V → Hp → Prop} (h : tO K (eCell f) σ H Q) : tF K f σ H Q := by
  obtain ⟨m, g, S, env, so, eo, h⟩ := h
  refine ⟨m, g, S, env, so, eo, ?_⟩
  unfold eCell at h
  unfold PostF
  cases ef : f env S with
  | no => rw [ef] at h; exact h
  | ok xs S' =>
    rw [ef] at h
    intro p vs m' g' H' nx np nm hp so' hp' r
    have sb := nx.subs so np hp so' nm
    obtain ⟨new, e1, e2⟩ := nx.app
    have el : m'.length = S'.length := so'.len
    refine h (.ref p) (m' ++ [p]) (p :: g') H' ⟨nx.ext, nx.free, ⟨new ++ [p], by rw [e1, List.append_assoc], fun a ha => ?_⟩, fun a z => List.mem_cons_of_mem _ (nx.gs a z), fun a z => ?_⟩ ⟨by simp [el], ?_, fun a z => ?_, so'.live, fun n a o h1 h2 => ?_⟩ (.r ?_)
    · rcases List.mem_append.mp ha with z | z
      · exact e2 a z
      · rw [List.mem_singleton.mp z]; exact hp
    · rcases List.mem_cons.mp z with z | z
      · rw [z]; exact .inr hp
      · exact nx.gn a z
    · rw [List.nodup_append]
      refine ⟨so'.nd, by simp, fun a ha b hb => ?_⟩
      rw [List.mem_singleton.mp hb]
      rintro rfl
      exact nm ha
    · rcases List.mem_append.mp z with z | z
      · exact so'.sub a z
      · rw [List.mem_singleton.mp z]; exact List.mem_cons_self
    · by_cases hn : n < m'.length
      · rw [List.getElem?_append_left hn] at h1
        rw [List.getElem?_append_left (by omega)] at h2
        exact so'.cell n a o h1 h2
      · have hn2 : n = m'.length := by
          have := (List.getElem?_eq_some_iff.mp h1).1
          simp at this
          omega
        subst hn2
        rw [List.getElem?_append_right (by omega)] at h1
        rw [List.getElem?_append_right (by omega)] at h2
        have z1 : m'.length - S'.length = 0 := by omega
        simp [z1] at h1 h2
        subst h1 h2
        exact ⟨vs, hp', r⟩
    · show (m' ++ [p])[S'.length]? = some p
      rw [← el]
      simp
section
variable {X : Cx} {e a b : Expr} {fa fb : FE} {pos p : Pos}
theorem set_to {K : PySem.W.Frag} {i : Nat} {f : FE} {D : Ends} {σ : L2.St} {H : Hp} (h : tS K (sSet i f) D σ H) : tO K f σ H fun v H1 => D.nx (σ.set i (some v)) H1 := by
  obtain ⟨m, g, S, env, so, eo, h⟩ := h
  exact vS so eo h fun x S' v m' g' H' nx so' eo' r h => h _ m' g' H' .refl so' (eo'.set r i)
/-- name = [..] on one line -/
theorem ss_setLf (i : Nat) {y : Str} {py : Pos} {elt tg iter : Expr} {ifs : List Expr} {scope : Scope} {own : List (Str × Nat)} {spos : Pos} {pt : Pat} {f : FI} {t : FT} {fe : FE} (hc : X.calm = true) (hN : X.N.Nodup) (hi : SI X tg iter f) (ok : BlkOk X.N X.env.scope scope own) (hsl : ∀ i ∈ slotsP pt, i ∈ own.map (·.2))
    (hg : ∀ (s : Shared) (H : Hp) (C : Addr) (cl : List (Str × Addr)) (fp : List Addr), GP (X.blk s H scope (compEnvC scope cl C X.env) fp) tg pt) (ht : ∀ (s : Shared) (H : Hp) (C : Addr) (cl : List (Str × Addr)) (fp : List Addr), STs (X.blk s H scope (compEnvC scope cl C X.env) fp) ifs t)
    (he : ∀ (s : Shared) (H : Hp) (C : Addr) (cl : List (Str × Addr)) (fp : List Addr), SE (X.blk s H scope (compEnvC scope cl C X.env) fp) elt fe) (hy : X.N[i]? = some y := by rfl) (hyl : X.env.scope.names.lookup y = some .local := by rfl)
    (hsw : swapsWith (.ListComp elt [⟨tg, iter, ifs, 0⟩] scope pos) (some (.Name y py)) spos.line X.env = pure true := by exact sw_true rfl rfl rfl rfl) (hs : ∀ x, foldedSetIterable iter X.env x = pure x := by intro _; rfl) :
    SS X (.Assign [.Name y py] (.ListComp elt [⟨tg, iter, ifs, 0⟩] scope pos) spos) (sSet i (eFrz (fLc pt f t fe (own.map (·.2))))) :=
  imS (ps_setLc (wi := tI X.K f) (g := gPat X.K pt) (tt := tT X.K t) (te := tO X.K fe) hc hN hy hyl hsw hi ok hg ht he hs) fun D σ H h => lc_read (Q := fun x H1 => gName i x σ H1 D.nx) hsl (frz_to (set_to h))
theorem ss_setLc (i : Nat) {y : Str} {py : Pos} {elt tg iter : Expr} {ifs : List Expr} {scope : Scope} {own : List (Str × Nat)} {spos : Pos} {pt : Pat} {f : FI} {t : FT} {fe : FE} (hc : X.calm = true) (hN : X.N.Nodup) (hi : SI X tg iter f) (ok : BlkOk X.N X.env.scope scope own) (hsl : ∀ i ∈ slotsP pt, i ∈ own.map (·.2))
    (hg : ∀ (s : Shared) (H : Hp) (C : Addr) (cl : List (Str × Addr)) (fp : List Addr), GP (X.blk s H scope (compEnvC scope cl C X.env) fp) tg pt) (ht : ∀ (s : Shared) (H : Hp) (C : Addr) (cl : List (Str × Addr)) (fp : List Addr), STs (X.blk s H scope (compEnvC scope cl C X.env) fp) ifs t)
    (he : ∀ (s : Shared) (H : Hp) (C : Addr) (cl : List (Str × Addr)) (fp : List Addr), SE (X.blk s H scope (compEnvC scope cl C X.env) fp) elt fe) (hy : X.N[i]? = some y := by rfl) (hyl : X.env.scope.names.lookup y = some .local := by rfl)
    (hsw : swapsWith (.ListComp elt [⟨tg, iter, ifs, 0⟩] scope pos) (some (.Name y py)) spos.line X.env = pure true := by exact sw_true rfl rfl rfl rfl) (hs : ∀ x, foldedSetIterable iter X.env x = pure x := by intro _; rfl) :
    SS X (.Assign [.Name y py] (.ListComp elt [⟨tg, iter, ifs, 0⟩] scope pos) spos) (sSet i (eCell (fLc pt f t fe (own.map (·.2))))) :=
  imS (ps_setLc (wi := tI X.K f) (g := gPat X.K pt) (tt := tT X.K t) (te := tO X.K fe) hc hN hy hyl hsw hi ok hg ht he hs) fun D σ H h => lc_read (Q := fun x H1 => gName i x σ H1 D.nx) hsl (cell_to (set_to h))
theorem ss_never {st : List Stmt} : SSs X st sNo := ⟨fun pins s σ H D I h => by
  obtain ⟨m, g, S, env, so, eo, h⟩ := h
  exact h.elim⟩
theorem units65 {k : Nat} {A : Around} (r : Room k A) : A.units + 65 < cLine := by have := r.un; omega
end
end Pv

namespace Pv
open PySem PySem.Spec PyProof.Rows L2
/-! ### the readings, told step by step -/
section
variable {env : VEnv} {S : Sto} {f g h : FE} {fs : FA} {t u : FT} {a b : FS} {v : PV} {i j l : Nat}
@[simp] theorem z_ok {α ρ : Type} (z : ρ) (a : α) (S : Sto) (k : α → Sto → ρ) : (R.ok a S).to z k = k a S := rfl
@[simp] theorem z_no {α ρ : Type} (z : ρ) (k : α → Sto → ρ) : (R.no : R α).to z k = z := rfl
@[simp] theorem z_con : eCon v env S = .ok v S := rfl
@[simp] theorem z_var : eVar i env S = match env[i]? with
  | some (some v) => .ok v S
  | _ => .no := rfl
@[simp] theorem z_bin {o : F2} : eBin o f g env S = (f env S).bind fun x S => (g env S).bind fun y S => o x y S := rfl
@[simp] theorem z_nil : aNil env S = .ok [] S := rfl
@[simp] theorem z_cons : aCons f fs env S = (f env S).bind fun x S => (fs env S).bind fun xs S => .ok (x :: xs) S := rfl
@[simp] theorem z_call {F : FF} : eCall F fs env S = (fs env S).bind fun xs S => F xs S := rfl
@[simp] theorem z_callK {F : FF} {n : Nat} {is : List Nat} : eCallK F n is fs env S = (fs env S).bind fun xs S => if xs.length = n then F (permL is xs) S else .no := rfl
@[simp] theorem z_tup : eTup fs env S = (fs env S).bind fun xs S => if (decide (xs.length ≤ SZ) && xs.all isP) = true then .ok (.tup xs) S else .no := rfl
@[simp] theorem z_frz : eFrz fs env S = (fs env S).bind fun xs S => .ok (.lst xs) S := rfl
@[simp] theorem z_cell : eCell fs env S = (fs env S).bind fun xs S => .ok (.ref S.length) (S ++ [.lst xs]) := rfl
@[simp] theorem z_disp : lDisp fs env S = (fs env S).bind fun xs S => if (decide (xs.length ≤ SZ) && xs.all isP) = true then .ok xs S else .no := rfl
@[simp] theorem z_toT : toT f env S = (f env S).bind fun x S => match x with
  | .bl b => .ok b S
  | _ => .no := rfl
@[simp] theorem z_and' : tAnd' t u env S = (t env S).bind fun b S => if b = true then u env S else .ok false S := rfl
@[simp] theorem z_or' : tOr' t u env S = (t env S).bind fun b S => if b = true then .ok true S else u env S := rfl
@[simp] theorem z_not' : tNot' t env S = (t env S).bind fun b S => .ok (!b) S := rfl
@[simp] theorem z_yes' : tYes' env S = .ok true S := rfl
@[simp] theorem z_and : eAnd f g env S = (f env S).bind fun x S => match x with
  | .bl true => g env S
  | .bl false => .ok (.bl false) S
  | _ => .no := rfl
@[simp] theorem z_or : eOr f g env S = (f env S).bind fun x S => match x with
  | .bl true => .ok (.bl true) S
  | .bl false => g env S
  | _ => .no := rfl
@[simp] theorem z_not : eNot f env S = (f env S).bind fun x S => match x with
  | .bl b => .ok (.bl (!b)) S
  | _ => .no := rfl
@[simp] theorem z_neg : eNeg f env S = (f env S).bind fun x S => match x with
  | .int i => .ok (.int (-i)) S
  | _ => .no := rfl
@[simp] theorem z_if : eIf t f g env S = (t env S).bind fun b S => if b = true then f env S else g env S := rfl
@[simp] theorem z_chain {o o' : F2} : eChain o o' f g h env S = (f env S).bind fun x S => (g env S).bind fun y S => (o x y S).bind fun z S => match z with
  | .bl true => (h env S).bind fun w S => o' y w S
  | .bl false => .ok (.bl false) S
  | _ => .no := rfl
@[simp] theorem z_meth {T : String} {G : FM} : eMeth T G f fs env S = (f env S).bind fun x S => if kdB T S x = true then (fs env S).bind fun xs S => G x xs S else .no := rfl
@[simp] theorem z_sl {lo hi : FO} : eSl f lo hi env S = (f env S).bind fun x S => (lo env S).bind fun l S => (hi env S).bind fun h S => oSl x l h S := rfl
@[simp] theorem z_oN : oNone env S = .ok none S := rfl
@[simp] theorem z_oS : oSome f env S = (f env S).bind fun x S => match x with
  | .int i => .ok (some i) S
  | _ => .no := rfl
@[simp] theorem z_rev : eRev f env S = (f env S).bind oRev := rfl
@[simp] theorem z_isi {T : String} : eIsi T f env S = (f env S).bind fun x S => match kitB (tyPV x) T with
  | some b => .ok (.bl b) S
  | none => .no := rfl
@[simp] theorem z_seq : sSeq a b env S = match a env S with
  | .nx env' S' => b env' S'
  | .ret v S' => .ret v S'
  | .no => .no := rfl
@[simp] theorem z_snil : sNil env S = .nx env S := rfl
@[simp] theorem z_ret : sRet f env S = (f env S).bindS fun x S => .ret x S := rfl
@[simp] theorem z_expr : sExpr f env S = (f env S).bindS fun _ S => .nx env S := rfl
@[simp] theorem z_set : sSet i f env S = (f env S).bindS fun x S => .nx (env.set i (some x)) S := rfl
@[simp] theorem z_sif : sIf t a b env S = (t env S).bindS fun k S => if k = true then a env S else b env S := rfl
@[simp] theorem z_asg {p : Pat} : sAsg p f env S = (f env S).bindS fun x S => match setPat p x env with
  | some env' => .nx env' S
  | none => .no := rfl
@[simp] theorem z_par : sPar i j fs env S = (fs env S).bindS fun xs S => match xs with
  | [x, y] => .nx ((env.set i (some x)).set j (some y)) S
  | _ => .no := rfl
@[simp] theorem z_par3 : sPar3 i j l fs env S = (fs env S).bindS fun xs S => match xs with
  | [x, y, z] => .nx (((env.set i (some x)).set j (some y)).set l (some z)) S
  | _ => .no := rfl
@[simp] theorem z_sub : sSub f g h env S = (h env S).bindS fun x S => (f env S).bindS fun o S => (g env S).bindS fun i S => match setCl S o i x with
  | some S' => .nx env S'
  | none => .no := rfl
@[simp] theorem z_dm : sDm f g j h env S = (h env S).bindS fun x S => match x with
  | .tup [p, q] => (f env S).bindS fun o S => (g env S).bindS fun i S => match setCl S o i p with
    | some S' => .nx (env.set j (some q)) S'
    | none => .no
  | _ => .no := rfl
@[simp] theorem z_for {p : Pat} {it : FI} : sFor p it a env S = (it env S).bindS fun items S => forGo p a items env S := rfl
@[simp] theorem z_it : iVal f env S = (f env S).bind fun x S => match seqI x with
  | some items => .ok items S
  | none => .no := rfl
@[simp] theorem z_fn {np N : Nat} {xs : List PV} : fnOf np N a xs S = if xs.length = np then outS S.length (a (startE N xs) S) else .no := rfl
@[simp] theorem z_rep {fo fa fb : FE} : eRep fo fa fb env S = (fo env S).bind fun x S => eRepK fa fb env x S := rfl
@[simp] theorem z_pn {x : PV} : setPat (.nm i) x env = some (env.set i (some x)) := rfl
@[simp] theorem z_pt {ps : List Pat} {xs : List PV} : setPat (.tp ps) (.tup xs) env = setPats ps xs env := rfl
@[simp] theorem z_ps0 : setPats [] [] env = some env := rfl
@[simp] theorem z_ps1 {p : Pat} {ps : List Pat} {x : PV} {xs : List PV} : setPats (p :: ps) (x :: xs) env = match setPat p x env with
  | some env' => setPats ps xs env'
  | none => none := rfl
@[simp] theorem z_lc {p : Pat} {it : FI} {vs : List Nat} : fLc p it t f vs env S = (it env S).bind fun items S => if items.length < SZ then lcGo p t f (wipeE env vs) S.length items S else .no := rfl
@[simp] theorem z_out_nx {n : Nat} : outS n (.nx env S) = .ok .non (S.take n) := rfl
@[simp] theorem z_out_no {n : Nat} : outS n .no = .no := rfl
@[simp] theorem z_out_ret {n : Nat} : outS n (.ret v S) = out n v S := rfl
theorem out_pure {n : Nat} (h : isP v = true) : out n v S = .ok v (S.take n) := by
  cases v with
  | ref => cases h
  | _ => rfl
@[simp] theorem z_out_bl {n : Nat} {k : Bool} : out n (.bl k) S = .ok (.bl k) (S.take n) := rfl
@[simp] theorem z_out_int {n : Nat} {k : Int} : out n (.int k) S = .ok (.int k) (S.take n) := rfl
@[simp] theorem z_out_non {n : Nat} : out n .non S = .ok .non (S.take n) := rfl
@[simp] theorem z_out_str {n : Nat} {k : List Nat} : out n (.str k) S = .ok (.str k) (S.take n) := rfl
@[simp] theorem z_out_tup {n : Nat} {k : List PV} : out n (.tup k) S = .ok (.tup k) (S.take n) := rfl
@[simp] theorem z_out_lst {n : Nat} {k : List PV} : out n (.lst k) S = .ok (.lst k) (S.take n) := rfl
end
/-! ### comprehensions, loops -/
/-- a comprehension whose parts leave the store, but for what they lay and let go -/
theorem lc_pure {p : Pat} {t : FT} {elt : FE} {env : VEnv} (S : Sto) (E : PV → VEnv) (b : PV → Bool) (y : PV → PV) : ∀ (items : List PV), (∀ x ∈ items, setPat p x env = some (E x)) → (∀ x ∈ items, t (E x) S = .ok (b x) S) →
    (∀ x ∈ items, b x = true → isP (y x) = true ∧ ∃ S', elt (E x) S = .ok (y x) S' ∧ S'.take S.length = S) → lcGo p t elt env S.length items S = .ok ((items.filter b).map y) S
  | [], _, _, _ => rfl
  | x :: xs, h1, h2, h3 => by
    have ih := lc_pure S E b y xs (fun z hz => h1 z (List.mem_cons_of_mem _ hz)) (fun z hz => h2 z (List.mem_cons_of_mem _ hz)) fun z hz => h3 z (List.mem_cons_of_mem _ hz)
    unfold lcGo
    rw [h1 x List.mem_cons_self]
    show (t (E x) S).bind _ = _
    rw [h2 x List.mem_cons_self, R.bind, z_ok]
    cases hb : b x with
    | false =>
      rw [if_neg Bool.false_ne_true, List.take_length, ih, List.filter_cons, hb]
      rfl
    | true =>
      obtain ⟨hp, S', e, et⟩ := h3 x List.mem_cons_self hb
      rw [if_pos rfl, e, R.bind, z_ok, if_pos hp, et, ih, List.filter_cons, hb]
      rfl
/-- a loop by an invariant -/
theorem for_inv {p : Pat} {body : FS} (I : Nat → VEnv → Sto → Prop) (items : List PV) (hs : ∀ (i : Nat) (x : PV) env S, items[i]? = some x → I i env S → ∃ env1 env2 S2, setPat p x env = some env1 ∧ body env1 S = .nx env2 S2 ∧ I (i + 1) env2 S2)
    {env : VEnv} {S : Sto} (h0 : I 0 env S) : ∃ env' S', forGo p body items env S = .nx env' S' ∧ I items.length env' S' := by
  have go : ∀ (n i : Nat) env S, n = items.length - i → i ≤ items.length → I i env S → ∃ env' S', forGo p body (items.drop i) env S = .nx env' S' ∧ I items.length env' S' := by
    intro n
    induction n with
    | zero =>
      intro i env S hn hi h
      have e : i = items.length := by omega
      subst e
      rw [List.drop_length]
      exact ⟨env, S, rfl, h⟩
    | succ n ih =>
      intro i env S hn hi h
      have hlt : i < items.length := by omega
      obtain ⟨env1, env2, S2, e1, e2, h2⟩ := hs i items[i] env S (List.getElem?_eq_getElem hlt) h
      obtain ⟨env', S', e3, h3⟩ := ih (i + 1) env2 S2 (by omega) hlt h2
      refine ⟨env', S', ?_, h3⟩
      rw [List.drop_eq_getElem_cons hlt]
      unfold forGo
      rw [e1]
      show (match body env1 S with
        | .nx env2 S2 => forGo p body (items.drop (i + 1)) env2 S2
        | .ret v S2 => .ret v S2
        | .no => .no) = _
      rw [e2]
      exact e3
  exact go items.length 0 env S rfl (Nat.zero_le _) h0
end Pv

namespace PySem
open Sem (wp)
/-- enumerate over what begins anyhow -/
theorem enm_new {v : Value} {o : Obj} {H : Heap → Prop} (B : Begins v o H) :
    Meets (Builtin.«enumerate.__new__» ⟨[.type "enumerate", v], []⟩) (fun _ R s => H s.heap ∧
      R (.ok (.ret (.ref (s.heap.push o).objs.size))) { s with heap := (s.heap.push o).push { cls := .type "enumerate", data := .fields #[.none, .bool false, .ref s.heap.objs.size, rawInt 0, .none, .none] } }) :=
  .of_wp fun prog w A R s h => by
    obtain ⟨hp, g, d, tk, os⟩ := s
    obtain ⟨h1, h⟩ := h
    have hsub := sub_enumerate
    have q1 : ∀ {A' : Around} {E : Value → Shared → Prop} {Q : Value → Shared → Prop}, Q (.ref hp.objs.size) ⟨(hp.push o), g, d, tk, os⟩ → wpAny (model prog w) A' (pyIter v) Q E ⟨hp, g, d, tk, os⟩ :=
      fun q => B.iter prog w _ _ ⟨hp, g, d, tk, os⟩ _ h1 q
    wp_walk
    refine wpAny_stack_any fun st => wpAny_pure ?_
    split
    · rename_i c _ _ _ _ _
      cases (c == Value.type "enumerate")
      · wp_walk using q1
        exact ⟨_, rfl, h⟩
      · wp_walk using q1
        exact ⟨_, rfl, h⟩
    · wp_walk using q1
      exact ⟨_, rfl, h⟩
section
variable {prog : Program} {w : World} {A : Around} {E : Value → Shared → Prop} {s : Shared}
theorem enm_begins {v : Value} {o : Obj} {H : Heap → Prop} {Q : Value → Shared → Prop} (B : Begins v o H) (h1 : H s.heap)
    (h : ∀ h', IsEnum h' (s.heap.objs.size + 1) s.heap.objs.size 0 .none → h'.get? s.heap.objs.size = some o → h'.objs.size = s.heap.objs.size + 2 →
      (∀ b o, s.heap.get? b = some o → h'.get? b = some o) → Q (.ref (s.heap.objs.size + 1)) { s with heap := h' }) :
    wpAny (model prog w) A (call (.type "enumerate") [v]) Q E s := by
  refine callType_new F.called_enumerate (by decide) (F.typeCall_enumerate_1 _) (F.newCall_enumerate_1 _) (fun obj => F.args_object_init_2 obj _) F.entry_enumerate_new
    (enm_new B) ⟨h1, ?_⟩
  have hz : (s.heap.push o).objs.size = s.heap.objs.size + 1 := Heap.size_push ..
  show _ ∧ _
  rw [hz]
  have he : IsEnum ((s.heap.push o).push { cls := .type "enumerate", data := .fields #[.none, .bool false, .ref s.heap.objs.size, rawInt 0, .none, .none] }) (s.heap.objs.size + 1) s.heap.objs.size 0 .none := by
    have z := Heap.get?_push_size (s.heap.push o) (o := { cls := .type "enumerate", data := .fields #[.none, .bool false, .ref s.heap.objs.size, rawInt 0, .none, .none] }) rfl
    rw [hz] at z
    exact z
  exact ⟨⟨_, he, rfl⟩, h _ he (Heap.get?_push_of_some _ (Heap.get?_push_size _ B.free)) (by rw [Heap.size_push, hz]) fun b o x => Heap.get?_push_of_some _ (Heap.get?_push_of_some _ x)⟩
end
end PySem
namespace Pv
open PySem PySem.Spec PyProof.Rows L2
/-! ### enumerate -/
def Ieg (K : PySem.W.Frag) (z : Zs) : It :=
  ⟨fun i H => ∃ xs : List V, z.Has K H xs ∧ i < xs.length,
    fun i H v H' => ∃ T x, v = .ref T ∧ H T = none ∧ H' = upd H T (.tup [.int (i : Nat), x]) ∧ ∀ xs, z.Has K H xs → xs[i]? = some x,
    fun i H => ∃ xs : List V, z.Has K H xs ∧ i = xs.length⟩
theorem turn_e {P : Program} {w : World} {K : PySem.W.Frag} {elts : List Expr} {kk : Nat} {tpos : Pos} {z : Zs} {N : Nat} (hN : ∀ b ∈ z.ad, b < N) :
    Turn P w K (.Tuple elts kk tpos) (Ieg K z) [N + 1, N] (N + 1) (fun i h => (∃ old, IsEnum h (N + 1) N ((0 : Int) + (i : Nat)) old) ∧ z.At N i h) where
  mem := by simp
  obj := fun i h st c hc => by
    obtain ⟨⟨old, he⟩, q1⟩ := st
    have e' : c = N + 1 ∨ c = N := by simpa using hc
    rcases e' with q | q
    · rw [q]; exact ⟨_, he, fun v q => nomatch q⟩
    · rw [q]; exact q1.obj
  keep := fun i h h' st k => by
    obtain ⟨⟨old, he⟩, q1⟩ := st
    exact ⟨⟨old, k (N + 1) (by simp) _ he⟩, q1.keep fun o q => k N (by simp) o q⟩
  item := by
    intro X hP hw hK hc i pins s σ H E I hf st hg
    subst hP hw hK
    obtain ⟨⟨old, he⟩, q1⟩ := st
    obtain ⟨xs, hq, hx⟩ := hg
    have hh : X.A.in1.handled = none := I.ok.hd hc
    obtain ⟨P1, St1, D1, f1, s1, g1⟩ := Zs.draws I hh hq (it := N) (fun b hb => Nat.ne_of_lt (hN b hb)) q1
    have hel : N + 1 < s.heap.objs.size := Heap.lt_size he
    have hef : N + 1 ∉ N :: z.ad := fun hm => by
      rcases List.mem_cons.mp hm with e | e
      · exact absurd e (neY (by decide))
      · exact absurd (hN _ e) (Nat.not_lt_of_le (Nat.le_succ N))
    refine wpAny_pyNext_enum_itemC D1 he s1 hx (neY (by decide)) hef fun x1 h' tk p1 ho n1 hT hsz hk => ?_
    obtain ⟨y1, e1, r1⟩ := f1 i x1 p1
    refine ⟨_, rfl, wpAny_letOwnedTupleGo_enum (s := { s with heap := h', toks := tk + 1 }) ho fun h'' z'' sb => ?_⟩
    have hT2 : h''.get? s.heap.objs.size = some { cls := .type "tuple", data := .seq #[.int ((0 : Int) + (i : Nat)) tk, x1] } := (sb.2 _ (Nat.ne_of_gt hel)).trans hT
    have e0 : (0 : Int) + ((i : Nat) : Int) = (i : Nat) := Int.zero_add _
    have new : ObjOk X.prog X.w (upd H s.heap.objs.size (.tup [.int (i : Nat), y1])) h'' s.heap.objs.size (.tup [.int (i : Nat), y1]) :=
      ⟨by show 2 ≤ sizeLine; decide, [.int ((0 : Int) + (i : Nat)) tk, x1], .cons ⟨tk, by rw [e0]⟩ (.cons r1 .nil), ⟨_, hT2, rfl, _, rfl⟩⟩
    have I1 : Inv X pins σ (upd H s.heap.objs.size (.tup [.int (i : Nat), y1])) { s with heap := h'', toks := tk + 1 } :=
      I.turnedNew (t' := tk + 1) (ch := [N + 1, N]) (fun c o hb q => (sb.2 c (fun q' => hb (by simp [q']))).trans (hk c o (fun q' => hb (by simp [q'])) (fun q' => hb (by simp [q'])) q)) hf (Nat.le_refl _) new
    refine ⟨.ref s.heap.objs.size, _, I1, rfl, ⟨_, y1, rfl, I.hok.fresh (Nat.le_refl _), rfl, fun l hl => by rw [Zs.inj I hl hq]; exact e1⟩, ⟨⟨x1, ?_⟩, ?_⟩, fun c hcm => ?_⟩
    · have e2 : (0 : Int) + ((i + 1 : Nat) : Int) = (0 : Int) + (i : Nat) + 1 := by omega
      rw [e2]
      exact z''
    · exact (g1 _ _ n1).keep fun o q => (sb.2 _ (neZ (by decide))).trans q
    · have hlt : c < s.heap.objs.size := by
        have e' : c = N + 1 ∨ c = N := by simpa using hcm
        rcases e' with q | q
        · rw [q]; exact hel
        · rw [q]; exact Nat.lt_of_succ_lt hel
      rw [upd_ne (Nat.ne_of_lt hlt)]
      exact (hf c hcm).1
  done := by
    intro X hP hw hK hc i pins s σ H E I hf st hg
    subst hP hw hK
    obtain ⟨⟨old, he⟩, q1⟩ := st
    obtain ⟨xs, hq, hend⟩ := hg
    have hh : X.A.in1.handled = none := I.ok.hd hc
    obtain ⟨P1, St1, D1, f1, s1, g1⟩ := Zs.draws I hh hq (it := N) (fun b hb => Nat.ne_of_lt (hN b hb)) q1
    subst hend
    exact wpAny_pyNext_enum_endD D1 he s1 fun h' hx => ⟨rfl, I.turnedL (t' := s.toks) (ch := [N + 1, N]) (fun c o hb q => hx c o (fun q' => hb (by simp [q'])) q) hf⟩
  self := fun A i s Q E st h => let ⟨⟨_, he⟩, _⟩ := st; wpAny_pyIter_enum he h
def iEnG (K : PySem.W.Frag) (ta : TA) : TI := fun σ H R => ta σ H fun vs H1 => ∃ z xs, vs = [Zs.val z] ∧ z.Has K H1 xs ∧ R (Ieg K z) H1
theorem pi_enumG {X : Cx} {e : Expr} {ta : TA} {p pos tpos : Pos} {elts : List Expr} {kk : Nat} (hg : Gl X "enumerate") (hm : X.mg "enumerate" = none) (ha : PA X [e] ta) (hs : starEach [e] X.env = [(false, eval e X.env)] := by rfl) :
    PI X (.Tuple elts kk tpos) (.Call (.Name "enumerate" p) [e] [] pos) (iEnG X.K ta) := by
  refine ⟨fun pins s σ H R I h => ?_⟩
  refine Call_ (ld_blt I hg hm boot_enumerate (PyProof.Rows.callWith_type1 (thn (ha.run pos pins s σ H _ I h) fun us s1 ⟨vs, H1, I1, r1, q1⟩ => ?_) hs rfl))
  obtain ⟨z, xs, ex, hq, q⟩ := q1
  subst ex
  cases r1 with
  | cons r rr =>
    cases rr
    obtain ⟨o1, G1, B1, b1, l1, a1⟩ := Zs.begins I1 hq r
    refine enm_begins B1 b1 fun h' he h1 hsz hk => wpAny_pyIter_enum he ?_
    have I2 : Inv X pins σ H1 { s1 with heap := h' } := I1.kept (t' := s1.toks) hk
    refine ⟨s1.heap.objs.size + 1, [s1.heap.objs.size + 1, s1.heap.objs.size], _, _, H1, rfl, I2, turn_e (N := s1.heap.objs.size) l1, ⟨⟨.none, he⟩, a1 _ _ h1⟩, fun c hcm => ?_, q⟩
    have e' : c = s1.heap.objs.size + 1 ∨ c = s1.heap.objs.size := by simpa using hcm
    have hle : s1.heap.objs.size ≤ c := by
      rcases e' with q | q
      · rw [q]; exact Nat.le_succ _
      · rw [q]; exact Nat.le_refl _
    exact I1.fpOk hle (I1.hok.fresh hle)
def iEnum' (f : FE) : FI := fun env S => (f env S).bind fun x S => match seqI x with
  | some items => .ok (items.zipIdx.map fun p => .tup [.int (p.2 : Nat), p.1]) S
  | none => .no
section
variable {X : Cx} {e a : Expr} {fa : FE} {pos p : Pos}
theorem si_enum {elts : List Expr} {kk : Nat} {tpos : Pos} (hg : Gl X "enumerate") (hm : X.mg "enumerate" = none) (ha : SE X a fa) (hs : starEach [a] X.env = [(false, eval a X.env)] := by rfl) (h1 : starEach [a] X.env = (false, eval a X.env) :: starEach [] X.env := by rfl) :
    SI X (.Tuple elts kk tpos) (.Call (.Name "enumerate" p) [a] [] pos) (iEnum' fa) := imI (pi_enumG hg hm (a_cons ha a_nil h1) hs) fun σ H R h => by
  obtain ⟨m, g, S, env, so, eo, h⟩ := h
  refine ⟨m, g, S, env, so, eo, ?_⟩
  unfold iEnum' at h
  unfold PostL aCons aNil
  cases ef : fa env S with
  | no => rw [ef] at h; exact h.elim
  | ok x S1 =>
    cases ex : seqI x with
    | none => simp only [ef, Pv.R.bind, Pv.R.to, ex] at h
    | some xs =>
      simp only [ef, Pv.R.bind, Pv.R.to, ex] at h ⊢
      intro vs m1 g1 H1 n1 so1 r1
      cases r1 with
      | cons rx rr =>
        cases rr
        obtain ⟨z1, v1, kd1, rfl, hz1⟩ := zs_of so1 rx ex
        have l1 := (hz1 m1 g1 H1 .refl).2.length
        refine ⟨z1, v1, rfl, (hz1 m1 g1 H1 .refl).1, h _ m1 g1 H1 n1 so1 ⟨fun i m' g' H' n hi => ⟨v1, (hz1 m' g' H' n).1, ?_⟩, fun i m' g' H' n hi => ⟨v1, (hz1 m' g' H' n).1, ?_⟩, fun i m' g' H' v H'' n s1 s2 hy => ?_⟩⟩
        · rw [List.length_map, List.length_zipIdx] at hi; omega
        · rw [List.length_map, List.length_zipIdx] at hi; omega
        · obtain ⟨T, x', rfl, hT, rfl, f1⟩ := hy
          obtain ⟨a1, b1⟩ := hz1 m' g' H' n
          have e1 := f1 v1 a1
          have i1 := (List.getElem?_eq_some_iff.mp e1).1
          obtain ⟨p, hp⟩ : ∃ x, xs[i]? = some x := ⟨_, List.getElem?_eq_getElem (by omega)⟩
          refine ⟨.tup [.int (i : Nat), p], fun _ => ?_, fun _ => ?_, .inr (.inl ⟨T, _, hT, rfl⟩)⟩
          · rw [List.getElem?_map, List.getElem?_zipIdx, hp]
            simp
          · obtain ⟨u, hu, ru⟩ := b1.get hp
            rw [hu] at e1
            cases e1
            have kp : Kp g' H' g' (upd H' T (.tup [.int (i : Nat), x'])) := (nx_new (m := m') hT).kp s1
            exact .tup (.inl ⟨.inl upd_same, fun hg => s2 T hg hT⟩) (.cons (.int _) (.cons (ru.mono kp) .nil))

/-! ### tuple(x), list(x) -/
def bTuple : FF := fun xs S => match xs with
  | [.tup xs] => .ok (.tup xs) S
  | [x] => match dlS S x with
    | some xs => .ok (.tup xs) S
    | none => .no
  | _ => .no
theorem c_tuple : Cal X (.type "tuple") bTuple := by
  intro pins s σ H vs us Q I rv h
  obtain ⟨m, g, S, xs, so, r, h⟩ := h
  unfold bTuple at h
  split at h
  · cases r with
    | cons r1 r2 =>
      cases r2
      obtain ⟨a, ws, rfl, f, q⟩ := r1.tup_inv
      exact call_tuple_of pins s σ H _ us Q I rv ⟨a, ws, rfl, .inr ⟨f.sq, post_p h so (.tup f q)⟩⟩
  · cases r with
    | cons r1 r2 =>
      cases r2
      split at h
      · rename_i ys hys
        obtain ⟨a, ws, rfl, f, q⟩ := dlS_ok so r1 hys
        exact call_tuple_of pins s σ H _ us Q I rv ⟨a, ws, rfl, .inl ⟨f, fun p np => post_t h so q np⟩⟩
      · exact h.elim
  · exact h.elim
def bList : FF := fun xs S => match xs with
  | [.tup xs] => .ok (.lst xs) S
  | [x] => match dlS S x with
    | some xs => .ok (.lst xs) S
    | none => .no
  | _ => .no
theorem c_list : Cal X (.type "list") bList := by
  intro pins s σ H vs us Q I rv h
  obtain ⟨m, g, S, xs, so, r, h⟩ := h
  unfold bList at h
  split at h
  · cases r with
    | cons r1 r2 =>
      cases r2
      obtain ⟨a, ws, rfl, f, q⟩ := r1.tup_inv
      exact call_list_of pins s σ H _ us Q I rv ⟨a, ws, rfl, .inr f.sq, fun p np => post_l h so q np⟩
  · cases r with
    | cons r1 r2 =>
      cases r2
      split at h
      · rename_i ys hys
        obtain ⟨a, ws, rfl, f, q⟩ := dlS_ok so r1 hys
        exact call_list_of pins s σ H _ us Q I rv ⟨a, ws, rfl, .inl f, fun p np => post_l h so q np⟩
      · exact h.elim
  · exact h.elim
end
end Pv

namespace Pv
open PySem PySem.Spec PyProof.Rows L2
/-! ### def f(letter): return G.replace(letter, ''), called with a fresh sign -/
def OthRun (P : Program) (w : World) (K : PySem.W.Frag) (mg : Str → Option Value) (base : Heap) (CX : CXT) (k : Nat) (f : Addr) (x : Str) : Prop :=
  ∀ (A : Around) (outer : List Env) (s : Shared) (H : Hp) (c : Nat) (u : Tok) (Q : VK) (E : XK), Room k A → Env0 P w K mg base A outer s H → 1 ≤ u → u < s.toks → Q (.str (Txt.replace x ⟨#[c]⟩ ⟨#[]⟩)) H →
    codeAny (model P w) A (.call (.ref f) ⟨[.str ⟨#[c]⟩ u], []⟩) (CR CX outer P w H s Q E) s
theorem oth_run {CX : CXT} {P : Program} {w : World} {K : PySem.W.Frag} {mg : Str → Option Value} {base : Heap} {k : Nat} {f : Addr} {fd : FuncData} {qual name x g a0 : Str} {tx : Tok} {params : Arguments} {scope : Scope}
    {N : List Str} {p1 p2 c1 apos cpos rpos : Pos} {kz : Nat} {body : List Stmt} (D : FunD K name qual params body scope [] [] f fd) (hbd : body = [.Return (some (.Call (.Attribute (.Name g p1) "replace" apos) [.Name a0 p2, .Constant (.str ⟨#[]⟩) kz c1] [] cpos)) rpos])
    (S : FnScope N [a0] scope) (hb : ∀ (kV doc pm : Value) (an : Option Addr) (cdv ct : Value) (us : List Value), us.length = 1 → bindArgs (PySem.W.fnOf name qual params body scope .none kV doc pm an cdv ct) ⟨us, []⟩ = pure ([a0].zip us))
    (h0 : scope.names.lookup a0 = some .local) (hg : ∀ n f cdv, (envOfC qual scope n f cdv).kindOf g = some .globalImplicit) (hm : mg g = some (.str x tx)) (hx : x.length ≤ SZ)
    (d0 : (a0 == ("__debug__" : Str)) = false) (dg : (g == ("__debug__" : Str)) = false) (hline : (apos.endLine == cpos.line) = true) : OthRun P w K mg base CX (k + 1) f x := by
  obtain ⟨oc, od, dV, kV, doc, pm, an, cdv, ct, osl, rfl, lk, hcd, hD, hK⟩ := D.ex
  rcases hD with ⟨_, rfl⟩ | ⟨e, _⟩
  · intro A outer s H c u Q E hr e0 hu1 hu2 q
    subst hbd
    have KX : K.In s.heap := e0.mod.kin.keeps fun b o e => (e0.bs b o e).1
    have lim : s.heap.NoLimit := e0.mod.nolimit.keeps fun b o e => (e0.bs b o e).1
    have hkind : ∀ v ∈ [a0].zip [Value.str ⟨#[c]⟩ u], scope.names.lookup v.1 = some .local ∨ (scope.names.lookup v.1 = some .cell ∧ ((cellsFrom (s.heap.objs.size + 1) scope.names []).lookup v.1).isSome = true) := fun ⟨n, v⟩ hy => by
      rcases S.par n (List.of_mem_zip hy).1 with q | q
      · exact .inl q
      · exact .inr ⟨q, PySem.W.cellsFrom_some _ _ _ (.inl q)⟩
    refine codeAny_call_function hr.depth (KX _ _ lk) rfl S.co S.gen rfl (PySem.W.codeRec_of KX hcd) (BindsTo.of_eq (hb kV doc pm an cdv ct [.str ⟨#[c]⟩ u] rfl) _ _ _ _ ?_)
    refine wpAny_with_toks (n := u + 1) hu2 ?_
    refine wpAny_newFunctionEnv_cells S.kind hkind fun env he s1 xx => ?_
    intro ht1
    subst he
    refine ⟨lim.keeps xx.toInCall.keep, codeAny_func ?_⟩
    have rv : Vals [V.str ⟨#[c]⟩] [Value.str ⟨#[c]⟩ u] := .cons ⟨u, rfl⟩ .nil
    have I : Inv (cxOf CX P w K mg base N qual scope f cdv A outer s H E) [] (start N [.str ⟨#[c]⟩]) H s1 := inv_start S hr.hd e0 rfl rv xx
    have hn := xx.toInCall.ns
    have m0 := bindL_get (kindOf := (envOfC qual scope s.heap.objs.size f cdv).kindOf) (x := a0) (v := Value.str ⟨#[c]⟩ u) (P := [a0]) (vs := [.str ⟨#[c]⟩ u]) (i := 0) (m := fun _ => none) (by simp) rfl rfl h0
    have fin : ∀ {σ' : L2.St} {H' : Hp} {v : V} {r : Value} {s' : Shared}, Inv (cxOf CX P w K mg base N qual scope f cdv A outer s H E) [] σ' H' s' → RelV v r → Q v H' → CE outer P w H s Q r s' :=
      fun {σ' H' v r s'} J rv q => ⟨v, H', J.os, J.bare, J.base, J.hok, rv, q⟩
    refine wpAny_execs_cons (wpAny_Return_some (PySem.Call_method2 rfl rfl hline (ld_glob I (hg _ _ _) hm ?_ dg)))
    refine ⟨"str", _, F.plainAttrs_str, F.slot_str_replace, F.type_str_replace, typeIs_str _ _ _, (fun _ e => nomatch e), Calls.callWith_builtin rfl (Calls.evalArgs_plain (Calls.spliced_cons ?_))⟩
    refine wpAny_Name (wpAny_loadName_local S.kind h0 hn m0 ?_) d0
    refine Calls.spliced_cons (Calls.Constant_str (Calls.spliced_nil ?_))
    exact PySem.SC.replace (show u ≠ 0 from Nat.pos_iff_ne_zero.mp hu1) (show s1.toks ≠ 0 from Nat.pos_iff_ne_zero.mp (Nat.lt_of_lt_of_le (Nat.succ_pos u) ht1)) (show u ≠ s1.toks from Nat.ne_of_lt ht1) ((str_beq [c] []).trans rfl) (by show x.length + (x.length + 1) * 0 ≤ SZ; omega) fun t' k => fin (v := V.str (Txt.replace x ⟨#[c]⟩ ⟨#[]⟩)) (r := Value.str _ t') ((I.tok _).tok k) ⟨t', rfl⟩ q
  · exact absurd rfl e
section
variable {X : Cx} {a : Expr} {fa : FE} {pos p : Pos}
def oOth2 (l : List Nat) (o : Option Nat) (S : Sto) : R PV := match o with
  | some c => .ok (.str (l.filter fun d => d != c)) S
  | none => .no
def oOth (l : List Nat) (i : Int) (x : PV) (S : Sto) : R PV := match x with
  | .str t => oOth2 l (atI t i) S
  | _ => .no
def eOth (l : List Nat) (i : Int) (f : FE) : FE := fun env S => (f env S).bind fun x S => oOth l i x S
/-- f(t[i]), t a text, i written -/
theorem s_oth {CX : CXT} {k : Nat} {f : Addr} {nm x : Str} {l : List Nat} {i : Int} {j : Nat} {p2 cp : Pos} (O : OthRun X.prog X.w X.K X.mg X.base CX k f x) (hl : x.cps.toList = l) (hok : strOkL l = true) (hr : Room k X.A) (hx : Passes CX X E0) (hm : X.mg nm = some (.ref f)) (hk : PySem.W.keepIn X.K (.ref f) = true) (ha : SE X a fa)
    (hg : Gl X nm := by rfl) (hdb : (nm == ("__debug__" : Str)) = false := by decide) (hs : PlainIx (.Constant (.int i) j cp) := by exact fun _ _ => rfl)
    (he : starEach [.Subscript a (.Constant (.int i) j cp) p2] X.env = (false, eval (.Subscript a (.Constant (.int i) j cp) p2) X.env) :: starEach [] X.env := by rfl) (hpl : (backTo pos (starEach [] X.env)).any (·.1) = false := by rfl) :
    SE X (.Call (.Name nm p) [.Subscript a (.Constant (.int i) j cp) p2] [] pos) (eOth l i fa) := by
  refine ⟨fun pins s σ H Q I h => ?_⟩
  obtain ⟨m, g, S, env, so, eo, h⟩ := h
  refine wpAny_Call_Name_kw (ld_glob I hg hm ?_ hdb)
  refine PySem.W.callWith_K (h₀ := X.base) I.ok.mod.kin hk ?_ he hpl
  rw [he]
  refine Calls.spliced_cons ?_
  refine Subscript_ (thn (ha.run pins s σ H _ I (vV (W := Q) (k := fun x S => oOth l i x S) so eo h fun x S1 v m1 g1 H1 n1 so1 eo1 r1 h1 =>
      (show ∃ m1 g1 S1 x, StOk X.K m1 g1 H1 S1 ∧ Rep X.K m1 g1 H1 v x ∧ PostV X.K m1 g1 H1 (oOth l i x S1) Q from ⟨m1, g1, S1, x, so1, r1, h1⟩))) fun vy s1 ⟨v1, H1, I1, rv, m1, g1, S1, y, so1, r1, h1⟩ => ?_)
  refine wpAny_Constant_int ?_
  cases y with
  | str t =>
    have h2 : PostV X.K m1 g1 H1 (oOth2 l (atI t i) S1) Q := h1
    cases hc : atI t i with
    | none => rw [hc] at h2; exact h2.elim
    | some c =>
      rw [hc] at h2
      have h2 : PostV X.K m1 g1 H1 (R.ok (PV.str (l.filter fun d => d != c)) S1) Q := h2
      obtain ⟨zy, rfl, e3, hz3, ho3⟩ := r1.str_inv
      subst e3
      obtain ⟨ty, rfl⟩ := rv
      obtain ⟨n, a1, a2, a3, a4, a5⟩ := atI_get hc
      have hlz : zy.cps.toList.length = zy.length := by simp [Str.length]
      rw [hlz] at a1 a4 a5
      have hn := line63
      have hzz : zy.length ≤ sizeLine := by rw [← SZ_eq, str_len rfl]; exact hz3
      refine PyProof.Rows.tail_any (typeIs_str _ zy ty) PyProof.Rows.slot_str_getitem.lookup (PyProof.Rows.getItem_str (c := c) (by
        have e1 : decide (i < -(2 ^ 63 : Int)) = false := decide_eq_false (by omega)
        have e2 : decide (i ≥ 2 ^ 63) = false := decide_eq_false (by omega)
        rw [e1, e2, Bool.or_false]) (by rw [a1]; simpa using a2) ?_) (hs _ _)
      refine Calls.spliced_nil ?_
      have I2 := (I1.tok (s1.toks + 1)).tok (s1.toks + 1 + 1)
      refine ⟨I2.kIn, wpAny_call (codeAny_mono (O X.A X.stack _ H1 c (s1.toks + 1) Q E0 hr I2.env0 (Nat.succ_pos _) (Nat.lt_succ_self _) (post_p h2 so1 (.str _ _ ?_ ?_ fun d hd => ?_))) fun r s' hq => ?_)⟩
      · rw [StrLaws.replace_list (by show 1 ≤ 1; omega), hl]
        exact replL_one c _
      · exact Nat.le_trans (List.length_filter_le _ _) (of_decide_eq_true (Bool.and_eq_true_iff.mp hok).1)
      · exact of_decide_eq_true (List.all_eq_true.mp (Bool.and_eq_true_iff.mp hok).2 d (List.mem_filter.mp hd).1)
      · cases r with
        | error e => exact hx pins σ H1 _ e s' I2 hq
        | ok fl =>
          cases fl with
          | ret u => exact I2.after hq
          | next => exact False.elim hq
          | brk => exact False.elim hq
          | cont => exact False.elim hq
  | _ => exact h1.elim
end
end Pv

namespace Pv
open PySem PySem.Spec PyProof.Rows L2
/-! ### tables of the module: texts are keys -/
structure Tab (K : PySem.W.Frag) (w : World) (d : Addr) (ks : List Str) : Prop where
  kd : ∃ es n, KDict K w d es n
  out : ∀ z, z ∉ ks → PySem.W.nsIn K d z = some none
  in_ : ∀ z, z ∈ ks → ∃ u, PySem.W.nsIn K d z = some (some u)
theorem keys_of {P : Params} : ∀ {l : List DictEntry} {ks : List Str}, l.map He.keyOf = He.keysIn P ks → ∀ z, (z ∉ ks → l.find? (·.key.isStr z) = none ∧ l.any (·.refKey) = false) ∧ (z ∈ ks → ∃ e, l.find? (·.key.isStr z) = some e)
  | [], [], _, z => ⟨fun _ => ⟨rfl, rfl⟩, fun h => by cases h⟩
  | [], k :: ks, h, z => by cases h
  | e :: r, [], h, z => by cases h
  | e :: r, k :: ks, h, z => by
    have h1 : He.keyOf e :: r.map He.keyOf = some (k, PyData.keyHash P k) :: He.keysIn P ks := h
    injection h1 with h2 h3
    have ih := keys_of h3 z
    have hk : ∃ t, e.key = .str k t := by
      unfold He.keyOf at h2
      split at h2
      · rename_i x t q
        have h4 := Option.some.inj h2
        obtain ⟨h5, h6⟩ := Prod.mk.inj h4
        exact ⟨t, by rw [q, h5]⟩
      · cases h2
    obtain ⟨t, hk⟩ := hk
    have he : e.key.isStr z = (k == z) := by rw [hk]; rfl
    have hr : e.refKey = false := by unfold DictEntry.refKey; rw [hk]
    constructor
    · intro hz
      simp only [List.mem_cons, not_or] at hz
      obtain ⟨i1, i2⟩ := ih.1 hz.2
      rw [List.find?_cons, he, List.any_cons, hr, i2, i1]
      have : (k == z) = false := beq_false_of_ne fun q => hz.1 q.symm
      rw [this]
      exact ⟨rfl, rfl⟩
    · intro hz
      rw [List.find?_cons, he]
      by_cases q : k = z
      · rw [beq_iff_eq.mpr q]; exact ⟨e, rfl⟩
      · rw [beq_false_of_ne q]
        rcases List.mem_cons.mp hz with q2 | hz
        · exact absurd q2.symm q
        · exact ih.2 hz
theorem tab_of {K : PySem.W.Frag} {w : World} {d : Addr} {ks : List Str} (h : He.dicW K d = some (He.keysIn w.params ks)) : Tab K w d ks := by
  obtain ⟨es, n, D⟩ := He.dicW_ok h
  have hl : es.toList.map He.keyOf = He.keysIn w.params ks := by
    have e := D.at_
    unfold He.dicW at h
    rw [e] at h
    have h : (match decide ("dict" = "dict") && ((#[] : Array (Option Value)).isEmpty && !(d == sysModules)) with
      | true => some (es.toList.map He.keyOf)
      | false => none) = some (He.keysIn w.params ks) := h
    split at h
    · exact Option.some.inj h
    · cases h
  have q := fun z => keys_of hl z
  refine ⟨⟨es, n, D⟩, fun z hz => ?_, fun z hz => ?_⟩
  · obtain ⟨q1, q2⟩ := (q z).1 hz
    unfold PySem.W.nsIn
    rw [D.at_]
    show (match es.toList.find? (·.key.isStr z) with
      | some e => some (some e.val)
      | none => if es.toList.any (·.refKey) then none else some none) = _
    rw [q1, q2]
    rfl
  · obtain ⟨e, q1⟩ := (q z).2 hz
    unfold PySem.W.nsIn
    rw [D.at_]
    refine ⟨e.val, ?_⟩
    show (match es.toList.find? (·.key.isStr z) with
      | some e => some (some e.val)
      | none => if es.toList.any (·.refKey) then none else some none) = _
    rw [q1]
theorem str_ext {a b : Str} (h : a.cps.toList = b.cps.toList) : a = b := by
  obtain ⟨a⟩ := a
  obtain ⟨b⟩ := b
  congr 1
  exact Array.toList_inj.mp h
def codesOf (ks : List Str) : List (List Nat) := ks.map fun z => z.cps.toList
theorem mem_codes {ks : List Str} {z : Str} : z.cps.toList ∈ codesOf ks ↔ z ∈ ks := by
  unfold codesOf
  constructor
  · intro h
    obtain ⟨y, hy, e⟩ := List.mem_map.mp h
    rw [← str_ext e]
    exact hy
  · exact fun h => List.mem_map_of_mem h
def eInT (ks : List (List Nat)) (f : FE) : FE := fun env S => (f env S).bind fun x S => match x with
  | .str l => .ok (.bl (decide (l ∈ ks))) S
  | _ => .no
section
variable {X : Cx} {a e ew : Expr} {es : List Expr} {fa fw : FE} {fs : FA} {pos p : Pos} {D : Str} {d : Addr} {ks : List Str}
theorem inT_of (T : Tab X.K X.w d ks) {σ : L2.St} {H : Hp} {Q : VK} (h : tO X.K (eInT (codesOf ks) fa) σ H Q) : tO X.K fa σ H fun x H1 => ∃ (z : Str) (r : Option Value), x = .str z ∧ V.ref d = .ref d ∧ PySem.W.nsIn X.K d z = some r ∧ Q (.bl r.isSome) H1 := by
  obtain ⟨m, g, S, env, so, eo, h⟩ := h
  refine vV so eo h fun x S1 u m1 g1 H1 n1 so1 eo1 r1 h1 => ?_
  cases x with
  | str l =>
    obtain ⟨z, rfl, e1, _, _⟩ := r1.str_inv
    subst e1
    have h1 : PostV X.K m1 g1 H1 (.ok (.bl (decide (z.cps.toList ∈ codesOf ks))) S1) Q := h1
    by_cases hz : z ∈ ks
    · obtain ⟨v, hv⟩ := T.in_ z hz
      rw [decide_eq_true (mem_codes.mpr hz)] at h1
      exact ⟨z, _, rfl, rfl, hv, h1 _ m1 g1 H1 .refl so1 (.p (.bl true))⟩
    · rw [decide_eq_false (fun q => hz (mem_codes.mp q))] at h1
      exact ⟨z, _, rfl, rfl, T.out z hz, h1 _ m1 g1 H1 .refl so1 (.p (.bl false))⟩
  | _ => exact h1.elim
theorem t_inT (T : Tab X.K X.w d ks) (hm : X.mg D = some (.ref d)) (ha : SE X a fa) (hg : Gl X D := by rfl) (hd : (D == ("__debug__" : Str)) = false := by decide) : ST X (.Compare a [.In] [.Name D p] pos) (toT (eInT (codesOf ks) fa)) := by
  obtain ⟨es, n, kd⟩ := T.kd
  exact imT (pt_cmpR (op_in_kd kd) ha (pe_glob (v := .ref d) hg hm rfl hd) in_mark) fun _ _ _ h => tTest_of (fun _ _ _ h => inT_of T h) h
def eNInT (ks : List (List Nat)) (f : FE) : FE := fun env S => (f env S).bind fun x S => match x with
  | .str l => .ok (.bl (!decide (l ∈ ks))) S
  | _ => .no
theorem ninT_of (T : Tab X.K X.w d ks) {σ : L2.St} {H : Hp} {Q : VK} (h : tO X.K (eNInT (codesOf ks) fa) σ H Q) : tO X.K fa σ H fun x H1 => ∃ (z : Str) (r : Option Value), x = .str z ∧ V.ref d = .ref d ∧ PySem.W.nsIn X.K d z = some r ∧ Q (.bl (!r.isSome)) H1 := by
  obtain ⟨m, g, S, env, so, eo, h⟩ := h
  refine vV so eo h fun x S1 u m1 g1 H1 n1 so1 eo1 r1 h1 => ?_
  cases x with
  | str l =>
    obtain ⟨z, rfl, e1, _, _⟩ := r1.str_inv
    subst e1
    have h1 : PostV X.K m1 g1 H1 (.ok (.bl (!decide (z.cps.toList ∈ codesOf ks))) S1) Q := h1
    by_cases hz : z ∈ ks
    · obtain ⟨v, hv⟩ := T.in_ z hz
      rw [decide_eq_true (mem_codes.mpr hz)] at h1
      exact ⟨z, _, rfl, rfl, hv, h1 _ m1 g1 H1 .refl so1 (.p (.bl false))⟩
    · rw [decide_eq_false (fun q => hz (mem_codes.mp q))] at h1
      exact ⟨z, _, rfl, rfl, T.out z hz, h1 _ m1 g1 H1 .refl so1 (.p (.bl true))⟩
  | _ => exact h1.elim
theorem t_ninT (T : Tab X.K X.w d ks) (hm : X.mg D = some (.ref d)) (ha : SE X a fa) (hg : Gl X D := by rfl) (hd : (D == ("__debug__" : Str)) = false := by decide) : ST X (.Compare a [.NotIn] [.Name D p] pos) (toT (eNInT (codesOf ks) fa)) := by
  obtain ⟨es, n, kd⟩ := T.kd
  exact imT (pt_cmpR (op_notIn_kd kd) ha (pe_glob (v := .ref d) hg hm rfl hd) in_mark) fun _ _ _ h => tTest_of (fun _ _ _ h => ninT_of T h) h

/-! ### a local that holds a def -/
/-- the def at f does F -/
structure AtF (P : Program) (w : World) (K : PySem.W.Frag) (mg : Str → Option Value) (base : Heap) (A : Around) (f : Addr) (F : FF) : Prop where
  ex : ∃ (k : Nat) (fd : FuncData) (ps : List Str), FnOk P w K mg base CX0 k f fd ps (spOf K F) ∧ Room k A ∧ PySem.W.keepIn K (.ref f) = true ∧ Binds K fd ps []
theorem AtF.of {P : Program} {w : World} {K : PySem.W.Frag} {mg : Str → Option Value} {base : Heap} {A : Around} {x : Str} {ps : List Str} {k : Nat} {f : Addr} {F : FF} (D : DefOk P w K mg base CX0 x ps k F) (hm : mg x = some (.ref f)) (hr : Room k A) : AtF P w K mg base A f F := by
  obtain ⟨f', fd, h1, h2, h3, h4⟩ := D.ex
  rw [hm] at h1
  cases h1
  exact ⟨k, fd, ps, h4, hr, h2, h3⟩
def tCallV (X : Cx) (i : Nat) (t : TA) : TE := fun σ H Q => ∃ f F, AtF X.prog X.w X.K X.mg X.base X.A f F ∧ σ[i]? = some (some (.ref f)) ∧ t σ H fun vs H1 => spOf X.K F vs H1 Q E0
theorem pe_callV {t : TA} {i : Nat} {x : Str} (hx : Passes CX0 X E0) (hN : X.N[i]? = some x) (hv : Vis X.env.scope x) (ha : PA X (e :: es) t)
    (hdb : (x == ("__debug__" : Str)) = false := by decide) (hcd : (x == ("__classdict__" : Str)) = false := by decide)
    (he : starEach (e :: es) X.env = (false, eval e X.env) :: starEach es X.env := by rfl) (hpl : (backTo pos (starEach es X.env)).any (·.1) = false := by rfl) : PE X (.Call (.Name x p) (e :: es) [] pos) (tCallV X i t) := by
  refine ⟨fun pins s σ H Q I h => ?_⟩
  obtain ⟨f, F, ⟨k, fd, ps, h1, h2, h3, h4⟩, hs, ht⟩ := h
  refine (pe_callL (i := i) (f := f) (sp := spOf X.K F) (dvs := []) (E := E0) h1 h2 hN hv h3 h4 .nil hx ha hdb hcd he hpl).run pins s σ H Q I ⟨hs, ?_⟩
  simp only [List.append_nil]
  exact ht
/-- j = D[e]; return j(es) -/
def sDisp (tab : List Nat → Option FF) (fw : FE) (fs : FA) : FS := fun env S => (fw env S).bindS fun x S => match x with
  | .str l => (match tab l with
    | some F => ((fs env S).bind fun xs S => F xs S).bindS fun v S => .ret v S
    | none => .no)
  | _ => .no
theorem EnvOk.drop {K : PySem.W.Frag} {m g : List Addr} {H : Hp} {σ : L2.St} {env : VEnv} (h : EnvOk K m g H σ env) (i : Nat) (v : Option V) (hi : ∀ x, env[i]? ≠ some (some x)) : EnvOk K m g H (σ.set i v) env := by
  refine ⟨by rw [List.length_set]; exact h.len, fun j x e => ?_⟩
  have hj : i ≠ j := fun q => hi x (q ▸ e)
  rw [List.getElem?_set_ne hj]
  exact h.at_ j x e
/-- the slot is let go -/
def dropE (i : Nat) (f : FS) : FS := fun env S => if i < env.length then f (env.set i none) S else .no
theorem drop_no {env : VEnv} {i : Nat} (x : PV) : (env.set i none)[i]? ≠ some (some x) := by
  intro q
  by_cases hl : i < env.length
  · rw [List.getElem?_set_self hl] at q; cases q
  · rw [List.getElem?_eq_none (by simpa using hl)] at q; cases q
theorem EnvOk.less {K : PySem.W.Frag} {m g : List Addr} {H : Hp} {σ : L2.St} {env : VEnv} (h : EnvOk K m g H σ env) (i : Nat) : EnvOk K m g H σ (env.set i none) := by
  refine ⟨by rw [List.length_set]; exact h.len, fun j x e => ?_⟩
  by_cases hj : i = j
  · subst hj; exact absurd e (drop_no x)
  · rw [List.getElem?_set_ne hj] at e
    exact h.at_ j x e
theorem ss_disp (j : Nat) {x : Str} {p1 p2 p3 p4 p5 p6 : Pos} {tab : List Nat → Option FF} (T : Tab X.K X.w d ks) (hm : X.mg D = some (.ref d)) (hN : X.N.Nodup) (hw : SE X ew fw) (ha : SA X (e :: es) fs) (hx : Passes CX0 X E0)
    (ht : ∀ l F, tab l = some F → ∃ (z : Str) (f : Addr), z.cps.toList = l ∧ PySem.W.nsIn X.K d z = some (some (.ref f)) ∧ AtF X.prog X.w X.K X.mg X.base X.A f F)
    (hj : X.N[j]? = some x := by rfl) (hl : Loc X.env.scope x := by first | exact Or.inl rfl | exact Or.inr rfl) (hv : Vis X.env.scope x := by first | rfl | exact Or.inl rfl | exact Or.inr rfl | decide +kernel) (hs : PlainIx ew := by exact fun _ _ => rfl) (hg : Gl X D := by rfl) (hd : (D == ("__debug__" : Str)) = false := by decide)
    (hsw : swapsWith (.Subscript (.Name D p3) ew p4) (some (.Name x p1)) p2.line X.env = pure false := by rfl) (hf : X.fn x = true ∨ X.env.scope.names.lookup x = some .local := by first | exact .inl rfl | exact .inr rfl | assumption)
    (hdb : (x == ("__debug__" : Str)) = false := by decide) (hcd : (x == ("__classdict__" : Str)) = false := by decide)
    (he : starEach (e :: es) X.env = (false, eval e X.env) :: starEach es X.env := by rfl) (hpl : (backTo p6 (starEach es X.env)).any (·.1) = false := by rfl) :
    SSs X [.Assign [.Name x p1] (.Subscript (.Name D p3) ew p4) p2, .Return (some (.Call (.Name x p5) (e :: es) [] p6)) pos] (dropE j (sDisp tab fw fs)) := by
  obtain ⟨es', n, kd⟩ := T.kd
  refine imSs (pss_cons (ps_set hN hj hl (pe_ix ix_kdict (pe_glob (v := .ref d) hg hm rfl hd) hw hs) hsw hf) (pss_one (ps_ret (pe_callV (i := j) hx hj hv ha hdb hcd he hpl)))) fun Ds σ H h => ?_
  obtain ⟨m, g, S, env, so, eo, h⟩ := h
  have hlj : j < env.length := by
    refine Classical.byContradiction fun q => ?_
    unfold dropE at h
    rw [if_neg q] at h
    exact h
  have h : PostS X.K m g H (sDisp tab fw fs (env.set j none) S) Ds := by
    unfold dropE at h
    rw [if_pos hlj] at h
    exact h
  have hlj : j < σ.length := by rw [eo.len]; exact hlj
  have eo' := eo.less j
  have hno : ∀ y, (env.set j none)[j]? ≠ some (some y) := drop_no
  refine vS so eo' (show PostS X.K m g H ((fw (env.set j none) S).bindS _) Ds from h) fun y S1 u m1 g1 H1 n1 so1 eo1 r1 h1 => ?_
  cases y with
  | str l =>
    obtain ⟨z, rfl, e1, _, _⟩ := r1.str_inv
    have h1 : PostS X.K m1 g1 H1 (match tab l with
      | some F => ((fs (env.set j none) S1).bind fun xs S => F xs S).bindS fun v S => .ret v S
      | none => .no) Ds := h1
    cases et : tab l with
    | none => rw [et] at h1; exact h1.elim
    | some F =>
      rw [et] at h1
      obtain ⟨z', f, q1, q2, q3⟩ := ht l F et
      obtain rfl : z' = z := str_ext (q1.trans e1.symm)
      refine ⟨d, z', .ref f, rfl, rfl, ⟨es', n, .ref f, kd.at_, kd.lit, q2, rfl⟩, ?_⟩
      have eo2 : EnvOk X.K m1 g1 H1 (σ.set j (some (.ref f))) (env.set j none) := eo1.drop j _ hno
      refine ⟨f, F, q3, by rw [List.getElem?_set_self hlj], ?_⟩
      have : tO X.K (eCall F fs) (σ.set j (some (.ref f))) H1 Ds.rt := vS so1 eo2 (f := eCall F fs) (k := fun v S => .ret v S) h1 fun y S2 v m2 g2 H2 n2 so2 eo2 r2 h2 => h2 v m2 g2 H2 .refl so2 r2
      exact eCall_sp this
  | _ => exact h1.elim
/-- i, j = D[e]; return a and j(es) -/
def sForm (tab : List Nat → Option (Int × FF)) (fw : FE) (i : Nat) (fa : FE) (fs : FA) : FS := fun env S => (fw env S).bindS fun x S => match x with
  | .str l => (match tab l with
    | some r => (eAnd fa (eCall r.2 fs) (env.set i (some (.int r.1))) S).bindS fun v S => .ret v S
    | none => .no)
  | _ => .no
theorem ss_form (i j : Nat) {y x : Str} {k : Nat} {p0 p1 p2 p3 p4 p5 p6 p7 p8 : Pos} {tab : List Nat → Option (Int × FF)} (T : Tab X.K X.w d ks) (hm : X.mg D = some (.ref d)) (hc : X.calm = true) (hN : X.N.Nodup) (hw : SE X ew fw) (hA : SE X a fa) (ha : SA X (e :: es) fs) (hx : Passes CX0 X E0)
    (ht : ∀ l r, tab l = some r → ∃ (z : Str) (t f : Addr), z.cps.toList = l ∧ PySem.W.nsIn X.K d z = some (some (.ref t)) ∧ (∀ H, SqT X.K H t [.int r.1, .ref f]) ∧ AtF X.prog X.w X.K X.mg X.base X.A f r.2)
    (hij : i ≠ j := by decide) (hi : X.N[i]? = some y := by rfl) (hj : X.N[j]? = some x := by rfl) (hl : Loc X.env.scope x := by first | exact Or.inl rfl | exact Or.inr rfl) (hli : Loc X.env.scope y := by first | exact Or.inl rfl | exact Or.inr rfl) (hv : Vis X.env.scope x := by first | rfl | exact Or.inl rfl | exact Or.inr rfl | decide +kernel) (hs : PlainIx ew := by exact fun _ _ => rfl) (hg : Gl X D := by rfl) (hd : (D == ("__debug__" : Str)) = false := by decide)
    (hfi : X.fn y = true ∨ X.env.scope.names.lookup y = some .local := by first | exact .inl rfl | exact .inr rfl | assumption) (hf : X.fn x = true ∨ X.env.scope.names.lookup x = some .local := by first | exact .inl rfl | exact .inr rfl | assumption)
    (hs2 : swapsWithSole [.Tuple [.Name y p0, .Name x p1] k p8] (.Subscript (.Name D p3) ew p4) p2.line X.env = pure false := by rfl) (hw2 : swappedStores [.Tuple [.Name y p0, .Name x p1] k p8] (.Subscript (.Name D p3) ew p4) X.env = pure none := by rfl)
    (h1 : (assignEach [.Tuple [.Name y p0, .Name x p1] k p8] X.env).map (·.2) = [assign (.Tuple [.Name y p0, .Name x p1] k p8) X.env] := by rfl)
    (hdb : (x == ("__debug__" : Str)) = false := by decide) (hcd : (x == ("__classdict__" : Str)) = false := by decide)
    (he : starEach (e :: es) X.env = (false, eval e X.env) :: starEach es X.env := by rfl) (hpl : (backTo p6 (starEach es X.env)).any (·.1) = false := by rfl) :
    SSs X [.Assign [.Tuple [.Name y p0, .Name x p1] k p8] (.Subscript (.Name D p3) ew p4) p2, .Return (some (.BoolOp .And [a, .Call (.Name x p5) (e :: es) [] p6] p7)) pos] (dropE j (sForm tab fw i fa fs)) := by
  obtain ⟨es', n, kd⟩ := T.kd
  refine imSs (pss_cons (ps_asg (pe_ix ix_kdict (pe_glob (v := .ref d) hg hm rfl hd) hw hs) (pg_tup hc (pgs_cons (pg_name hN hi hli hfi) (pgs_cons (pg_name hN hj hl hf) pgs_nil))) hs2 hw2 h1)
    (pss_one (ps_ret (pe_and hA (pe_one (pe_callV (i := j) hx hj hv ha hdb hcd he hpl)))))) fun Ds σ H h => ?_
  obtain ⟨m, g, S, env, so, eo, h⟩ := h
  have hlj : j < env.length := by
    refine Classical.byContradiction fun q => ?_
    unfold dropE at h
    rw [if_neg q] at h
    exact h
  have h : PostS X.K m g H (sForm tab fw i fa fs (env.set j none) S) Ds := by
    unfold dropE at h
    rw [if_pos hlj] at h
    exact h
  have hlj : j < σ.length := by rw [eo.len]; exact hlj
  have eo' := eo.less j
  have hno : ∀ y, (env.set j none)[j]? ≠ some (some y) := drop_no
  refine vS so eo' (show PostS X.K m g H ((fw (env.set j none) S).bindS _) Ds from h) fun y S1 u m1 g1 H1 n1 so1 eo1 r1 h1 => ?_
  cases y with
  | str l =>
    obtain ⟨z, rfl, e1, _, _⟩ := r1.str_inv
    have h1 : PostS X.K m1 g1 H1 (match tab l with
      | some r => (eAnd fa (eCall r.2 fs) ((env.set j none).set i (some (.int r.1))) S1).bindS fun v S => .ret v S
      | none => .no) Ds := h1
    cases et : tab l with
    | none => rw [et] at h1; exact h1.elim
    | some r =>
      rw [et] at h1
      obtain ⟨z', t, f, q1, q2, q3, q4⟩ := ht l r et
      obtain rfl : z' = z := str_ext (q1.trans e1.symm)
      refine ⟨d, z', .ref t, rfl, rfl, ⟨es', n, .ref t, kd.at_, kd.lit, q2, rfl⟩, ?_⟩
      refine ⟨t, _, rfl, q3 H1, rfl, _, _, rfl, _, _, rfl, rfl, ?_⟩
      have eo2 : EnvOk X.K m1 g1 H1 ((σ.set i (some (.int r.1))).set j (some (.ref f))) ((env.set j none).set i (some (.int r.1))) := by
        refine (eo1.set (.p (.int r.1)) i).drop j _ fun x q => ?_
        rw [List.getElem?_set_ne hij] at q
        exact hno x q
      have hsj : ((σ.set i (some (V.int r.1))).set j (some (.ref f)))[j]? = some (some (.ref f)) := by rw [List.getElem?_set_self (by rw [List.length_set]; exact hlj)]
      have key : tO X.K (eAnd fa (eCall r.2 fs)) ((σ.set i (some (V.int r.1))).set j (some (.ref f))) H1 Ds.rt := vS so1 eo2 (f := eAnd fa (eCall r.2 fs)) (k := fun v S => .ret v S) h1 fun y S2 v m2 g2 H2 n2 so2 eo2 r2 h2 => h2 v m2 g2 H2 .refl so2 r2
      obtain ⟨m3, g3, S3, env3, so3, eo3, h3⟩ := key
      refine vV so3 eo3 h3 fun x S4 w m4 g4 H4 n4 so4 eo4 r4 h4 => ?_
      cases x with
      | bl b =>
        cases r4 with
        | p r4 =>
          cases r4
          refine ⟨b, rfl, ?_⟩
          cases b with
          | true =>
            rw [if_pos rfl]
            exact ⟨f, r.2, q4, hsj, eCall_sp ⟨m4, g4, S4, env3, so4, eo4, h4⟩⟩
          | false => rw [if_neg Bool.false_ne_true]; exact h4 _ m4 g4 H4 .refl so4 (.p (.bl false))
      | _ => exact h4.elim
  | _ => exact h1.elim
end
end Pv

namespace Pv
open PySem PySem.Spec PyProof.Rows L2
/-! ### list(range(..)) -/
def okRg (a b : Int) : Bool := decide (-(2 ^ 62) ≤ a) && decide (a < 2 ^ 62) && decide (-(2 ^ 62) ≤ b) && decide (b < 2 ^ 62) && decide ((b - a).toNat ≤ 2 ^ 24)
theorem okRg_of {a b : Int} (h : okRg a b = true) : RgOk a b := by
  unfold okRg at h
  simp only [Bool.and_eq_true, decide_eq_true_eq] at h
  exact ⟨h.1.1.1.1, h.1.1.1.2, h.1.1.2, h.1.2, h.2⟩
theorem rg_reps {K : PySem.W.Frag} {g : List Addr} {H : Hp} {a b : Int} : RepsP K g H (rgV a b) (rgI a 1 (b - a).toNat) := by
  unfold rgV rgI
  generalize (b - a).toNat = n
  generalize List.range n = l
  induction l with
  | nil => exact .nil
  | cons k l ih =>
    rw [List.map_cons, List.map_cons]
    refine .cons ?_ ih
    rw [Int.mul_one]
    exact .int _
def lRg1 (f : FE) : FA := fun env S => (f env S).bind fun x S => match x with
  | .int n => if okRg 0 n = true then .ok (rgI 0 1 (n - 0).toNat) S else .no
  | _ => .no
def lRg2 (f g : FE) : FA := fun env S => (f env S).bind fun x S => (g env S).bind fun y S => match x, y with
  | .int m, .int n => if okRg m n = true then .ok (rgI m 1 (n - m).toNat) S else .no
  | _, _ => .no
section
variable {X : Cx} {a b : Expr} {fa fb : FE} {pos p p2 pos2 : Pos}
theorem f_lrg1 (hc : X.calm = true) (hl : X.mg "list" = none) (hr : X.mg "range" = none) (ha : SE X a fa) (hgl : Gl X "list" := by rfl) (hgr : Gl X "range" := by rfl) (na : starEach [a] X.env = (false, eval a X.env) :: starEach [] X.env := by rfl) : SF X (.Call (.Name "list" p) [.Call (.Name "range" p2) [a] [] pos2] [] pos) (lRg1 fa) := imE (pe_listRg hc hgl hl (prg_1 hgr hr ha na)) fun σ H Q h => by
  obtain ⟨m, g, S, env, so, eo, h⟩ := h
  refine vF so eo h fun x S1 u m1 g1 H1 n1 so1 eo1 r1 h1 => ?_
  cases x with
  | int n =>
    obtain rfl := r1.int_inv
    have h1 : PostF X.K m1 g1 H1 (if okRg 0 n = true then .ok (rgI 0 1 (n - 0).toNat) S1 else .no) Q := h1
    by_cases hk : okRg 0 n = true
    · rw [if_pos hk] at h1
      exact ⟨n, rfl, okRg_of hk, fun q np => post_new h1 .refl so1 rg_reps np⟩
    · rw [if_neg hk] at h1
      exact h1.elim
  | _ => exact h1.elim
theorem f_lrg2 (hc : X.calm = true) (hl : X.mg "list" = none) (hr : X.mg "range" = none) (ha : SE X a fa) (hb : SE X b fb) (hgl : Gl X "list" := by rfl) (hgr : Gl X "range" := by rfl) (na : starEach [a, b] X.env = (false, eval a X.env) :: starEach [b] X.env := by rfl) (nb : starEach [b] X.env = (false, eval b X.env) :: starEach [] X.env := by rfl) (hpl : (backTo pos2 (starEach [b] X.env)).any (·.1) = false := by rfl) : SF X (.Call (.Name "list" p) [.Call (.Name "range" p2) [a, b] [] pos2] [] pos) (lRg2 fa fb) := imE (pe_listRg hc hgl hl (prg_2 hgr hr ha hb na nb hpl)) fun σ H Q h => by
  obtain ⟨m, g, S, env, so, eo, h⟩ := h
  refine vF so eo h fun x S1 u m1 g1 H1 n1 so1 eo1 r1 h1 => ?_
  refine vF so1 eo1 h1 fun y S2 w m2 g2 H2 n2 so2 eo2 r2 h2 => ?_
  cases x with
  | int i =>
    cases y with
    | int j =>
      obtain rfl := r1.int_inv
      obtain rfl := r2.int_inv
      have h2 : PostF X.K m2 g2 H2 (if okRg i j = true then .ok (rgI i 1 (j - i).toNat) S2 else .no) Q := h2
      by_cases hk : okRg i j = true
      · rw [if_pos hk] at h2
        exact ⟨i, j, rfl, rfl, okRg_of hk, fun q np => post_new h2 .refl so2 rg_reps np⟩
      · rw [if_neg hk] at h2
        exact h2.elim
    | _ => exact h2.elim
  | _ => exact h2.elim
end
end Pv

namespace PySem
open Sem (wp)
section
variable {prog : Program} {w : World} {A : Around} {E : Value → Shared → Prop} {s : Shared}
/-- tuple(x), x a text, within tuple.__new__ -/
theorem tns_code {Z : Value → Shared → Prop} (hd : A.handled = none) (x : Str) (t : Tok) (hn : x.cps.size ≤ sizeLine)
    (go : ∀ (s' : Shared) (acc : Array Value), (∀ b o, s.heap.get? b = some o → s'.heap.get? b = some o) → s'.gens = s.gens → s'.drawn = s.drawn → s'.os = s.os → ItemsOf (SignAt x) acc x.cps.size →
      Z (.ref s'.heap.objs.size) { s' with heap := s'.heap.push { cls := .type "tuple", data := .seq acc } }) :
    codeAny (model prog w) A (.call (.builtin "tuple.__new__") ⟨[.type "tuple", .str x t], []⟩) (wants Z E) s := by
  refine codeAny_of_tree ?_
  show wpAny _ A.in1 (do checkBuiltinCall "tuple.__new__" ⟨[.type "tuple", .str x t], []⟩; again (.builtin "tuple.__new__" ⟨[.type "tuple", .str x t], []⟩)) _ _ s
  refine wpAny_bind (wpAny_of_eq (F.newCall_tuple_1 _) (wpAny_pure ⟨plainId_quiet F.plain_tuple_new _, codeAny_builtin F.entry_tuple_new ?_⟩))
  rw [Around.under_plainId F.plain_tuple_new _]
  have k1 := sub_tuple_self
  have k2 := init_tuple_lookup
  have k3 := madeHere_tuple
  have k4 : s.TypeIs (.str x t) "str" := rfl
  have k5 : A.in1.handled = none := hd
  have k6 := fun {Q : List Value → Shared → Prop} q => wpAny_collect_str (prog := prog) (w := w) (A := A.in1) (E := E) (s := s) (Q := Q) k5 x t q hn
  wp_walk using wpAny_typeOf k4, k6
  intro s' acc a1 a2 a3 a4 a5
  show wpAny _ _ (Builtin.Tuple.tupleExact acc.toList.toArray >>= fun v => ret v) _ _ _
  have k7 : acc.toList.toArray = acc := by simp
  rw [k7]
  unfold Builtin.Tuple.tupleExact
  refine wpAny_bind (wpAny_newObj_type (wpAny_pure (go s' acc a1 a2 a3 a4 a5)) ?_)
  show acc.size ≤ sizeLine
  rw [a5.1]; exact hn
theorem tns_call {Q : Value → Shared → Prop} (hd : A.handled = none) (x : Str) (t : Tok) (hn : x.cps.size ≤ sizeLine)
    (go : ∀ (s' : Shared) (acc : Array Value), (∀ b o, s.heap.get? b = some o → s'.heap.get? b = some o) → s'.gens = s.gens → s'.drawn = s.drawn → s'.os = s.os → ItemsOf (SignAt x) acc x.cps.size →
      Q (.ref s'.heap.objs.size) { s' with heap := s'.heap.push { cls := .type "tuple", data := .seq acc } }) :
    wpAny (model prog w) A (call (.type "tuple") [.str x t]) Q E s := by
  refine callType_codes (Q₁ := fun v s1 => s1.TypeIs v "tuple" ∧ Q v s1) F.called_tuple (F.typeCall_tuple_1 _) F.entry_object_init
    (tns_code (A := A.in1) hd x t hn fun s' acc a1 a2 a3 a4 a5 => ⟨⟨_, Heap.get?_push_size _ rfl, rfl⟩, go s' acc a1 a2 a3 a4 a5⟩) fun v s1 z => ?_
  exact ⟨z.1, F.args_object_init_2 v _, object_init_meets F.called_tuple.init.lookup F.called_tuple.made (by decide) prog w A.in1 _ s1 ⟨z.1, rfl, z.2⟩⟩
end
end PySem
namespace Pv
open PySem PySem.Spec PyProof.Rows L2
/-! ### list(x), tuple(x), x a text -/
theorem signs_vals {x : Str} {acc : Array Value} (h : ItemsOf (SignAt x) acc x.cps.size) : Vals (x.cps.toList.map fun c => V.str ⟨#[c]⟩) acc.toList := by
  refine L2.vals_of_at (by rw [List.length_map, Array.length_toList, Array.length_toList]; exact h.1.symm) fun j y u e1 e2 => ?_
  rw [List.getElem?_map] at e1
  have hj : acc[j]? = some u := by rw [← Array.getElem?_toList]; exact e2
  obtain ⟨c, k, e3, rfl⟩ := h.2 j u hj
  have e4 : x.cps.toList[j]? = some c := by rw [Array.getElem?_toList]; exact e3
  rw [e4] at e1
  cases e1
  exact ⟨k, rfl⟩
def bTupleX : FF := fun xs S => match xs with
  | [.str l] => .ok (.tup (l.map fun c => .str [c])) S
  | xs => bTuple xs S
def bListX : FF := fun xs S => match xs with
  | [.str l] => .ok (.lst (l.map fun c => .str [c])) S
  | xs => bList xs S
section
variable {X : Cx}
theorem c_listX (hc : X.calm = true) : Cal X (.type "list") bListX := by
  intro pins s σ H vs us Q I rv h
  obtain ⟨m, g, S, xs, so, r, h⟩ := h
  unfold bListX at h
  split at h
  · rename_i l
    cases r with
    | cons r1 r2 =>
      cases r2
      obtain ⟨z, rfl, e1, hz, ho⟩ := r1.str_inv
      obtain ⟨u, rfl, ru⟩ := vals1 rv
      obtain ⟨t, rfl⟩ := ru
      have hs : z.cps.size ≤ sizeLine := by rw [← Array.length_toList, e1, ← SZ_eq]; exact hz
      refine call_list_str (I.ok.hd hc) z t (fun h' tk acc c' hk hS ha => ?_) hs
      refine ⟨.ref s.heap.objs.size, upd H s.heap.objs.size (.lst (z.cps.toList.map fun c => V.str ⟨#[c]⟩)), I.laid hk (Nat.le_refl _) (show ObjOk X.prog X.w _ _ _ (.lst _) from ⟨?_, acc.toList, c', signs_vals ha, ?_⟩), rfl, ?_⟩
      · rw [List.length_map, Array.length_toList]; exact hs
      · rw [Array.toArray_toList]; exact hS
      · subst e1
        exact post_l h so (strs_rep ho) (I.hok.fresh (Nat.le_refl _))
  · exact c_list pins s σ H vs us Q I rv ⟨m, g, S, _, so, r, h⟩
theorem c_tupleX (hc : X.calm = true) : Cal X (.type "tuple") bTupleX := by
  intro pins s σ H vs us Q I rv h
  obtain ⟨m, g, S, xs, so, r, h⟩ := h
  unfold bTupleX at h
  split at h
  · rename_i l
    cases r with
    | cons r1 r2 =>
      cases r2
      obtain ⟨z, rfl, e1, hz, ho⟩ := r1.str_inv
      obtain ⟨u, rfl, ru⟩ := vals1 rv
      obtain ⟨t, rfl⟩ := ru
      have hs : z.cps.size ≤ sizeLine := by rw [← Array.length_toList, e1, ← SZ_eq]; exact hz
      refine tns_call (I.ok.hd hc) z t hs fun s' acc a1 a2 a3 a4 a5 => ?_
      have es : s' = { s with heap := s'.heap, toks := s'.toks } := by
        obtain ⟨h1, g1, d1, t1, o1⟩ := s'
        obtain ⟨h2, g2, d2, t2, o2⟩ := s
        simp only at a2 a3 a4
        subst a2 a3 a4
        rfl
      have I2 : Inv X pins σ H { s with heap := s'.heap, toks := s'.toks } := I.kept a1
      rw [es]
      refine ⟨.ref s'.heap.objs.size, upd H s'.heap.objs.size (.tup (z.cps.toList.map fun c => V.str ⟨#[c]⟩)), I2.laid (t' := s'.toks) (fun c o e => Heap.get?_push_of_some _ e) (Nat.le_refl _) (show ObjOk X.prog X.w _ _ _ (.tup _) from ⟨?_, acc.toList, signs_vals a5, ?_⟩), rfl, ?_⟩
      · rw [List.length_map, Array.length_toList]; exact hs
      · rw [Array.toArray_toList]; exact IsTup.new _ _
      · subst e1
        exact post_t h so (strs_rep ho) (I2.hok.fresh (Nat.le_refl _))
  · exact c_tuple pins s σ H vs us Q I rv ⟨m, g, S, _, so, r, h⟩
end
end Pv

namespace PySem
open Sem (wp)
/-- a zip, whatever its tuple's state is -/
abbrev ZipAt (h : Heap) (z TI TO : Addr) (u : Value) (f : Bool) : Prop :=
  h.get? z = some { cls := .type "zip", dict := none, data := .fields #[u, .bool f, .bool false, .ref TI, .ref TO], slots := #[] }
section
variable {prog : Program} {w : World} {A : Around} {E : Value → Shared → Prop} {s : Shared} {z TI TO i1 i2 : Addr} {fp1 fp2 : List Addr} {n1 n2 i : Nat} {P1 P2 : Nat → Value → Prop} {St1 St2 : Nat → Heap → Prop} {a1 a2 u : Value} {f : Bool}
/-- a turn of it where its tuple is free -/
theorem zq_free {Q : Value → Shared → Prop} (S : ZipSep2 z TI TO i1 i2 fp1 fp2) (D1 : Draws prog w A i1 fp1 n1 P1 St1) (D2 : Draws prog w A i2 fp2 n2 P2 St2)
    (gz : ZipAt s.heap z TI TO u f) (own : ∀ R : Bool → Shared → Prop, R true s → wpAny (model prog w) A (Builtin.SmallTypes.ownedTupleIsFree (.ref z)) R E s)
    (gI : IsTupOf2 s.heap TI (.ref i1) (.ref i2)) (gO : IsTupOf2 s.heap TO a1 a2) (t1 : St1 i s.heap) (t2 : St2 i s.heap) (l1 : i < n1) (l2 : i < n2)
    (hQ : ∀ x1 x2 h' tk, P1 i x1 → P2 i x2 → ZipAt h' z TI TO (rawInt s.heap.objs.size) false → IsTupOf2 h' TI (.ref i1) (.ref i2) → (∃ a b, IsTupOf2 h' TO a b) → St1 (i + 1) h' → St2 (i + 1) h' → IsTupOf2 h' s.heap.objs.size x1 x2 → h'.objs.size = s.heap.objs.size + 1 →
      (∀ c o, c ≠ z → c ≠ TO → c ≠ i1 → c ≠ i2 → s.heap.get? c = some o → h'.get? c = some o) → Q (.ref s.heap.objs.size) { s with heap := h', toks := tk }) :
    wpAny (model prog w) A (Builtin.«zip.__next__» ⟨[.ref z], []⟩) (fun fin s' => ∃ v, fin = .done (.ret v) ∧ Q v s') E s := by
  obtain ⟨m0, gg, dd, tt, ss⟩ := s
  show wpAny _ _ (field (.ref z) 2 >>= _) _ _ _
  refine wpAny_bind (wpAny_field gz rfl (x := .bool false) rfl ?_)
  show wpAny _ _ (field (.ref z) 3 >>= _) _ _ _
  refine wpAny_bind (wpAny_field gz rfl (x := .ref TI) rfl (wpAny_bind (wpAny_seqItems gI rfl ?_)))
  show wpAny _ _ (Builtin.SmallTypes.ownedTupleIsFree (.ref z) >>= _) _ _ _
  refine wpAny_bind (own _ ?_)
  simp only [if_true]
  refine wpAny_bind (wpAny_rule (wpAny_bind (wpAny_field gz rfl (x := .ref TO) rfl ?_)))
  refine wpAny_bind (wpAny_setField_rec gz (by simp) fun m1 gz1 k1 => ?_)
  replace gz1 : ZipAt m1 z TI TO .ellipsis f := gz1
  replace k1 : Heap.SameBut z m0 m1 := k1
  refine wpAny_bind ?_
  simp only [List.zipIdx_cons, List.zipIdx_nil, List.forIn_cons, List.forIn_nil]
  refine wpAny_bind (wpAny_bind (wpAny_onRaise ?_))
  show wpAny _ _ (Builtin.SmallTypes.nextOf (.ref i1) >>= _) _ _ ⟨m1, gg, dd, tt, ss⟩
  refine wpAny_bind (D1.item i _ _ _ l1 (D1.over t1 k1 S.zf1) fun x1 m2 tk1 px1 n1' k2 => wpAny_pure ?_)
  replace k2 : Heap.SameBut i1 m1 m2 := k2
  have gO2 : IsTupOf2 m2 TO a1 a2 := k2.extBut _ _ S.Ti1 (k1.extBut _ _ S.TOz gO)
  refine wpAny_bind (wpAny_seqItems (s := ⟨m2, gg, dd, tk1, ss⟩) gO2 rfl (wpAny_bind (updateSeq_IsTupOf2 (s := ⟨m2, gg, dd, tk1, ss⟩) gO2 fun m3 gO3 k3 => ?_)))
  replace gO3 : IsTupOf2 m3 TO x1 a2 := gO3
  replace k3 : Heap.SameBut TO m2 m3 := k3
  refine wpAny_bind (wpAny_letGo (wpAny_pure (wpAny_bind (wpAny_bind (wpAny_onRaise ?_)))))
  show wpAny _ _ (Builtin.SmallTypes.nextOf (.ref i2) >>= _) _ _ ⟨m3, gg, dd, tk1, ss⟩
  refine wpAny_bind (D2.item i _ _ _ l2 (D2.over (D2.over (D2.over t2 k1 S.zf2) k2 S.sep1_2) k3 S.Tf2) fun x2 m4 tk2 px2 n2' k4 => wpAny_pure ?_)
  replace k4 : Heap.SameBut i2 m3 m4 := k4
  have gO4 : IsTupOf2 m4 TO x1 a2 := k4.extBut _ _ S.Ti2 gO3
  refine wpAny_bind (wpAny_seqItems (s := ⟨m4, gg, dd, tk2, ss⟩) gO4 rfl (wpAny_bind (updateSeq_IsTupOf2 (s := ⟨m4, gg, dd, tk2, ss⟩) gO4 fun m5 gO5 k5 => ?_)))
  replace gO5 : IsTupOf2 m5 TO x1 x2 := gO5
  replace k5 : Heap.SameBut TO m4 m5 := k5
  refine wpAny_bind (wpAny_letGo (wpAny_pure (wpAny_pure (wpAny_bind (wpAny_seqItems (s := ⟨m5, gg, dd, tk2, ss⟩) gO5 rfl (wpAny_bind (wpAny_newTuple ?_)))))))
  have sz : m5.objs.size = m0.objs.size := by rw [k5.1, k4.1, k3.1, k2.1, k1.1]
  have gz5 : ZipAt m5 z TI TO .ellipsis f := k5.extBut _ _ S.TOz.symm (k4.extBut _ _ S.zi2 (k3.extBut _ _ S.TOz.symm (k2.extBut _ _ S.zi1 gz1)))
  have kk : ∀ c o, c ≠ z → c ≠ TO → c ≠ i1 → c ≠ i2 → m0.get? c = some o → m5.get? c = some o := fun c o cz cT c1 c2 e =>
    k5.extBut _ _ cT (k4.extBut _ _ c2 (k3.extBut _ _ cT (k2.extBut _ _ c1 (k1.extBut _ _ cz e))))
  have b1 : St1 (i + 1) m5 := D1.over (D1.over (D1.over n1' k3 S.Tf1) k4 S.sep2_1) k5 S.Tf1
  have b2 : St2 (i + 1) m5 := D2.over n2' k5 S.Tf2
  have zl : z < m5.objs.size := Heap.lt_size gz5
  show wpAny _ _ (Builtin.SmallTypes.ownedTupleHandOut (.ref z) (.ref m5.objs.size) >>= _) _ _ ⟨m5.push { cls := .type "tuple", data := .seq #[x1, x2] }, gg, dd, tk2, ss⟩
  refine wpAny_bind ?_
  unfold Builtin.SmallTypes.ownedTupleHandOut
  have gz6 : ZipAt (m5.push { cls := .type "tuple", data := .seq #[x1, x2] }) z TI TO .ellipsis f := Heap.get?_push_of_some _ gz5
  refine wpAny_bind (wpAny_setField_rec gz6 (by simp) fun m7 gz7 k7 => ?_)
  replace gz7 : ZipAt m7 z TI TO (rawInt m5.objs.size) f := gz7
  refine wpAny_setField_rec gz7 (by simp) fun m8 gz8 k8 => ?_
  replace gz8 : ZipAt m8 z TI TO (rawInt m5.objs.size) false := gz8
  replace k7 : Heap.SameBut z (m5.push { cls := .type "tuple", data := .seq #[x1, x2] }) m7 := k7
  replace k8 : Heap.SameBut z m7 m8 := k8
  have up : ∀ c o, c ≠ z → m5.get? c = some o → m8.get? c = some o := fun c o cz e => k8.extBut _ _ cz (k7.extBut _ _ cz (Heap.get?_push_of_some _ e))
  have gN : IsTupOf2 m8 m5.objs.size x1 x2 := k8.extBut _ _ (Nat.ne_of_gt zl) (k7.extBut _ _ (Nat.ne_of_gt zl) (Heap.get?_push_size _ rfl))
  have sz8 : m8.objs.size = m5.objs.size + 1 := by rw [k8.1, k7.1, Heap.size_push]
  rw [sz] at gz8 gN sz8
  refine wpAny_pure ⟨_, rfl, ?_⟩
  show Q (.ref m5.objs.size) ⟨m8, gg, dd, tk2, ss⟩
  rw [sz]
  exact hQ x1 x2 m8 tk2 px1 px2 gz8 (up _ _ S.TIz (kk _ _ S.TIz S.TITO S.TIi1 S.TIi2 gI)) ⟨_, _, up _ _ S.TOz gO5⟩ (D1.frame _ _ _ b1 fun b hb o e => up b o (fun q => S.zf1 (q ▸ hb)) e) (D2.frame _ _ _ b2 fun b hb o e => up b o (fun q => S.zf2 (q ▸ hb)) e) gN sz8 fun c o cz cT c1 c2 e => up c o cz (kk c o cz cT c1 c2 e)
/-- a turn of it where its tuple is still held -/
theorem zq_held {T : Addr} {oT : Obj} {Q : Value → Shared → Prop} (S : ZipSep2 z TI TO i1 i2 fp1 fp2) (D1 : Draws prog w A i1 fp1 n1 P1 St1) (D2 : Draws prog w A i2 fp2 n2 P2 St2)
    (gz : ZipAt s.heap z TI TO (rawInt T) f) (gT : s.heap.get? T = some oT)
    (gI : IsTupOf2 s.heap TI (.ref i1) (.ref i2)) (gO : IsTupOf2 s.heap TO a1 a2) (t1 : St1 i s.heap) (t2 : St2 i s.heap) (l1 : i < n1) (l2 : i < n2)
    (hQ : ∀ x1 x2 h' tk, P1 i x1 → P2 i x2 → ZipAt h' z TI TO (rawInt T) true → IsTupOf2 h' TI (.ref i1) (.ref i2) → (∃ a b, IsTupOf2 h' TO a b) → St1 (i + 1) h' → St2 (i + 1) h' → IsTupOf2 h' s.heap.objs.size x1 x2 → h'.objs.size = s.heap.objs.size + 1 →
      (∀ c o, c ≠ z → c ≠ TO → c ≠ i1 → c ≠ i2 → s.heap.get? c = some o → h'.get? c = some o) → Q (.ref s.heap.objs.size) { s with heap := h', toks := tk }) :
    wpAny (model prog w) A (Builtin.«zip.__next__» ⟨[.ref z], []⟩) (fun fin s' => ∃ v, fin = .done (.ret v) ∧ Q v s') E s := by
  obtain ⟨m0, gg, dd, tt, ss⟩ := s
  show wpAny _ _ (field (.ref z) 2 >>= _) _ _ _
  refine wpAny_bind (wpAny_field gz rfl (x := .bool false) rfl ?_)
  show wpAny _ _ (field (.ref z) 3 >>= _) _ _ _
  refine wpAny_bind (wpAny_field gz rfl (x := .ref TI) rfl (wpAny_bind (wpAny_seqItems gI rfl ?_)))
  show wpAny _ _ (Builtin.SmallTypes.ownedTupleIsFree (.ref z) >>= _) _ _ _
  refine wpAny_bind (wpAny_tupleHeld_zip gz gT fun m1 gz1 k1 => ?_)
  replace k1 : Heap.SameBut z m0 m1 := k1
  replace gz1 : ZipAt m1 z TI TO (rawInt T) true := gz1
  simp only [Bool.false_eq_true, if_false]
  refine wpAny_bind ?_
  rw [← Array.forIn_toList]
  simp only [List.forIn_cons, List.forIn_nil]
  refine wpAny_bind (wpAny_bind (wpAny_holding ?_))
  show wpAny _ _ (Builtin.SmallTypes.nextOf (.ref i1) >>= _) _ _ ⟨m1, gg, dd, tt, ss⟩
  refine wpAny_bind (D1.item i _ _ _ l1 (D1.over t1 k1 S.zf1) fun x1 m2 tk1 px1 n1' k2 => wpAny_pure (wpAny_pure ?_))
  replace k2 : Heap.SameBut i1 m1 m2 := k2
  refine wpAny_bind (wpAny_bind (wpAny_holding ?_))
  show wpAny _ _ (Builtin.SmallTypes.nextOf (.ref i2) >>= _) _ _ ⟨m2, gg, dd, tk1, ss⟩
  refine wpAny_bind (D2.item i _ _ _ l2 (D2.over (D2.over t2 k1 S.zf2) k2 S.sep1_2) fun x2 m3 tk2 px2 n2' k3 => wpAny_pure (wpAny_pure (wpAny_pure ?_)))
  replace k3 : Heap.SameBut i2 m2 m3 := k3
  show wpAny _ _ (newTuple [x1, x2] >>= _) _ _ ⟨m3, gg, dd, tk2, ss⟩
  refine wpAny_bind (wpAny_newTuple (wpAny_pure ⟨_, rfl, ?_⟩))
  have sz : m3.objs.size = m0.objs.size := by rw [k3.1, k2.1, k1.1]
  have gz3 : ZipAt m3 z TI TO (rawInt T) true := k3.extBut _ _ S.zi2 (k2.extBut _ _ S.zi1 gz1)
  have kk : ∀ c o, c ≠ z → c ≠ i1 → c ≠ i2 → m0.get? c = some o → (m3.push { cls := .type "tuple", data := .seq #[x1, x2] }).get? c = some o := fun c o cz c1 c2 e =>
    Heap.get?_push_of_some _ (k3.extBut _ _ c2 (k2.extBut _ _ c1 (k1.extBut _ _ cz e)))
  have gN : IsTupOf2 (m3.push { cls := .type "tuple", data := .seq #[x1, x2] }) m3.objs.size x1 x2 := Heap.get?_push_size _ rfl
  have sz4 : (m3.push { cls := .type "tuple", data := .seq #[x1, x2] }).objs.size = m3.objs.size + 1 := Heap.size_push ..
  have b1 : St1 (i + 1) (m3.push { cls := .type "tuple", data := .seq #[x1, x2] }) := D1.frame _ _ _ n1' fun b hb o e => Heap.get?_push_of_some _ (k3.extBut _ _ (fun q => S.sep2_1 (q ▸ hb)) e)
  have b2 : St2 (i + 1) (m3.push { cls := .type "tuple", data := .seq #[x1, x2] }) := D2.frame _ _ _ n2' fun b _ o e => Heap.get?_push_of_some _ e
  show Q (.ref m3.objs.size) ⟨m3.push { cls := .type "tuple", data := .seq #[x1, x2] }, gg, dd, tk2, ss⟩
  rw [sz] at gN sz4 ⊢
  exact hQ x1 x2 _ tk2 px1 px2 (Heap.get?_push_of_some _ gz3) (kk _ _ S.TIz S.TIi1 S.TIi2 gI) ⟨_, _, kk _ _ S.TOz S.Ti1 S.Ti2 gO⟩ b1 b2 gN sz4 fun c o cz _ c1 c2 e => kk c o cz c1 c2 e
/-- its end, the tuple free -/
theorem zq_endF {Q : Fin → Shared → Prop} (S : ZipSep2 z TI TO i1 i2 fp1 fp2) (D1 : Draws prog w A i1 fp1 n1 P1 St1) (D2 : Draws prog w A i2 fp2 n2 P2 St2)
    (gz : ZipAt s.heap z TI TO u f) (own : ∀ R : Bool → Shared → Prop, R true s → wpAny (model prog w) A (Builtin.SmallTypes.ownedTupleIsFree (.ref z)) R E s)
    (gI : IsTupOf2 s.heap TI (.ref i1) (.ref i2)) (gO : IsTupOf2 s.heap TO a1 a2) (t1 : St1 i s.heap) (t2 : St2 i s.heap) (l1 : i ≤ n1) (l2 : i ≤ n2) (l3 : i = n1 ∨ i = n2)
    (hE : ∀ h' tk e, (∀ c o, c ≠ z → c ≠ TO → c ≠ i1 → c ≠ i2 → s.heap.get? c = some o → h'.get? c = some o) → (∃ o, h'.get? e = some o ∧ o.cls = .type "StopIteration") → E (.ref e) { s with heap := h', toks := tk }) :
    wpAny (model prog w) A (Builtin.«zip.__next__» ⟨[.ref z], []⟩) Q E s := by
  obtain ⟨m0, gg, dd, tt, ss⟩ := s
  show wpAny _ _ (field (.ref z) 2 >>= _) _ _ _
  refine wpAny_bind (wpAny_field gz rfl (x := .bool false) rfl ?_)
  show wpAny _ _ (field (.ref z) 3 >>= _) _ _ _
  refine wpAny_bind (wpAny_field gz rfl (x := .ref TI) rfl (wpAny_bind (wpAny_seqItems gI rfl ?_)))
  show wpAny _ _ (Builtin.SmallTypes.ownedTupleIsFree (.ref z) >>= _) _ _ _
  refine wpAny_bind (own _ ?_)
  simp only [if_true]
  refine wpAny_bind (wpAny_rule (wpAny_bind (wpAny_field gz rfl (x := .ref TO) rfl ?_)))
  refine wpAny_bind (wpAny_setField_rec gz (by simp) fun m1 gz1 k1 => ?_)
  replace gz1 : ZipAt m1 z TI TO .ellipsis f := gz1
  replace k1 : Heap.SameBut z m0 m1 := k1
  refine wpAny_bind ?_
  simp only [List.zipIdx_cons, List.zipIdx_nil, List.forIn_cons, List.forIn_nil]
  refine wpAny_bind (wpAny_bind (wpAny_onRaise ?_))
  show wpAny _ _ (Builtin.SmallTypes.nextOf (.ref i1) >>= _) _ _ ⟨m1, gg, dd, tt, ss⟩
  have back : ∀ (q : Heap) (tk : Tok) (e : Addr), ZipAt q z TI TO .ellipsis f → (∃ o, q.get? e = some o ∧ o.cls = .type "StopIteration") → (∀ c o, c ≠ z → c ≠ TO → c ≠ i1 → c ≠ i2 → m0.get? c = some o → q.get? c = some o) →
      wpAny (model prog w) A (setField (.ref z) 0 .none) (fun _ s' => E (.ref e) s') E ⟨q, gg, dd, tk, ss⟩ := fun q tk e zq he kq => by
    obtain ⟨oe, g1, g2⟩ := he
    have ne : e ≠ z := fun x => by
      subst x
      rw [zq] at g1
      cases g1
      simp at g2
    refine wpAny_setField_rec (s := ⟨q, gg, dd, tk, ss⟩) zq (by simp) fun q' _ kz => ?_
    replace kz : Heap.SameBut z q q' := kz
    exact hE q' tk e (fun c o cz cT c1 c2 x => kz.extBut _ _ cz (kq c o cz cT c1 c2 x)) ⟨oe, kz.extBut _ _ ne g1, g2⟩
  by_cases hb : i < n1
  · refine wpAny_bind (D1.item i _ _ _ hb (D1.over t1 k1 S.zf1) fun x1 m2 tk1 px1 n1' k2 => wpAny_pure ?_)
    replace k2 : Heap.SameBut i1 m1 m2 := k2
    have gO2 : IsTupOf2 m2 TO a1 a2 := k2.extBut _ _ S.Ti1 (k1.extBut _ _ S.TOz gO)
    refine wpAny_bind (wpAny_seqItems (s := ⟨m2, gg, dd, tk1, ss⟩) gO2 rfl (wpAny_bind (updateSeq_IsTupOf2 (s := ⟨m2, gg, dd, tk1, ss⟩) gO2 fun m3 gO3 k3 => ?_)))
    replace k3 : Heap.SameBut TO m2 m3 := k3
    refine wpAny_bind (wpAny_letGo (wpAny_pure (wpAny_bind (wpAny_bind (wpAny_onRaise ?_)))))
    show wpAny _ _ (Builtin.SmallTypes.nextOf (.ref i2) >>= _) _ _ ⟨m3, gg, dd, tk1, ss⟩
    have e2 : i = n2 := by omega
    refine wpAny_bind (D2.done ⟨m3, gg, dd, tk1, ss⟩ _ _ (by rw [← e2]; exact D2.over (D2.over (D2.over t2 k1 S.zf2) k2 S.sep1_2) k3 S.Tf2) fun q e kq he => ?_)
    replace kq : Heap.ExtBut i2 m3 q := kq
    exact back q tk1 e (kq _ _ S.zi2 (k3.extBut _ _ S.TOz.symm (k2.extBut _ _ S.zi1 gz1))) he fun c o cz cT c1 c2 x => kq _ _ c2 (k3.extBut _ _ cT (k2.extBut _ _ c1 (k1.extBut _ _ cz x)))
  · have e1 : i = n1 := by omega
    refine wpAny_bind (D1.done ⟨m1, gg, dd, tt, ss⟩ _ _ (by rw [← e1]; exact D1.over t1 k1 S.zf1) fun q e kq he => ?_)
    replace kq : Heap.ExtBut i1 m1 q := kq
    exact back q tt e (kq _ _ S.zi1 gz1) he fun c o cz _ c1 _ x => kq _ _ c1 (k1.extBut _ _ cz x)
/-- its end, the tuple held -/
theorem zq_endH {T : Addr} {oT : Obj} {Q : Fin → Shared → Prop} (S : ZipSep2 z TI TO i1 i2 fp1 fp2) (D1 : Draws prog w A i1 fp1 n1 P1 St1) (D2 : Draws prog w A i2 fp2 n2 P2 St2)
    (gz : ZipAt s.heap z TI TO (rawInt T) f) (gT : s.heap.get? T = some oT)
    (gI : IsTupOf2 s.heap TI (.ref i1) (.ref i2)) (t1 : St1 i s.heap) (t2 : St2 i s.heap) (l1 : i ≤ n1) (l2 : i ≤ n2) (l3 : i = n1 ∨ i = n2)
    (hE : ∀ h' tk e, (∀ c o, c ≠ z → c ≠ TO → c ≠ i1 → c ≠ i2 → s.heap.get? c = some o → h'.get? c = some o) → (∃ o, h'.get? e = some o ∧ o.cls = .type "StopIteration") → E (.ref e) { s with heap := h', toks := tk }) :
    wpAny (model prog w) A (Builtin.«zip.__next__» ⟨[.ref z], []⟩) Q E s := by
  obtain ⟨m0, gg, dd, tt, ss⟩ := s
  show wpAny _ _ (field (.ref z) 2 >>= _) _ _ _
  refine wpAny_bind (wpAny_field gz rfl (x := .bool false) rfl ?_)
  show wpAny _ _ (field (.ref z) 3 >>= _) _ _ _
  refine wpAny_bind (wpAny_field gz rfl (x := .ref TI) rfl (wpAny_bind (wpAny_seqItems gI rfl ?_)))
  show wpAny _ _ (Builtin.SmallTypes.ownedTupleIsFree (.ref z) >>= _) _ _ _
  refine wpAny_bind (wpAny_tupleHeld_zip gz gT fun m1 gz1 k1 => ?_)
  replace k1 : Heap.SameBut z m0 m1 := k1
  simp only [Bool.false_eq_true, if_false]
  refine wpAny_bind ?_
  rw [← Array.forIn_toList]
  simp only [List.forIn_cons, List.forIn_nil]
  refine wpAny_bind (wpAny_bind (wpAny_holding ?_))
  show wpAny _ _ (Builtin.SmallTypes.nextOf (.ref i1) >>= _) _ _ ⟨m1, gg, dd, tt, ss⟩
  by_cases hb : i < n1
  · refine wpAny_bind (D1.item i _ _ _ hb (D1.over t1 k1 S.zf1) fun x1 m2 tk1 px1 n1' k2 => wpAny_pure (wpAny_pure ?_))
    replace k2 : Heap.SameBut i1 m1 m2 := k2
    refine wpAny_bind (wpAny_bind (wpAny_holding ?_))
    show wpAny _ _ (Builtin.SmallTypes.nextOf (.ref i2) >>= _) _ _ ⟨m2, gg, dd, tk1, ss⟩
    have e2 : i = n2 := by omega
    refine wpAny_bind (D2.done ⟨m2, gg, dd, tk1, ss⟩ _ _ (by rw [← e2]; exact D2.over (D2.over t2 k1 S.zf2) k2 S.sep1_2) fun q e kq he => ?_)
    replace kq : Heap.ExtBut i2 m2 q := kq
    exact hE q tk1 e (fun c o cz _ c1 c2 x => kq _ _ c2 (k2.extBut _ _ c1 (k1.extBut _ _ cz x))) he
  · have e1 : i = n1 := by omega
    refine wpAny_bind (D1.done ⟨m1, gg, dd, tt, ss⟩ _ _ (by rw [← e1]; exact D1.over t1 k1 S.zf1) fun q e kq he => ?_)
    replace kq : Heap.ExtBut i1 m1 q := kq
    exact hE q tt e (fun c o cz _ c1 _ x => kq _ _ c1 (k1.extBut _ _ cz x)) he
/-- whether its tuple is free -/
def ZOk (u : Value) (f : Bool) : Prop := (u = .none ∧ f = false) ∨ ∃ T : Addr, u = rawInt T
theorem own_none {R : Bool → Shared → Prop} (gz : ZipAt s.heap z TI TO .none false) (h : R true s) : wpAny (model prog w) A (Builtin.SmallTypes.ownedTupleIsFree (.ref z)) R E s := by
  unfold Builtin.SmallTypes.ownedTupleIsFree
  exact wpAny_bind (wpAny_field gz rfl (x := .none) rfl (wpAny_pure h))
theorem own_dead {T : Addr} {R : Bool → Shared → Prop} (gz : ZipAt s.heap z TI TO (rawInt T) f) (gT : s.heap.get? T = none) (h : R true s) : wpAny (model prog w) A (Builtin.SmallTypes.ownedTupleIsFree (.ref z)) R E s := by
  unfold Builtin.SmallTypes.ownedTupleIsFree
  refine wpAny_bind (wpAny_field gz rfl (x := rawInt T) rfl ?_)
  show wpAny _ _ (loadIfAlive ((T : Int).toNat) >>= _) _ _ _
  rw [Int.toNat_natCast]
  refine wpAny_bind ?_
  intro Γ p hΓ
  rw [show (loadIfAlive T : Sem (Option Obj)) = .loadIfAlive T .pure from rfl, Sem.wp_loadIfAlive, gT]
  exact (wpAny_pure (M := model prog w) (by
    simp only [Option.isNone_none, if_true]
    exact wpAny_pure h) : wpAny (model prog w) A (.pure none) _ E s) Γ p hΓ
/-- a thing out of it -/
theorem zq_item {Q : Value → Shared → Prop} (S : ZipSep2 z TI TO i1 i2 fp1 fp2) (D1 : Draws prog w A.in1 i1 fp1 n1 P1 St1) (D2 : Draws prog w A.in1 i2 fp2 n2 P2 St2) (ok : ZOk u f)
    (gz : ZipAt s.heap z TI TO u f) (gI : IsTupOf2 s.heap TI (.ref i1) (.ref i2)) (gO : IsTupOf2 s.heap TO a1 a2) (t1 : St1 i s.heap) (t2 : St2 i s.heap) (l1 : i < n1) (l2 : i < n2)
    (hQ : ∀ x1 x2 h' tk, P1 i x1 → P2 i x2 → (∃ u' f', ZOk u' f' ∧ ZipAt h' z TI TO u' f') → IsTupOf2 h' TI (.ref i1) (.ref i2) → (∃ a b, IsTupOf2 h' TO a b) → St1 (i + 1) h' → St2 (i + 1) h' → IsTupOf2 h' s.heap.objs.size x1 x2 → h'.objs.size = s.heap.objs.size + 1 →
      (∀ c o, c ≠ z → c ≠ TO → c ≠ i1 → c ≠ i2 → s.heap.get? c = some o → h'.get? c = some o) → Q (.ref s.heap.objs.size) { s with heap := h', toks := tk }) :
    wpAny (model prog w) A (Builtin.SmallTypes.nextOf (.ref z)) Q E s := by
  have ty : s.TypeIs (.ref z) "zip" := ⟨_, gz, rfl⟩
  unfold Builtin.SmallTypes.nextOf
  refine wpAny_bind (wpAny_callSpecial?_slot (name := Str.ofString "__next__") ty F.slot_zip_next (wpAny_call_entry F.slot_zip_next ty F.entry_zip_next ?_ (F.args_zip_next_1 _)))
  rcases ok with ⟨rfl, rfl⟩ | ⟨T, rfl⟩
  · exact zq_free S D1 D2 gz (fun R h => own_none gz h) gI gO t1 t2 l1 l2 fun x1 x2 h' tk p1 p2 b1 b2 b3 b4 b5 b6 b7 b8 => wpAny_pure (hQ x1 x2 h' tk p1 p2 ⟨_, _, .inr ⟨_, rfl⟩, b1⟩ b2 b3 b4 b5 b6 b7 b8)
  · cases gT : s.heap.get? T with
    | none => exact zq_free S D1 D2 gz (fun R h => own_dead gz gT h) gI gO t1 t2 l1 l2 fun x1 x2 h' tk p1 p2 b1 b2 b3 b4 b5 b6 b7 b8 => wpAny_pure (hQ x1 x2 h' tk p1 p2 ⟨_, _, .inr ⟨_, rfl⟩, b1⟩ b2 b3 b4 b5 b6 b7 b8)
    | some oT => exact zq_held S D1 D2 gz gT gI gO t1 t2 l1 l2 fun x1 x2 h' tk p1 p2 b1 b2 b3 b4 b5 b6 b7 b8 => wpAny_pure (hQ x1 x2 h' tk p1 p2 ⟨_, _, .inr ⟨_, rfl⟩, b1⟩ b2 b3 b4 b5 b6 b7 b8)
theorem zq_done {Q : Value → Shared → Prop} (S : ZipSep2 z TI TO i1 i2 fp1 fp2) (D1 : Draws prog w A.in1 i1 fp1 n1 P1 St1) (D2 : Draws prog w A.in1 i2 fp2 n2 P2 St2) (ok : ZOk u f)
    (gz : ZipAt s.heap z TI TO u f) (gI : IsTupOf2 s.heap TI (.ref i1) (.ref i2)) (gO : IsTupOf2 s.heap TO a1 a2) (t1 : St1 i s.heap) (t2 : St2 i s.heap) (l1 : i ≤ n1) (l2 : i ≤ n2) (l3 : i = n1 ∨ i = n2)
    (hE : ∀ h' tk e, (∀ c o, c ≠ z → c ≠ TO → c ≠ i1 → c ≠ i2 → s.heap.get? c = some o → h'.get? c = some o) → (∃ o, h'.get? e = some o ∧ o.cls = .type "StopIteration") → E (.ref e) { s with heap := h', toks := tk }) :
    wpAny (model prog w) A (Builtin.SmallTypes.nextOf (.ref z)) Q E s := by
  have ty : s.TypeIs (.ref z) "zip" := ⟨_, gz, rfl⟩
  unfold Builtin.SmallTypes.nextOf
  refine wpAny_bind (wpAny_callSpecial?_slot (name := Str.ofString "__next__") ty F.slot_zip_next (wpAny_call_entry F.slot_zip_next ty F.entry_zip_next ?_ (F.args_zip_next_1 _)))
  rcases ok with ⟨rfl, rfl⟩ | ⟨T, rfl⟩
  · exact zq_endF S D1 D2 gz (fun R h => own_none gz h) gI gO t1 t2 l1 l2 l3 hE
  · cases gT : s.heap.get? T with
    | none => exact zq_endF S D1 D2 gz (fun R h => own_dead gz gT h) gI gO t1 t2 l1 l2 l3 hE
    | some oT => exact zq_endH S D1 D2 gz gT gI t1 t2 l1 l2 l3 hE
/-- a turn of enumerate over what makes one new thing a turn -/
theorem ez_item {e it : Addr} {c : Int} {old : Value} {R : Heap → Tok → Prop} {Q : Option Value → Shared → Prop} (he : IsEnum s.heap e it c old)
    (inner : ∀ (q : Value → Shared → Prop) (er : Value → Shared → Prop), (∀ h' tk, R h' tk → IsEnum h' e it c old → h'.objs.size = s.heap.objs.size + 1 → q (.ref s.heap.objs.size) { s with heap := h', toks := tk }) → wpAny (model prog w) A.in1 (Builtin.SmallTypes.nextOf (.ref it)) q er s)
    (hQ : ∀ h1 tk h', R h1 tk → IsEnumOut h' e it (c + 1) (.ref s.heap.objs.size) (s.heap.objs.size + 1) → h'.get? (s.heap.objs.size + 1) = some { cls := .type "tuple", data := .seq #[.int c tk, .ref s.heap.objs.size] } → h'.objs.size = s.heap.objs.size + 2 →
      (∀ b o, b ≠ e → h1.get? b = some o → h'.get? b = some o) → Q (some (.ref (s.heap.objs.size + 1))) { s with heap := h', toks := tk + 1 }) :
    wpAny (model prog w) A (pyNext (.ref e)) Q E s := by
  have ty : s.TypeIs (.ref e) "enumerate" := ⟨_, he, rfl⟩
  unfold pyNext
  refine wpAny_bind (wpAny_attempt (wpAny_callSpecial?_slot (name := Str.ofString "__next__") ty F.slot_enumerate_next (wpAny_call_entry F.slot_enumerate_next ty F.entry_enumerate_next ?_ (F.args_enumerate_next_1 _))))
  obtain ⟨m0, gg, dd, tt, ss⟩ := s
  show wpAny _ _ (field (.ref e) 2 >>= _) _ _ _
  refine wpAny_bind (wpAny_field he rfl (x := .ref it) rfl (wpAny_bind (inner _ _ fun m1 tk r1 he1 sz1 => ?_)))
  replace he1 : IsEnum m1 e it c old := he1
  replace sz1 : m1.objs.size = m0.objs.size + 1 := sz1
  show wpAny _ _ (field (.ref e) 3 >>= _) _ _ ⟨m1, gg, dd, tk, ss⟩
  refine wpAny_bind (wpAny_field he1 rfl (x := rawInt c) rfl ?_)
  show wpAny _ _ (field (.ref e) 4 >>= _) _ _ ⟨m1, gg, dd, tk, ss⟩
  refine wpAny_bind (wpAny_field he1 rfl (x := .none) rfl ?_)
  show wpAny _ _ (mkInt c >>= _) _ _ ⟨m1, gg, dd, tk, ss⟩
  refine wpAny_bind (wpAny_mkInt ?_)
  show wpAny _ _ (setField (.ref e) 3 (rawInt (c + 1)) >>= _) _ _ ⟨m1, gg, dd, tk + 1, ss⟩
  refine wpAny_bind (wpAny_setField_rec he1 (by simp) fun m2 he2 k2 => ?_)
  replace k2 : Heap.SameBut e m1 m2 := k2
  replace he2 : IsEnum m2 e it (c + 1) old := he2
  show wpAny _ _ (setField (.ref e) 4 .none >>= _) _ _ ⟨m2, gg, dd, tk + 1, ss⟩
  refine wpAny_bind (wpAny_setField_rec he2 (by simp) fun m3 he3 k3 => ?_)
  replace k3 : Heap.SameBut e m2 m3 := k3
  replace he3 : IsEnum m3 e it (c + 1) old := he3
  show wpAny _ _ (newTuple [.int c tk, .ref m0.objs.size] >>= _) _ _ ⟨m3, gg, dd, tk + 1, ss⟩
  refine wpAny_bind (wpAny_newTuple ?_)
  have sz3 : m3.objs.size = m0.objs.size + 1 := by rw [k3.1, k2.1, sz1]
  have he4 : IsEnum (m3.push { cls := .type "tuple", data := .seq #[.int c tk, .ref m0.objs.size] }) e it (c + 1) old := Heap.get?_push_of_some _ he3
  have gN : (m3.push { cls := .type "tuple", data := .seq #[.int c tk, .ref m0.objs.size] }).get? m3.objs.size = some { cls := .type "tuple", data := .seq #[.int c tk, .ref m0.objs.size] } := Heap.get?_push_size _ rfl
  have sz4 : (m3.push { cls := .type "tuple", data := .seq #[.int c tk, .ref m0.objs.size] }).objs.size = m3.objs.size + 1 := Heap.size_push ..
  have kk : ∀ b o, b ≠ e → m1.get? b = some o → (m3.push { cls := .type "tuple", data := .seq #[.int c tk, .ref m0.objs.size] }).get? b = some o := fun b o hb x => Heap.get?_push_of_some _ (k3.extBut _ _ hb (k2.extBut _ _ hb x))
  have el : m0.objs.size + 1 ≠ e := by
    have q : e < m1.objs.size := Heap.lt_size he1
    rw [sz1] at q
    exact Nat.ne_of_gt q
  rw [sz3] at gN sz4
  show wpAny _ _ (Builtin.SmallTypes.ownedTupleIsFree (.ref e) >>= _) _ _ ⟨m3.push { cls := .type "tuple", data := .seq #[.int c tk, .ref m0.objs.size] }, gg, dd, tk + 1, ss⟩
  rw [sz3]
  generalize m3.push { cls := .type "tuple", data := .seq #[.int c tk, .ref m0.objs.size] } = m4 at he4 gN sz4 kk
  refine wpAny_bind ?_
  unfold Builtin.SmallTypes.ownedTupleIsFree
  refine wpAny_bind (wpAny_field he4 rfl (x := .none) rfl (wpAny_pure ?_))
  simp only [if_true]
  refine wpAny_bind (wpAny_rule (wpAny_bind (wpAny_field he4 rfl (x := old) rfl (wpAny_bind (wpAny_setField_rec he4 (by simp) fun m5 he5 k5 => ?_)))))
  replace k5 : Heap.SameBut e m4 m5 := k5
  replace he5 : IsEnum m5 e it (c + 1) (.ref m0.objs.size) := he5
  refine wpAny_bind ?_
  unfold Builtin.SmallTypes.ownedTupleHandOut
  refine wpAny_bind (wpAny_setField_rec he5 (by simp) fun m6 he6 k6 => ?_)
  replace k6 : Heap.SameBut e m5 m6 := k6
  replace he6 : IsEnumOut m6 e it (c + 1) (.ref m0.objs.size) (m0.objs.size + 1) := he6
  refine wpAny_setField_rec he6 (by simp) fun m7 he7 k7 => ?_
  replace k7 : Heap.SameBut e m6 m7 := k7
  replace he7 : IsEnumOut m7 e it (c + 1) (.ref m0.objs.size) (m0.objs.size + 1) := he7
  have up : ∀ b o, b ≠ e → m4.get? b = some o → m7.get? b = some o := fun b o hb x => k7.extBut _ _ hb (k6.extBut _ _ hb (k5.extBut _ _ hb x))
  exact wpAny_bind (wpAny_letGo (wpAny_pure ⟨_, rfl, wpAny_pure (hQ m1 tk m7 r1 he7 (up (m0.objs.size + 1) _ el gN) (by rw [k7.1, k6.1, k5.1, sz4]) fun b o hb x => up b o hb (kk b o hb x))⟩))
theorem ez_done {e it : Addr} {c : Int} {old : Value} {Q : Option Value → Shared → Prop} (he : IsEnum s.heap e it c old)
    (inner : ∀ (q : Value → Shared → Prop), wpAny (model prog w) A.in1 (Builtin.SmallTypes.nextOf (.ref it)) q (fun v s' => ∃ x o, v = .ref x ∧ s'.heap.get? x = some o ∧ o.cls = .type "StopIteration" ∧ Q none s') s) :
    wpAny (model prog w) A (pyNext (.ref e)) Q E s := by
  have ty : s.TypeIs (.ref e) "enumerate" := ⟨_, he, rfl⟩
  unfold pyNext
  refine wpAny_bind (wpAny_attempt (wpAny_callSpecial?_slot (name := Str.ofString "__next__") ty F.slot_enumerate_next (wpAny_call_entry F.slot_enumerate_next ty F.entry_enumerate_next ?_ (F.args_enumerate_next_1 _))))
  show wpAny _ _ (field (.ref e) 2 >>= _) _ _ _
  refine wpAny_bind (wpAny_field he rfl (x := .ref it) rfl (wpAny_bind ?_))
  refine wpAny_mono (inner _) (fun _ _ h => h) ?_
  rintro v s' ⟨x, o, rfl, g1, g2, q⟩
  exact wpAny_bind (wpAny_isInstance (T := "StopIteration") (b := true) ⟨o, g1, g2⟩ isSubtype_stop (wpAny_pure q))
end
end PySem
namespace PySem
open Sem (wp)
/-- enumerate over what walks itself -/
theorem enm_self {v : Value} {H : Heap → Prop} (B : ∀ (prog : Program) (w : World) (A : Around) (E : Value → Shared → Prop) (s : Shared) (Q : Value → Shared → Prop), H s.heap → Q v s → wpAny (model prog w) A (pyIter v) Q E s) :
    Meets (Builtin.«enumerate.__new__» ⟨[.type "enumerate", v], []⟩) (fun _ R s => H s.heap ∧
      R (.ok (.ret (.ref s.heap.objs.size))) { s with heap := s.heap.push { cls := .type "enumerate", data := .fields #[.none, .bool false, v, rawInt 0, .none, .none] } }) :=
  .of_wp fun prog w A R s h => by
    obtain ⟨hp, g, d, tk, os⟩ := s
    obtain ⟨h1, h⟩ := h
    have hsub := sub_enumerate
    have q1 : ∀ {A' : Around} {E : Value → Shared → Prop} {Q : Value → Shared → Prop}, Q v ⟨hp, g, d, tk, os⟩ → wpAny (model prog w) A' (pyIter v) Q E ⟨hp, g, d, tk, os⟩ :=
      fun q => B prog w _ _ ⟨hp, g, d, tk, os⟩ _ h1 q
    wp_walk
    refine wpAny_stack_any fun st => wpAny_pure ?_
    split
    · rename_i c _ _ _ _ _
      cases (c == Value.type "enumerate")
      · wp_walk using q1
        exact ⟨_, rfl, h⟩
      · wp_walk using q1
        exact ⟨_, rfl, h⟩
    · wp_walk using q1
      exact ⟨_, rfl, h⟩
theorem ens_begins {prog : Program} {w : World} {A : Around} {E : Value → Shared → Prop} {s : Shared} {z : Addr} {H : Heap → Prop} {Q : Value → Shared → Prop}
    (B : ∀ (prog : Program) (w : World) (A : Around) (E : Value → Shared → Prop) (s : Shared) (Q : Value → Shared → Prop), H s.heap → Q (.ref z) s → wpAny (model prog w) A (pyIter (.ref z)) Q E s) (h1 : H s.heap)
    (h : ∀ h', IsEnum h' s.heap.objs.size z 0 .none → h'.objs.size = s.heap.objs.size + 1 → (∀ b o, s.heap.get? b = some o → h'.get? b = some o) → Q (.ref s.heap.objs.size) { s with heap := h' }) :
    wpAny (model prog w) A (call (.type "enumerate") [.ref z]) Q E s := by
  refine callType_new F.called_enumerate (by decide) (F.typeCall_enumerate_1 _) (F.newCall_enumerate_1 _) (fun obj => F.args_object_init_2 obj _) F.entry_enumerate_new
    (enm_self B) ⟨h1, ?_⟩
  have he : IsEnum (s.heap.push { cls := .type "enumerate", data := .fields #[.none, .bool false, .ref z, rawInt 0, .none, .none] }) s.heap.objs.size z 0 .none := Heap.get?_push_size _ rfl
  exact ⟨⟨_, he, rfl⟩, h _ he (Heap.size_push ..) fun b o x => Heap.get?_push_of_some _ x⟩
end PySem
namespace Pv
open PySem PySem.Spec PyProof.Rows L2
/-! ### enumerate over a zip -/
def Iez (K : PySem.W.Frag) (z1 z2 : Zs) : It :=
  ⟨fun i H => ∃ (xs ys : List V), z1.Has K H xs ∧ z2.Has K H ys ∧ i < xs.length ∧ i < ys.length,
    fun i H v H' => ∃ T U x y, v = .ref U ∧ H T = none ∧ upd H T (.tup [x, y]) U = none ∧ H' = upd (upd H T (.tup [x, y])) U (.tup [.int (i : Nat), .ref T]) ∧ (∀ xs, z1.Has K H xs → xs[i]? = some x) ∧ ∀ ys, z2.Has K H ys → ys[i]? = some y,
    fun i H => ∃ xs ys : List V, z1.Has K H xs ∧ z2.Has K H ys ∧ i = min xs.length ys.length⟩
theorem mem6 {N c : Nat} : c ∈ [N + 5, N + 4, N + 2, N + 3, N, N + 1] ↔ N ≤ c ∧ c ≤ N + 5 := by
  simp only [List.mem_cons, List.not_mem_nil, or_false]
  omega
theorem ne6 {N c : Nat} (h : ¬(N ≤ c ∧ c ≤ N + 5)) : c ≠ N + 5 ∧ c ≠ N + 4 ∧ c ≠ N + 3 ∧ c ≠ N ∧ c ≠ N + 1 := by omega
theorem ne_s {N z : Nat} (h : N + 5 < z) : z + 1 ≠ N + 5 := by omega
theorem turn_ez {P : Program} {w : World} {K : PySem.W.Frag} {elts : List Expr} {kk : Nat} {tpos : Pos} {z1 z2 : Zs} {N : Nat} (h1 : ∀ b ∈ z1.ad, b < N) (h2 : ∀ b ∈ z2.ad, b < N) :
    Turn P w K (.Tuple elts kk tpos) (Iez K z1 z2) [N + 5, N + 4, N + 2, N + 3, N, N + 1] (N + 5) (fun i h => (∃ old, IsEnum h (N + 5) (N + 4) ((0 : Int) + (i : Nat)) old) ∧ (∃ u f, ZOk u f ∧ ZipAt h (N + 4) (N + 2) (N + 3) u f) ∧ IsTupOf2 h (N + 2) (.ref N) (.ref (N + 1)) ∧ (∃ x y, IsTupOf2 h (N + 3) x y) ∧ z1.At N i h ∧ z2.At (N + 1) i h) where
  mem := by simp
  obj := fun i h st c hc => by
    obtain ⟨⟨old, he⟩, ⟨u, f, _, hz⟩, hTI, ⟨x, y, hTO⟩, q1, q2⟩ := st
    have e' : c = N + 5 ∨ c = N + 4 ∨ c = N + 2 ∨ c = N + 3 ∨ c = N ∨ c = N + 1 := by simpa using hc
    rcases e' with q | q | q | q | q | q
    · rw [q]; exact ⟨_, he, fun v q => nomatch q⟩
    · rw [q]; exact ⟨_, hz, fun v q => nomatch q⟩
    · rw [q]; exact ⟨_, hTI, fun v q => nomatch q⟩
    · rw [q]; exact ⟨_, hTO, fun v q => nomatch q⟩
    · rw [q]; exact q1.obj
    · rw [q]; exact q2.obj
  keep := fun i h h' st k => by
    obtain ⟨⟨old, he⟩, ⟨u, f, ok, hz⟩, hTI, ⟨x, y, hTO⟩, q1, q2⟩ := st
    exact ⟨⟨old, k (N + 5) (by simp) _ he⟩, ⟨u, f, ok, k (N + 4) (by simp) _ hz⟩, k (N + 2) (by simp) _ hTI, ⟨x, y, k (N + 3) (by simp) _ hTO⟩, q1.keep fun o q => k N (by simp) o q, q2.keep fun o q => k (N + 1) (by simp) o q⟩
  item := by
    intro X hP hw hK hc i pins s σ H E I hf st hg
    subst hP hw hK
    obtain ⟨⟨old, he⟩, ⟨u, f, ok, hz⟩, hTI, ⟨x0, y0, hTO⟩, q1, q2⟩ := st
    obtain ⟨xs, ys, hqx, hqy, hx, hy⟩ := hg
    have hh : X.A.in1.in1.handled = none := I.ok.hd hc
    obtain ⟨P1, St1, D1, f1, s1, g1⟩ := Zs.draws I hh hqx (it := N) (fun b hb => Nat.ne_of_lt (h1 b hb)) q1
    obtain ⟨P2, St2, D2, f2, s2, g2⟩ := Zs.draws I hh hqy (it := N + 1) (fun b hb => Nat.ne_of_lt (Nat.lt_succ_of_lt (h2 b hb))) q2
    have hzl : N + 5 < s.heap.objs.size := Heap.lt_size he
    refine ez_item (R := fun h' tk => ∃ x1 x2, P1 i x1 ∧ P2 i x2 ∧ (∃ u f, ZOk u f ∧ ZipAt h' (N + 4) (N + 2) (N + 3) u f) ∧ IsTupOf2 h' (N + 2) (.ref N) (.ref (N + 1)) ∧ (∃ a b, IsTupOf2 h' (N + 3) a b) ∧ St1 (i + 1) h' ∧ St2 (i + 1) h' ∧ IsTupOf2 h' s.heap.objs.size x1 x2 ∧ h'.objs.size = s.heap.objs.size + 1 ∧
      ∀ c o, c ≠ N + 4 → c ≠ N + 3 → c ≠ N → c ≠ N + 1 → s.heap.get? c = some o → h'.get? c = some o) he (fun q er go => zq_item (zip_sep2 h1 h2) D1 D2 ok hz hTI hTO s1 s2 hx hy fun x1 x2 h' tk p1 p2 b1 b2 b3 b4 b5 b6 b7 b8 =>
        go h' tk ⟨x1, x2, p1, p2, b1, b2, b3, b4, b5, b6, b7, b8⟩ (b8 _ _ (neA (by decide)) (neA (by decide)) (neY (by decide)) (neA (by decide)) he) b7) fun m1 tk h' r1 ho gU sz kq => ?_
    obtain ⟨x1, x2, p1, p2, b1, b2, b3, b4, b5, b6, b7, b8⟩ := r1
    obtain ⟨y1, e1, r1⟩ := f1 i x1 p1
    obtain ⟨y2, e2, r2⟩ := f2 i x2 p2
    refine ⟨_, rfl, wpAny_letOwnedTupleGo_enum (s := { s with heap := h', toks := tk + 1 }) ho fun h'' z'' sb => ?_⟩
    replace sb : Heap.SameBut (N + 5) h' h'' := sb
    have e0 : (0 : Int) + ((i : Nat) : Int) = (i : Nat) := Int.zero_add _
    have newT : ObjOk X.prog X.w (upd H s.heap.objs.size (.tup [y1, y2])) m1 s.heap.objs.size (.tup [y1, y2]) :=
      ⟨by show 2 ≤ sizeLine; decide, [x1, x2], .cons r1 (.cons r2 .nil), ⟨_, b6, rfl, _, rfl⟩⟩
    have I1 : Inv X pins σ (upd H s.heap.objs.size (.tup [y1, y2])) { s with heap := m1, toks := tk } :=
      I.turnedNew (t' := tk) (ch := [N + 5, N + 4, N + 2, N + 3, N, N + 1]) (fun c o hb q => by
        rw [mem6] at hb
        obtain ⟨m5, m4, m3, m0, m1'⟩ := ne6 hb
        exact b8 c o m4 m3 m0 m1' q) hf (Nat.le_refl _) newT
    have lt6 : ∀ c ∈ [N + 5, N + 4, N + 2, N + 3, N, N + 1], c < s.heap.objs.size := fun c hcm => by
      rw [mem6] at hcm
      omega
    have hf1 : ∀ b ∈ [N + 5, N + 4, N + 2, N + 3, N, N + 1], FpOk X pins (upd H s.heap.objs.size (.tup [y1, y2])) b := fun b hb => ⟨by
      rw [upd_ne (Nat.ne_of_lt (lt6 b hb))]; exact (hf b hb).1, (hf b hb).2⟩
    have hU2 : h''.get? (s.heap.objs.size + 1) = some { cls := .type "tuple", data := .seq #[.int ((0 : Int) + (i : Nat)) tk, .ref s.heap.objs.size] } := (sb.2 _ (ne_s hzl)).trans gU
    have newU : ObjOk X.prog X.w (upd (upd H s.heap.objs.size (.tup [y1, y2])) (s.heap.objs.size + 1) (.tup [.int (i : Nat), .ref s.heap.objs.size])) h'' (s.heap.objs.size + 1) (.tup [.int (i : Nat), .ref s.heap.objs.size]) :=
      ⟨by show 2 ≤ sizeLine; decide, [.int ((0 : Int) + (i : Nat)) tk, .ref s.heap.objs.size], .cons ⟨tk, by rw [e0]⟩ (.cons rfl .nil), ⟨_, hU2, rfl, _, rfl⟩⟩
    have I2 : Inv X pins σ (upd (upd H s.heap.objs.size (.tup [y1, y2])) (s.heap.objs.size + 1) (.tup [.int (i : Nat), .ref s.heap.objs.size])) { s with heap := h'', toks := tk + 1 } :=
      I1.turnedNew (t' := tk + 1) (ch := [N + 5, N + 4, N + 2, N + 3, N, N + 1]) (fun c o hb q => by
        rw [mem6] at hb
        exact (sb.2 c (ne6 hb).1).trans (kq c o (ne6 hb).1 q)) hf1 (Nat.le_of_eq b7) newU
    have up : ∀ c o, c ≠ N + 5 → m1.get? c = some o → h''.get? c = some o := fun c o ne q => (sb.2 c ne).trans (kq c o ne q)
    obtain ⟨u', f', ok', hz'⟩ := b1
    obtain ⟨a, b, hO'⟩ := b3
    refine ⟨.ref (s.heap.objs.size + 1), _, I2, rfl, ⟨_, _, y1, y2, rfl, I.hok.fresh (Nat.le_refl _), I1.hok.fresh (Nat.le_of_eq b7), rfl, fun l hl => by rw [Zs.inj I hl hqx]; exact e1, fun l hl => by rw [Zs.inj I hl hqy]; exact e2⟩,
      ⟨⟨.ref s.heap.objs.size, ?_⟩, ⟨u', f', ok', up _ _ (neA (by decide)) hz'⟩, up _ _ (neA (by decide)) b2, ⟨a, b, up _ _ (neA (by decide)) hO'⟩, (g1 _ _ b4).keep fun o q => up _ _ (neZ (by decide)) q, (g2 _ _ b5).keep fun o q => up _ _ (neA (by decide)) q⟩, fun c hcm => ?_⟩
    · have e3 : (0 : Int) + ((i + 1 : Nat) : Int) = (0 : Int) + (i : Nat) + 1 := by omega
      rw [e3]
      exact z''
    · have := lt6 c hcm
      rw [upd_ne (Nat.ne_of_lt (Nat.lt_succ_of_lt this))]
      exact (hf1 c hcm).1
  done := by
    intro X hP hw hK hc i pins s σ H E I hf st hg
    subst hP hw hK
    obtain ⟨⟨old, he⟩, ⟨u, f, ok, hz⟩, hTI, ⟨x0, y0, hTO⟩, q1, q2⟩ := st
    obtain ⟨xs, ys, hqx, hqy, hend⟩ := hg
    have hh : X.A.in1.in1.handled = none := I.ok.hd hc
    obtain ⟨P1, St1, D1, f1, s1, g1⟩ := Zs.draws I hh hqx (it := N) (fun b hb => Nat.ne_of_lt (h1 b hb)) q1
    obtain ⟨P2, St2, D2, f2, s2, g2⟩ := Zs.draws I hh hqy (it := N + 1) (fun b hb => Nat.ne_of_lt (Nat.lt_succ_of_lt (h2 b hb))) q2
    exact ez_done he fun q => zq_done (zip_sep2 h1 h2) D1 D2 ok hz hTI hTO s1 s2 (by omega) (by omega) (by omega) fun h' tk e hk ⟨o, g1, g2⟩ => ⟨e, o, rfl, g1, g2, rfl, I.turnedL (t' := tk) (ch := [N + 5, N + 4, N + 2, N + 3, N, N + 1]) (fun c o hb q => by
      rw [mem6] at hb
      obtain ⟨m5, m4, m3, m0, m1'⟩ := ne6 hb
      exact hk c o m4 m3 m0 m1' q) hf⟩
  self := fun A i s Q E st h => let ⟨⟨_, he⟩, _⟩ := st; wpAny_pyIter_enum he h
def iEzG (K : PySem.W.Frag) (ta : TA) : TI := fun σ H R => ta σ H fun vs H1 => ∃ z1 z2 xs ys, vs = [Zs.val z1, Zs.val z2] ∧ z1.Has K H1 xs ∧ z2.Has K H1 ys ∧ R (Iez K z1 z2) H1
theorem pi_ez {X : Cx} {a b : Expr} {ta : TA} {p p2 pos pos2 tpos : Pos} {elts : List Expr} {kk : Nat} (hg : Gl X "enumerate") (hm : X.mg "enumerate" = none) (hgz : Gl X "zip") (hmz : X.mg "zip" = none) (ha : PA X [a, b] ta)
    (hs : starEach [a, b] X.env = (false, eval a X.env) :: starEach [b] X.env := by rfl) (hpl : (backTo pos2 (starEach [b] X.env)).any (·.1) = false := by rfl)
    (hs2 : starEach [.Call (.Name "zip" p2) [a, b] [] pos2] X.env = [(false, eval (.Call (.Name "zip" p2) [a, b] [] pos2) X.env)] := by rfl) :
    PI X (.Tuple elts kk tpos) (.Call (.Name "enumerate" p) [.Call (.Name "zip" p2) [a, b] [] pos2] [] pos) (iEzG X.K ta) := by
  refine ⟨fun pins s σ H R I h => ?_⟩
  refine Call_ (ld_blt I hg hm boot_enumerate (PyProof.Rows.callWith_type1 ?_ hs2 rfl))
  rw [hs2]
  show wpAny _ _ (spliced ((false, eval (.Call (.Name "zip" p2) [a, b] [] pos2) X.env) :: [])) _ _ s
  refine Calls.spliced_cons (Call_ (ld_blt I hgz hmz PyProof.Rows.boot_zip (PyProof.Rows.callWith_type1 (thn (ha.run pos2 pins s σ H _ I h) fun us s1 ⟨vs, H1, I1, r1, q1⟩ => ?_) hs hpl)))
  obtain ⟨z1, z2, xs, ys, ex, hqx, hqy, q⟩ := q1
  subst ex
  cases r1 with
  | cons r rr =>
    cases rr with
    | cons r' rr =>
      cases rr
      obtain ⟨o1, G1, B1, b1, l1, a1⟩ := Zs.begins I1 hqx r
      obtain ⟨o2, G2, B2, b2, l2, a2⟩ := Zs.begins I1 hqy r'
      refine zip_begins2 B1 B2 b1 b2 fun h' hz hTI hTO h1 h2 hsz hk => Calls.spliced_nil ?_
      refine ens_begins (s := { s1 with heap := h' }) (H := fun h => IsZip h (s1.heap.objs.size + 4) (s1.heap.objs.size + 2) (s1.heap.objs.size + 3) .none) (fun prog w A E s Q hz q => wpAny_pyIter_zip hz q) hz fun h'' he sz2 hk2 => ?_
      replace he : IsEnum h'' h'.objs.size (s1.heap.objs.size + 4) 0 .none := he
      replace hk2 : ∀ b o, h'.get? b = some o → h''.get? b = some o := hk2
      show wpAny _ _ (pyIter (.ref h'.objs.size)) _ _ { s1 with heap := h'' }
      rw [hsz] at he ⊢
      refine wpAny_pyIter_enum he ?_
      have I2 : Inv X pins σ H1 { s1 with heap := h'' } := I1.kept (t' := s1.toks) fun b o e => hk2 b o (hk b o e)
      refine ⟨s1.heap.objs.size + 5, [s1.heap.objs.size + 5, s1.heap.objs.size + 4, s1.heap.objs.size + 2, s1.heap.objs.size + 3, s1.heap.objs.size, s1.heap.objs.size + 1], _, _, H1, rfl, I2, turn_ez (N := s1.heap.objs.size) l1 l2,
        ⟨⟨.none, he⟩, ⟨.none, false, .inl ⟨rfl, rfl⟩, hk2 _ _ hz⟩, hk2 _ _ hTI, ⟨_, _, hk2 _ _ hTO⟩, a1 _ _ (hk2 _ _ h1), a2 _ _ (hk2 _ _ h2)⟩, fun c hcm => ?_, q⟩
      have hle : s1.heap.objs.size ≤ c := (mem6.mp hcm).1
      exact I1.fpOk hle (I1.hok.fresh hle)
def iEz' (f : FA) : FI := fun env S => (f env S).bind fun xs S => match xs with
  | [x, y] => match seqI x, seqI y with
    | some a, some b => .ok ((a.zip b).zipIdx.map fun p => .tup [.int (p.2 : Nat), .tup [p.1.1, p.1.2]]) S
    | _, _ => .no
  | _ => .no
theorem si_ez {X : Cx} {a b : Expr} {f : FA} {p p2 pos pos2 tpos : Pos} {elts : List Expr} {kk : Nat} (hg : Gl X "enumerate") (hm : X.mg "enumerate" = none) (hgz : Gl X "zip") (hmz : X.mg "zip" = none) (ha : SA X [a, b] f)
    (hs : starEach [a, b] X.env = (false, eval a X.env) :: starEach [b] X.env := by rfl) (hpl : (backTo pos2 (starEach [b] X.env)).any (·.1) = false := by rfl)
    (hs2 : starEach [.Call (.Name "zip" p2) [a, b] [] pos2] X.env = [(false, eval (.Call (.Name "zip" p2) [a, b] [] pos2) X.env)] := by rfl) :
    SI X (.Tuple elts kk tpos) (.Call (.Name "enumerate" p) [.Call (.Name "zip" p2) [a, b] [] pos2] [] pos) (iEz' f) := imI (pi_ez hg hm hgz hmz ha hs hpl hs2) fun σ H R h => by
  obtain ⟨m, g, S, env, so, eo, h⟩ := h
  refine ⟨m, g, S, env, so, eo, ?_⟩
  unfold iEz' at h
  unfold PostL
  cases ef : f env S with
  | no => rw [ef] at h; exact h.elim
  | ok xs S1 =>
    rw [ef] at h
    intro vs m1 g1 H1 n1 so1 r1
    match xs, r1, h with
    | [x, y], .cons rx (.cons ry .nil), h =>
      cases ex : seqI x with
      | none => simp only [Pv.R.bind, Pv.R.to, ex] at h
      | some xs =>
        cases ey : seqI y with
        | none => simp only [Pv.R.bind, Pv.R.to, ex, ey] at h
        | some ys =>
          simp only [Pv.R.bind, Pv.R.to, ex, ey] at h
          obtain ⟨z1, v1, kd1, rfl, hz1⟩ := zs_of so1 rx ex
          obtain ⟨z2, v2, kd2, rfl, hz2⟩ := zs_of so1 ry ey
          have l1 := (hz1 m1 g1 H1 .refl).2.length
          have l2 := (hz2 m1 g1 H1 .refl).2.length
          have hlen : ((xs.zip ys).zipIdx.map fun p : (PV × PV) × Nat => PV.tup [.int (p.2 : Nat), .tup [p.1.1, p.1.2]]).length = min xs.length ys.length := by
            rw [List.length_map, List.length_zipIdx, List.length_zip]
          refine ⟨z1, z2, v1, v2, rfl, (hz1 m1 g1 H1 .refl).1, (hz2 m1 g1 H1 .refl).1, h _ m1 g1 H1 n1 so1 ⟨fun i m' g' H' n hi => ⟨v1, v2, (hz1 m' g' H' n).1, (hz2 m' g' H' n).1, ?_, ?_⟩, fun i m' g' H' n hi => ⟨v1, v2, (hz1 m' g' H' n).1, (hz2 m' g' H' n).1, ?_⟩, fun i m' g' H' v H'' n s1 s2 hy => ?_⟩⟩
          · rw [hlen] at hi; omega
          · rw [hlen] at hi; omega
          · rw [hlen] at hi; omega
          · obtain ⟨T, U, x', y', rfl, hT, hU, rfl, f1, f2⟩ := hy
            obtain ⟨a1, b1⟩ := hz1 m' g' H' n
            obtain ⟨a2, b2⟩ := hz2 m' g' H' n
            have e1 := f1 v1 a1
            have e2 := f2 v2 a2
            have i1 := (List.getElem?_eq_some_iff.mp e1).1
            have i2 := (List.getElem?_eq_some_iff.mp e2).1
            obtain ⟨p, hp⟩ : ∃ x, xs[i]? = some x := ⟨_, List.getElem?_eq_getElem (by omega)⟩
            obtain ⟨q, hq⟩ : ∃ x, ys[i]? = some x := ⟨_, List.getElem?_eq_getElem (by omega)⟩
            refine ⟨.tup [.int (i : Nat), .tup [p, q]], fun _ => ?_, fun _ => ?_, .inr (.inr ⟨T, _, U, _, hT, hU, rfl⟩)⟩
            · rw [List.getElem?_map, List.getElem?_zipIdx, (List.getElem?_zip_eq_some (z := (p, q))).mpr ⟨hp, hq⟩]
              simp
            · obtain ⟨u, hu, ru⟩ := b1.get hp
              obtain ⟨w, hw, rw'⟩ := b2.get hq
              rw [hu] at e1
              rw [hw] at e2
              cases e1
              cases e2
              have nT := nx_new (m := m') (g := g') (o := .tup [x', y']) hT
              have nU := nx_new (m := m') (g := g') (o := .tup [.int (i : Nat), .ref T]) hU
              have kp : Kp g' H' g' (upd (upd H' T (.tup [x', y'])) U (.tup [.int (i : Nat), .ref T])) := (nT.trans nU).kp s1
              have hTU : T ≠ U := fun e => by
                rw [← e, upd_same] at hU
                cases hU
              refine .tup (.inl ⟨.inl upd_same, fun hg => ?_⟩) (.cons (.int _) (.cons (.tup (.inl ⟨.inl ?_, fun hg => s2 T hg hT⟩) (.cons (ru.mono kp) (.cons (rw'.mono kp) .nil))) .nil))
              · rw [upd_ne (Ne.symm hTU)] at hU
                exact s2 U hg hU
              · rw [upd_ne hTU, upd_same]
    | [], _, h => exact h.elim
    | [_], _, h => exact h.elim
    | _ :: _ :: _ :: _, _, h => exact h.elim
end Pv

namespace Pv
open PySem PySem.Spec PyProof.Rows L2
/-! ### a list of a text's signs, to be changed -/
def rF (K : PySem.W.Frag) (G : List PV → Sto → R (List PV)) : List V → Hp → VK → Prop := fun vs H Q => ∃ m g S xs, StOk K m g H S ∧ Reps K m g H vs xs ∧ PostF K m g H (G xs S) Q
def lCall (G : List PV → Sto → R (List PV)) (fs : FA) : FA := fun env S => (fs env S).bind fun xs S => G xs S
def bTx : List PV → Sto → R (List PV) := fun xs S => match xs with
  | [.str l] => .ok (l.map fun c => .str [c]) S
  | _ => .no
section
variable {X : Cx}
theorem c_ltx (hc : X.calm = true) : CallR X (.type "list") (rF X.K bTx) := by
  intro pins s σ H vs us Q I rv h
  obtain ⟨m, g, S, xs, so, r, h⟩ := h
  unfold bTx at h
  split at h
  · rename_i l
    cases r with
    | cons r1 r2 =>
      cases r2
      obtain ⟨z, rfl, e1, hz, ho⟩ := r1.str_inv
      obtain ⟨u, rfl, ru⟩ := vals1 rv
      obtain ⟨t, rfl⟩ := ru
      have hs : z.cps.size ≤ sizeLine := by rw [← Array.length_toList, e1, ← SZ_eq]; exact hz
      refine call_list_str (I.ok.hd hc) z t (fun h' tk acc c' hk hS ha => ?_) hs
      refine ⟨.ref s.heap.objs.size, upd H s.heap.objs.size (.lst (z.cps.toList.map fun c => V.str ⟨#[c]⟩)), I.laid hk (Nat.le_refl _) (show ObjOk X.prog X.w _ _ _ (.lst _) from ⟨?_, acc.toList, c', signs_vals ha, ?_⟩), rfl, ?_⟩
      · rw [List.length_map, Array.length_toList]; exact hs
      · rw [Array.toArray_toList]; exact hS
      · subst e1
        exact post_new h .refl so (strs_rep ho) (I.hok.fresh (Nat.le_refl _))
  · exact h.elim
theorem s_typF {e : Expr} {es : List Expr} {fs : FA} {pos p : Pos} {x : Str} {id : String} {G : List PV → Sto → R (List PV)} (hc : CallR X (.type id) (rF X.K G)) (hv : bootBuiltins x = some (.type id)) (hm : X.mg x = none) (ha : SA X (e :: es) fs) (hg : Gl X x := by rfl) (hn : x ≠ "__name__" := by decide) (hdb : (x == ("__debug__" : Str)) = false := by decide)
    (he : starEach (e :: es) X.env = (false, eval e X.env) :: starEach es X.env := by rfl) (hpl : (backTo pos (starEach es X.env)).any (·.1) = false := by rfl) : SF X (.Call (.Name x p) (e :: es) [] pos) (lCall G fs) :=
  imE (pe_callTy hc hg hm hv ha hn hdb he hpl) fun _ _ _ h => by
    obtain ⟨m, g, S, env, so, eo, h⟩ := h
    exact lF so eo h fun xs S' vs m' g' H' nx so' eo' r h => ⟨m', g', S', xs, so', r, h⟩
/-! ### o[i], o2[i2] = a tuple -/
def sSw (fo fi fo2 fi2 f : FE) : FS := fun env S => (f env S).bindS fun x S => match x with
  | .tup [p, q] => (fo env S).bindS fun o S => (fi env S).bindS fun i S => match setCl S o i p with
    | some S => (fo2 env S).bindS fun o S => (fi2 env S).bindS fun i S => match setCl S o i q with
      | some S => .nx env S
      | none => .no
    | none => .no
  | _ => .no
theorem ss_sw {e o i o2 i2 : Expr} {fo fi fo2 fi2 fa : FE} {pos : Pos} {k : Nat} {p2 p3 p4 : Pos} (hc : X.calm = true) (ha : SE X e fa) (ho : SE X o fo) (hi : SE X i fi) (ho2 : SE X o2 fo2) (hi2 : SE X i2 fi2)
    (hs : swapsWithSole [.Tuple [.Subscript o i p2, .Subscript o2 i2 p3] k p4] e pos.line X.env = pure false := by rfl) (hw : swappedStores [.Tuple [.Subscript o i p2, .Subscript o2 i2 p3] k p4] e X.env = pure none := by rfl)
    (h1 : (assignEach [.Tuple [.Subscript o i p2, .Subscript o2 i2 p3] k p4] X.env).map (·.2) = [assign (.Tuple [.Subscript o i p2, .Subscript o2 i2 p3] k p4) X.env] := by rfl)
    (h2 : ∀ v, assign (.Subscript o i p2) X.env v = (do
      let ov ← holding [v] (eval o X.env)
      let iv ← holding [v, ov] (eval i X.env)
      standAt p2
      holding [v, ov, iv] (setItem ov iv v)
      release [v, ov, iv] []) := by intro _; rfl)
    (h3 : ∀ v, assign (.Subscript o2 i2 p3) X.env v = (do
      let ov ← holding [v] (eval o2 X.env)
      let iv ← holding [v, ov] (eval i2 X.env)
      standAt p3
      holding [v, ov, iv] (setItem ov iv v)
      release [v, ov, iv] []) := by intro _; rfl)
    (hs2 : (assignEach [.Subscript o i p2, .Subscript o2 i2 p3] X.env).map (·.2) = assign (.Subscript o i p2) X.env :: (assignEach [.Subscript o2 i2 p3] X.env).map (·.2) := by rfl)
    (hs3 : (assignEach [.Subscript o2 i2 p3] X.env).map (·.2) = assign (.Subscript o2 i2 p3) X.env :: (assignEach [] X.env).map (·.2) := by rfl)
    (hn : (assignEach [.Subscript o i p2, .Subscript o2 i2 p3] X.env).length = 2 := by rfl) (hst : (assignEach [.Subscript o i p2, .Subscript o2 i2 p3] X.env).findIdx? (·.1) = none := by rfl) :
    SS X (.Assign [.Tuple [.Subscript o i p2, .Subscript o2 i2 p3] k p4] e pos) (sSw fo fi fo2 fi2 fa) := imS (ps_asg ha (pg_tup (n := 2) hc (pgs_cons (pg_sub ho hi set_list h2) (pgs_cons (pg_sub ho2 hi2 set_list h3) pgs_nil hs3) hs2) hn hst) hs hw h1) fun D σ H h => by
  obtain ⟨m, g, S, env, so, eo, h⟩ := h
  refine vS so eo h fun x S1 v m1 g1 H1 n1 so1 eo1 r1 h1 => ?_
  split at h1
  · rename_i p q
    obtain ⟨a, vs, rfl, f, rp⟩ := r1.tup_inv
    cases rp with
    | cons rp1 rp =>
      cases rp with
      | cons rp2 rp =>
        cases rp
        refine ⟨a, _, rfl, f.sq, rfl, _, _, rfl, ?_⟩
        refine vS so1 eo1 h1 fun y S2 u m2 g2 H2 n2 so2 eo2 r2 h2 => ?_
        refine vS so2 eo2 h2 fun z S3 w m3 g3 H3 n3 so3 eo3 r3 h3 => ?_
        split at h3
        · rename_i S' e1
          have n13 := n2.trans n3
          refine setCl_ok so3 (r2.mono n3 so2.sub) r3 ((Rep.p rp1).mono n13 so1.sub) e1 fun H' nx so' => ?_
          refine ⟨_, _, rfl, ?_⟩
          have rq : Rep X.K m3 g3 H' _ q := ((Rep.p rp2).mono n13 so1.sub).mono nx so3.sub
          have eo' := eo3.mono nx so3.sub
          refine vS so' eo' (PostS.mono (K := X.K) (D := D) h3 nx) fun y2 S4 u2 m4 g4 H4 n4 so4 eo4 r4 h4 => ?_
          refine vS so4 eo4 h4 fun z2 S5 w2 m5 g5 H5 n5 so5 eo5 r5 h5 => ?_
          split at h5
          · rename_i S6 e2
            refine setCl_ok so5 (r4.mono n5 so4.sub) r5 (rq.mono (n4.trans n5) so'.sub) e2 fun H6 nx6 so6 => ?_
            refine ⟨rfl, ?_⟩
            exact h5 _ m5 g5 H6 nx6 so6 (eo5.mono nx6 so5.sub)
          · exact h5.elim
        · exact h3.elim
  · exact h1.elim
/-! ### how often a number stands in a list -/
def bLCount : FM := fun x xs S => match x, xs with
  | .lst ys, [.int k] => match intsOf ys with
    | some ns => .ok (.int (ns.count k : Nat)) S
    | none => .no
  | _, _ => .no
theorem m_lcount : Mth X "list.count" bLCount := by
  intro pins s σ H v vs u us Q I rx rs h
  obtain ⟨m, g, S, y, ys, so, r1, r2, h⟩ := h
  unfold bLCount at h
  split at h
  · rename_i ys k
    split at h
    · rename_i ns hn
      obtain rfl := intsOf_eq hn
      cases r2 with
      | cons r2 r3 =>
        cases r3
        obtain rfl := r2.int_inv
        cases r1 with
        | p r1 =>
          cases r1 with
          | lst f q =>
            obtain rfl := ints_inv q
            exact mt_lcount pins s σ H _ _ u us Q I rx rs ⟨_, ns, k, rfl, rfl, .of f.1, post_p h so (.int _)⟩
    · exact h.elim
  · exact h.elim
end
end Pv

namespace Pv
theorem lc_map {α : Type} {p : Pat} {t : FT} {elt : FE} {env : VEnv} (S : Sto) (φ : α → PV) (E : α → VEnv) (b : α → Bool) (y : α → PV) : ∀ (items : List α), (∀ x ∈ items, setPat p (φ x) env = some (E x)) → (∀ x ∈ items, t (E x) S = .ok (b x) S) →
    (∀ x ∈ items, b x = true → isP (y x) = true ∧ ∃ S', elt (E x) S = .ok (y x) S' ∧ S'.take S.length = S) → lcGo p t elt env S.length (items.map φ) S = .ok ((items.filter b).map y) S
  | [], _, _, _ => rfl
  | x :: xs, h1, h2, h3 => by
    have ih := lc_map S φ E b y xs (fun z hz => h1 z (List.mem_cons_of_mem _ hz)) (fun z hz => h2 z (List.mem_cons_of_mem _ hz)) fun z hz => h3 z (List.mem_cons_of_mem _ hz)
    rw [List.map_cons]
    unfold lcGo
    rw [h1 x List.mem_cons_self]
    show (t (E x) S).bind _ = _
    rw [h2 x List.mem_cons_self, R.bind, z_ok]
    cases hb : b x with
    | false =>
      rw [if_neg Bool.false_ne_true, List.take_length, ih, List.filter_cons, hb]
      rfl
    | true =>
      obtain ⟨hp, S', e, et⟩ := h3 x List.mem_cons_self hb
      rw [if_pos rfl, e, R.bind, z_ok, if_pos hp, et, ih, List.filter_cons, hb]
      rfl
theorem lc_all {α : Type} {p : Pat} {elt : FE} {env : VEnv} (S : Sto) (φ : α → PV) (E : α → VEnv) (y : α → PV) (items : List α) (h1 : ∀ x ∈ items, setPat p (φ x) env = some (E x))
    (h3 : ∀ x ∈ items, isP (y x) = true ∧ ∃ S', elt (E x) S = .ok (y x) S' ∧ S'.take S.length = S) : lcGo p tYes' elt env S.length (items.map φ) S = .ok (items.map y) S := by
  have h := lc_map (p := p) (t := tYes') (elt := elt) S φ E (fun _ => true) y items h1 (fun _ _ => rfl) fun x hx _ => h3 x hx
  rw [h, List.filter_eq_self.mpr (fun _ _ => rfl)]
theorem lc_all1 {α : Type} {p : Pat} {elt : FE} {env : VEnv} (S : Sto) (φ : α → PV) (E : α → VEnv) (y : α → PV) (items : List α) (h1 : ∀ x ∈ items, setPat p (φ x) env = some (E x))
    (h3 : ∀ x ∈ items, isP (y x) = true ∧ elt (E x) S = .ok (y x) S) : lcGo p tYes' elt env S.length (items.map φ) S = .ok (items.map y) S :=
  lc_all S φ E y items h1 fun x hx => ⟨(h3 x hx).1, S, (h3 x hx).2, List.take_length⟩
theorem bls_map {α : Type} (f : α → Bool) (xs : List α) : blsOf (xs.map fun x => .bl (f x)) = some (xs.map f) := by
  rw [← blsOf_map (xs.map f), List.map_map]
  rfl
theorem strs_map {α : Type} (f : α → List Nat) (xs : List α) : strsOf (xs.map fun x => .str (f x)) = some (xs.map f) := by
  rw [← strsOf_map (xs.map f), List.map_map]
  rfl
def zz {α β : Type} (k : Nat) (f : α → α → β) (l : List α) : List β := List.zipWith f l (l.drop k)
theorem zz_len {α β : Type} (k : Nat) (f : α → α → β) (l : List α) : (zz k f l).length = l.length - k := by
  unfold zz
  rw [List.length_zipWith, List.length_drop]
  omega
theorem zz_get {α β : Type} (k : Nat) (f : α → α → β) (l : List α) (i : Nat) : (zz k f l)[i]? = match l[i]?, l[i + k]? with
  | some a, some b => some (f a b)
  | _, _ => none := by
  unfold zz
  rw [List.getElem?_zipWith, List.getElem?_drop, Nat.add_comm k i]
  cases l[i]? <;> cases l[i + k]? <;> rfl
theorem zz_map {α β γ : Type} (k : Nat) (f : β → β → γ) (g : α → β) (l : List α) : zz k f (l.map g) = zz k (fun a b => f (g a) (g b)) l := by
  unfold zz
  rw [← List.map_drop, List.zipWith_map]
theorem map_zz {α β γ : Type} (k : Nat) (f : α → α → β) (g : β → γ) (l : List α) : (zz k f l).map g = zz k (fun a b => g (f a b)) l := by
  unfold zz
  rw [List.map_zipWith]
theorem zz_ext {α β : Type} (k : Nat) (f g : α → α → β) (l : List α) (h : ∀ i a b, l[i]? = some a → l[i + k]? = some b → f a b = g a b) : zz k f l = zz k g l := by
  apply List.ext_getElem?
  intro i
  rw [zz_get, zz_get]
  cases e1 : l[i]? with
  | none => rfl
  | some a =>
    cases e2 : l[i + k]? with
    | none => rfl
    | some b => exact congrArg some (h i a b e1 e2)
theorem zz_rev {α β : Type} (k : Nat) (f : α → α → β) (l : List α) : zz k f l.reverse = (zz k (fun a b => f b a) l).reverse := by
  apply List.ext_getElem?
  intro i
  have hl := zz_len k (fun a b => f b a) l
  by_cases hi : i < l.length - k
  · rw [zz_get, List.getElem?_reverse (by omega), List.getElem?_reverse (by omega), List.getElem?_reverse (by rw [hl]; omega), hl, zz_get]
    have e1 : l.length - 1 - (i + k) = l.length - k - 1 - i := by omega
    have e2 : l.length - k - 1 - i + k = l.length - 1 - i := by omega
    rw [e1, e2, List.getElem?_eq_getElem (by omega), List.getElem?_eq_getElem (by omega)]
  · rw [List.getElem?_eq_none (by rw [zz_len, List.length_reverse]; omega), List.getElem?_eq_none (by rw [List.length_reverse, hl]; omega)]
theorem zz_snoc {α β : Type} (k : Nat) (f : α → α → β) (l : List α) (x : α) (hk : 1 ≤ k) (a : α) (ha : l[l.length - k]? = some a) (hl : k ≤ l.length) : zz k f (l ++ [x]) = zz k f l ++ [f a x] := by
  apply List.ext_getElem?
  intro i
  have hn := zz_len k f l
  rw [zz_get]
  by_cases h1 : i < l.length - k
  · rw [List.getElem?_append_left (by omega), List.getElem?_append_left (by omega), List.getElem?_append_left (by rw [hn]; exact h1), zz_get]
  · by_cases h2 : i = l.length - k
    · subst h2
      have e : l.length - k + k = l.length := by omega
      rw [e, List.getElem?_append_left (by omega), ha, List.getElem?_append_right (by omega), List.getElem?_append_right (by omega), hn]
      simp
    · rw [List.getElem?_eq_none (l := l ++ [x]) (i := i + k) (by simp; omega), List.getElem?_eq_none (l := zz k f l ++ [f a x]) (by simp [hn]; omega)]
      split <;> simp_all
theorem zz_none {α β : Type} (k : Nat) (f : α → α → β) (l : List α) (h : l.length ≤ k) : zz k f l = [] := List.eq_nil_of_length_eq_zero (by rw [zz_len]; omega)
end Pv

namespace Pv
open L2
section
variable {S : Sto} {i j : Int} {a b : List Nat} {xs ys : List PV}
@[simp] theorem q_addI : oAdd (.int i) (.int j) S = .ok (.int (i + j)) S := rfl
@[simp] theorem q_addS : oAdd (.str a) (.str b) S = if a.length + b.length ≤ SZ then .ok (.str (a ++ b)) S else .no := by
  by_cases h : a.length + b.length ≤ SZ <;> simp [oAdd, h]
@[simp] theorem q_addL : oAdd (.lst xs) (.lst ys) S = if xs.length + ys.length ≤ SZ then .ok (.lst (xs ++ ys)) S else .no := by
  by_cases h : xs.length + ys.length ≤ SZ <;> simp [oAdd, dl, h]
@[simp] theorem q_subI : oSub (.int i) (.int j) S = .ok (.int (i - j)) S := rfl
theorem q_mulI (h : mulOk i j = true) : oMul (.int i) (.int j) S = .ok (.int (i * j)) S := by simp [oMul, h]
@[simp] theorem q_modI (h : 0 < j) : oMod (.int i) (.int j) S = .ok (.int (i % j)) S := by simp [oMod, oI, h]
theorem q_divI (h : divOk i j = true) : oDiv (.int i) (.int j) S = .ok (.int (i / j)) S := by simp [oDiv, oI, h]
@[simp] theorem q_ltI : oLt (.int i) (.int j) S = .ok (.bl (decide (i < j))) S := rfl
@[simp] theorem q_leI : oLe (.int i) (.int j) S = .ok (.bl (decide (i ≤ j))) S := rfl
@[simp] theorem q_gtI : oGt (.int i) (.int j) S = .ok (.bl (decide (j < i))) S := rfl
@[simp] theorem q_geI : oGe (.int i) (.int j) S = .ok (.bl (decide (j ≤ i))) S := rfl
@[simp] theorem q_eqI : oEq (.int i) (.int j) S = .ok (.bl (i == j)) S := by simp [oEq, dv, dpt, eqPV]
@[simp] theorem q_neI : oNe (.int i) (.int j) S = .ok (.bl (i != j)) S := by simp [oNe, dv, dpt, eqPV, bne]
@[simp] theorem q_eqS : oEq (.str a) (.str b) S = .ok (.bl (a == b)) S := by simp [oEq, dv, dpt, eqPV]
@[simp] theorem q_neS : oNe (.str a) (.str b) S = .ok (.bl (a != b)) S := by simp [oNe, dv, dpt, eqPV, bne]
theorem q_ixS {c : Nat} (h : atI a i = some c) : oIx (.str a) (.int i) S = .ok (.str [c]) S := by simp [oIx, h]
theorem q_ixT {c : PV} (h : atI xs i = some c) : oIx (.tup xs) (.int i) S = .ok c S := by simp [oIx, h]
theorem q_ixL {c : PV} (h : atI xs i = some c) : oIx (.lst xs) (.int i) S = .ok c S := by simp [oIx, dl, h]
theorem q_ixR {n : Nat} {c : PV} (hn : S[n]? = some (.lst xs)) (h : atI xs i = some c) : oIx (.ref n) (.int i) S = .ok c S := by simp [oIx, dl, hn, h]
theorem q_ixC {ns : List Int} {c : Int} (h : atI ns i = some c) : oIx (.scr ns) (.int i) S = .ok (.int c) S := by simp [oIx, h]
@[simp] theorem q_lenS : bLen [.str a] S = .ok (.int a.length) S := rfl
@[simp] theorem q_lenT : bLen [.tup xs] S = .ok (.int xs.length) S := rfl
@[simp] theorem q_lenL : bLen [.lst xs] S = .ok (.int xs.length) S := rfl
@[simp] theorem q_lenC {ns : List Int} : bLen [.scr ns] S = .ok (.int ns.length) S := rfl
@[simp] theorem q_int : bInt [.int i] S = .ok (.int i) S := rfl
@[simp] theorem q_abs : bAbs [.int i] S = .ok (.int (if i < 0 then -i else i)) S := rfl
@[simp] theorem q_max : bMax2 [.int i, .int j] S = .ok (.int (if j > i then j else i)) S := rfl
@[simp] theorem q_min : bMin2 [.int i, .int j] S = .ok (.int (if j < i then j else i)) S := rfl
@[simp] theorem q_gcd : bGcd [.int i, .int j] S = .ok (.int ((Nat.gcd i.natAbs j.natAbs : Nat) : Int)) S := rfl
theorem q_divmod (h : divOk i j = true) : bDivmod [.int i, .int j] S = .ok (.tup [.int (i / j), .int (i % j)]) S := by simp [bDivmod, b2I, h]
theorem q_all {bs : List Bool} (h : blsOf xs = some bs) : bAll [.lst xs] S = .ok (.bl (bs.all _root_.id)) S := by simp [bAll, dl, h]
theorem q_join {z : List Nat} {ns : List (List Nat)} (h : strsOf xs = some ns) (hj : joinOk z ns = true) : bJoin (.str z) [.lst xs] S = .ok (.str (joinL z ns)) S := by simp [bJoin, dl, h, hj]
@[simp] theorem q_cnt {c : Nat} : bCount (.str a) [.str [c]] S = .ok (.int (a.count c : Nat)) S := rfl
@[simp] theorem q_kdS : kdB "str" S (.str a) = true := rfl
@[simp] theorem q_revS : oRev (.str a) S = .ok (.str a.reverse) S := rfl
theorem at_nat {α : Type} {l : List α} {k : Nat} {c : α} (h : l[k]? = some c) : atI l (k : Nat) = some c := by
  have hk := (List.getElem?_eq_some_iff.mp h).1
  unfold atI ixN
  rw [if_pos (by omega), if_pos (by omega)]
  simpa using h
theorem at_neg {α : Type} {l : List α} {k : Nat} {c : α} (hk : 1 ≤ k) (hl : k ≤ l.length) (h : l[l.length - k]? = some c) : atI l (-(k : Nat)) = some c := by
  unfold atI ixN
  rw [if_neg (by omega), if_pos (by omega)]
  have e : (-(k : Int) + (l.length : Nat)).toNat = l.length - k := by omega
  rw [e]
  exact h
theorem at_last {α : Type} {l : List α} {c : α} (h : l.getLast? = some c) : atI l (-1) = some c := by
  have hne : l ≠ [] := fun e => by rw [e] at h; cases h
  have hl : 1 ≤ l.length := List.length_pos_iff.mpr hne
  refine at_neg (k := 1) (Nat.le_refl _) hl ?_
  rw [← List.getLast?_eq_getElem?]
  exact h
theorem join_flat (ns : List (List Nat)) : joinL [] ns = ns.flatten := by
  cases ns with
  | nil => rfl
  | cons n r =>
    show n ++ (r.map fun x => [] ++ x).flatten = n ++ r.flatten
    simp
theorem flat_one {α : Type} (f : α → Nat) (l : List α) : (l.map fun x => [f x]).flatten = l.map f := by
  induction l with
  | nil => rfl
  | cons a l ih => simp [ih]
theorem q_joinS {α : Type} (f : α → Nat) (l : List α) (h : l.length ≤ SZ) : bJoin (.str []) [.lst (l.map fun x => .str [f x])] S = .ok (.str (l.map f)) S := by
  have e : joinOk [] (l.map fun x => [f x]) = true := by
    unfold joinOk
    refine decide_eq_true ?_
    have e1 : ((l.map fun x => [f x]).map List.length).sum = l.length := by
      rw [List.map_map]
      induction l with
      | nil => rfl
      | cons a l ih => simp at ih ⊢; rw [ih (by simp at h; omega)]; omega
    rw [e1]
    simpa using h
  rw [q_join (strs_map (fun x => [f x]) l) e, join_flat, flat_one]
end
theorem irg1 {f : FA} {env : VEnv} {S S' : Sto} {j : Int} (h : f env S = .ok [.int j] S') (hs : smI j = true) : iRg f env S = .ok (rgI 0 1 j.toNat) S' := by
  unfold iRg
  rw [h]
  show (if smI j = true then _ else _) = _
  rw [if_pos hs]
theorem irg2 {f : FA} {env : VEnv} {S S' : Sto} {i j : Int} (h : f env S = .ok [.int i, .int j] S') (hi : smI i = true) (hj : smI j = true) : iRg f env S = .ok (rgI i 1 (j - i).toNat) S' := by
  unfold iRg
  rw [h]
  show (if (smI i && smI j) = true then _ else _) = _
  rw [hi, hj]
  rfl
theorem smI_nat {n : Nat} (h : n < 4611686018427387904) : smI (n : Int) = true := by
  unfold smI
  rw [decide_eq_true (show -(2 ^ 62) ≤ (n : Int) by omega), decide_eq_true (show (n : Int) < 2 ^ 62 by omega)]
  rfl
theorem zb {α β : Type} (a : α) (S : Sto) (k : α → Sto → R β) : (R.ok a S).bind k = k a S := rfl
theorem zbS {α : Type} (a : α) (S : Sto) (k : α → Sto → RS) : (R.ok a S).bindS k = k a S := rfl
theorem ev_neg {f : FE} {env : VEnv} {S S' : Sto} {x c : PV} {k : Int} (h : f env S = .ok x S') (hc : oIx x (.int (-k)) S' = .ok c S') : eBin oIx f (eNeg (eCon (.int k))) env S = .ok c S' := by
  rw [z_bin, h, zb, z_neg, z_con, zb, zb, hc]
theorem fn_eq {np N : Nat} {a : FS} {xs : List PV} {S : Sto} (h : xs.length = np) : fnOf np N a xs S = outS S.length (a (startE N xs) S) := if_pos h
end Pv

namespace Lw
open Pv L2
def Lt (c : Nat) : Prop := c = 65 ∨ c = 66 ∨ c = 67
theorem kit_ss : L2.kitB "str" "str" = some true := by decide +kernel
theorem sz1 : ∀ c : Nat, strOkL [c] = true → c < 1114112 := fun c h => by simp [strOkL] at h; exact h.2
theorem cut1 {α : Type} (l : List α) : cut l (some 1) none = l.drop 1 := by
  unfold cut
  have e1 : HT.sIx l.length 0 (some 1) = min 1 l.length := HT.sIx_nat l.length 0 1
  rw [e1]
  show (l.drop (min 1 l.length)).take (l.length - min 1 l.length) = _
  cases l with
  | nil => rfl
  | cons a l => simp
theorem zip_next (l : List Nat) : List.zipWith (fun p q : PV => PV.tup [p, q]) (l.map fun c => .str [c]) ((cut l (some 1) none).map fun c => .str [c]) = (zz 1 Prod.mk l).map fun p => .tup [.str [p.1], .str [p.2]] := by
  rw [cut1, map_zz, List.zipWith_map]
  rfl
theorem izip_next {fs : FA} {env : VEnv} {l : List Nat} {S : Sto} (h : fs env S = .ok [.str l, .str (cut l (some 1) none)] S) : iZip' fs env S = .ok ((zz 1 Prod.mk l).map fun p => .tup [.str [p.1], .str [p.2]]) S := by
  unfold iZip'
  rw [h]
  show R.ok (List.zipWith _ _ _) S = _
  rw [zip_next]
theorem dl_lst (S : Sto) (xs : List PV) : dl S (.lst xs) = some xs := rfl
theorem zz_len1 {β : Type} (f : Nat → Nat → β) (l : List Nat) (h : l.length < SZ) : (zz 1 f l).length < SZ := by rw [zz_len]; omega
theorem mem_zz {l : List Nat} {p : Nat × Nat} (h : p ∈ zz 1 Prod.mk l) : p.1 ∈ l ∧ p.2 ∈ l := by
  unfold zz at h
  exact ⟨(List.of_mem_zip h).1, List.mem_of_mem_drop (List.of_mem_zip h).2⟩
def Stk (l : List Nat) : Prop := (∀ c ∈ l, Lt c) ∧ 1 ≤ l.length ∧ l.length ≤ 24 ∧ ∀ b ∈ zz 1 (fun a b => a != b) l, b = true
theorem oNe_s (a b : List Nat) (S : Sto) : oNe (.str a) (.str b) S = .ok (.bl (a != b)) S := by
  simp [oNe, dv, dpt, eqPV, bne]
theorem oEq_s (a b : List Nat) (S : Sto) : oEq (.str a) (.str b) S = .ok (.bl (a == b)) S := by
  simp [oEq, dv, dpt, eqPV]
theorem oEq_i (a b : Int) (S : Sto) : oEq (.int a) (.int b) S = .ok (.bl (a == b)) S := by
  simp [oEq, dv, dpt, eqPV]
theorem oNe_i (a b : Int) (S : Sto) : oNe (.int a) (.int b) S = .ok (.bl (a != b)) S := by
  simp [oNe, dv, dpt, eqPV, bne]
theorem lt_in {c : Nat} (h : Lt c) : c = 65 ∨ c = 66 ∨ c = 67 := h
end Lw

namespace Lw
open Pv L2
def stp (a b : Nat) : Nat := if (a - 65 + 1) % 3 = b - 65 then 43 else 45
theorem ix3 (S : Sto) : oIx (.str [65, 66, 67]) (.int 0) S = .ok (.str [65]) S ∧ oIx (.str [65, 66, 67]) (.int 1) S = .ok (.str [66]) S ∧ oIx (.str [65, 66, 67]) (.int 2) S = .ok (.str [67]) S := ⟨rfl, rfl, rfl⟩
end Lw

namespace Lw
open Pv L2
def mark (s t : Nat) : Nat := if s = t then 99 else 104
def hs (l : List Nat) : List Bool := zz 2 (fun a c => a == c) l
def mc (b : Bool) : Nat := if b = true then 104 else 99
theorem stp_stp {a b c : Nat} (ha : Lt a) (hb : Lt b) (hc : Lt c) (h1 : a ≠ b) (h2 : b ≠ c) : mark (stp a b) (stp b c) = mc (a == c) := by
  rcases ha with rfl | rfl | rfl <;> rcases hb with rfl | rfl | rfl <;> rcases hc with rfl | rfl | rfl <;> first | rfl | exact absurd rfl h1 | exact absurd rfl h2
theorem Stk.at {l : List Nat} (h : Stk l) {i : Nat} {a b : Nat} (ha : l[i]? = some a) (hb : l[i + 1]? = some b) : a ≠ b := by
  have hm : (a != b) ∈ zz 1 (fun a b => a != b) l := List.mem_of_getElem? (i := i) (by rw [zz_get, ha, hb])
  simpa using h.2.2.2 _ hm
theorem mk_hs {l : List Nat} (h : Stk l) : zz 1 mark (zz 1 stp l) = (hs l).map mc := by
  apply List.ext_getElem?
  intro i
  unfold hs
  rw [zz_get, zz_get, zz_get, List.getElem?_map, zz_get]
  cases ea : l[i]? with
  | none => rfl
  | some a =>
    cases eb : l[i + 1]? with
    | none =>
      have e2 : l[i + 2]? = none := List.getElem?_eq_none (by have := List.getElem?_eq_none_iff.mp eb; omega)
      rw [e2]
      rfl
    | some b =>
      cases ec : l[i + 2]? with
      | none =>
        rfl
      | some c =>
        have e3 : l[i + 1 + 1]? = some c := ec
        exact congrArg some (stp_stp (h.1 a (List.mem_of_getElem? ea)) (h.1 b (List.mem_of_getElem? eb)) (h.1 c (List.mem_of_getElem? ec)) (h.at ea eb) (h.at eb e3))
end Lw

namespace Lw
open Pv L2
def pw (b n : Nat) : List PV := (List.range (n + 1)).map fun k => .int ((b ^ k : Nat) : Int)
theorem mul_small {i j : Int} (h : -(2 ^ 64) < j ∧ j < 2 ^ 64) : mulOk i j = true := by
  unfold mulOk
  rw [decide_eq_true h, Bool.or_true, Bool.true_or]
end Lw

namespace Lw
open Pv L2
def red (N D : Nat) : Nat × Nat := (N / Nat.gcd N D, D / Nat.gcd N D)
def fr (r : Nat × Nat) : PV := .tup [.int (r.1 : Int), .int (r.2 : Int)]
theorem div_ok {g : Nat} (h0 : 0 < g) (h1 : g < 2 ^ 8000) (i : Int) : divOk i (g : Int) = true := by
  unfold divOk
  rw [decide_eq_true (show (0 : Int) < (g : Int) by omega), Bool.true_and]
  refine decide_eq_true ?_
  have e : ((g : Int)).natAbs = g := Int.natAbs_natCast g
  rw [e]
  have h2 : g.log2 < 8000 := (Nat.log2_lt (by omega)).mpr h1
  omega
theorem gcd_lt {N D B : Nat} (h0 : 0 < D) (h1 : D < B) : 0 < Nat.gcd N D ∧ Nat.gcd N D < B :=
  ⟨Nat.gcd_pos_of_pos_right _ h0, Nat.lt_of_le_of_lt (Nat.gcd_le_right _ h0) h1⟩
theorem cast_div (a b : Nat) : (a : Int) / (b : Int) = ((a / b : Nat) : Int) := (Int.natCast_ediv a b).symm
theorem sz_2 : (2 : Nat) ≤ SZ := by decide
theorem tup2 (x y : PV) (hx : isP x = true) (hy : isP y = true) : (decide (([x, y]).length ≤ SZ) && ([x, y]).all isP) = true := by
  rw [List.all_cons, List.all_cons, List.all_nil, hx, hy, decide_eq_true (show ([x, y]).length ≤ SZ from sz_2)]
  rfl
def hN (l : List Nat) : Nat := (hs l).count true
def nN (l : List Nat) : Nat := (hs l).length
def fst3 (l : List Nat) : Nat := if 1 < l.length then 6 else 3
def num (l : List Nat) (p q : Nat) : Nat := p ^ hN l * (q - p) ^ (nN l - hN l)
def den (l : List Nat) (q : Nat) : Nat := fst3 l * q ^ nN l
structure Ch (p q : Nat) : Prop where
  le : p ≤ q
  pos : 1 ≤ q
  top : q ≤ 100000
def chp (p q : Nat) : PV := .tup [.int (p : Int), .int (q : Int)]
theorem nN_le {l : List Nat} (h : Stk l) : nN l ≤ 22 := by
  unfold nN hs
  rw [zz_len]
  have := h.2.2.1
  omega
theorem hN_le (l : List Nat) : hN l ≤ nN l := List.count_le_length
theorem cnt_mc (bs : List Bool) : (bs.map mc).count 104 = bs.count true := by
  induction bs with
  | nil => rfl
  | cons b bs ih => cases b <;> simp [mc, ih]
end Lw

namespace Lw
open Pv L2
theorem pw_at (b n k : Nat) (h : k ≤ n) : atI (pw b n) (k : Int) = some (.int ((b ^ k : Nat) : Int)) := at_nat (by
  unfold pw
  rw [List.getElem?_map, List.getElem?_range (by omega)]
  rfl)
theorem pw_last (b n : Nat) : atI (pw b n) (-1) = some (.int ((b ^ n : Nat) : Int)) := at_last (by
  have hl : (pw b n).length = n + 1 := by simp [pw]
  rw [List.getLast?_eq_getElem?, hl]
  simp [pw])
theorem pow_lt {b k : Nat} (hb : b ≤ 100000) (hk : k ≤ 22) : b ^ k < 2 ^ 400 := by
  have h1 : b ^ k ≤ (2 ^ 17) ^ k := Nat.pow_le_pow_left (Nat.le_trans hb (by decide)) k
  have h2 : (2 ^ 17) ^ k ≤ (2 ^ 17) ^ 22 := Nat.pow_le_pow_right (by decide) hk
  have h3 : (2 ^ 17) ^ 22 < 2 ^ 400 := by decide
  omega
theorem log_lt {a n : Nat} (h : a < 2 ^ n) (hn : 1 ≤ n) : a.log2 < n := by
  by_cases ha : a = 0
  · subst ha
    rw [show Nat.log2 0 = 0 from rfl]
    exact hn
  · exact (Nat.log2_lt ha).mpr h
theorem mul_big {a b n : Nat} (ha : a < 2 ^ n) (hb : b < 2 ^ n) (hn : 1 ≤ n) (hn2 : n ≤ 10000) : mulOk (a : Int) (b : Int) = true := by
  unfold mulOk
  have h1 := log_lt ha hn
  have h2 := log_lt hb hn
  rw [Int.natAbs_natCast, Int.natAbs_natCast, decide_eq_true (show a.log2 + b.log2 < 1000000 by omega), Bool.or_true]
theorem o_mulN {a b n : Nat} (ha : a < 2 ^ n) (hb : b < 2 ^ n) (hn : 1 ≤ n) (hn2 : n ≤ 10000) (S : Sto) : oMul (.int (a : Int)) (.int (b : Int)) S = .ok (.int ((a * b : Nat) : Int)) S := by
  rw [q_mulI (mul_big ha hb hn hn2), Int.natCast_mul]
theorem o_subN {a b : Nat} (h : b ≤ a) (S : Sto) : oSub (.int (a : Int)) (.int (b : Int)) S = .ok (.int ((a - b : Nat) : Int)) S := by
  rw [q_subI, Int.ofNat_sub h]
end Lw

namespace Lw
open Pv L2
abbrev euT : FT := tAnd' (toT (eBin oNe (eVar 3) (eCon (.int 0)))) (toT (eBin oLt (eVar 4) (eCon (.int 20000))))
abbrev euB : FS := sPar3 2 3 4 (aCons (eVar 3) (aCons (eBin oMod (eCall bInt (aCons (eVar 2) aNil)) (eVar 3)) (aCons (eBin oAdd (eVar 4) (eCon (.int 1))) aNil)))
abbrev euE (x y : PV) (a b t : Nat) : VEnv := [some x, some y, some (.int (a : Int)), some (.int (b : Int)), some (.int (t : Int))]
theorem eu_ev (x y : PV) (a b t : Nat) (S : Sto) : eVar 2 (euE x y a b t) S = .ok (.int (a : Int)) S ∧ eVar 3 (euE x y a b t) S = .ok (.int (b : Int)) S ∧ eVar 4 (euE x y a b t) S = .ok (.int (t : Int)) S := ⟨rfl, rfl, rfl⟩
theorem eu_stop (x y : PV) (a t : Nat) (S : Sto) (n : Nat) : whileGo euT euB (n + 1) (euE x y a 0 t) S = .nx (euE x y a 0 t) S := by
  obtain ⟨v2, v3, v4⟩ := eu_ev x y a 0 t S
  have e1 : euT (euE x y a 0 t) S = .ok false S := by
    unfold euT
    rw [z_and', z_toT, z_bin, v3, zb, z_con, zb, q_neI, zb]
    rfl
  rw [show whileGo euT euB (n + 1) (euE x y a 0 t) S = (euT (euE x y a 0 t) S).bindS fun k S1 => if k = true then (match euB (euE x y a 0 t) S1 with
    | .nx env2 S2 => whileGo euT euB n env2 S2
    | .ret v S2 => .ret v S2
    | .no => .no) else .nx (euE x y a 0 t) S1 from rfl, e1, zbS, if_neg Bool.false_ne_true]
theorem eu_step (x y : PV) (a b t : Nat) (S : Sto) (n : Nat) (hb : 0 < b) (ht : t < 20000) : whileGo euT euB (n + 1) (euE x y a b t) S = whileGo euT euB n (euE x y b (a % b) (t + 1)) S := by
  obtain ⟨v2, v3, v4⟩ := eu_ev x y a b t S
  have e1 : euT (euE x y a b t) S = .ok true S := by
    unfold euT
    rw [z_and', z_toT, z_bin, v3, zb, z_con, zb, q_neI, zb]
    have hne : ((b : Int) != 0) = true := bne_iff_ne.mpr (by omega)
    show (if ((b : Int) != 0) = true then _ else _) = _
    rw [if_pos hne, z_toT, z_bin, v4, zb, z_con, zb, q_ltI, zb, decide_eq_true (show (t : Int) < 20000 by omega)]
  have e2 : euB (euE x y a b t) S = .nx (euE x y b (a % b) (t + 1)) S := by
    have em : ((a : Int) % (b : Int)) = ((a % b : Nat) : Int) := (Int.natCast_emod a b).symm
    unfold euB
    rw [z_par3, z_cons, v3, zb, z_cons, z_bin, z_call, z_cons, v2, zb, z_nil, zb, zb, q_int, zb, v3, zb, q_modI (by omega), zb, z_cons, z_bin, v4, zb, z_con, zb, q_addI, zb, z_nil, zb, zb, zb, zbS, em]
    rfl
  rw [show whileGo euT euB (n + 1) (euE x y a b t) S = (euT (euE x y a b t) S).bindS fun k S1 => if k = true then (match euB (euE x y a b t) S1 with
    | .nx env2 S2 => whileGo euT euB n env2 S2
    | .ret v S2 => .ret v S2
    | .no => .no) else .nx (euE x y a b t) S1 from rfl, e1, zbS, if_pos rfl, e2]
theorem eu_run (x y : PV) (S : Sto) : ∀ (k a b t n : Nat), b < 2 ^ k → t + 2 * k ≤ 20000 → 2 * k + 1 ≤ n → ∃ t', whileGo euT euB n (euE x y a b t) S = .nx (euE x y (Nat.gcd a b) 0 t') S
  | k, a, 0, t, n, hb, ht, hn => by
    obtain ⟨m, rfl⟩ : ∃ m, n = m + 1 := ⟨n - 1, by omega⟩
    rw [Nat.gcd_zero_right]
    exact ⟨t, eu_stop x y a t S m⟩
  | 0, a, b + 1, t, n, hb, ht, hn => by
    exfalso
    simp at hb
  | k + 1, a, b + 1, t, n, hb, ht, hn => by
    obtain ⟨m, rfl⟩ : ∃ m, n = m + 1 := ⟨n - 1, by omega⟩
    rw [eu_step x y a (b + 1) t S m (Nat.succ_pos b) (by omega)]
    by_cases h0 : a % (b + 1) = 0
    · obtain ⟨m2, rfl⟩ : ∃ m2, m = m2 + 1 := ⟨m - 1, by omega⟩
      rw [h0]
      refine ⟨t + 1, ?_⟩
      rw [eu_stop]
      have e : Nat.gcd a (b + 1) = b + 1 := by
        rw [Nat.gcd_comm, Nat.gcd_rec, h0, Nat.gcd_zero_left]
      rw [e]
    · obtain ⟨m2, rfl⟩ : ∃ m2, m = m2 + 1 := ⟨m - 1, by omega⟩
      have hr := Nat.mod_lt a (Nat.succ_pos b)
      rw [eu_step x y (b + 1) (a % (b + 1)) (t + 1) S m2 (by omega) (by omega)]
      have h2 : (b + 1) % (a % (b + 1)) < 2 ^ k := by
        have hpow : 2 ^ (k + 1) = 2 * 2 ^ k := by rw [Nat.pow_succ, Nat.mul_comm]
        rw [hpow] at hb
        have hr0 : 0 < a % (b + 1) := by omega
        revert hr hr0 hb
        generalize a % (b + 1) = r
        generalize 2 ^ k = P
        intro hb hr hr0
        have hlt := Nat.mod_lt (b + 1) hr0
        by_cases hh : r ≤ P
        · omega
        · rw [Nat.mod_eq_sub_mod (show r ≤ b + 1 by omega), Nat.mod_eq_of_lt (by omega)]
          omega
      obtain ⟨t', e⟩ := eu_run x y S k (a % (b + 1)) ((b + 1) % (a % (b + 1))) (t + 1 + 1) m2 h2 (by omega) (by omega)
      refine ⟨t', ?_⟩
      rw [e]
      have g1 : Nat.gcd a (b + 1) = Nat.gcd (a % (b + 1)) (b + 1) := by
        rw [Nat.gcd_comm, Nat.gcd_rec]
      have g2 : Nat.gcd (a % (b + 1)) (b + 1) = Nat.gcd ((b + 1) % (a % (b + 1))) (a % (b + 1)) := Nat.gcd_rec _ _
      rw [g1, g2, Nat.gcd_comm]
end Lw

namespace Lw
open Pv L2
def wp (bs : List Bool) (p q : Nat) : Nat := p ^ bs.count true * (q - p) ^ (bs.length - bs.count true)
theorem wp_snoc (bs : List Bool) (b : Bool) (p q : Nat) : wp (bs ++ [b]) p q = wp bs p q * (if b = true then p else q - p) := by
  unfold wp
  have hle : bs.count true ≤ bs.length := List.count_le_length
  rw [List.count_append, List.length_append]
  cases b with
  | true =>
    rw [if_pos rfl]
    have e1 : ([true] : List Bool).count true = 1 := rfl
    have e2 : ([true] : List Bool).length = 1 := rfl
    rw [e1, e2, Nat.pow_succ, show bs.length + 1 - (bs.count true + 1) = bs.length - bs.count true by omega]
    rw [Nat.mul_assoc, Nat.mul_assoc, Nat.mul_comm p]
  | false =>
    rw [if_neg Bool.false_ne_true]
    have e1 : ([false] : List Bool).count true = 0 := rfl
    have e2 : ([false] : List Bool).length = 1 := rfl
    rw [e1, e2, Nat.add_zero, show bs.length + 1 - bs.count true = (bs.length - bs.count true) + 1 by omega, Nat.pow_succ, Nat.mul_assoc]
theorem num_wp (l : List Nat) (p q : Nat) : num l p q = wp (hs l) p q := rfl
theorem wp_lt {bs : List Bool} {p q : Nat} (h : Ch p q) (hl : bs.length ≤ 22) : wp bs p q < 2 ^ 900 := by
  unfold wp
  have hle : bs.count true ≤ bs.length := List.count_le_length
  have h1 := pow_lt (b := p) (k := bs.count true) (Nat.le_trans h.le h.top) (by omega)
  have h2 := pow_lt (b := q - p) (k := bs.length - bs.count true) (by have := h.top; omega) (by omega)
  have h3 := Nat.mul_le_mul (Nat.le_of_lt h1) (Nat.le_of_lt h2)
  exact Nat.lt_of_le_of_lt h3 (by decide)
theorem den_lt {l : List Nat} (hl : Stk l) {p q : Nat} (h : Ch p q) : 0 < den l q ∧ den l q < 2 ^ 900 := by
  unfold den
  constructor
  · have := Nat.pow_pos (n := nN l) (show 0 < q from h.pos)
    unfold fst3
    split <;> omega
  · have h1 := pow_lt h.top (nN_le hl)
    have h2 : fst3 l ≤ 6 := by unfold fst3; split <;> decide
    have h3 : fst3 l * q ^ nN l ≤ 6 * 2 ^ 400 := Nat.mul_le_mul h2 (Nat.le_of_lt h1)
    exact Nat.lt_of_le_of_lt h3 (by decide)
theorem up900 {n : Nat} (h : n < 2 ^ 900) : n < 2 ^ 8000 := Nat.lt_of_lt_of_le h (Nat.pow_le_pow_right (by decide) (by decide))
def lowAt (q i : Nat) : Nat := if i = 0 then 3 else 6 * q ^ (i - 1)
abbrev chB : FS := (sIf (toT (eBin oEq (eVar 4) (eCon (.int 1)))) (sSet 3 (eBin oMul (eCon (.int 2)) (eVar 3))) (sSeq (sSet 2 (eBin oMul (eVar 2) (eIf (toT (eBin oEq (eBin oIx (eVar 0) (eVar 4)) (eBin oIx (eVar 0) (eBin oSub (eVar 4) (eCon (.int 2)))))) (eBin oIx (eVar 1) (eCon (.int 0))) (eBin oSub (eBin oIx (eVar 1) (eCon (.int 1))) (eBin oIx (eVar 1) (eCon (.int 0))))))) (sSet 3 (eBin oMul (eVar 3) (eBin oIx (eVar 1) (eCon (.int 1)))))))
abbrev chE (l : List Nat) (p q a b : Nat) (e : Option PV) : VEnv := [some (.str l), some (chp p q), some (.int (a : Int)), some (.int (b : Int)), e]
theorem chE_v (l : List Nat) (p q a b : Nat) (x : PV) (S : Sto) : eVar 0 (chE l p q a b (some x)) S = .ok (.str l) S ∧ eVar 1 (chE l p q a b (some x)) S = .ok (chp p q) S ∧ eVar 2 (chE l p q a b (some x)) S = .ok (.int (a : Int)) S ∧ eVar 3 (chE l p q a b (some x)) S = .ok (.int (b : Int)) S ∧ eVar 4 (chE l p q a b (some x)) S = .ok x S := ⟨rfl, rfl, rfl, rfl, rfl⟩
theorem ch_step {l : List Nat} (hl : Stk l) {p q : Nat} (h : Ch p q) (i : Nat) (hi : i < l.length - 1) (S : Sto) :
    chB (chE l p q (wp ((hs l).take (i - 1)) p q) (lowAt q i) (some (.int ((1 : Int) + (i : Nat) * 1)))) S = .nx (chE l p q (wp ((hs l).take (i + 1 - 1)) p q) (lowAt q (i + 1)) (some (.int ((1 : Int) + (i : Nat) * 1)))) S := by
  obtain ⟨v0, v1, v2, v3, v4⟩ := chE_v l p q (wp ((hs l).take (i - 1)) p q) (lowAt q i) (.int ((1 : Int) + (i : Nat) * 1)) S
  unfold chB
  cases i with
  | zero =>
    rw [z_sif, z_toT, z_bin, v4, zb, z_con, zb, q_eqI, zb]
    show (R.ok true S).bindS _ = _
    rw [zbS, if_pos rfl, z_set, z_bin, z_con, zb, v3, zb, q_mulI (mul_small (j := ((lowAt q 0 : Nat) : Int)) ⟨by show -(2 ^ 64) < ((3 : Nat) : Int); decide, by show ((3 : Nat) : Int) < 2 ^ 64; decide⟩), zbS]
    rfl
  | succ i =>
    have hln : (hs l).length = l.length - 2 := zz_len _ _ _
    have n24 := hl.2.2.1
    have ha : l[i]? = some l[i] := List.getElem?_eq_getElem (by omega)
    have hb : l[i + 2]? = some (l[i + 2]'(by omega)) := List.getElem?_eq_getElem (by omega)
    have hb2 : (hs l)[i]? = some (l[i] == l[i + 2]'(by omega)) := by unfold hs; rw [zz_get, ha, hb]
    have et : (hs l).take (i + 1) = (hs l).take i ++ [l[i] == l[i + 2]'(by omega)] := by
      rw [List.take_succ, hb2]
      rfl
    have w1 : wp ((hs l).take i) p q < 2 ^ 900 := wp_lt h (by rw [List.length_take]; omega)
    have a1 : ((1 : Int) + ((i + 1 : Nat) : Int) * 1) = ((i + 2 : Nat) : Int) := by omega
    have i1 : atI l ((1 : Int) + ((i + 1 : Nat) : Int) * 1) = some (l[i + 2]'(by omega)) := by rw [a1]; exact at_nat hb
    have i2 : atI l ((1 : Int) + ((i + 1 : Nat) : Int) * 1 - 2) = some l[i] := by
      rw [show (1 : Int) + ((i + 1 : Nat) : Int) * 1 - 2 = (i : Nat) by omega]
      exact at_nat ha
    have x0 : ∀ S, oIx (chp p q) (.int 0) S = .ok (.int (p : Int)) S := fun _ => rfl
    have x1 : ∀ S, oIx (chp p q) (.int 1) S = .ok (.int (q : Int)) S := fun _ => rfl
    have hne : ((1 : Int) + ((i + 1 : Nat) : Int) * 1 == 1) = false := beq_false_of_ne (by omega)
    have ew : eIf (toT (eBin oEq (eBin oIx (eVar 0) (eVar 4)) (eBin oIx (eVar 0) (eBin oSub (eVar 4) (eCon (.int 2)))))) (eBin oIx (eVar 1) (eCon (.int 0))) (eBin oSub (eBin oIx (eVar 1) (eCon (.int 1))) (eBin oIx (eVar 1) (eCon (.int 0))))
        (chE l p q (wp ((hs l).take (i + 1 - 1)) p q) (lowAt q (i + 1)) (some (.int ((1 : Int) + ((i + 1 : Nat) : Int) * 1)))) S = .ok (.int ((if (l[i] == l[i + 2]'(by omega)) = true then p else q - p : Nat) : Int)) S := by
      rw [z_if, z_toT, z_bin, z_bin, v0, zb, v4, zb, q_ixS i1, zb, z_bin, v0, zb, z_bin, v4, zb, z_con, zb, q_subI, zb, q_ixS i2, zb, q_eqS, zb]
      show (R.ok ([l[i + 2]'(by omega)] == [l[i]]) S).bind _ = _
      rw [zb]
      by_cases hx : l[i] = l[i + 2]'(by omega)
      · rw [show ([l[i + 2]'(by omega)] == [l[i]]) = true by rw [← hx]; exact beq_self_eq_true _, if_pos rfl, z_bin, v1, zb, z_con, zb, x0, show (l[i] == l[i + 2]'(by omega)) = true from beq_iff_eq.mpr hx, if_pos rfl]
      · rw [show ([l[i + 2]'(by omega)] == [l[i]]) = false from beq_false_of_ne (by simpa using fun e => hx e.symm), if_neg Bool.false_ne_true, z_bin, z_bin, v1, zb, z_con, zb, x1, zb, z_bin, v1, zb, z_con, zb, x0, zb, o_subN h.le, show (l[i] == l[i + 2]'(by omega)) = false from beq_false_of_ne hx, if_neg Bool.false_ne_true]
    have hw : (if (l[i] == l[i + 2]'(by omega)) = true then p else q - p) < 2 ^ 900 := by
      have := h.top
      have := h.le
      have hc : (100000 : Nat) < 2 ^ 900 := by decide
      refine Nat.lt_of_le_of_lt ?_ hc
      split <;> omega
    have hlow : lowAt q (i + 1) < 2 ^ 900 := by
      unfold lowAt
      rw [if_neg (by omega)]
      have h1 := pow_lt (b := q) (k := i + 1 - 1) h.top (by omega)
      have h3 : 6 * q ^ (i + 1 - 1) ≤ 6 * 2 ^ 400 := Nat.mul_le_mul (Nat.le_refl 6) (Nat.le_of_lt h1)
      exact Nat.lt_of_le_of_lt h3 (by decide)
    have hq : q < 2 ^ 900 := Nat.lt_of_le_of_lt h.top (by decide)
    have hl2 : lowAt q (i + 1) * q = lowAt q (i + 1 + 1) := by
      unfold lowAt
      rw [if_neg (by omega), if_neg (by omega), Nat.mul_assoc, ← Nat.pow_succ]
      rfl
    rw [z_sif, z_toT, z_bin, v4, zb, z_con, zb, q_eqI, hne, zb]
    show (R.ok false S).bindS _ = _
    rw [zbS, if_neg Bool.false_ne_true, z_seq, z_set, z_bin, v2, zb, ew, zb]
    rw [show i + 1 - 1 = i from rfl, o_mulN w1 hw (by decide) (by decide), zbS, ← wp_snoc, ← et]
    show sSet 3 _ (chE l p q (wp ((hs l).take (i + 1)) p q) (lowAt q (i + 1)) (some (.int ((1 : Int) + ((i + 1 : Nat) : Int) * 1)))) S = _
    obtain ⟨u0, u1, u2, u3, u4⟩ := chE_v l p q (wp ((hs l).take (i + 1)) p q) (lowAt q (i + 1)) (.int ((1 : Int) + ((i + 1 : Nat) : Int) * 1)) S
    rw [z_set, z_bin, u3, zb, z_bin, u1, zb, z_con, zb, x1, zb, o_mulN hlow hq (by decide) (by decide), zbS, hl2]
    rfl
end Lw

namespace Pv
open L2
section
variable {env env' : VEnv} {S S1 S2 S3 : Sto} {f g : FE} {fs gs : FS} {t : FT} {x y z v : PV} {o : F2} {F : FF} {i : Nat} {b : Bool}
theorem seq_nx (h : fs env S = .nx env' S1) : sSeq fs gs env S = gs env' S1 := by rw [z_seq, h]
theorem seq_ret (h : fs env S = .ret v S1) : sSeq fs gs env S = .ret v S1 := by rw [z_seq, h]
theorem sif_t (h : t env S = .ok true S1) : sIf t fs gs env S = fs env S1 := by rw [z_sif, h, zbS, if_pos rfl]
theorem sif_f (h : t env S = .ok false S1) : sIf t fs gs env S = gs env S1 := by rw [z_sif, h, zbS, if_neg Bool.false_ne_true]
theorem ret_eq (h : f env S = .ok v S1) : sRet f env S = .ret v S1 := by rw [z_ret, h, zbS]
theorem set_eq (h : f env S = .ok v S1) : sSet i f env S = .nx (env.set i (some v)) S1 := by rw [z_set, h, zbS]
theorem exp_eq (h : f env S = .ok v S1) : sExpr f env S = .nx env S1 := by rw [z_expr, h, zbS]
theorem toT_eq (h : f env S = .ok (.bl b) S1) : toT f env S = .ok b S1 := by rw [z_toT, h, zb]
theorem not_eq (h : t env S = .ok b S1) : tNot' t env S = .ok (!b) S1 := by rw [z_not', h, zb]
theorem var_eq (h : env[i]? = some (some v)) : eVar i env S = .ok v S := by rw [z_var, h]
theorem con_eq : eCon v env S = .ok v S := rfl
theorem bin_eq (h1 : f env S = .ok x S1) (h2 : g env S1 = .ok y S2) (h3 : o x y S2 = .ok z S3) : eBin o f g env S = .ok z S3 := by rw [z_bin, h1, zb, h2, zb, h3]
theorem call1 (h1 : f env S = .ok x S1) (h2 : F [x] S1 = .ok z S2) : eCall F (aCons f aNil) env S = .ok z S2 := by rw [z_call, z_cons, h1, zb, z_nil, zb, zb, h2]
theorem call2 (h1 : f env S = .ok x S1) (h2 : g env S1 = .ok y S2) (h3 : F [x, y] S2 = .ok z S3) : eCall F (aCons f (aCons g aNil)) env S = .ok z S3 := by rw [z_call, z_cons, h1, zb, z_cons, h2, zb, z_nil, zb, zb, zb, h3]
theorem tupE2 (h1 : f env S = .ok x S1) (h2 : g env S1 = .ok y S2) (hx : isP x = true) (hy : isP y = true) : eTup (aCons f (aCons g aNil)) env S = .ok (.tup [x, y]) S2 := by
  rw [z_tup, z_cons, h1, zb, z_cons, h2, zb, z_nil, zb, zb, zb, if_pos (Lw.tup2 _ _ hx hy)]
theorem sub_eq {fo fi : FE} (h : f env S = .ok x S1) (h1 : fo env S1 = .ok y S2) (h2 : fi env S2 = .ok z S3) {S4 : Sto} (h3 : setCl S3 y z x = some S4) : sSub fo fi f env S = .nx env S4 := by rw [z_sub, h, zbS, h1, zbS, h2, zbS, h3]
theorem dm_eq {fo fi : FE} {p q : PV} {j : Nat} (h : f env S = .ok (.tup [p, q]) S1) (h1 : fo env S1 = .ok y S2) (h2 : fi env S2 = .ok z S3) {S4 : Sto} (h3 : setCl S3 y z p = some S4) : sDm fo fi j f env S = .nx (env.set j (some q)) S4 := by
  rw [z_dm, h, zbS]
  show (fo env S1).bindS _ = _
  rw [h1, zbS, h2, zbS, h3]
theorem asg_eq {p : Pat} (h : f env S = .ok v S1) (h1 : setPat p v env = some env') : sAsg p f env S = .nx env' S1 := by rw [z_asg, h, zbS, h1]
theorem for_eq {p : Pat} {it : FI} {items : List PV} {r : RS} (h : it env S = .ok items S1) (h1 : forGo p fs items env S1 = r) : sFor p it fs env S = r := by rw [z_for, h, zbS, h1]
theorem fn_ret {np N : Nat} {xs : List PV} {env : VEnv} (hl : xs.length = np) (he : startE N xs = env) (h : fs env S = .ret v S1) (hv : isP v = true) (hS : S1.take S.length = S1) : fnOf np N fs xs S = .ok v S1 := by
  rw [fn_eq hl, he, h, z_out_ret, out_pure hv, hS]
theorem fn_ret0 {np N : Nat} {xs : List PV} {env : VEnv} (hl : xs.length = np) (he : startE N xs = env) (h : fs env S = .ret v S) (hv : isP v = true) : fnOf np N fs xs S = .ok v S := fn_ret hl he h hv List.take_length
end
end Pv

namespace Lw
open Pv L2
def pot (a b c : Int) : SO := .lst [.int a, .int b, .int c]
def Has (n : Nat) (S : Sto) : Prop := ∃ a b c, S[n]? = some (pot a b c)
def Dr (n : Nat) (S S' : Sto) : Prop := ∃ a b c, S' = S.set n (pot a b c)
theorem Dr.len {n : Nat} {S S' : Sto} (h : Dr n S S') : S'.length = S.length := by
  obtain ⟨a, b, c, rfl⟩ := h
  exact List.length_set
theorem Dr.has {n : Nat} {S S' : Sto} (h : Dr n S S') (k : Has n S) : Has n S' := by
  obtain ⟨a, b, c, rfl⟩ := h
  obtain ⟨a', b', c', e⟩ := k
  exact ⟨a, b, c, List.getElem?_set_self (List.getElem?_eq_some_iff.mp e).1⟩
theorem Dr.trans {n : Nat} {S S' S2 : Sto} (h : Dr n S S') (k : Dr n S' S2) : Dr n S S2 := by
  obtain ⟨a, b, c, rfl⟩ := h
  obtain ⟨a', b', c', rfl⟩ := k
  exact ⟨a', b', c', List.set_set ..⟩
theorem Dr.refl {n : Nat} {S : Sto} (k : Has n S) : Dr n S S := by
  obtain ⟨a, b, c, e⟩ := k
  refine ⟨a, b, c, ?_⟩
  have hn := (List.getElem?_eq_some_iff.mp e)
  rw [← hn.2, List.set_getElem_self]
theorem Dr.take {n : Nat} {S S' : Sto} (h : Dr n S S') : S'.take S.length = S' := List.take_of_length_le (Nat.le_of_eq h.len)
theorem cl_pot {n : Nat} {S : Sto} {a b c : Int} (h : S[n]? = some (pot a b c)) : cl S n = some [.int a, .int b, .int c] := by
  unfold cl
  rw [h]
  rfl
theorem ix_pot {n : Nat} {S : Sto} {a b c : Int} (h : S[n]? = some (pot a b c)) : oIx (.ref n) (.int 0) S = .ok (.int a) S ∧ oIx (.ref n) (.int 1) S = .ok (.int b) S ∧ oIx (.ref n) (.int 2) S = .ok (.int c) S :=
  ⟨q_ixR h rfl, q_ixR h rfl, q_ixR h rfl⟩
theorem set_pot {n : Nat} {S : Sto} {a b c x : Int} (h : S[n]? = some (pot a b c)) : setCl S (.ref n) (.int 0) (.int x) = some (S.set n (pot x b c)) ∧ setCl S (.ref n) (.int 1) (.int x) = some (S.set n (pot a x c)) ∧ setCl S (.ref n) (.int 2) (.int x) = some (S.set n (pot a b x)) := by
  unfold setCl
  simp only [cl_pot h]
  exact ⟨rfl, rfl, rfl⟩
theorem set_at {n : Nat} {S : Sto} {x y : SO} (h : S[n]? = some y) : (S.set n x)[n]? = some x := List.getElem?_set_self (List.getElem?_eq_some_iff.mp h).1
end Lw

namespace Lw
open Pv L2
theorem Stk.snoc {l : List Nat} (h : Stk l) {a c : Nat} (hc : Lt c) (ha : l.getLast? = some a) (hne : a ≠ c) (hl : l.length < 24) : Stk (l ++ [c]) := by
  refine ⟨fun x hx => ?_, by simp, by simp; omega, fun b hb => ?_⟩
  · rcases List.mem_append.mp hx with q | q
    · exact h.1 x q
    · rw [List.mem_singleton.mp q]; exact hc
  · rw [zz_snoc 1 _ l c (Nat.le_refl 1) a (by rw [← List.getLast?_eq_getElem?]; exact ha) h.2.1] at hb
    rcases List.mem_append.mp hb with q | q
    · exact h.2.2.2 b q
    · rw [List.mem_singleton.mp q]
      exact bne_iff_ne.mpr hne
theorem stk_one {c : Nat} (hc : Lt c) : Stk [c] := ⟨fun x hx => by rw [List.mem_singleton.mp hx]; exact hc, Nat.le_refl 1, (by show (1 : Nat) ≤ 24; decide), fun b hb => nomatch hb⟩
theorem last_of {l : List Nat} (h : 1 ≤ l.length) : ∃ a, l.getLast? = some a ∧ a ∈ l := by
  have hne : l ≠ [] := fun e => by rw [e] at h; simp at h
  exact ⟨l.getLast hne, List.getLast?_eq_some_getLast hne, List.getLast_mem hne⟩
theorem abc_in {c : Nat} : c ∈ ([65, 66, 67] : List Nat) ↔ Lt c := by
  unfold Lt
  simp
theorem tup_ints (ns : List Int) (h : ns.length ≤ 100) : (decide ((ns.map PV.int).length ≤ SZ) && (ns.map PV.int).all isP) = true := by
  rw [decide_eq_true (show (ns.map PV.int).length ≤ SZ by rw [List.length_map]; exact Nat.le_trans h (by decide)), Bool.true_and, List.all_eq_true]
  intro x hx
  obtain ⟨i, _, rfl⟩ := List.mem_map.mp hx
  rfl
def lits (ns : List Int) : FA := ns.foldr (fun i r => aCons (eCon (.int i)) r) aNil
theorem lits_eq (env : VEnv) (S : Sto) : ∀ ns : List Int, lits ns env S = .ok (ns.map .int) S
  | [] => rfl
  | n :: ns => by
    show aCons (eCon (.int n)) (lits ns) env S = _
    rw [z_cons, con_eq, zb, lits_eq env S ns, zb]
    rfl
theorem tup_lits (env : VEnv) (S : Sto) (ns : List Int) (h : ns.length ≤ 100) : eTup (lits ns) env S = .ok (.tup (ns.map .int)) S := by
  rw [z_tup, lits_eq, zb, if_pos (tup_ints ns h)]
end Lw

namespace Lw
open Pv L2
theorem k_it : kitB "int" "tuple" = some false := by decide +kernel
theorem k_il : kitB "int" "list" = some false := by decide +kernel
theorem k_ib : kitB "int" "bool" = some false := by decide +kernel
theorem k_ii : kitB "int" "int" = some true := by decide +kernel
theorem k_is : kitB "int" "str" = some false := by decide +kernel
theorem k_tt : kitB "tuple" "tuple" = some true := by decide +kernel
theorem k_lt : kitB "list" "tuple" = some false := by decide +kernel
theorem k_ll : kitB "list" "list" = some true := by decide +kernel
theorem isi_eq {T : String} {f : FE} {env : VEnv} {S S1 : Sto} {x : PV} {b : Bool} (h : f env S = .ok x S1) (hk : kitB (tyPV x) T = some b) : eIsi T f env S = .ok (.bl b) S1 := by rw [z_isi, h, zb, hk]
theorem q_neB {a b : Bool} {S : Sto} : oNe (.bl a) (.bl b) S = .ok (.bl (a != b)) S := by simp [oNe, dv, dpt, eqPV, bne]
theorem and_t {t u : FT} {env : VEnv} {S S1 : Sto} {r : R Bool} (h : t env S = .ok true S1) (h2 : u env S1 = r) : tAnd' t u env S = r := by rw [z_and', h, zb, if_pos rfl, h2]
theorem and_f {t u : FT} {env : VEnv} {S S1 : Sto} (h : t env S = .ok false S1) : tAnd' t u env S = .ok false S1 := by rw [z_and', h, zb, if_neg Bool.false_ne_true]
theorem or_t {t u : FT} {env : VEnv} {S S1 : Sto} (h : t env S = .ok true S1) : tOr' t u env S = .ok true S1 := by rw [z_or', h, zb, if_pos rfl]
theorem or_f {t u : FT} {env : VEnv} {S S1 : Sto} {r : R Bool} (h : t env S = .ok false S1) (h2 : u env S1 = r) : tOr' t u env S = r := by rw [z_or', h, zb, if_neg Bool.false_ne_true, h2]
theorem all_true {α : Type} (l : List α) : (l.map fun _ => true).all _root_.id = true := by
  rw [List.all_eq_true]
  intro b hb
  obtain ⟨_, _, rfl⟩ := List.mem_map.mp hb
  rfl
theorem sum_len (ns : List Int) : ∃ i : Int, ∀ S : Sto, bSum [.lst ((cut ns none (some 3)).map .int)] S = .ok (.int i) S := ⟨_, fun S => by
  unfold bSum
  show (match (dlS S (.lst ((cut ns none (some 3)).map .int))).bind intsOf with
    | some ns => R.ok (PV.int ns.sum) S
    | none => .no) = _
  show (match intsOf ((cut ns none (some 3)).map .int) with
    | some ns => R.ok (PV.int ns.sum) S
    | none => .no) = _
  rw [intsOf_map]⟩
theorem fk_ret {np N : Nat} {xs : List PV} {env : VEnv} {fs : FS} {S S1 : Sto} {v : PV} (hl : xs.length = np) (he : startE N xs = env) (h : fs env S = .ret v S1) : fnKeep np N fs xs S = .ok v S1 := by
  unfold fnKeep
  rw [if_pos hl, he, h]
theorem pow_ok (k : Nat) (hk : k ≤ 100) (S : Sto) : oPow (.int 10) (.int (k : Int)) S = .ok (.int ((10 : Int) ^ k)) S := by
  have h : powOk 10 (k : Int) = true := by
    unfold powOk
    rw [decide_eq_true (show (0 : Int) ≤ (k : Int) by omega), decide_eq_true (show (k : Int) ≤ 1000000 by omega), decide_eq_true (show (10 : Int).natAbs < 2 ^ 64 by decide)]
    rfl
  show (if powOk 10 (k : Int) = true then R.ok (PV.int ((10 : Int) ^ ((k : Int)).toNat)) S else .no) = _
  rw [if_pos h]
  rfl
end Lw

namespace Lw
open Pv L2
theorem stk_rev {l : List Nat} (h : Stk l) : Stk l.reverse := by
  refine ⟨fun c hc => h.1 c (List.mem_reverse.mp hc), by rw [List.length_reverse]; exact h.2.1, by rw [List.length_reverse]; exact h.2.2.1, fun b hb => ?_⟩
  rw [zz_rev] at hb
  have hb := List.mem_reverse.mp hb
  rw [zz_ext 1 (fun a b => b != a) (fun a b => a != b) l (fun _ a b _ _ => by
    by_cases e : a = b
    · subst e; rfl
    · rw [bne_iff_ne.mpr (fun z => e z.symm), bne_iff_ne.mpr e])] at hb
  exact h.2.2.2 b hb
theorem hs_rev (l : List Nat) : hs l.reverse = (hs l).reverse := by
  unfold hs
  rw [zz_rev, zz_ext 2 (fun a b => b == a) (fun a c => a == c) l fun _ a b _ _ => by
    by_cases e : a = b
    · subst e; rfl
    · rw [beq_false_of_ne (fun z => e z.symm), beq_false_of_ne e]]
def nx (c : Nat) : Nat := if c = 67 then 65 else c + 1
theorem nx_lt {c : Nat} (h : Lt c) : Lt (nx c) := by
  rcases h with rfl | rfl | rfl
  · exact .inr (.inl rfl)
  · exact .inr (.inr rfl)
  · exact .inl rfl
theorem nx_inj {a b : Nat} (ha : Lt a) (hb : Lt b) : nx a = nx b ↔ a = b := by
  rcases ha with rfl | rfl | rfl <;> rcases hb with rfl | rfl | rfl <;> decide
theorem stk_nx {l : List Nat} (h : Stk l) : Stk (l.map nx) := by
  refine ⟨fun c hc => ?_, by rw [List.length_map]; exact h.2.1, by rw [List.length_map]; exact h.2.2.1, fun b hb => ?_⟩
  · obtain ⟨a, ha, rfl⟩ := List.mem_map.mp hc
    exact nx_lt (h.1 a ha)
  · rw [zz_map, zz_ext 1 (fun a b => nx a != nx b) (fun a b => a != b) l fun _ a b ha hb => by
      have := nx_inj (h.1 a (List.mem_of_getElem? ha)) (h.1 b (List.mem_of_getElem? hb))
      by_cases e : a = b
      · subst e; simp
      · rw [bne_iff_ne.mpr e, bne_iff_ne.mpr fun z => e (this.mp z)]] at hb
    exact h.2.2.2 b hb
theorem hs_nx {l : List Nat} (h : Stk l) : hs (l.map nx) = hs l := by
  unfold hs
  rw [zz_map]
  refine zz_ext 2 _ _ l fun _ a b ha hb => ?_
  have := nx_inj (h.1 a (List.mem_of_getElem? ha)) (h.1 b (List.mem_of_getElem? hb))
  by_cases e : a = b
  · subst e; simp
  · rw [beq_false_of_ne e, beq_false_of_ne fun z => e (this.mp z)]
theorem numden {l l' : List Nat} (hc : (hs l').count true = (hs l).count true) (hl : l'.length = l.length) (p q : Nat) : num l' p q = num l p q ∧ den l' q = den l q := by
  have hn : nN l' = nN l := by
    unfold nN hs
    rw [zz_len, zz_len, hl]
  unfold num den hN fst3
  rw [hc, hn, hl]
  exact ⟨rfl, rfl⟩
theorem lst_add (xs ys : List PV) (h : xs.length + ys.length ≤ 1000) (S : Sto) : oAdd (.lst xs) (.lst ys) S = .ok (.lst (xs ++ ys)) S := by
  rw [q_addL, if_pos (Nat.le_trans h (by decide))]
theorem disp1 {f : FE} {env : VEnv} {S S1 : Sto} {x : PV} (h : f env S = .ok x S1) (hx : isP x = true) : eFrz (lDisp (aCons f aNil)) env S = .ok (.lst [x]) S1 := by
  have hd : (decide (([x]).length ≤ SZ) && ([x]).all isP) = true := by
    rw [decide_eq_true (show ([x]).length ≤ SZ from (by decide : (1 : Nat) ≤ SZ)), List.all_cons, hx]
    rfl
  rw [z_frz, z_disp, z_cons, h, zb, z_nil, zb, zb, if_pos hd, zb]
theorem disp3 {f g k : FE} {env : VEnv} {S S1 S2 S3 : Sto} {x y z : PV} (h1 : f env S = .ok x S1) (h2 : g env S1 = .ok y S2) (h3 : k env S2 = .ok z S3) (hx : isP x = true) (hy : isP y = true) (hz : isP z = true) : eFrz (lDisp (aCons f (aCons g (aCons k aNil)))) env S = .ok (.lst [x, y, z]) S3 := by
  have hd : (decide (([x, y, z]).length ≤ SZ) && ([x, y, z]).all isP) = true := by
    rw [decide_eq_true (show ([x, y, z]).length ≤ SZ from (by decide : (3 : Nat) ≤ SZ)), List.all_cons, List.all_cons, List.all_cons, hx, hy, hz]
    rfl
  rw [z_frz, z_disp, z_cons, h1, zb, z_cons, h2, zb, z_cons, h3, zb, z_nil, zb, zb, zb, zb, if_pos hd, zb]
theorem index_s {c : Nat} (h : Lt c) (S : Sto) : bIndex (.str [65, 66, 67]) [.str [c]] S = .ok (.int ((c - 65 : Nat) : Int)) S := by
  rcases h with rfl | rfl | rfl <;> rfl
theorem meth1 {T : String} {G : FM} {f g : FE} {env : VEnv} {S S1 S2 S3 : Sto} {x y z : PV} (h1 : f env S = .ok x S1) (hk : kdB T S1 x = true) (h2 : g env S1 = .ok y S2) (h3 : G x [y] S2 = .ok z S3) : eMeth T G f (aCons g aNil) env S = .ok z S3 := by
  rw [z_meth, h1, zb, if_pos hk, z_cons, h2, zb, z_nil, zb, zb, h3]
theorem lc_eq {p : Pat} {it : FI} {t : FT} {f : FE} {vs : List Nat} {env env1 : VEnv} {S : Sto} {items ys : List PV} (hi : it env S = .ok items S) (hl : items.length < SZ) (hw : wipeE env vs = env1) (h : lcGo p t f env1 S.length items S = .ok ys S) : eFrz (fLc p it t f vs) env S = .ok (.lst ys) S := by
  rw [z_frz, z_lc, hi, zb, if_pos hl, hw, h, zb]
theorem it_eq {f : FE} {env : VEnv} {S S1 : Sto} {x : PV} {items : List PV} (h : f env S = .ok x S1) (hs : seqI x = some items) : iVal f env S = .ok items S1 := by
  rw [z_it, h, zb, hs]
end Lw

namespace Lw
open Pv L2
theorem red_cross {N D N' D' : Nat} (hD : 0 < D) (hD' : 0 < D') (h : N * D' = N' * D) : red N D = red N' D' := by
  have g0 := Nat.gcd_pos_of_pos_right N hD
  have g0' := Nat.gcd_pos_of_pos_right N' hD'
  have e : Nat.gcd N D * D' = Nat.gcd N' D' * D := by
    rw [← Nat.gcd_mul_right, ← Nat.gcd_mul_right, h, Nat.mul_comm D D']
  obtain ⟨n, hn⟩ := Nat.gcd_dvd_left N D
  obtain ⟨d, hd⟩ := Nat.gcd_dvd_right N D
  obtain ⟨n', hn'⟩ := Nat.gcd_dvd_left N' D'
  obtain ⟨d', hd'⟩ := Nat.gcd_dvd_right N' D'
  unfold red
  revert hn hd hn' hd' e g0 g0'
  generalize Nat.gcd N D = g
  generalize Nat.gcd N' D' = g'
  intro g0 g0' e hn hd hn' hd'
  have e1 : N / g = n := by rw [hn]; exact Nat.mul_div_cancel_left _ g0
  have e2 : D / g = d := by rw [hd]; exact Nat.mul_div_cancel_left _ g0
  have e3 : N' / g' = n' := by rw [hn']; exact Nat.mul_div_cancel_left _ g0'
  have e4 : D' / g' = d' := by rw [hd']; exact Nat.mul_div_cancel_left _ g0'
  rw [e1, e2, e3, e4]
  have hdd : d = d' := by
    rw [hd, hd'] at e
    have e5 : (g * g') * d' = (g * g') * d := by
      rw [Nat.mul_assoc, e, ← Nat.mul_assoc, Nat.mul_comm g' g]
    exact (Nat.eq_of_mul_eq_mul_left (Nat.mul_pos g0 g0') e5).symm
  have hd0 : 0 < d := Nat.pos_of_ne_zero fun z => by rw [z, Nat.mul_zero] at hd; omega
  have hnn : n = n' := by
    rw [hn, hn', hd, hd', ← hdd] at h
    have e5 : (g * g' * d) * n = (g * g' * d) * n' := by
      have a1 : (g * g' * d) * n = g * n * (g' * d) := by ac_rfl
      have a2 : (g * g' * d) * n' = g' * n' * (g * d) := by ac_rfl
      rw [a1, a2, h]
    exact Nat.eq_of_mul_eq_mul_left (Nat.mul_pos (Nat.mul_pos g0 g0') hd0) e5
  rw [hdd, hnn]
theorem red_val (N D : Nat) : (red N D).1 * D = N * (red N D).2 := by
  unfold red
  obtain ⟨n, hn⟩ := Nat.gcd_dvd_left N D
  obtain ⟨d, hd⟩ := Nat.gcd_dvd_right N D
  by_cases g0 : Nat.gcd N D = 0
  · have hN := Nat.eq_zero_of_gcd_eq_zero_left g0
    have hD := Nat.eq_zero_of_gcd_eq_zero_right g0
    rw [hN, hD, Nat.mul_zero, Nat.zero_mul]
  · have gp := Nat.pos_of_ne_zero g0
    revert hn hd gp
    generalize Nat.gcd N D = g
    intro hn hd gp
    have e1 : N / g = n := by rw [hn]; exact Nat.mul_div_cancel_left _ gp
    have e2 : D / g = d := by rw [hd]; exact Nat.mul_div_cancel_left _ gp
    rw [e1, e2]
    show n * D = N * d
    rw [hn, hd]
    ac_rfl
theorem red_pos {N D : Nat} (h : 0 < D) : 0 < (red N D).2 := Nat.div_pos (Nat.gcd_le_right _ h) (Nat.gcd_pos_of_pos_right _ h)
theorem red_le (N D : Nat) : (red N D).1 ≤ N ∧ (red N D).2 ≤ D := ⟨Nat.div_le_self _ _, Nat.div_le_self _ _⟩
theorem add_frac {n1 d1 n2 d2 N1 N2 D M E : Nat} (hD : 0 < D) (h1 : n1 * D = N1 * d1) (h2 : n2 * D = N2 * d2) (h : (N1 + N2) * E = M * D) : (n1 * d2 + n2 * d1) * E = M * (d1 * d2) := by
  have e : D * ((n1 * d2 + n2 * d1) * E) = D * (M * (d1 * d2)) := by
    have a1 : D * ((n1 * d2 + n2 * d1) * E) = (n1 * D * d2 + n2 * D * d1) * E := by
      rw [← Nat.mul_assoc, Nat.mul_add]
      congr 2 <;> ac_rfl
    have a2 : D * (M * (d1 * d2)) = M * D * (d1 * d2) := by ac_rfl
    rw [a1, a2, h1, h2, ← h]
    have a3 : N1 * d1 * d2 + N2 * d2 * d1 = (N1 + N2) * (d1 * d2) := by
      rw [Nat.add_mul]
      congr 1 <;> ac_rfl
    rw [a3]
    ac_rfl
  exact Nat.eq_of_mul_eq_mul_left hD e
theorem red_add {N1 N2 D M E : Nat} (hD : 0 < D) (hE : 0 < E) (h : (N1 + N2) * E = M * D) :
    red ((red N1 D).1 * (red N2 D).2 + (red N2 D).1 * (red N1 D).2) ((red N1 D).2 * (red N2 D).2) = red M E :=
  red_cross (Nat.mul_pos (red_pos hD) (red_pos hD)) hE (add_frac hD (red_val N1 D) (red_val N2 D) h)
theorem hs_snoc {l : List Nat} {c : Nat} {a : Nat} (ha : l[l.length - 2]? = some a) (h2 : 2 ≤ l.length) : hs (l ++ [c]) = hs l ++ [a == c] := zz_snoc 2 _ l c (by decide) a ha h2
theorem num_snoc {l : List Nat} {c a : Nat} (ha : l[l.length - 2]? = some a) (h2 : 2 ≤ l.length) (p q : Nat) : num (l ++ [c]) p q = num l p q * (if (a == c) = true then p else q - p) := by
  rw [num_wp, hs_snoc ha h2, wp_snoc, num_wp]
theorem den_snoc {l : List Nat} {c a : Nat} (ha : l[l.length - 2]? = some a) (h2 : 2 ≤ l.length) (q : Nat) : den (l ++ [c]) q = den l q * q := by
  unfold den fst3 nN
  rw [hs_snoc ha h2, List.length_append, List.length_append, if_pos (by simp; omega), if_pos (by omega), show (hs l).length + [a == c].length = (hs l).length + 1 from rfl, Nat.pow_succ, Nat.mul_assoc]
theorem next_two {a : Nat} (h : Lt a) : ∃ c1 c2, ([65, 66, 67] : List Nat).filter (fun d => d != a) = [c1, c2] ∧ Lt c1 ∧ Lt c2 ∧ a ≠ c1 ∧ a ≠ c2 ∧ c1 ≠ c2 ∧ ∀ b, Lt b → b ≠ a → b = c1 ∨ b = c2 := by
  rcases h with rfl | rfl | rfl
  · exact ⟨66, 67, rfl, .inr (.inl rfl), .inr (.inr rfl), by decide, by decide, by decide, fun b hb hn => by rcases hb with rfl | rfl | rfl <;> simp_all⟩
  · exact ⟨65, 67, rfl, .inl rfl, .inr (.inr rfl), by decide, by decide, by decide, fun b hb hn => by rcases hb with rfl | rfl | rfl <;> simp_all⟩
  · exact ⟨65, 66, rfl, .inl rfl, .inr (.inl rfl), by decide, by decide, by decide, fun b hb hn => by rcases hb with rfl | rfl | rfl <;> simp_all⟩
theorem Stk.prev {l : List Nat} (h : Stk l) (h2 : 2 ≤ l.length) {a : Nat} (ha : l.getLast? = some a) : ∃ b, l[l.length - 2]? = some b ∧ Lt b ∧ b ≠ a := by
  have hb : l[l.length - 2]? = some (l[l.length - 2]'(by omega)) := List.getElem?_eq_getElem (by omega)
  rw [List.getLast?_eq_getElem?] at ha
  exact ⟨_, hb, h.1 _ (List.getElem_mem _), h.at hb (by rw [show l.length - 2 + 1 = l.length - 1 by omega]; exact ha)⟩
theorem next_sum {l : List Nat} (h : Stk l) {p q : Nat} (hc : Ch p q) {a c1 c2 : Nat} (ha : l.getLast? = some a) (n1 : Lt c1) (n2 : Lt c2) (x1 : a ≠ c1) (x2 : a ≠ c2) (x3 : c1 ≠ c2) (all : ∀ b, Lt b → b ≠ a → b = c1 ∨ b = c2) :
    (num (l ++ [c1]) p q + num (l ++ [c2]) p q) * den l q = num l p q * den (l ++ [c1]) q ∧ den (l ++ [c2]) q = den (l ++ [c1]) q := by
  by_cases h2 : 2 ≤ l.length
  · obtain ⟨b, hb, hl, hne⟩ := h.prev h2 ha
    rw [num_snoc hb h2, num_snoc hb h2, den_snoc (c := c1) hb h2, den_snoc (c := c2) hb h2]
    refine ⟨?_, rfl⟩
    have hs : (if (b == c1) = true then p else q - p) + (if (b == c2) = true then p else q - p) = q := by
      have := hc.le
      rcases all b hl hne with rfl | rfl
      · rw [if_pos (beq_self_eq_true _), if_neg (by simpa using x3)]
        omega
      · rw [if_neg (by simpa using fun z => x3 z.symm), if_pos (beq_self_eq_true _)]
        omega
    rw [← Nat.mul_add, hs]
    ac_rfl
  · have hl1 : l.length = 1 := by have := h.2.1; omega
    have e0 : hs l = [] := zz_none 2 _ l (by omega)
    have e1 : ∀ c, hs (l ++ [c]) = [] := fun c => zz_none 2 _ _ (by simp; omega)
    refine ⟨?_, ?_⟩
    · rw [num_wp, num_wp, num_wp, e1, e1, e0]
      unfold den fst3 nN
      rw [e1, e0, if_neg (by omega), if_pos (by simp; omega)]
      simp [wp]
    · unfold den fst3 nN
      rw [e1, e1, List.length_append, List.length_append]
      rfl
end Lw

namespace Lw
open Pv L2
def third (a b : Nat) : Nat := 65 + 66 + 67 - a - b
theorem third_lt {a b : Nat} (ha : Lt a) (hb : Lt b) (hn : a ≠ b) : Lt (third a b) ∧ third a b ≠ a ∧ third a b ≠ b := by
  rcases ha with rfl | rfl | rfl <;> rcases hb with rfl | rfl | rfl <;> first | exact absurd rfl hn | (unfold Lt third; decide)
theorem stk_two {a b : Nat} (ha : Lt a) (hb : Lt b) (hn : a ≠ b) : Stk [a, b] := (stk_one ha).snoc hb rfl hn (by show (1 : Nat) < 24; decide)
def MkL (M : List Nat) : Prop := ∀ c ∈ M, c = 104 ∨ c = 99
end Lw

namespace Lw
open Pv L2
abbrev rt6 : FS := (sSet 6 (eTup (aCons (eBin oAdd (eBin oMul (eBin oIx (eBin oIx (eVar 4) (eCon (.int 0))) (eCon (.int 0))) (eBin oIx (eBin oIx (eVar 4) (eCon (.int 1))) (eCon (.int 1)))) (eBin oMul (eBin oIx (eBin oIx (eVar 4) (eCon (.int 1))) (eCon (.int 0))) (eBin oIx (eBin oIx (eVar 4) (eCon (.int 0))) (eCon (.int 1))))) (aCons (eBin oMul (eBin oIx (eBin oIx (eVar 4) (eCon (.int 0))) (eCon (.int 1))) (eBin oIx (eBin oIx (eVar 4) (eCon (.int 1))) (eCon (.int 1)))) aNil))))
abbrev rE (n : Nat) (x1 : Option PV) (l : List Nat) (p q : Nat) (e4 e5 e6 e7 e8 e9 : Option PV) : VEnv := [some (.ref n), x1, some (.str l), some (chp p q), e4, e5, e6, e7, e8, e9]
theorem o_addN (a b : Nat) (S : Sto) : oAdd (.int (a : Int)) (.int (b : Int)) S = .ok (.int ((a + b : Nat) : Int)) S := by rw [q_addI, Int.natCast_add]
theorem num_lt {l : List Nat} (hl : Stk l) {p q : Nat} (h : Ch p q) : num l p q < 2 ^ 900 := by rw [num_wp]; exact wp_lt h (nN_le hl)
theorem fr_ix (r : Nat × Nat) (S : Sto) : oIx (fr r) (.int 0) S = .ok (.int (r.1 : Int)) S ∧ oIx (fr r) (.int 1) S = .ok (.int (r.2 : Int)) S := ⟨rfl, rfl⟩
theorem two_ix (x y : PV) (S : Sto) : oIx (.lst [x, y]) (.int 0) S = .ok x S ∧ oIx (.lst [x, y]) (.int 1) S = .ok y S := ⟨rfl, rfl⟩
theorem num_flip {l l' : List Nat} {p q : Nat} (h : Ch p q) (hh : hs l' = (hs l).map (!·)) (hlen : l'.length = l.length) : num l' (q - p) q = num l p q ∧ den l' q = den l q := by
  have hc : (hs l').count true = (hs l).length - (hs l).count true := by
    rw [hh]
    induction hs l with
    | nil => rfl
    | cons b bs ih =>
      have := List.count_le_length (l := bs) (a := true)
      cases b <;> simp [ih] <;> omega
  have hn : nN l' = nN l := by
    unfold nN
    rw [hh, List.length_map]
  constructor
  · unfold num hN
    rw [hc, hn, show q - (q - p) = p by have := h.le; omega]
    have := hN_le l
    unfold hN at this
    rw [show nN l - ((hs l).length - (hs l).count true) = (hs l).count true by unfold nN at this ⊢; omega]
    rw [Nat.mul_comm]
    rfl
  · unfold den fst3
    rw [hn, hlen]
end Lw

namespace Lw
open Pv L2
abbrev alB1 : FS := (sSet 3 (eBin oAdd (eVar 3) (eFrz (fLc (.nm 5) (iVal (eCon (.str [65, 66, 67]))) (toT (eBin oNe (eVar 5) (eBin oIx (eVar 4) (eNeg (eCon (.int 1)))))) (eBin oAdd (eVar 4) (eVar 5)) [5]))))
abbrev alB : FS := sSeq (sSet 3 (eFrz (lDisp aNil))) (sSeq (sFor (.nm 4) (iVal (eVar 1)) alB1) (sSet 1 (eVar 3)))
abbrev arA : FS := (sAsg (.tp [(.nm 4), (.nm 5)]) (eTup (aCons (eCon (.int 0)) (aCons (eCon (.int 1)) aNil))))
abbrev arR : FS := (sRet (eBin oEq (eTup (aCons (eVar 4) (aCons (eVar 5) aNil))) (eTup (aCons (eCon (.int 1)) (aCons (eCon (.int 1)) aNil)))))
def lst0 (t : List Nat) : Nat := t.getLast?.getD 0
def ext (t : List Nat) : List (List Nat) := (([65, 66, 67] : List Nat).filter fun d => d != lst0 t).map fun c => t ++ [c]
def allL : Nat → List (List Nat)
  | 0 => [[65], [66], [67]]
  | n + 1 => (allL n).flatMap ext
theorem allL_ok : ∀ (n : Nat), n ≤ 20 → ∀ t ∈ allL n, Stk t ∧ t.length = n + 1
  | 0, _, t, ht => by
    simp only [allL, List.mem_cons, List.not_mem_nil, or_false] at ht
    rcases ht with rfl | rfl | rfl
    · exact ⟨stk_one (.inl rfl), rfl⟩
    · exact ⟨stk_one (.inr (.inl rfl)), rfl⟩
    · exact ⟨stk_one (.inr (.inr rfl)), rfl⟩
  | n + 1, hn, t, ht => by
    obtain ⟨s, hs, hx⟩ := List.mem_flatMap.mp ht
    obtain ⟨k, hl⟩ := allL_ok n (by omega) s hs
    unfold ext at hx
    obtain ⟨c, hc, rfl⟩ := List.mem_map.mp hx
    obtain ⟨hc1, hc2⟩ := List.mem_filter.mp hc
    obtain ⟨a, ha, _⟩ := last_of k.2.1
    unfold lst0 at hc2
    rw [ha] at hc2
    have hne : c ≠ a := by simpa using hc2
    exact ⟨k.snoc (abc_in.mp hc1) ha (fun e => hne e.symm) (by omega), by simp [hl]⟩
theorem ext_two {t : List Nat} (k : Stk t) : ∃ a c1 c2, t.getLast? = some a ∧ ext t = [t ++ [c1], t ++ [c2]] ∧ Lt c1 ∧ Lt c2 ∧ a ≠ c1 ∧ a ≠ c2 ∧ c1 ≠ c2 ∧ ∀ b, Lt b → b ≠ a → b = c1 ∨ b = c2 := by
  obtain ⟨a, ha, ham⟩ := last_of k.2.1
  obtain ⟨c1, c2, hf, r⟩ := next_two (k.1 a ham)
  refine ⟨a, c1, c2, ha, ?_, r⟩
  unfold ext lst0
  rw [ha]
  show (([65, 66, 67] : List Nat).filter fun d => d != a).map (fun c => t ++ [c]) = _
  rw [hf]
  rfl
theorem flat_len : ∀ (ts : List (List Nat)), (∀ t ∈ ts, Stk t) → (ts.flatMap ext).length = 2 * ts.length
  | [], _ => rfl
  | t :: ts, h => by
    obtain ⟨a, c1, c2, _, e, _⟩ := ext_two (h t List.mem_cons_self)
    rw [List.flatMap_cons, List.length_append, flat_len ts fun x hx => h x (List.mem_cons_of_mem _ hx), e]
    show 2 + 2 * ts.length = 2 * (ts.length + 1)
    omega
theorem allL_len : ∀ n, n ≤ 6 → (allL n).length = 3 * 2 ^ n
  | 0, _ => rfl
  | n + 1, hn => by
    show ((allL n).flatMap ext).length = _
    rw [flat_len _ fun t ht => (allL_ok n (by omega) t ht).1, allL_len n (by omega), Nat.pow_succ]
    omega
theorem allL_small (n : Nat) (hn : n ≤ 6) : (allL n).length ≤ 192 := by
  rw [allL_len n hn]
  have := Nat.pow_le_pow_right (show 0 < 2 by decide) hn
  omega
def txs (ts : List (List Nat)) : PV := .lst (ts.map .str)
theorem ext_lc {t : List Nat} (k : Stk t) (hl : t.length ≤ 23) (w : VEnv) (hw : w.length = 6) (h4 : w[4]? = some (some (.str t))) (S : Sto) :
    eFrz (fLc (.nm 5) (iVal (eCon (.str [65, 66, 67]))) (toT (eBin oNe (eVar 5) (eBin oIx (eVar 4) (eNeg (eCon (.int 1)))))) (eBin oAdd (eVar 4) (eVar 5)) [5]) w S = .ok (txs (ext t)) S := by
  obtain ⟨a, ha, _⟩ := last_of k.2.1
  have v4 : ∀ (x : Option PV) S, eVar 4 ((w.set 5 none).set 5 x) S = .ok (.str t) S := fun x S => by
    rw [z_var, List.getElem?_set_ne (by decide), List.getElem?_set_ne (by decide), h4]
  have v5 : ∀ (x : PV) S, eVar 5 ((w.set 5 none).set 5 (some x)) S = .ok x S := fun x S => by
    rw [z_var, List.getElem?_set_self (by rw [List.length_set, hw]; decide)]
  have hb : (fun c : Nat => [c] != [a]) = fun c => c != a := funext fun c => by
    by_cases e : c = a
    · subst e; simp
    · rw [bne_iff_ne.mpr e, bne_iff_ne.mpr (by simpa using e)]
  have hz : t.length + 1 ≤ SZ := Nat.le_trans (show t.length + 1 ≤ 25 by omega) (by decide)
  have e : lcGo (.nm 5) (toT (eBin oNe (eVar 5) (eBin oIx (eVar 4) (eNeg (eCon (.int 1)))))) (eBin oAdd (eVar 4) (eVar 5)) (w.set 5 none) S.length (([65, 66, 67] : List Nat).map fun c => .str [c]) S = .ok ((([65, 66, 67] : List Nat).filter fun c => [c] != [a]).map fun c => .str (t ++ [c])) S :=
    lc_map S (fun c : Nat => .str [c]) (fun c => (w.set 5 none).set 5 (some (.str [c]))) (fun c => [c] != [a]) (fun c => .str (t ++ [c])) _ (fun _ _ => rfl) (fun c _ => toT_eq (bin_eq (o := oNe) (v5 _ _) (ev_neg (v4 _ _) (q_ixS (at_last ha))) q_neS)) fun c hc hbc =>
      ⟨rfl, S, bin_eq (o := oAdd) (v4 _ _) (v5 _ _) (by rw [q_addS, if_pos (show t.length + ([c]).length ≤ SZ from hz)]), List.take_length⟩
  rw [lc_eq (it_eq con_eq rfl) (show ([PV.str [65], .str [66], .str [67]]).length < SZ from (by decide : (3 : Nat) < SZ)) rfl e]
  unfold txs ext lst0
  rw [ha, List.map_map, hb]
  rfl
end Lw

namespace Lw
open Pv L2
def denN (n q : Nat) : Nat := if n = 0 then 3 else 6 * q ^ (n - 1)
theorem den_n {t : List Nat} {n : Nat} (h : t.length = n + 1) (q : Nat) : den t q = denN n q := by
  unfold den denN fst3 nN hs
  rw [zz_len, h]
  by_cases h0 : n = 0
  · subst h0
    rw [if_neg (by omega), if_pos rfl]
    show 3 * q ^ 0 = 3
    rw [Nat.pow_zero]
  · rw [if_pos (by omega), if_neg h0, show n + 1 - 2 = n - 1 by omega]
def stepN (n q : Nat) : Nat := if n = 0 then 2 else q
theorem denN_step (n q : Nat) : denN (n + 1) q = denN n q * stepN n q := by
  unfold denN stepN
  by_cases h0 : n = 0
  · subst h0
    rw [if_neg (by omega), if_pos rfl, if_pos rfl]
    show 6 * q ^ 0 = 6
    rw [Nat.pow_zero]
  · rw [if_neg (by omega), if_neg h0, if_neg h0, Nat.mul_assoc, ← Nat.pow_succ, show (n - 1).succ = n + 1 - 1 by omega]
theorem denN_pos (n : Nat) {p q : Nat} (h : Ch p q) : 0 < denN n q := by
  unfold denN
  have := Nat.pow_pos (n := n - 1) (show 0 < q from h.pos)
  split <;> omega
def numS (ts : List (List Nat)) (p q : Nat) : Nat := (ts.map fun t => num t p q).sum
theorem numS_flat {p q : Nat} (h : Ch p q) (n : Nat) : ∀ (ts : List (List Nat)), (∀ t ∈ ts, Stk t ∧ t.length = n + 1) → numS (ts.flatMap ext) p q = numS ts p q * stepN n q
  | [], _ => by simp [numS]
  | t :: ts, hs => by
    obtain ⟨k, hl⟩ := hs t List.mem_cons_self
    obtain ⟨a, c1, c2, ha, e, n1, n2, x1, x2, x3, all⟩ := ext_two k
    have ih := numS_flat h n ts fun x hx => hs x (List.mem_cons_of_mem _ hx)
    obtain ⟨h1, h2⟩ := next_sum k h ha n1 n2 x1 x2 x3 all
    rw [den_n hl, den_n (t := t ++ [c1]) (n := n + 1) (by simp [hl]), denN_step] at h1
    have h3 : num (t ++ [c1]) p q + num (t ++ [c2]) p q = num t p q * stepN n q := by
      refine Nat.eq_of_mul_eq_mul_right (denN_pos n h) ?_
      rw [h1]
      ac_rfl
    unfold numS at ih ⊢
    rw [List.flatMap_cons, List.map_append, List.sum_append, ih, e]
    show num (t ++ [c1]) p q + (num (t ++ [c2]) p q + 0) + _ = _
    rw [List.map_cons, List.sum_cons, Nat.add_mul, Nat.add_zero, h3]
theorem numS_all {p q : Nat} (h : Ch p q) : ∀ n, n ≤ 20 → numS (allL n) p q = denN n q
  | 0, _ => by
    have e : ∀ c, num [c] p q = 1 := fun c => by
      rw [num_wp, show hs [c] = [] from rfl]
      rfl
    show num [65] p q + (num [66] p q + (num [67] p q + 0)) = 3
    rw [e, e, e]
  | n + 1, hn => by
    show numS ((allL n).flatMap ext) p q = _
    rw [numS_flat h n _ (allL_ok n (by omega)), numS_all h n (by omega), denN_step]
theorem numS_take (ts : List (List Nat)) (p q : Nat) (i : Nat) : numS (ts.take i) p q ≤ numS ts p q := by
  have e : numS ts p q = numS (ts.take i) p q + numS (ts.drop i) p q := by
    unfold numS
    rw [← List.sum_append, ← List.map_append, List.take_append_drop]
  omega
abbrev aE (n p q : Nat) (x : PV) (x3 a b x6 x7 : Option PV) : VEnv := [some (.int ((n + 1 : Nat) : Int)), some (chp p q), some x, x3, a, b, x6, x7]
end Lw

namespace Lw
open Pv L2
theorem take_pot {S0 S2 : Sto} {x : SO} (h : Dr S0.length (S0 ++ [x]) S2) : S2.take S0.length = S0 := by
  obtain ⟨a, b, c, rfl⟩ := h
  rw [List.take_set]
  have e : (S0 ++ [x]).take S0.length = S0 := by simp
  rw [e, List.set_eq_of_length_le (Nat.le_refl _)]
end Lw


namespace Pv
open L2
theorem it_eq {f : FE} {env : VEnv} {S S1 : Sto} {x : PV} {items : List PV} (h : f env S = .ok x S1) (hs : seqI x = some items) : iVal f env S = .ok items S1 := by
  rw [z_it, h, zb, hs]
theorem smI_of2 {n : Int} (h : -4611686018427387904 ≤ n ∧ n < 4611686018427387904) : smI n = true := by
  unfold smI
  rw [decide_eq_true (show -(2 ^ 62) ≤ n by omega), decide_eq_true (show n < 2 ^ 62 by omega)]
  rfl
/-! ### readings worked out by instances -/
/-- and, or, not of what may be known -/
class AndB (a b : Bool) (c : outParam Bool) : Prop where
  eq : (a && b) = c
instance (priority := low) {a b : Bool} : AndB a b (a && b) := ⟨rfl⟩
instance (priority := high) {b : Bool} : AndB true b b := ⟨rfl⟩
instance (priority := high) {b : Bool} : AndB false b false := ⟨rfl⟩
instance {a : Bool} : AndB a true a := ⟨by cases a <;> rfl⟩
instance {a : Bool} : AndB a false false := ⟨by cases a <;> rfl⟩
class OrB (a b : Bool) (c : outParam Bool) : Prop where
  eq : (a || b) = c
instance (priority := low) {a b : Bool} : OrB a b (a || b) := ⟨rfl⟩
instance (priority := high) {b : Bool} : OrB true b true := ⟨rfl⟩
instance (priority := high) {b : Bool} : OrB false b b := ⟨rfl⟩
instance {a : Bool} : OrB a false a := ⟨by cases a <;> rfl⟩
instance {a : Bool} : OrB a true true := ⟨by cases a <;> rfl⟩
class NotB (a : Bool) (c : outParam Bool) : Prop where
  eq : (!a) = c
instance (priority := low) {a : Bool} : NotB a (!a) := ⟨rfl⟩
instance : NotB true false := ⟨rfl⟩
instance : NotB false true := ⟨rfl⟩
class At (env : VEnv) (i : Nat) (v : outParam PV) : Prop where
  eq : env[i]? = some (some v)
instance {t : VEnv} {v : PV} : At (some v :: t) 0 v := ⟨rfl⟩
instance {t : VEnv} {x : Option PV} {n : Nat} {v : PV} [h : At t n v] : At (x :: t) (n + 1) v := ⟨h.eq⟩
class SetAt (env : VEnv) (i : Nat) (x : Option PV) (env' : outParam VEnv) : Prop where
  eq : env.set i x = env'
instance {t : VEnv} {a x : Option PV} : SetAt (a :: t) 0 x (x :: t) := ⟨rfl⟩
instance {t t' : VEnv} {a x : Option PV} {n : Nat} [h : SetAt t n x t'] : SetAt (a :: t) (n + 1) x (a :: t') := ⟨congrArg (a :: ·) h.eq⟩
class Wipe (env : VEnv) (vs : List Nat) (env' : outParam VEnv) : Prop where
  eq : wipeE env vs = env'
instance {env : VEnv} : Wipe env [] env := ⟨rfl⟩
instance {env e1 e2 : VEnv} {v : Nat} {vs : List Nat} [h : Wipe env vs e1] [k : SetAt e1 v none e2] : Wipe env (v :: vs) e2 := ⟨by
  show (wipeE env vs).set v none = e2
  rw [h.eq, k.eq]⟩
class SetP (p : Pat) (v : PV) (env : VEnv) (env' : outParam VEnv) : Prop where
  eq : setPat p v env = some env'
class SetPs (p : List Pat) (v : List PV) (env : VEnv) (env' : outParam VEnv) : Prop where
  eq : setPats p v env = some env'
instance {i : Nat} {v : PV} {env env' : VEnv} [h : SetAt env i (some v) env'] : SetP (.nm i) v env env' := ⟨congrArg some h.eq⟩
instance {ps : List Pat} {vs : List PV} {env env' : VEnv} [h : SetPs ps vs env env'] : SetP (.tp ps) (.tup vs) env env' := ⟨h.eq⟩
instance {env : VEnv} : SetPs [] [] env env := ⟨rfl⟩
instance {p : Pat} {ps : List Pat} {v : PV} {vs : List PV} {env e1 e2 : VEnv} [h : SetP p v env e1] [k : SetPs ps vs e1 e2] : SetPs (p :: ps) (v :: vs) env e2 := ⟨by
  show (match setPat p v env with
    | some env' => setPats ps vs env'
    | none => none) = _
  rw [h.eq]
  exact k.eq⟩
/-- one of two values -/
class IteV (b : Bool) (x y : PV) (z : outParam PV) : Prop where
  eq : (if b = true then x else y) = z
instance (priority := low) {b : Bool} {x y : PV} : IteV b x y (if b = true then x else y) := ⟨rfl⟩
instance (priority := high) {b : Bool} {x : PV} : IteV b x x x := ⟨by cases b <;> rfl⟩
instance (priority := high) {b : Bool} {x y : Nat} : IteV b (.str [x]) (.str [y]) (.str [if b = true then x else y]) := ⟨by cases b <;> rfl⟩
instance {b : Bool} {x y : List Nat} : IteV b (.str x) (.str y) (.str (if b = true then x else y)) := ⟨by cases b <;> rfl⟩
instance {b : Bool} {x y : Int} : IteV b (.int x) (.int y) (.int (if b = true then x else y)) := ⟨by cases b <;> rfl⟩
instance {b : Bool} {x y : Bool} : IteV b (.bl x) (.bl y) (.bl (if b = true then x else y)) := ⟨by cases b <;> rfl⟩
/-- expressions, tests, arguments, what is walked, operators, calls, methods, statements -/
class EvE (f : FE) (env : VEnv) (S : Sto) (v : outParam PV) (S' : outParam Sto) (C : outParam Prop) : Prop where
  run : C → f env S = .ok v S'
class EvT (f : FT) (env : VEnv) (S : Sto) (b : outParam Bool) (S' : outParam Sto) (C : outParam Prop) : Prop where
  run : C → f env S = .ok b S'
class EvA (f : FA) (env : VEnv) (S : Sto) (v : outParam (List PV)) (S' : outParam Sto) (C : outParam Prop) : Prop where
  run : C → f env S = .ok v S'
class EvI (f : FI) (env : VEnv) (S : Sto) {α : outParam Type} (xs : outParam (List α)) (φ : outParam (α → PV)) (S' : outParam Sto) (C : outParam Prop) : Prop where
  run : C → f env S = .ok (xs.map φ) S'
class EvO (f : FO) (env : VEnv) (S : Sto) (v : outParam (Option Int)) (S' : outParam Sto) (C : outParam Prop) : Prop where
  run : C → f env S = .ok v S'
class Ev2 (o : F2) (x y : PV) (S : Sto) (v : outParam PV) (C : outParam Prop) : Prop where
  run : C → o x y S = .ok v S
class EvF (F : FF) (xs : List PV) (S : Sto) (v : outParam PV) (S' : outParam Sto) (C : outParam Prop) : Prop where
  run : C → F xs S = .ok v S'
class EvM (G : FM) (x : PV) (xs : List PV) (S : Sto) (v : outParam PV) (S' : outParam Sto) (C : outParam Prop) : Prop where
  run : C → G x xs S = .ok v S'
class EvS (s : FS) (env : VEnv) (S : Sto) (r : outParam RS) (C : outParam Prop) : Prop where
  run : C → s env S = r
section
variable {b3 : Bool} {env e1 e2 e3 env' : VEnv} {S S1 S2 S3 : Sto} {f g h : FE} {t u : FT} {fa : FA} {x y z v w : PV} {C C1 C2 C3 : Prop} {b b1 b2 : Bool} {i j k : Nat} {o o' : F2}
instance [a : At env i v] : EvE (eVar i) env S v S True := ⟨fun _ => var_eq a.eq⟩
instance : EvE (eCon v) env S v S True := ⟨fun _ => rfl⟩
instance [a : EvE f env S x S1 C1] [c : EvE g env S1 y S2 C2] [d : Ev2 o x y S2 z C3] : EvE (eBin o f g) env S z S2 (C1 ∧ C2 ∧ C3) := ⟨fun q => bin_eq (a.run q.1) (c.run q.2.1) (d.run q.2.2)⟩
instance : EvA aNil env S [] S True := ⟨fun _ => rfl⟩
instance {xs : List PV} [a : EvE f env S x S1 C1] [c : EvA fa env S1 xs S2 C2] : EvA (aCons f fa) env S (x :: xs) S2 (C1 ∧ C2) := ⟨fun q => by rw [z_cons, a.run q.1, zb, c.run q.2, zb]⟩
instance {F : FF} {xs : List PV} [a : EvA fa env S xs S1 C1] [c : EvF F xs S1 v S2 C2] : EvE (eCall F fa) env S v S2 (C1 ∧ C2) := ⟨fun q => by rw [z_call, a.run q.1, zb, c.run q.2]⟩
/-- arguments by name -/
class Perm (is : List Nat) (xs : List PV) (ys : outParam (List PV)) : Prop where
  eq : permL is xs = ys
instance {xs : List PV} : Perm [] xs [] := ⟨rfl⟩
class AtP (xs : List PV) (i : Nat) (v : outParam PV) : Prop where
  eq : xs[i]? = some v
instance {t : List PV} : AtP (v :: t) 0 v := ⟨rfl⟩
instance {t : List PV} [a : AtP t k v] : AtP (x :: t) (k + 1) v := ⟨a.eq⟩
instance {is : List Nat} {xs ys : List PV} [a : AtP xs i v] [c : Perm is xs ys] : Perm (i :: is) xs (v :: ys) := ⟨by
  have := c.eq
  unfold permL at this ⊢
  rw [List.filterMap_cons, a.eq, this]⟩
instance {F : FF} {n : Nat} {is : List Nat} {xs ys : List PV} [a : EvA fa env S xs S1 C1] [p : Perm is xs ys] [c : EvF F ys S1 v S2 C2] : EvE (eCallK F n is fa) env S v S2 (C1 ∧ xs.length = n ∧ C2) := ⟨fun q => by
  rw [z_callK, a.run q.1, zb, if_pos q.2.1, p.eq, c.run q.2.2]⟩
class Kd (T : String) (S : Sto) (x : PV) (C : outParam Prop) : Prop where
  run : C → kdB T S x = true
instance {a : List Nat} : Kd "str" S (.str a) True := ⟨fun _ => rfl⟩
instance {xs : List PV} : Kd "list" S (.lst xs) True := ⟨fun _ => rfl⟩
instance {n : Nat} : Kd "list" S (.ref n) (n < S.length) := ⟨fun h => by
  show ("list" == "list" && decide (n < S.length)) = true
  rw [decide_eq_true h]; rfl⟩
/-- whether a value may stand in a list -/
class IsPV (x : PV) (C : outParam Prop) : Prop where
  run : C → isP x = true
instance {a : List Nat} : IsPV (.str a) True := ⟨fun _ => rfl⟩
instance {n : Int} : IsPV (.int n) True := ⟨fun _ => rfl⟩
instance : IsPV (.bl b) True := ⟨fun _ => rfl⟩
instance : IsPV .non True := ⟨fun _ => rfl⟩
instance {xs : List PV} : IsPV (.tup xs) True := ⟨fun _ => rfl⟩
instance {xs : List PV} : IsPV (.lst xs) True := ⟨fun _ => rfl⟩
instance {xs : List Int} : IsPV (.scr xs) True := ⟨fun _ => rfl⟩
instance [a : IsPV x C1] [c : IsPV y C2] : IsPV (if b = true then x else y) (C1 ∧ C2) := ⟨fun q => by cases b <;> first | exact a.run q.1 | exact c.run q.2⟩
class AllP (xs : List PV) (C : outParam Prop) : Prop where
  run : C → xs.all isP = true
instance : AllP [] True := ⟨fun _ => rfl⟩
instance {xs : List PV} [a : IsPV x C1] [c : AllP xs C2] : AllP (x :: xs) (C1 ∧ C2) := ⟨fun q => by rw [List.all_cons, a.run q.1, c.run q.2]; rfl⟩
instance {G : FM} {T : String} {xs : List PV} [a : EvE f env S x S1 C1] [m : Kd T S1 x C] [c : EvA fa env S1 xs S2 C2] [d : EvM G x xs S2 v S3 C3] : EvE (eMeth T G f fa) env S v S3 (C1 ∧ C ∧ C2 ∧ C3) := ⟨fun q => by
  rw [z_meth, a.run q.1, zb, if_pos (m.run q.2.1), c.run q.2.2.1, zb, d.run q.2.2.2]⟩
class Few (xs : List PV) : Prop where
  le : xs.length ≤ 16777216
class FewN (xs : List PV) (n : outParam Nat) : Prop where
  le : xs.length = n
instance : FewN [] 0 := ⟨rfl⟩
instance {xs : List PV} {n : Nat} [a : FewN xs n] : FewN (x :: xs) (n + 1) := ⟨congrArg (· + 1) a.le⟩
instance {xs : List PV} {n : Nat} [a : EvA fa env S xs S1 C1] [m : AllP xs C2] [l : FewN xs n] : EvE (eTup fa) env S (.tup xs) S1 (C1 ∧ n ≤ 16777216 ∧ C2) := ⟨fun q => by
  have q : C1 ∧ xs.length ≤ 16777216 ∧ xs.all isP = true := ⟨q.1, by rw [l.le]; exact q.2.1, m.run q.2.2⟩
  rw [z_tup, a.run q.1, zb, if_pos (by rw [q.2.2, decide_eq_true (show xs.length ≤ SZ from q.2.1)]; rfl)]⟩
instance {xs : List PV} [a : EvA fa env S xs S1 C1] : EvE (eFrz fa) env S (.lst xs) S1 C1 := ⟨fun q => by rw [z_frz, a.run q, zb]⟩
instance {xs : List PV} [a : EvA fa env S xs S1 C1] : EvE (eCell fa) env S (.ref S1.length) (S1 ++ [.lst xs]) C1 := ⟨fun q => by rw [z_cell, a.run q, zb]⟩
instance {xs : List PV} {n : Nat} [a : EvA fa env S xs S1 C1] [m : AllP xs C2] [l : FewN xs n] : EvA (lDisp fa) env S xs S1 (C1 ∧ n ≤ 16777216 ∧ C2) := ⟨fun q => by
  have q : C1 ∧ xs.length ≤ 16777216 ∧ xs.all isP = true := ⟨q.1, by rw [l.le]; exact q.2.1, m.run q.2.2⟩
  rw [z_disp, a.run q.1, zb, if_pos (by rw [q.2.2, decide_eq_true (show xs.length ≤ SZ from q.2.1)]; rfl)]⟩
/-! tests -/
instance [a : EvE f env S (.bl b) S1 C] : EvT (toT f) env S b S1 C := ⟨fun q => toT_eq (a.run q)⟩
instance [a : EvT t env S b S1 C] [n : NotB b b1] : EvT (tNot' t) env S b1 S1 C := ⟨fun q => by rw [not_eq (a.run q), n.eq]⟩
class AndD (b : Bool) (u : FT) (env : VEnv) (S : Sto) (c : outParam Bool) (S' : outParam Sto) (C : outParam Prop) : Prop where
  run : C → (if b = true then u env S else .ok false S) = .ok c S'
instance (priority := high) [c : EvT u env S b2 S1 C] : AndD true u env S b2 S1 C := ⟨fun q => by rw [if_pos rfl, c.run q]⟩
instance (priority := high) : AndD false u env S false S True := ⟨fun _ => if_neg Bool.false_ne_true⟩
instance (priority := low) [c : EvT u env S b2 S C] [n : AndB b1 b2 b3] : AndD b1 u env S b3 S (b1 = true → C) := ⟨fun q => by
  rw [← n.eq]
  cases b1 with
  | true => rw [if_pos rfl, c.run (q rfl)]; rfl
  | false => rw [if_neg Bool.false_ne_true]; rfl⟩
instance [a : EvT t env S b1 S1 C1] [c : AndD b1 u env S1 b2 S2 C2] : EvT (tAnd' t u) env S b2 S2 (C1 ∧ C2) := ⟨fun q => by
  rw [z_and', a.run q.1, zb, c.run q.2]⟩
class OrD (b : Bool) (u : FT) (env : VEnv) (S : Sto) (c : outParam Bool) (S' : outParam Sto) (C : outParam Prop) : Prop where
  run : C → (if b = true then .ok true S else u env S) = .ok c S'
instance (priority := high) [c : EvT u env S b2 S1 C] : OrD false u env S b2 S1 C := ⟨fun q => by rw [if_neg Bool.false_ne_true, c.run q]⟩
instance (priority := high) : OrD true u env S true S True := ⟨fun _ => if_pos rfl⟩
instance (priority := low) [c : EvT u env S b2 S C] [n : OrB b1 b2 b3] : OrD b1 u env S b3 S (b1 = false → C) := ⟨fun q => by
  rw [← n.eq]
  cases b1 with
  | false => rw [if_neg Bool.false_ne_true, c.run (q rfl)]; rfl
  | true => rw [if_pos rfl]; rfl⟩
instance [a : EvT t env S b1 S1 C1] [c : OrD b1 u env S1 b2 S2 C2] : EvT (tOr' t u) env S b2 S2 (C1 ∧ C2) := ⟨fun q => by
  rw [z_or', a.run q.1, zb, c.run q.2]⟩
instance : EvT tYes' env S true S True := ⟨fun _ => rfl⟩
class EAndD (b : Bool) (g : FE) (env : VEnv) (S : Sto) (v : outParam PV) (S' : outParam Sto) (C : outParam Prop) : Prop where
  run : C → (if b = true then g env S else .ok (.bl false) S) = .ok v S'
instance (priority := high) [c : EvE g env S v S1 C] : EAndD true g env S v S1 C := ⟨fun q => by rw [if_pos rfl, c.run q]⟩
instance (priority := high) : EAndD false g env S (.bl false) S True := ⟨fun _ => if_neg Bool.false_ne_true⟩
instance (priority := low) [c : EvE g env S (.bl b2) S C] [n : AndB b1 b2 b3] : EAndD b1 g env S (.bl b3) S (b1 = true → C) := ⟨fun q => by
  rw [← n.eq]
  cases b1 with
  | true => rw [if_pos rfl, c.run (q rfl)]; rfl
  | false => rw [if_neg Bool.false_ne_true]; rfl⟩
instance [a : EvE f env S (.bl b1) S1 C1] [c : EAndD b1 g env S1 v S2 C2] : EvE (eAnd f g) env S v S2 (C1 ∧ C2) := ⟨fun q => by
  rw [z_and, a.run q.1, zb, ← c.run q.2]
  cases b1 <;> rfl⟩
class EOrD (b : Bool) (g : FE) (env : VEnv) (S : Sto) (v : outParam PV) (S' : outParam Sto) (C : outParam Prop) : Prop where
  run : C → (if b = true then .ok (.bl true) S else g env S) = .ok v S'
instance (priority := high) [c : EvE g env S v S1 C] : EOrD false g env S v S1 C := ⟨fun q => by rw [if_neg Bool.false_ne_true, c.run q]⟩
instance (priority := high) : EOrD true g env S (.bl true) S True := ⟨fun _ => if_pos rfl⟩
instance (priority := low) [c : EvE g env S (.bl b2) S C] [n : OrB b1 b2 b3] : EOrD b1 g env S (.bl b3) S (b1 = false → C) := ⟨fun q => by
  rw [← n.eq]
  cases b1 with
  | false => rw [if_neg Bool.false_ne_true, c.run (q rfl)]; rfl
  | true => rw [if_pos rfl]; rfl⟩
instance [a : EvE f env S (.bl b1) S1 C1] [c : EOrD b1 g env S1 v S2 C2] : EvE (eOr f g) env S v S2 (C1 ∧ C2) := ⟨fun q => by
  rw [z_or, a.run q.1, zb, ← c.run q.2]
  cases b1 <;> rfl⟩
class IfD (b : Bool) (f g : FE) (env : VEnv) (S : Sto) (v : outParam PV) (S' : outParam Sto) (C : outParam Prop) : Prop where
  run : C → (if b = true then f env S else g env S) = .ok v S'
instance (priority := high) [c : EvE f env S v S1 C] : IfD true f g env S v S1 C := ⟨fun q => by rw [if_pos rfl, c.run q]⟩
instance (priority := high) [c : EvE g env S v S1 C] : IfD false f g env S v S1 C := ⟨fun q => by rw [if_neg Bool.false_ne_true, c.run q]⟩
instance (priority := low) [c : EvE f env S x S1 C1] [d : EvE g env S y S1 C2] [e : IteV b x y z] : IfD b f g env S z S1 ((b = true → C1) ∧ (b = false → C2)) := ⟨fun q => by
  rw [← e.eq]
  cases b with
  | true => rw [if_pos rfl, if_pos rfl, c.run (q.1 rfl)]
  | false => rw [if_neg Bool.false_ne_true, if_neg Bool.false_ne_true, d.run (q.2 rfl)]⟩
instance [a : EvT t env S b S1 C] [c : IfD b f g env S1 v S2 C1] : EvE (eIf t f g) env S v S2 (C ∧ C1) := ⟨fun q => by
  rw [z_if, a.run q.1, zb, c.run q.2]⟩
instance [a : EvE f env S (.bl b) S1 C] [n : NotB b b1] : EvE (eNot f) env S (.bl b1) S1 C := ⟨fun q => by rw [z_not, a.run q, zb, ← n.eq]⟩
instance {n : Int} [a : EvE f env S (.int n) S1 C] : EvE (eNeg f) env S (.int (-n)) S1 C := ⟨fun q => by rw [z_neg, a.run q, zb]⟩
instance [a : EvE f env S x S1 C] [c : EvE g env S1 y S2 C1] [d : Ev2 o x y S2 (.bl b1) C2] [e : EvE h env S2 w S2 C3] {C4 : Prop} [k : Ev2 o' y w S2 (.bl b2) C4] [n : AndB b1 b2 b3] : EvE (eChain o o' f g h) env S (.bl b3) S2 (C ∧ C1 ∧ C2 ∧ (b1 = true → C3 ∧ C4)) := ⟨fun q => by
  rw [← n.eq, z_chain, a.run q.1, zb, c.run q.2.1, zb, d.run q.2.2.1, zb]
  cases b1 with
  | true => exact (show (h env S2).bind _ = _ by rw [e.run (q.2.2.2 rfl).1, zb, k.run (q.2.2.2 rfl).2]; rfl)
  | false => rfl⟩
class Kit (v : PV) (T : String) (b : outParam Bool) : Prop where
  eq : kitB (tyPV v) T = some b
theorem kt_NoneType_int : kitB "NoneType" "int" = some false := by decide +kernel
theorem kt_NoneType_bool : kitB "NoneType" "bool" = some false := by decide +kernel
theorem kt_NoneType_str : kitB "NoneType" "str" = some false := by decide +kernel
theorem kt_NoneType_tuple : kitB "NoneType" "tuple" = some false := by decide +kernel
theorem kt_NoneType_list : kitB "NoneType" "list" = some false := by decide +kernel
theorem kt_bool_int : kitB "bool" "int" = some true := by decide +kernel
theorem kt_bool_bool : kitB "bool" "bool" = some true := by decide +kernel
theorem kt_bool_str : kitB "bool" "str" = some false := by decide +kernel
theorem kt_bool_tuple : kitB "bool" "tuple" = some false := by decide +kernel
theorem kt_bool_list : kitB "bool" "list" = some false := by decide +kernel
theorem kt_int_int : kitB "int" "int" = some true := by decide +kernel
theorem kt_int_bool : kitB "int" "bool" = some false := by decide +kernel
theorem kt_int_str : kitB "int" "str" = some false := by decide +kernel
theorem kt_int_tuple : kitB "int" "tuple" = some false := by decide +kernel
theorem kt_int_list : kitB "int" "list" = some false := by decide +kernel
theorem kt_str_int : kitB "str" "int" = some false := by decide +kernel
theorem kt_str_bool : kitB "str" "bool" = some false := by decide +kernel
theorem kt_str_str : kitB "str" "str" = some true := by decide +kernel
theorem kt_str_tuple : kitB "str" "tuple" = some false := by decide +kernel
theorem kt_str_list : kitB "str" "list" = some false := by decide +kernel
theorem kt_tuple_int : kitB "tuple" "int" = some false := by decide +kernel
theorem kt_tuple_bool : kitB "tuple" "bool" = some false := by decide +kernel
theorem kt_tuple_str : kitB "tuple" "str" = some false := by decide +kernel
theorem kt_tuple_tuple : kitB "tuple" "tuple" = some true := by decide +kernel
theorem kt_tuple_list : kitB "tuple" "list" = some false := by decide +kernel
theorem kt_list_int : kitB "list" "int" = some false := by decide +kernel
theorem kt_list_bool : kitB "list" "bool" = some false := by decide +kernel
theorem kt_list_str : kitB "list" "str" = some false := by decide +kernel
theorem kt_list_tuple : kitB "list" "tuple" = some false := by decide +kernel
theorem kt_list_list : kitB "list" "list" = some true := by decide +kernel
instance : Kit (.non) "int" false := ⟨kt_NoneType_int⟩
instance : Kit (.non) "bool" false := ⟨kt_NoneType_bool⟩
instance : Kit (.non) "str" false := ⟨kt_NoneType_str⟩
instance : Kit (.non) "tuple" false := ⟨kt_NoneType_tuple⟩
instance : Kit (.non) "list" false := ⟨kt_NoneType_list⟩
instance : Kit (.bl b) "int" true := ⟨kt_bool_int⟩
instance : Kit (.bl b) "bool" true := ⟨kt_bool_bool⟩
instance : Kit (.bl b) "str" false := ⟨kt_bool_str⟩
instance : Kit (.bl b) "tuple" false := ⟨kt_bool_tuple⟩
instance : Kit (.bl b) "list" false := ⟨kt_bool_list⟩
instance {n : Int} : Kit (.int n) "int" true := ⟨kt_int_int⟩
instance {n : Int} : Kit (.int n) "bool" false := ⟨kt_int_bool⟩
instance {n : Int} : Kit (.int n) "str" false := ⟨kt_int_str⟩
instance {n : Int} : Kit (.int n) "tuple" false := ⟨kt_int_tuple⟩
instance {n : Int} : Kit (.int n) "list" false := ⟨kt_int_list⟩
instance {l : List Nat} : Kit (.str l) "int" false := ⟨kt_str_int⟩
instance {l : List Nat} : Kit (.str l) "bool" false := ⟨kt_str_bool⟩
instance {l : List Nat} : Kit (.str l) "str" true := ⟨kt_str_str⟩
instance {l : List Nat} : Kit (.str l) "tuple" false := ⟨kt_str_tuple⟩
instance {l : List Nat} : Kit (.str l) "list" false := ⟨kt_str_list⟩
instance {l : List PV} : Kit (.tup l) "int" false := ⟨kt_tuple_int⟩
instance {l : List PV} : Kit (.tup l) "bool" false := ⟨kt_tuple_bool⟩
instance {l : List PV} : Kit (.tup l) "str" false := ⟨kt_tuple_str⟩
instance {l : List PV} : Kit (.tup l) "tuple" true := ⟨kt_tuple_tuple⟩
instance {l : List PV} : Kit (.tup l) "list" false := ⟨kt_tuple_list⟩
instance {l : List PV} : Kit (.lst l) "int" false := ⟨kt_list_int⟩
instance {l : List PV} : Kit (.lst l) "bool" false := ⟨kt_list_bool⟩
instance {l : List PV} : Kit (.lst l) "str" false := ⟨kt_list_str⟩
instance {l : List PV} : Kit (.lst l) "tuple" false := ⟨kt_list_tuple⟩
instance {l : List PV} : Kit (.lst l) "list" true := ⟨kt_list_list⟩
instance {l : List Int} : Kit (.scr l) "int" false := ⟨kt_list_int⟩
instance {l : List Int} : Kit (.scr l) "bool" false := ⟨kt_list_bool⟩
instance {l : List Int} : Kit (.scr l) "str" false := ⟨kt_list_str⟩
instance {l : List Int} : Kit (.scr l) "tuple" false := ⟨kt_list_tuple⟩
instance {l : List Int} : Kit (.scr l) "list" true := ⟨kt_list_list⟩
instance {T : String} [a : EvE f env S v S1 C] [c : Kit v T b] : EvE (eIsi T f) env S (.bl b) S1 C := ⟨fun q => by
  rw [z_isi, a.run q, zb, c.eq]⟩
instance : EvO oNone env S none S True := ⟨fun _ => rfl⟩
instance {n : Int} [a : EvE f env S (.int n) S1 C] : EvO (oSome f) env S (some n) S1 C := ⟨fun q => by rw [z_oS, a.run q, zb]⟩
class EvSl (x : PV) (l h : Option Int) (S : Sto) (v : outParam PV) (C : outParam Prop) : Prop where
  run : C → oSl x l h S = .ok v S
instance {fl fh : FO} {l m : Option Int} [a : EvE f env S x S1 C] [c : EvO fl env S1 l S2 C1] [d : EvO fh env S2 m S3 C2] [e : EvSl x l m S3 v C3] : EvE (eSl f fl fh) env S v S3 (C ∧ C1 ∧ C2 ∧ C3) := ⟨fun q => by
  rw [z_sl, a.run q.1, zb, c.run q.2.1, zb, d.run q.2.2.1, zb, e.run q.2.2.2]⟩
class EvRv (x : PV) (S : Sto) (v : outParam PV) (C : outParam Prop) : Prop where
  run : C → oRev x S = .ok v S
instance [a : EvE f env S x S1 C] [c : EvRv x S1 v C1] : EvE (eRev f) env S v S1 (C ∧ C1) := ⟨fun q => by rw [z_rev, a.run q.1, zb, c.run q.2]⟩
/-! comprehensions -/
instance (priority := high) lcYes {α : Type} {xs : List α} {φ : α → PV} {it : FI} {p : Pat} {elt : FE} {vs : List Nat} {E : α → VEnv} {y : α → PV} {Ce Cp : α → Prop} [a : EvI it env S xs φ S C] [c : Wipe env vs e1] [d : ∀ x, SetP p (φ x) e1 (E x)] [e : ∀ x, EvE elt (E x) S (y x) S (Ce x)] [l : ∀ x, IsPV (y x) (Cp x)] :
    EvA (fLc p it tYes' elt vs) env S (xs.map y) S (C ∧ xs.length < 16777216 ∧ ∀ x ∈ xs, Ce x ∧ Cp x) := ⟨fun q => by
  rw [z_lc, a.run q.1, zb, if_pos (show (xs.map φ).length < SZ by rw [List.length_map]; exact q.2.1), c.eq]
  exact lc_all1 S φ E y xs (fun x _ => (d x).eq) fun x hx => ⟨(l x).run (q.2.2 x hx).2, (e x).run (q.2.2 x hx).1⟩⟩
instance lcIf {α : Type} {xs : List α} {φ : α → PV} {it : FI} {p : Pat} {elt : FE} {vs : List Nat} {E : α → VEnv} {y : α → PV} {bt : α → Bool} {Ct Ce Cp : α → Prop} [a : EvI it env S xs φ S C] [c : Wipe env vs e1] [d : ∀ x, SetP p (φ x) e1 (E x)] [m : ∀ x, EvT t (E x) S (bt x) S (Ct x)] [e : ∀ x, EvE elt (E x) S (y x) S (Ce x)] [l : ∀ x, IsPV (y x) (Cp x)] :
    EvA (fLc p it t elt vs) env S ((xs.filter bt).map y) S (C ∧ xs.length < 16777216 ∧ ∀ x ∈ xs, Ct x ∧ (bt x = true → Ce x ∧ Cp x)) := ⟨fun q => by
  rw [z_lc, a.run q.1, zb, if_pos (show (xs.map φ).length < SZ by rw [List.length_map]; exact q.2.1), c.eq]
  exact lc_map S φ E bt y xs (fun x _ => (d x).eq) (fun x hx => (m x).run (q.2.2 x hx).1) fun x hx hb => ⟨(l x).run ((q.2.2 x hx).2 hb).2, S, (e x).run ((q.2.2 x hx).2 hb).1, List.take_length⟩⟩
/-! what is walked -/
class Items (v : PV) (S : Sto) {α : outParam Type} (xs : outParam (List α)) (φ : outParam (α → PV)) : Prop where
  eq : seqI v = some (xs.map φ)
instance {l : List Nat} : Items (.str l) S l (fun c => .str [c]) := ⟨rfl⟩
instance {ns : List Int} : Items (.scr ns) S ns .int := ⟨rfl⟩
instance {α : Type} {xs : List α} {φ : α → PV} : Items (.lst (xs.map φ)) S xs φ := ⟨rfl⟩
instance {α : Type} {xs : List α} {φ : α → PV} : Items (.tup (xs.map φ)) S xs φ := ⟨rfl⟩
class Lits (ys : List PV) {α : outParam Type} (xs : outParam (List α)) (φ : outParam (α → PV)) : Prop where
  eq : ys = xs.map φ
instance {n : Int} : Lits [.int n] [n] .int := ⟨rfl⟩
instance {n : Int} {ys : List PV} {xs : List Int} [a : Lits ys xs .int] : Lits (.int n :: ys) (n :: xs) .int := ⟨congrArg (PV.int n :: ·) a.eq⟩
instance {n : List Nat} : Lits [.str n] [n] .str := ⟨rfl⟩
instance {n : List Nat} {ys : List PV} {xs : List (List Nat)} [a : Lits ys xs .str] : Lits (.str n :: ys) (n :: xs) .str := ⟨congrArg (PV.str n :: ·) a.eq⟩
instance {α : Type} {ys : List PV} {xs : List α} {φ : α → PV} [a : Lits ys xs φ] : Items (.lst ys) S xs φ := ⟨congrArg some a.eq⟩
instance {α : Type} {ys : List PV} {xs : List α} {φ : α → PV} [a : Lits ys xs φ] : Items (.tup ys) S xs φ := ⟨congrArg some a.eq⟩
instance {α : Type} {xs : List α} {φ : α → PV} [a : EvE f env S x S1 C] [c : Items x S1 xs φ] : EvI (iVal f) env S xs φ S1 C := ⟨fun q => it_eq (a.run q) c.eq⟩
instance {n : Int} [a : EvA fa env S [.int n] S1 C] : EvI (iRg fa) env S (List.range n.toNat) (fun k => .int (k : Nat)) S1 (C ∧ -4611686018427387904 ≤ n ∧ n < 4611686018427387904) := ⟨fun q => by
  rw [irg1 (a.run q.1) (smI_of2 q.2)]
  unfold rgI
  congr 1
  apply List.map_congr_left
  intro k _
  congr 1
  omega⟩
instance {m n : Int} [a : EvA fa env S [.int m, .int n] S1 C] : EvI (iRg fa) env S (List.range (n - m).toNat) (fun k => .int (m + (k : Nat))) S1 (C ∧ (-4611686018427387904 ≤ m ∧ m < 4611686018427387904) ∧ -4611686018427387904 ≤ n ∧ n < 4611686018427387904) := ⟨fun q => by
  rw [irg2 (a.run q.1) (smI_of2 q.2.1) (smI_of2 q.2.2)]
  unfold rgI
  congr 1
  apply List.map_congr_left
  intro k _
  congr 1
  omega⟩
instance {α β : Type} {xs : List α} {φ : α → PV} {ys : List β} {ψ : β → PV} [a : EvA fa env S [x, y] S1 C] [c : Items x S1 xs φ] [d : Items y S1 ys ψ] : EvI (iZip' fa) env S (xs.zip ys) (fun p => .tup [φ p.1, ψ p.2]) S1 C := ⟨fun q => by
  unfold iZip'
  rw [a.run q, zb]
  show (match seqI x, seqI y with
    | some a, some b => R.ok (List.zipWith (fun p q => PV.tup [p, q]) a b) S1
    | _, _ => .no) = _
  rw [c.eq, d.eq]
  show R.ok (List.zipWith (fun p q => PV.tup [p, q]) (xs.map φ) (ys.map ψ)) S1 = _
  rw [List.zipWith_map, List.zip, List.map_zipWith]⟩
instance {α : Type} {xs : List α} {φ : α → PV} [a : EvE f env S x S1 C] [c : Items x S1 xs φ] : EvI (iEnum' f) env S xs.zipIdx (fun p => .tup [.int (p.2 : Nat), φ p.1]) S1 C := ⟨fun q => by
  unfold iEnum'
  rw [a.run q, zb, c.eq]
  show R.ok _ S1 = _
  congr 1
  rw [List.zipIdx_map, List.map_map]
  rfl⟩
/-! statements -/
class IteEnv (b : Bool) (a c : VEnv) (d : outParam VEnv) : Prop where
  eq : (if b = true then a else c) = d
instance : IteEnv b [] [] [] := ⟨by cases b <;> rfl⟩
instance (priority := high) {p : Option PV} {s t r : VEnv} [a : IteEnv b s t r] : IteEnv b (p :: s) (p :: t) (p :: r) := ⟨by rw [← a.eq]; cases b <;> rfl⟩
instance {s t r : VEnv} [k : IteV b x y z] [a : IteEnv b s t r] : IteEnv b (some x :: s) (some y :: t) (some z :: r) := ⟨by rw [← a.eq, ← k.eq]; cases b <;> rfl⟩
instance (priority := low) {p p' : Option PV} {s t r : VEnv} [a : IteEnv b s t r] : IteEnv b (p :: s) (p' :: t) ((if b = true then p else p') :: r) := ⟨by rw [← a.eq]; cases b <;> rfl⟩
class IteS (b : Bool) (r1 r2 : RS) (r : outParam RS) : Prop where
  eq : (if b = true then r1 else r2) = r
instance [a : IteEnv b e1 e2 e3] : IteS b (.nx e1 S) (.nx e2 S) (.nx e3 S) := ⟨by rw [← a.eq]; cases b <;> rfl⟩
instance [a : IteV b x y z] : IteS b (.ret x S) (.ret y S) (.ret z S) := ⟨by rw [← a.eq]; cases b <;> rfl⟩
instance (priority := low) {r1 r2 : RS} : IteS b r1 r2 (if b = true then r1 else r2) := ⟨rfl⟩
instance : EvS sNil env S (.nx env S) True := ⟨fun _ => rfl⟩
instance [a : EvE f env S v S1 C] : EvS (sRet f) env S (.ret v S1) C := ⟨fun q => ret_eq (a.run q)⟩
instance [a : EvE f env S v S1 C] : EvS (sExpr f) env S (.nx env S1) C := ⟨fun q => exp_eq (a.run q)⟩
instance [a : EvE f env S v S1 C] [c : SetAt env i (some v) e1] : EvS (sSet i f) env S (.nx e1 S1) C := ⟨fun q => by rw [set_eq (a.run q), c.eq]⟩
instance {p : Pat} [a : EvE f env S v S1 C] [c : SetP p v env e1] : EvS (sAsg p f) env S (.nx e1 S1) C := ⟨fun q => asg_eq (a.run q) c.eq⟩
instance [a : EvA fa env S [x, y] S1 C] [c : SetAt env i (some x) e1] [d : SetAt e1 j (some y) e2] : EvS (sPar i j fa) env S (.nx e2 S1) C := ⟨fun q => by rw [z_par, a.run q, zbS, ← d.eq, ← c.eq]⟩
instance [a : EvA fa env S [x, y, z] S1 C] [c : SetAt env i (some x) e1] [d : SetAt e1 j (some y) e2] [e : SetAt e2 k (some z) e3] : EvS (sPar3 i j k fa) env S (.nx e3 S1) C := ⟨fun q => by rw [z_par3, a.run q, zbS, ← e.eq, ← d.eq, ← c.eq]⟩
class SIfD (b : Bool) (p q : FS) (env : VEnv) (S : Sto) (r : outParam RS) (C : outParam Prop) : Prop where
  run : C → (if b = true then p env S else q env S) = r
instance (priority := high + 10) {p q' : FS} {r : RS} [c : EvS p env S r C] : SIfD true p q' env S r C := ⟨fun q => by rw [if_pos rfl, c.run q]⟩
instance (priority := high + 10) {p q' : FS} {r : RS} [c : EvS q' env S r C] : SIfD false p q' env S r C := ⟨fun q => by rw [if_neg Bool.false_ne_true, c.run q]⟩
instance (priority := high) chkF : SIfD b (sRet (eCon (.bl false))) sNil env S (.nx env S) (b = false) := ⟨fun q => by rw [q]; rfl⟩
instance (priority := high) chkN : SIfD b sNo sNil env S (.nx env S) (b = false) := ⟨fun q => by rw [q]; rfl⟩
instance (priority := low) {p q' : FS} {r1 r2 r : RS} [c : EvS p env S r1 C1] [d : EvS q' env S r2 C2] [e : IteS b r1 r2 r] : SIfD b p q' env S r ((b = true → C1) ∧ (b = false → C2)) := ⟨fun q => by
  rw [← e.eq]
  cases b with
  | true => rw [if_pos rfl, if_pos rfl, c.run (q.1 rfl)]
  | false => rw [if_neg Bool.false_ne_true, if_neg Bool.false_ne_true, d.run (q.2 rfl)]⟩
instance {p q' : FS} {r : RS} [a : EvT t env S b S1 C] [c : SIfD b p q' env S1 r C1] : EvS (sIf t p q') env S r (C ∧ C1) := ⟨fun q => by
  rw [z_sif, a.run q.1, zbS, c.run q.2]⟩
class SeqR (r1 : RS) (B : FS) (r : outParam RS) (C : outParam Prop) : Prop where
  run : C → (match r1 with
    | .nx env' S' => B env' S'
    | .ret v S' => .ret v S'
    | .no => .no) = r
instance {B : FS} {r : RS} [a : EvS B env S r C] : SeqR (.nx env S) B r C := ⟨a.run⟩
instance {B : FS} : SeqR (.ret v S) B (.ret v S) True := ⟨fun _ => rfl⟩
instance {B : FS} {r1 r2 p1 p2 r : RS} [a : SeqR r1 B p1 C1] [c : SeqR r2 B p2 C2] [d : IteS b p1 p2 r] : SeqR (if b = true then r1 else r2) B r ((b = true → C1) ∧ (b = false → C2)) := ⟨fun q => by
  rw [← d.eq]
  cases b with
  | true => rw [if_pos rfl, if_pos rfl]; exact a.run (q.1 rfl)
  | false => rw [if_neg Bool.false_ne_true, if_neg Bool.false_ne_true]; exact c.run (q.2 rfl)⟩
instance {A B : FS} {r1 r : RS} [a : EvS A env S r1 C1] [c : SeqR r1 B r C2] : EvS (sSeq A B) env S r (C1 ∧ C2) := ⟨fun q => by
  rw [z_seq, a.run q.1]
  exact c.run q.2⟩
/-! what a def gives back -/
class OutR (n : Nat) (r : RS) (v : outParam PV) (S' : outParam Sto) (C : outParam Prop) : Prop where
  run : C → outS n r = .ok v S'
instance [a : IsPV v C] : OutR S.length (.ret v S) v S C := ⟨fun q => by rw [z_out_ret, out_pure (a.run q), List.take_length]⟩
instance : OutR S.length (.nx env S) .non S True := ⟨fun _ => by rw [z_out_nx, List.take_length]⟩
instance {n : Nat} {r1 r2 : RS} [a : OutR n r1 x S C1] [c : OutR n r2 y S C2] [d : IteV b x y z] : OutR n (if b = true then r1 else r2) z S ((b = true → C1) ∧ (b = false → C2)) := ⟨fun q => by
  rw [← d.eq]
  cases b with
  | true => rw [if_pos rfl, if_pos rfl]; exact a.run (q.1 rfl)
  | false => rw [if_neg Bool.false_ne_true, if_neg Bool.false_ne_true]; exact c.run (q.2 rfl)⟩
class Start (xs : List PV) (N : Nat) (env : outParam VEnv) : Prop where
  eq : startE N xs = env
instance : Start [] 0 [] := ⟨rfl⟩
instance {N : Nat} [a : Start [] N env] : Start [] (N + 1) (none :: env) := ⟨by
  rw [← a.eq]
  show [] ++ List.replicate (N + 1) none = none :: ([] ++ List.replicate N none)
  rfl⟩
instance {N : Nat} {xs : List PV} [a : Start xs N env] : Start (x :: xs) (N + 1) (some x :: env) := ⟨by
  rw [← a.eq]
  show (some x :: xs.map some) ++ List.replicate (N + 1 - (xs.length + 1)) none = some x :: (xs.map some ++ List.replicate (N - xs.length) none)
  rw [Nat.add_sub_add_right]
  rfl⟩
theorem ev_fn {np N : Nat} {body : FS} {xs : List PV} {r : RS} [s : Start xs N env] [a : EvS body env S r C1] [c : OutR S.length r v S1 C2] (hl : xs.length = np) (q : C1 ∧ C2) : fnOf np N body xs S = .ok v S1 := by
  rw [fn_eq hl, s.eq, a.run q.1, c.run q.2]
end
end Pv

namespace Pv
open L2
/-! ### operators, builtins -/
/-- the thing at an index, told as Python tells it -/
def gi {α : Type} [Inhabited α] (l : List α) (i : Int) : α := (atI l i).getD default
theorem atI_ok {α : Type} [Inhabited α] {l : List α} {i : Int} (h : -(l.length : Int) ≤ i ∧ i < l.length) : atI l i = some (gi l i) := by
  unfold gi atI ixN
  by_cases h0 : 0 ≤ i
  · rw [if_pos h0, if_pos (by omega)]
    show l[i.toNat]? = some ((l[i.toNat]?).getD default)
    rw [List.getElem?_eq_getElem (by omega)]
    rfl
  · rw [if_neg h0, if_pos (by omega)]
    show l[(i + (l.length : Nat)).toNat]? = some ((l[(i + (l.length : Nat)).toNat]?).getD default)
    rw [List.getElem?_eq_getElem (by omega)]
    rfl
theorem gi_eq {α : Type} [Inhabited α] {l : List α} {i : Int} {c : α} (h : atI l i = some c) : gi l i = c := by
  unfold gi; rw [h]; rfl
theorem gi_nat {α : Type} [Inhabited α] {l : List α} {k : Nat} (h : k < l.length) : gi l (k : Int) = l[k] := gi_eq (at_nat (List.getElem?_eq_getElem h))
theorem gi_neg {α : Type} [Inhabited α] {l : List α} {k : Nat} (h0 : 1 ≤ k) (h : k ≤ l.length) : gi l (-(k : Int)) = l[l.length - k]'(by omega) := gi_eq (at_neg h0 h (List.getElem?_eq_getElem (by omega)))
/-- what is known of a test -/
class DecP (p : Prop) [h : Decidable p] (b : outParam Bool) : Prop where
  eq : decide p = b
instance (priority := low) {p : Prop} [Decidable p] : DecP p (decide p) := ⟨rfl⟩
instance {α : Type} [DecidableEq α] {a : α} : DecP (a = a) true := ⟨decide_eq_true rfl⟩
/-- a list in the store -/
class CellAt (S : Sto) (n : Nat) (xs : outParam (List PV)) : Prop where
  eq : S[n]? = some (.lst xs)
instance {S : Sto} {xs : List PV} : CellAt (S ++ [.lst xs]) S.length xs := ⟨by simp⟩
/-- one text behind another, written -/
class App (xs ys : List PV) (zs : outParam (List PV)) : Prop where
  eq : xs ++ ys = zs
instance {ys : List PV} : App [] ys ys := ⟨rfl⟩
instance {x : PV} {xs ys zs : List PV} [a : App xs ys zs] : App (x :: xs) ys (x :: zs) := ⟨congrArg (x :: ·) a.eq⟩
instance {α : Type} {φ : α → PV} {xs ys : List α} : App (xs.map φ) (ys.map φ) ((xs ++ ys).map φ) := ⟨List.map_append.symm⟩
instance (priority := low) {xs ys : List PV} : App xs ys (xs ++ ys) := ⟨rfl⟩
section
variable {S : Sto} {i j : Int} {a b : List Nat} {xs ys zs : List PV} {x y v : PV} {p q : Bool} {C C1 C2 : Prop}
instance : Ev2 oAdd (.int i) (.int j) S (.int (i + j)) True := ⟨fun _ => rfl⟩
instance : Ev2 oAdd (.str a) (.str b) S (.str (a ++ b)) (a.length + b.length ≤ 16777216) := ⟨fun h => by rw [q_addS, if_pos (show _ ≤ SZ from h)]⟩
instance [e : App xs ys zs] : Ev2 oAdd (.lst xs) (.lst ys) S (.lst zs) (xs.length + ys.length ≤ 16777216) := ⟨fun h => by rw [q_addL, if_pos (show _ ≤ SZ from h), e.eq]⟩
instance [e : App xs ys zs] : Ev2 oAdd (.tup xs) (.tup ys) S (.tup zs) (xs.length + ys.length ≤ 16777216) := ⟨fun h => by
  show (if xs.length + ys.length ≤ SZ then _ else _) = _
  rw [if_pos (show _ ≤ SZ from h), e.eq]⟩
instance : Ev2 oSub (.int i) (.int j) S (.int (i - j)) True := ⟨fun _ => rfl⟩
instance : Ev2 oMod (.int i) (.int j) S (.int (i % j)) (0 < j) := ⟨fun h => q_modI h⟩
instance : Ev2 oDiv (.int i) (.int j) S (.int (i / j)) (divOk i j = true) := ⟨fun h => q_divI h⟩
instance : Ev2 oMul (.int i) (.int j) S (.int (i * j)) (mulOk i j = true) := ⟨fun h => q_mulI h⟩
def repL {α : Type} (a : List α) (k : Nat) : List α := (List.replicate k a).flatten
theorem mulRep_ok {n : Nat} {k : Int} (h : (-4611686018427387904 ≤ k ∧ k < 4611686018427387904) ∧ n * k.toNat ≤ 16777216) : mulRep n k = true := by
  unfold mulRep
  rw [decide_eq_true (show -(2 ^ 63) ≤ k by omega), decide_eq_true (show k < 2 ^ 63 by omega), decide_eq_true (show n * k.toNat ≤ SZ from h.2)]
  rfl
instance : Ev2 oMul (.str a) (.int i) S (.str (repL a i.toNat)) ((-4611686018427387904 ≤ i ∧ i < 4611686018427387904) ∧ a.length * i.toNat ≤ 16777216) := ⟨fun h => by
  show (if mulRep a.length i = true then _ else _) = _
  rw [if_pos (mulRep_ok h)]
  rfl⟩
instance (priority := low) : Ev2 oMul (.lst xs) (.int i) S (.lst (repL xs i.toNat)) ((-4611686018427387904 ≤ i ∧ i < 4611686018427387904) ∧ xs.length * i.toNat ≤ 16777216) := ⟨fun h => by
  show (if mulRep xs.length i = true then _ else _) = _
  rw [if_pos (mulRep_ok h)]
  rfl⟩
theorem rep2 {xs : List PV} : (List.replicate (2 : Int).toNat xs).flatten = xs ++ xs := by
  show (List.replicate 2 xs).flatten = _
  simp
instance : Ev2 oMul (.lst [x]) (.int 2) S (.lst [x, x]) True := ⟨fun _ => by
  have h : mulRep ([x] : List PV).length 2 = true := by unfold mulRep; rw [decide_eq_true (show ([x] : List PV).length * (2 : Int).toNat ≤ SZ from (by decide : 1 * (2 : Int).toNat ≤ SZ))]; rfl
  simp only [oMul, dl]
  rw [if_pos h]
  rfl⟩
instance : Ev2 oMul (.lst [x]) (.int 3) S (.lst [x, x, x]) True := ⟨fun _ => by
  have h : mulRep ([x] : List PV).length 3 = true := by unfold mulRep; rw [decide_eq_true (show ([x] : List PV).length * (3 : Int).toNat ≤ SZ from (by decide : 1 * (3 : Int).toNat ≤ SZ))]; rfl
  simp only [oMul, dl]
  rw [if_pos h]
  rfl⟩
instance : Ev2 oMul (.lst [x]) (.int 4) S (.lst [x, x, x, x]) True := ⟨fun _ => by
  have h : mulRep ([x] : List PV).length 4 = true := by unfold mulRep; rw [decide_eq_true (show ([x] : List PV).length * (4 : Int).toNat ≤ SZ from (by decide : 1 * (4 : Int).toNat ≤ SZ))]; rfl
  simp only [oMul, dl]
  rw [if_pos h]
  rfl⟩
instance [e : DecP (i < j) p] : Ev2 oLt (.int i) (.int j) S (.bl p) True := ⟨fun _ => by rw [← e.eq]; rfl⟩
instance [e : DecP (i ≤ j) p] : Ev2 oLe (.int i) (.int j) S (.bl p) True := ⟨fun _ => by rw [← e.eq]; rfl⟩
instance [e : DecP (j < i) p] : Ev2 oGt (.int i) (.int j) S (.bl p) True := ⟨fun _ => by rw [← e.eq]; rfl⟩
instance [e : DecP (j ≤ i) p] : Ev2 oGe (.int i) (.int j) S (.bl p) True := ⟨fun _ => by rw [← e.eq]; rfl⟩
instance : Ev2 oLt (.str a) (.str b) S (.bl (decide (a < b))) True := ⟨fun _ => rfl⟩
/-! like values -/
class EqV (x y : PV) (n : outParam Nat) (b : outParam Bool) : Prop where
  dx : dpt x ≤ n
  dy : dpt y ≤ n
  eq : eqPV x y = b
class EqVs (xs ys : List PV) (n : outParam Nat) (b : outParam Bool) : Prop where
  dx : dpts xs ≤ n
  dy : dpts ys ≤ n
  eq : eqPVs xs ys = b
theorem beq_dec {α : Type} [BEq α] [LawfulBEq α] [DecidableEq α] (a b : α) : (a == b) = decide (a = b) := by
  by_cases h : a = b
  · subst h; simp
  · rw [decide_eq_false h]; simpa using h
instance [e : DecP (i = j) p] : EqV (.int i) (.int j) 0 p := ⟨Nat.le_refl _, Nat.le_refl _, (beq_dec i j).trans e.eq⟩
instance [e : DecP (a = b) p] : EqV (.str a) (.str b) 0 p := ⟨Nat.le_refl _, Nat.le_refl _, (beq_dec a b).trans e.eq⟩
instance : EqV (.bl p) (.bl q) 0 (p == q) := ⟨Nat.le_refl _, Nat.le_refl _, rfl⟩
instance : EqV .non .non 0 true := ⟨Nat.le_refl _, Nat.le_refl _, rfl⟩
instance : EqVs [] [] 0 true := ⟨Nat.le_refl _, Nat.le_refl _, rfl⟩
instance : EqVs [] [] 0 true := ⟨Nat.le_refl _, Nat.le_refl _, rfl⟩
instance {n m : Nat} [e : EqV x y n p] [f : EqVs xs ys m q] : EqVs (x :: xs) (y :: ys) (max n m) (p && q) := ⟨by
  have := e.dx; have := f.dx; simp only [dpts]; omega, by
  have := e.dy; have := f.dy; simp only [dpts]; omega, by
  show (eqPV x y && eqPVs xs ys) = _
  rw [e.eq, f.eq]⟩
/-- things told apart by what stands for them -/
class InjV {α : Type} (φ : α → PV) [DecidableEq α] (n : outParam Nat) : Prop where
  dx : ∀ a, dpt (φ a) ≤ n
  eq : ∀ a b, eqPV (φ a) (φ b) = decide (a = b)
instance : InjV PV.str 0 := ⟨fun _ => Nat.le_refl _, fun a b => beq_dec a b⟩
instance : InjV PV.int 0 := ⟨fun _ => Nat.le_refl _, fun a b => beq_dec a b⟩
instance : InjV (fun x : List Nat => PV.str x) 0 := ⟨fun _ => Nat.le_refl _, fun a b => beq_dec a b⟩
instance : InjV (fun x : Int => PV.int x) 0 := ⟨fun _ => Nat.le_refl _, fun a b => beq_dec a b⟩
instance : InjV (fun c : Nat => PV.str [c]) 0 := ⟨fun _ => Nat.le_refl _, fun a b => by
  show ([a] == [b]) = _
  rw [beq_dec]
  simp⟩
instance : InjV (fun k : Nat => PV.int (k : Nat)) 0 := ⟨fun _ => Nat.le_refl _, fun a b => by
  show ((a : Int) == (b : Int)) = _
  rw [beq_dec]
  by_cases h : a = b
  · subst h; simp
  · rw [decide_eq_false h, decide_eq_false]; omega⟩
instance {i : Int} : InjV (fun k : Nat => PV.int (i + (k : Nat))) 0 := ⟨fun _ => Nat.le_refl _, fun a b => by
  show ((i + (a : Int)) == (i + (b : Int))) = _
  rw [beq_dec]
  by_cases h : a = b
  · subst h; simp
  · rw [decide_eq_false h, decide_eq_false]; omega⟩
theorem dpts_map {α : Type} {φ : α → PV} {n : Nat} (h : ∀ a, dpt (φ a) ≤ n) : ∀ xs : List α, dpts (xs.map φ) ≤ n
  | [] => Nat.zero_le _
  | x :: xs => by
    have := h x
    have := dpts_map h xs
    rw [List.map_cons]
    simp only [dpts]
    omega
theorem eqs_map {α : Type} [DecidableEq α] {φ : α → PV} (h : ∀ a b, eqPV (φ a) (φ b) = decide (a = b)) : ∀ xs ys : List α, eqPVs (xs.map φ) (ys.map φ) = decide (xs = ys)
  | [], [] => rfl
  | [], y :: ys => rfl
  | x :: xs, [] => rfl
  | x :: xs, y :: ys => by
    show (eqPV (φ x) (φ y) && eqPVs (xs.map φ) (ys.map φ)) = _
    rw [h, eqs_map h xs ys]
    by_cases e : x = y
    · subst e; simp
    · simp [e]
instance {α : Type} [DecidableEq α] {φ : α → PV} {n : Nat} [e : InjV φ n] {xs ys : List α} : EqVs (xs.map φ) (ys.map φ) n (decide (xs = ys)) := ⟨dpts_map e.dx _, dpts_map e.dx _, eqs_map e.eq _ _⟩
instance {α : Type} [DecidableEq α] {φ : α → PV} {n : Nat} [e : InjV φ n] {xs : List α} [k : DecP (xs = []) p] : EqVs (xs.map φ) [] n p := ⟨dpts_map e.dx _, Nat.zero_le _, (eqs_map e.eq _ []).trans k.eq⟩
instance {α : Type} [DecidableEq α] {φ : α → PV} {n : Nat} [e : InjV φ n] {xs : List α} : EqVs [] (xs.map φ) n (decide ([] = xs)) := ⟨Nat.zero_le _, dpts_map e.dx _, eqs_map e.eq [] _⟩
instance {n : Nat} [e : EqVs xs ys n p] : EqV (.lst xs) (.lst ys) (n + 1) p := ⟨by have := e.dx; simp only [dpt]; omega, by have := e.dy; simp only [dpt]; omega, e.eq⟩
instance {n : Nat} [e : EqVs xs ys n p] : EqV (.tup xs) (.tup ys) (n + 1) p := ⟨by have := e.dx; simp only [dpt]; omega, by have := e.dy; simp only [dpt]; omega, e.eq⟩
theorem dv_of {x : PV} {n : Nat} (h : dpt x ≤ n) (hn : n < 1000) : dv S x = x := by
  cases x with
  | ref k => simp only [dpt] at h; omega
  | _ => rfl
instance {n : Nat} [e : EqV x y n p] : Ev2 oEq x y S (.bl p) (n ≤ 64) := ⟨fun h => by
  unfold oEq
  have e1 : dv S x = x := dv_of e.dx (by omega)
  have e2 : dv S y = y := dv_of e.dy (by omega)
  have d1 := e.dx; have d2 := e.dy
  rw [e1, e2, decide_eq_true (show dpt x ≤ 64 by omega), decide_eq_true (show dpt y ≤ 64 by omega), e.eq]
  rfl⟩
instance {n : Nat} [e : EqV x y n p] [m : NotB p q] : Ev2 oNe x y S (.bl q) (n ≤ 64) := ⟨fun h => by
  rw [← m.eq]
  unfold oNe
  have e1 : dv S x = x := dv_of e.dx (by omega)
  have e2 : dv S y = y := dv_of e.dy (by omega)
  have d1 := e.dx; have d2 := e.dy
  rw [e1, e2, decide_eq_true (show dpt x ≤ 64 by omega), decide_eq_true (show dpt y ≤ 64 by omega), e.eq]
  rfl⟩
/-! among them -/
instance {c : Nat} [e : DecP (c ∈ a) p] : Ev2 oIn (.str [c]) (.str a) S (.bl p) True := ⟨fun _ => by rw [← e.eq]; rfl⟩
instance {c : Nat} [e : DecP (c ∈ a) p] [m : NotB p q] : Ev2 oNotIn (.str [c]) (.str a) S (.bl q) True := ⟨fun _ => by rw [← m.eq, ← e.eq]; rfl⟩
class MemV (x : PV) (ys : List PV) (n : outParam Nat) (b : outParam Bool) : Prop where
  dx : dpt x ≤ n
  dy : dpts ys ≤ n
  eq : (ys.any fun z => eqPV z x) = b
instance : MemV (.str a) [] 0 false := ⟨Nat.le_refl _, Nat.le_refl _, rfl⟩
instance : MemV (.int i) [] 0 false := ⟨Nat.le_refl _, Nat.le_refl _, rfl⟩
instance : MemV (.bl p) [] 0 false := ⟨Nat.le_refl _, Nat.le_refl _, rfl⟩
instance {n m : Nat} [e : EqV y x n p] [f : MemV x ys m q] : MemV x (y :: ys) (max n m) (p || q) := ⟨by
  have := e.dy; have := f.dx; omega, by
  have := e.dx; have := f.dy; simp only [dpts]; omega, by
  rw [List.any_cons, e.eq, f.eq]⟩
theorem any_map {α : Type} [BEq α] [LawfulBEq α] {φ : α → PV} (h : ∀ a b, eqPV (φ a) (φ b) = (a == b)) (x : α) (ys : List α) : ((ys.map φ).any fun z => eqPV z (φ x)) = decide (x ∈ ys) := by
  rw [Bool.eq_iff_iff, List.any_eq_true, decide_eq_true_eq]
  constructor
  · rintro ⟨z, hz, e⟩
    obtain ⟨w, hw, rfl⟩ := List.mem_map.mp hz
    rw [h, beq_iff_eq] at e
    exact e ▸ hw
  · intro hx
    exact ⟨φ x, List.mem_map_of_mem hx, by rw [h]; simp⟩
instance {ys : List (List Nat)} : MemV (.str a) (ys.map PV.str) 0 (decide (a ∈ ys)) := ⟨Nat.le_refl _, dpts_map (φ := PV.str) (n := 0) (fun _ => Nat.le_refl _) _, any_map (fun a b => rfl) a ys⟩
instance {ys : List Int} : MemV (.int i) (ys.map PV.int) 0 (decide (i ∈ ys)) := ⟨Nat.le_refl _, dpts_map (φ := PV.int) (n := 0) (fun _ => Nat.le_refl _) _, any_map (fun a b => rfl) i ys⟩
instance {ys : List Nat} {j : Int} : MemV (.int i) (ys.map fun k : Nat => PV.int (j + (k : Nat))) 0 (decide (∃ k ∈ ys, i = j + (k : Nat))) := ⟨Nat.le_refl _, dpts_map (φ := fun k : Nat => PV.int (j + (k : Nat))) (n := 0) (fun _ => Nat.le_refl _) _, by
  rw [Bool.eq_iff_iff, List.any_eq_true, decide_eq_true_eq]
  constructor
  · rintro ⟨z, hz, e⟩
    obtain ⟨k, hk, rfl⟩ := List.mem_map.mp hz
    exact ⟨k, hk, (eq_of_beq (show ((j + (k : Int)) == i) = true from e)).symm⟩
  · rintro ⟨k, hk, e⟩
    exact ⟨_, List.mem_map_of_mem hk, by show ((j + (k : Int)) == i) = true; rw [e]; simp⟩⟩
theorem dv_tl {x y : PV} (h : ∀ l : List Nat, y ≠ .str l) (S : Sto) : inPV S x y = match dv S y with
    | .lst ys => if (decide (dpt (dv S x) ≤ 64) && decide (dpts ys ≤ 63)) = true then some (ys.any fun z => eqPV z (dv S x)) else none
    | .tup ys => if (decide (dpt (dv S x) ≤ 64) && decide (dpts ys ≤ 63)) = true then some (ys.any fun z => eqPV z (dv S x)) else none
    | _ => none := by
  cases y with
  | str l => exact absurd rfl (h l)
  | _ =>
    cases x with
    | str l => rcases l with _ | ⟨c, _ | ⟨d, r⟩⟩ <;> rfl
    | _ => rfl
theorem in_tup {n : Nat} [e : MemV x ys n p] (h : n ≤ 63) : inPV S x (.tup ys) = some p := by
  have d1 := e.dx; have d2 := e.dy
  have e1 : dv S x = x := dv_of e.dx (by omega)
  rw [dv_tl (fun l h => by cases h), e1]
  show (if _ then _ else _) = _
  rw [decide_eq_true (show dpt x ≤ 64 by omega), decide_eq_true (show dpts ys ≤ 63 by omega), e.eq]
  rfl
theorem in_lst {n : Nat} [e : MemV x ys n p] (h : n ≤ 63) : inPV S x (.lst ys) = some p := by
  have d1 := e.dx; have d2 := e.dy
  have e1 : dv S x = x := dv_of e.dx (by omega)
  rw [dv_tl (fun l h => by cases h), e1]
  show (if _ then _ else _) = _
  rw [decide_eq_true (show dpt x ≤ 64 by omega), decide_eq_true (show dpts ys ≤ 63 by omega), e.eq]
  rfl
instance {n : Nat} [e : MemV x ys n p] : Ev2 oIn x (.tup ys) S (.bl p) (n ≤ 63) := ⟨fun h => by unfold oIn; rw [in_tup h]⟩
instance {n : Nat} [e : MemV x ys n p] : Ev2 oIn x (.lst ys) S (.bl p) (n ≤ 63) := ⟨fun h => by unfold oIn; rw [in_lst h]⟩
instance {n : Nat} [e : MemV x ys n p] [m : NotB p q] : Ev2 oNotIn x (.tup ys) S (.bl q) (n ≤ 63) := ⟨fun h => by unfold oNotIn; rw [in_tup h, ← m.eq]⟩
instance {n : Nat} [e : MemV x ys n p] [m : NotB p q] : Ev2 oNotIn x (.lst ys) S (.bl q) (n ≤ 63) := ⟨fun h => by unfold oNotIn; rw [in_lst h, ← m.eq]⟩
/-! None -/
class NonV (x : PV) (b : outParam Bool) : Prop where
  eq : isNon x = b
instance : NonV .non true := ⟨rfl⟩
instance : NonV (.int i) false := ⟨rfl⟩
instance : NonV (.str a) false := ⟨rfl⟩
instance : NonV (.bl p) false := ⟨rfl⟩
instance : NonV (.tup xs) false := ⟨rfl⟩
instance : NonV (.lst xs) false := ⟨rfl⟩
instance [e : NonV x p] : Ev2 oIs x .non S (.bl p) True := ⟨fun _ => by show R.ok (PV.bl (isNon x)) S = _; rw [e.eq]⟩
instance [e : NonV x p] [m : NotB p q] : Ev2 oIsNot x .non S (.bl q) True := ⟨fun _ => by show R.ok (PV.bl (!isNon x)) S = _; rw [e.eq, m.eq]⟩
/-! subscripts -/
instance : Ev2 oIx (.str a) (.int i) S (.str [gi a i]) (-(a.length : Int) ≤ i ∧ i < a.length) := ⟨fun h => q_ixS (atI_ok h)⟩
instance {α : Type} [Inhabited α] {l : List α} {φ : α → PV} : Ev2 oIx (.lst (l.map φ)) (.int i) S (φ (gi l i)) (-(l.length : Int) ≤ i ∧ i < l.length) := ⟨fun h => q_ixL (by
  have := atI_ok h
  unfold atI at this ⊢
  rw [List.length_map]
  cases e : ixN l.length i with
  | none => rw [e] at this; cases this
  | some k =>
    rw [e] at this
    have this : l[k]? = some (gi l i) := this
    show (l.map φ)[k]? = _
    rw [List.getElem?_map, this]; rfl)⟩
instance {α : Type} [Inhabited α] {l : List α} {φ : α → PV} : Ev2 oIx (.tup (l.map φ)) (.int i) S (φ (gi l i)) (-(l.length : Int) ≤ i ∧ i < l.length) := ⟨fun h => q_ixT (by
  have := atI_ok h
  unfold atI at this ⊢
  rw [List.length_map]
  cases e : ixN l.length i with
  | none => rw [e] at this; cases this
  | some k =>
    rw [e] at this
    have this : l[k]? = some (gi l i) := this
    show (l.map φ)[k]? = _
    rw [List.getElem?_map, this]; rfl)⟩
instance {ns : List Int} : Ev2 oIx (.scr ns) (.int i) S (.int (gi ns i)) (-(ns.length : Int) ≤ i ∧ i < ns.length) := ⟨fun h => q_ixC (atI_ok h)⟩
/-- written lists -/
class AtL (xs : List PV) (i : Int) (v : outParam PV) : Prop where
  eq : atI xs i = some v
variable {x0 x1 x2 x3 x4 x5 x6 : PV}
theorem at_k {k : Nat} {v : PV} (h : xs[k]? = some v) : atI xs (k : Int) = some v := at_nat h
instance : AtL (x0 :: xs) 0 x0 := ⟨at_k (k := 0) rfl⟩
instance : AtL (x0 :: x1 :: xs) 1 x1 := ⟨at_k (k := 1) rfl⟩
instance : AtL (x0 :: x1 :: x2 :: xs) 2 x2 := ⟨at_k (k := 2) rfl⟩
instance : AtL (x0 :: x1 :: x2 :: x3 :: xs) 3 x3 := ⟨at_k (k := 3) rfl⟩
instance : AtL (x0 :: x1 :: x2 :: x3 :: x4 :: xs) 4 x4 := ⟨at_k (k := 4) rfl⟩
instance : AtL [x0] (-1) x0 := ⟨at_last rfl⟩
instance : AtL [x0, x1] (-1) x1 := ⟨at_last rfl⟩
instance : AtL [x0, x1, x2] (-1) x2 := ⟨at_last rfl⟩
instance [e : AtL xs i v] : Ev2 oIx (.tup xs) (.int i) S v True := ⟨fun _ => q_ixT e.eq⟩
instance [e : AtL xs i v] : Ev2 oIx (.lst xs) (.int i) S v True := ⟨fun _ => q_ixL e.eq⟩
instance : Inhabited PV := ⟨.non⟩
instance (priority := low) ixRawL : Ev2 oIx (.lst xs) (.int i) S (gi xs i) (-(xs.length : Int) ≤ i ∧ i < xs.length) := ⟨fun h => q_ixL (atI_ok h)⟩
instance (priority := low) ixRawT : Ev2 oIx (.tup xs) (.int i) S (gi xs i) (-(xs.length : Int) ≤ i ∧ i < xs.length) := ⟨fun h => q_ixT (atI_ok h)⟩
/-! parts of lists -/
instance {l h : Option Int} : EvSl (.str a) l h S (.str (cut a l h)) True := ⟨fun _ => rfl⟩
theorem cut_map {α β : Type} (φ : α → β) (l : List α) (lo hi : Option Int) : cut (l.map φ) lo hi = (cut l lo hi).map φ := by
  unfold cut
  rw [List.length_map, ← List.map_drop, ← List.map_take]
instance {α : Type} {u : List α} {φ : α → PV} {l h : Option Int} : EvSl (.lst (u.map φ)) l h S (.lst ((cut u l h).map φ)) True := ⟨fun _ => by
  show R.ok (PV.lst (cut (u.map φ) l h)) S = _
  rw [cut_map]⟩
instance {α : Type} {u : List α} {φ : α → PV} {l h : Option Int} : EvSl (.tup (u.map φ)) l h S (.tup ((cut u l h).map φ)) True := ⟨fun _ => by
  show R.ok (PV.tup (cut (u.map φ) l h)) S = _
  rw [cut_map]⟩
instance {ns : List Int} {l h : Option Int} : EvSl (.scr ns) l h S (.lst ((cut ns l h).map PV.int)) True := ⟨fun _ => rfl⟩
instance : Ev2 oPow (.int i) (.int j) S (.int (i ^ j.toNat)) (powOk i j = true) := ⟨fun h => by simp [oPow, oI, h]⟩
instance (priority := low) {l h : Option Int} : EvSl (.tup xs) l h S (.tup (cut xs l h)) True := ⟨fun _ => rfl⟩
instance (priority := low) {l h : Option Int} : EvSl (.lst xs) l h S (.lst (cut xs l h)) True := ⟨fun _ => rfl⟩
instance : EvRv (.str a) S (.str a.reverse) True := ⟨fun _ => rfl⟩
instance {α : Type} {u : List α} {φ : α → PV} : EvRv (.lst (u.map φ)) S (.lst (u.reverse.map φ)) True := ⟨fun _ => by
  show R.ok (PV.lst (u.map φ).reverse) S = _
  rw [List.map_reverse]⟩
instance (priority := low) : EvRv (.lst xs) S (.lst xs.reverse) True := ⟨fun _ => rfl⟩
/-! builtins -/
instance : EvF bLen [.str a] S (.int (a.length : Nat)) S True := ⟨fun _ => rfl⟩
instance : EvF bLen [.tup xs] S (.int (xs.length : Nat)) S True := ⟨fun _ => rfl⟩
instance : EvF bLen [.lst xs] S (.int (xs.length : Nat)) S True := ⟨fun _ => rfl⟩
instance {α : Type} {u : List α} {φ : α → PV} : EvF bLen [.lst (u.map φ)] S (.int (u.length : Nat)) S True := ⟨fun _ => by
  rw [q_lenL, List.length_map]⟩
instance {α : Type} {u : List α} {φ : α → PV} : EvF bLen [.tup (u.map φ)] S (.int (u.length : Nat)) S True := ⟨fun _ => by
  rw [q_lenT, List.length_map]⟩
instance {ns : List Int} : EvF bLen [.scr ns] S (.int (ns.length : Nat)) S True := ⟨fun _ => rfl⟩
instance : EvF bInt [.int i] S (.int i) S True := ⟨fun _ => rfl⟩
instance : EvF bInt [.bl p] S (.int (if p = true then 1 else 0)) S True := ⟨fun _ => rfl⟩
instance : EvF bAbs [.int i] S (.int (if i < 0 then -i else i)) S True := ⟨fun _ => rfl⟩
instance : EvF bMax2 [.int i, .int j] S (.int (if j > i then j else i)) S True := ⟨fun _ => rfl⟩
instance : EvF bMin2 [.int i, .int j] S (.int (if j < i then j else i)) S True := ⟨fun _ => rfl⟩
instance : EvF bGcd [.int i, .int j] S (.int ((Nat.gcd i.natAbs j.natAbs : Nat) : Int)) S True := ⟨fun _ => rfl⟩
instance : EvF bDivmod [.int i, .int j] S (.tup [.int (i / j), .int (i % j)]) S (divOk i j = true) := ⟨fun h => q_divmod h⟩
class Bls (xs : List PV) (bs : outParam (List Bool)) : Prop where
  eq : blsOf xs = some bs
instance : Bls [] [] := ⟨rfl⟩
instance {bs : List Bool} [e : Bls xs bs] : Bls (.bl p :: xs) (p :: bs) := ⟨by
  show (blsOf xs).map (p :: ·) = _
  rw [e.eq]; rfl⟩
instance {bs : List Bool} [e : Bls xs bs] : EvF bAll [.lst xs] S (.bl (bs.all fun b => b)) S True := ⟨fun _ => q_all e.eq⟩
theorem all_map {α : Type} (f : α → Bool) : ∀ u : List α, (u.map f).all (fun b => b) = u.all f
  | [] => rfl
  | a :: u => by rw [List.map_cons, List.all_cons, List.all_cons, all_map f u]
theorem anyb_map {α : Type} (f : α → Bool) : ∀ u : List α, (u.map f).any (fun b => b) = u.any f
  | [] => rfl
  | a :: u => by rw [List.map_cons, List.any_cons, List.any_cons, anyb_map f u]
theorem q_any {bs : List Bool} (h : blsOf xs = some bs) : bAny [.lst xs] S = .ok (.bl (bs.any fun b => b)) S := by
  unfold bAny
  show (match (some xs).bind blsOf with | some ns => R.ok (PV.bl (ns.any _root_.id)) S | none => .no) = _
  show (match blsOf xs with | some ns => R.ok (PV.bl (ns.any _root_.id)) S | none => .no) = _
  rw [h]
  rfl
instance {bs : List Bool} [e : Bls xs bs] : EvF bAny [.lst xs] S (.bl (bs.any fun b => b)) S True := ⟨fun _ => q_any e.eq⟩
instance {α : Type} {u : List α} {f : α → Bool} : EvF bAll [.lst (u.map fun x => .bl (f x))] S (.bl (u.all f)) S True := ⟨fun _ => by
  rw [q_all (bls_map f u), ← all_map f u]
  rfl⟩
instance {α : Type} {u : List α} {f : α → Bool} : EvF bAny [.lst (u.map fun x => .bl (f x))] S (.bl (u.any f)) S True := ⟨fun _ => by
  rw [q_any (bls_map f u), anyb_map]⟩
theorem ints_map {α : Type} (f : α → Int) (u : List α) : intsOf (u.map fun x => .int (f x)) = some (u.map f) := by
  rw [← intsOf_map (u.map f), List.map_map]
  rfl
instance {α : Type} {u : List α} {f : α → Int} : EvF bSum [.lst (u.map fun x => .int (f x))] S (.int (u.map f).sum) S True := ⟨fun _ => by
  show (match (some (u.map fun x => PV.int (f x))).bind intsOf with | some ns => R.ok (PV.int ns.sum) S | none => .no) = _
  show (match intsOf (u.map fun x => PV.int (f x)) with | some ns => R.ok (PV.int ns.sum) S | none => .no) = _
  rw [ints_map]⟩
instance {u : List Int} : EvF bSum [.lst (u.map PV.int)] S (.int u.sum) S True := ⟨fun _ => by
  show (match intsOf (u.map PV.int) with | some ns => R.ok (PV.int ns.sum) S | none => .no) = _
  rw [intsOf_map]⟩
instance {ns : List Int} : EvF bSum [.scr ns] S (.int ns.sum) S True := ⟨fun _ => by
  show (match intsOf (ns.map PV.int) with | some ns => R.ok (PV.int ns.sum) S | none => .no) = _
  rw [intsOf_map]⟩
instance : EvF bTuple [.tup xs] S (.tup xs) S True := ⟨fun _ => rfl⟩
instance : EvF bTuple [.lst xs] S (.tup xs) S True := ⟨fun _ => rfl⟩
instance : EvF bList [.tup xs] S (.lst xs) S True := ⟨fun _ => rfl⟩
instance : EvF bList [.lst xs] S (.lst xs) S True := ⟨fun _ => rfl⟩
/-! methods -/
instance {c : Nat} : EvM bIndex (.str a) [.str [c]] S (.int (a.idxOf c : Nat)) S (c ∈ a) := ⟨fun h => by
  show (if decide (c ∈ a) = true then _ else _) = _
  rw [if_pos (decide_eq_true h)]⟩
instance {c : Nat} : EvM bCount (.str a) [.str [c]] S (.int (a.count c : Nat)) S True := ⟨fun _ => rfl⟩
theorem joinOk_of {ns : List (List Nat)} (h : (ns.map List.length).sum + ns.length * b.length ≤ 16777216) : joinOk b ns = true := decide_eq_true h
instance {α : Type} {u : List α} {f : α → Nat} : EvM bJoin (.str []) [.lst (u.map fun x => .str [f x])] S (.str (u.map f)) S (u.length ≤ 16777216) := ⟨fun h => q_joinS f u h⟩
instance (priority := low) {α : Type} {u : List α} {f : α → List Nat} : EvM bJoin (.str b) [.lst (u.map fun x => .str (f x))] S (.str (joinL b (u.map f))) S (((u.map f).map List.length).sum + u.length * b.length ≤ 16777216) := ⟨fun h => q_join (strs_map f u) (joinOk_of (by rw [List.length_map]; exact h))⟩
end
end Pv

namespace Lw
open Pv L2
/-! ### draws, told as functions -/
def vI (r : R PV) : Nat := match r with
  | .ok (.int d) _ => d.toNat
  | _ => 0
def vL (r : R PV) : List Nat := match r with
  | .ok (.str l) _ => l
  | _ => []
def vC (r : R PV) : Nat := (vL r).headD 0
def vV (r : R PV) : PV := match r with
  | .ok v _ => v
  | _ => .non
def vP (r : R PV) : Nat := match r with
  | .ok (.tup [.int a, _]) _ => a.toNat
  | _ => 0
def vQ (r : R PV) : Nat := match r with
  | .ok (.tup [_, .int a]) _ => a.toNat
  | _ => 0
open Classical in
noncomputable def stS (n : Nat) (S : Sto) (r : R PV) : Sto := match r with
  | .ok _ S' => if Has n S ∧ Dr n S S' then S' else S
  | .no => S
theorem stS_dr {n : Nat} {S0 S : Sto} {r : R PV} (h : Dr n S0 S) : Dr n S0 (stS n S r) := by
  unfold stS
  split
  · split
    · rename_i k; exact h.trans k.2
    · exact h
  · exact h
theorem stS_has {n : Nat} {S : Sto} {r : R PV} : Has n (stS n S r) ↔ Has n S := by
  unfold stS
  split
  · split
    · rename_i v S' k
      exact ⟨fun _ => k.1, fun h => k.2.has h⟩
    · exact Iff.rfl
  · exact Iff.rfl
theorem stS_len {n : Nat} {S : Sto} {r : R PV} : (stS n S r).length = S.length := by
  unfold stS
  split
  · split
    · rename_i k; exact k.2.len
    · rfl
  · rfl
theorem stS_eq {n : Nat} {S S' : Sto} {v : PV} (k : Has n S) (d : Dr n S S') : stS n S (.ok v S') = S' := by
  unfold stS
  exact if_pos ⟨k, d⟩
/-- a def that draws gives back what it gives back -/
theorem dr_run {F : FF} {xs : List PV} {n : Nat} {S S' : Sto} {v w : PV} (k : Has n S) (e : F xs S = .ok v S') (d : Dr n S S') (hw : w = v) : F xs S = .ok w (stS n S (F xs S)) := by
  rw [e, stS_eq k d, hw]
instance (priority := low) {S S1 : Sto} {v : PV} {C : Prop} [a : IsPV v C] : OutR S.length (.ret v S1) v S1 (C ∧ S1.length = S.length) := ⟨fun q => by
  rw [z_out_ret, out_pure (a.run q.1), List.take_of_length_le (Nat.le_of_eq q.2)]⟩
end Lw
namespace Pv
/-! ### values without cells, not too long -/
mutual
def smP : PV → Bool
  | .non => true
  | .bl _ => true
  | .int _ => true
  | .str _ => true
  | .tup xs => decide (xs.length ≤ 1000000) && smPs xs
  | .lst xs => decide (xs.length ≤ 1000000) && smPs xs
  | .scr _ => false
  | .ref _ => false
def smPs : List PV → Bool
  | [] => true
  | x :: xs => smP x && smPs xs
end
theorem smPs_all : ∀ {xs : List PV}, smPs xs = true → ∀ x ∈ xs, smP x = true
  | y :: ys, h, x, hx => by
    obtain ⟨h1, h2⟩ := Bool.and_eq_true_iff.mp (show (smP y && smPs ys) = true from h)
    rcases List.mem_cons.mp hx with rfl | hx
    · exact h1
    · exact smPs_all h2 x hx
theorem dpts_all : ∀ {xs : List PV} {n : Nat}, dpts xs ≤ n → ∀ x ∈ xs, dpt x ≤ n
  | y :: ys, n, h, x, hx => by
    simp only [dpts] at h
    rcases List.mem_cons.mp hx with rfl | hx
    · omega
    · exact dpts_all (by omega) x hx
/-- how deep a value is, that it is not too long -/
class Sm (x : PV) (n : outParam Nat) (C : outParam Prop) : Prop where
  d : dpt x ≤ n
  run : C → smP x = true
class Sms (xs : List PV) (n : outParam Nat) (C : outParam Prop) (l : outParam Nat) : Prop where
  d : dpts xs ≤ n
  run : C → smPs xs = true
  len : xs.length = l
section
variable {x : PV} {xs : List PV} {n m l : Nat} {C C1 C2 : Prop}
instance : Sm .non 0 True := ⟨Nat.le_refl _, fun _ => rfl⟩
instance {b : Bool} : Sm (.bl b) 0 True := ⟨Nat.le_refl _, fun _ => rfl⟩
instance {b : Int} : Sm (.int b) 0 True := ⟨Nat.le_refl _, fun _ => rfl⟩
instance {b : List Nat} : Sm (.str b) 0 True := ⟨Nat.le_refl _, fun _ => rfl⟩
instance [a : Sms xs n C l] : Sm (.tup xs) (n + 1) (l ≤ 1000000 ∧ C) := ⟨by have := a.d; simp only [dpt]; omega, fun q => by
  show (decide (xs.length ≤ 1000000) && smPs xs) = true
  rw [a.run q.2, a.len, decide_eq_true q.1]; rfl⟩
instance [a : Sms xs n C l] : Sm (.lst xs) (n + 1) (l ≤ 1000000 ∧ C) := ⟨by have := a.d; simp only [dpt]; omega, fun q => by
  show (decide (xs.length ≤ 1000000) && smPs xs) = true
  rw [a.run q.2, a.len, decide_eq_true q.1]; rfl⟩
instance : Sms [] 0 True 0 := ⟨Nat.le_refl _, fun _ => rfl, rfl⟩
instance [a : Sm x n C1] [b : Sms xs m C2 l] : Sms (x :: xs) (max n m) (C1 ∧ C2) (l + 1) := ⟨by
  have := a.d; have := b.d; simp only [dpts]; omega, fun q => by
  show (smP x && smPs xs) = true
  rw [a.run q.1, b.run q.2]; rfl, congrArg (· + 1) b.len⟩
theorem smPs_map {α : Type} {φ : α → PV} : ∀ {xs : List α}, (∀ x ∈ xs, smP (φ x) = true) → smPs (xs.map φ) = true
  | [], _ => rfl
  | x :: xs, h => by
    rw [List.map_cons]
    show (smP (φ x) && smPs (xs.map φ)) = true
    rw [h x List.mem_cons_self, smPs_map fun y hy => h y (List.mem_cons_of_mem _ hy)]; rfl
instance {α : Type} {φ : α → PV} {xs : List α} {D : α → Prop} [a : ∀ x, Sm (φ x) n (D x)] : Sms (xs.map φ) n (∀ x ∈ xs, D x) xs.length := ⟨dpts_map (fun x => (a x).d) _, fun q => smPs_map fun x hx => (a x).run (q x hx), List.length_map _⟩
end
end Pv
namespace Pv
/-! ### loops -/
theorem for_r {p : Pat} {body : FS} {m : Nat} {φ : Nat → PV} (I : Nat → VEnv → Sto → Prop) (hs : ∀ i, i < m → ∀ env S, I i env S → ∃ env1 env2 S2, setPat p (φ i) env = some env1 ∧ body env1 S = .nx env2 S2 ∧ I (i + 1) env2 S2)
    {env : VEnv} {S : Sto} (h0 : I 0 env S) : ∃ env' S', forGo p body ((List.range m).map φ) env S = .nx env' S' ∧ I m env' S' := by
  have := for_inv (p := p) (body := body) I ((List.range m).map φ) (fun i x env S hx h => by
    have hi : i < m := by
      have := (List.getElem?_eq_some_iff.mp hx).1
      rw [List.length_map, List.length_range] at this
      exact this
    rw [List.getElem?_map, List.getElem?_range hi] at hx
    cases hx
    exact hs i hi env S h) h0
  rw [List.length_map, List.length_range] at this
  exact this
theorem for_l {α : Type} {p : Pat} {body : FS} {xs : List α} {φ : α → PV} (I : Nat → VEnv → Sto → Prop) (hs : ∀ i (h : i < xs.length), ∀ env S, I i env S → ∃ env1 env2 S2, setPat p (φ xs[i]) env = some env1 ∧ body env1 S = .nx env2 S2 ∧ I (i + 1) env2 S2)
    {env : VEnv} {S : Sto} (h0 : I 0 env S) : ∃ env' S', forGo p body (xs.map φ) env S = .nx env' S' ∧ I xs.length env' S' := by
  have := for_inv (p := p) (body := body) I (xs.map φ) (fun i x env S hx h => by
    have hi : i < xs.length := by
      have := (List.getElem?_eq_some_iff.mp hx).1
      rw [List.length_map] at this
      exact this
    rw [List.getElem?_map, List.getElem?_eq_getElem hi] at hx
    cases hx
    exact hs i hi env S h) h0
  rw [List.length_map] at this
  exact this
theorem sfor_ev {α : Type} {p : Pat} {it : FI} {body : FS} {env : VEnv} {S S1 : Sto} {xs : List α} {φ : α → PV} {C : Prop} {r : RS} [a : EvI it env S xs φ S1 C] (q : C) (h : forGo p body (xs.map φ) env S1 = r) : sFor p it body env S = r := for_eq (a.run q) h
/-- a comprehension whose parts may draw from what they lay themselves -/
theorem lc_any {α : Type} {p : Pat} {it : FI} {elt : FE} {env e1 : VEnv} {S : Sto} {vs : List Nat} {xs : List α} {φ : α → PV} {C : Prop} {E : α → VEnv} {y : α → PV} [a : EvI it env S xs φ S C] [c : Wipe env vs e1] [d : ∀ x, SetP p (φ x) e1 (E x)] (q : C ∧ xs.length < 16777216)
    (h : ∀ x ∈ xs, isP (y x) = true ∧ ∃ S', elt (E x) S = .ok (y x) S' ∧ S'.take S.length = S) : fLc p it tYes' elt vs env S = .ok (xs.map y) S := by
  rw [z_lc, a.run q.1, zb, if_pos (show (xs.map φ).length < SZ by rw [List.length_map]; exact q.2), c.eq]
  exact lc_all S φ E y xs (fun x _ => (d x).eq) h
theorem fn_top {np N : Nat} {body : FS} {xs : List PV} {env : VEnv} {S S1 : Sto} {b : Bool} [a : Start xs N env] (hl : xs.length = np) (e : body env S = .ret (.bl b) S1) : fnOf np N body xs S = .ok (.bl b) (S1.take S.length) := by
  rw [fn_eq hl, a.eq, e]; rfl
end Pv
namespace Pv
theorem sif_tv {t : FT} {f g : FS} {env : VEnv} {S S1 : Sto} {b : Bool} {C : Prop} [a : EvT t env S b S1 C] (q : C) (hb : b = true) : sIf t f g env S = f env S1 := by
  have := a.run q
  rw [hb] at this
  exact sif_t this
theorem sif_fv {t : FT} {f g : FS} {env : VEnv} {S S1 : Sto} {b : Bool} {C : Prop} [a : EvT t env S b S1 C] (q : C) (hb : b = false) : sIf t f g env S = g env S1 := by
  have := a.run q
  rw [hb] at this
  exact sif_f this
/-- a def, its start told -/
theorem fn_st {np N : Nat} {body : FS} {xs : List PV} {env : VEnv} {S S1 : Sto} {r : RS} {v : PV} [a : Start xs N env] (hl : xs.length = np) (e : body env S = r) (o : outS S.length r = .ok v S1) : fnOf np N body xs S = .ok v S1 := by
  rw [fn_eq hl, a.eq, e, o]
end Pv
namespace Pv
/-- a comprehension that draws -/
theorem lc_draw {α : Type} {p : Pat} {elt : FE} {env : VEnv} {n : Nat} {φ : α → PV} {E : α → VEnv} {T : Nat → Prop} {n0 : Nat} : ∀ (items : List α) (S : Sto), Lw.Has n S → S.length = n0 → (∀ x, setPat p (φ x) env = some (E x)) →
    (∀ x S, Lw.Has n S → ∃ c S', elt (E x) S = .ok (.str [c]) S' ∧ Lw.Dr n S S' ∧ T c) → ∃ (cs : List Nat) (S' : Sto), lcGo p tYes' elt env n0 (items.map φ) S = .ok (cs.map fun c => .str [c]) S' ∧ Lw.Dr n S S' ∧ cs.length = items.length ∧ ∀ c ∈ cs, T c
  | [], S, k, _, _, _ => ⟨[], S, rfl, Lw.Dr.refl k, rfl, fun _ h => by cases h⟩
  | x :: xs, S, k, hl, hp, he => by
    obtain ⟨c, S1, e1, d1, t1⟩ := he x S k
    have hl1 : S1.length = n0 := d1.len.trans hl
    obtain ⟨cs, S2, e2, d2, l2, t2⟩ := lc_draw xs S1 (d1.has k) hl1 hp he
    refine ⟨c :: cs, S2, ?_, d1.trans d2, congrArg (· + 1) l2, fun d hd => ?_⟩
    · rw [List.map_cons]
      unfold lcGo
      rw [hp x]
      show (tYes' (E x) S).bind _ = _
      rw [show tYes' (E x) S = .ok true S from rfl, R.bind, z_ok, if_pos rfl, e1, R.bind, z_ok, if_pos (show isP (PV.str [c]) = true from rfl), List.take_of_length_le (Nat.le_of_eq hl1), e2]
      rfl
    · rcases List.mem_cons.mp hd with rfl | hd
      · exact t1
      · exact t2 d hd
end Pv
namespace Pv
theorem forGo_append {p : Pat} {body : FS} : ∀ (xs ys : List PV) (env : VEnv) (S : Sto) {env' : VEnv} {S' : Sto}, forGo p body xs env S = .nx env' S' → forGo p body (xs ++ ys) env S = forGo p body ys env' S'
  | [], ys, env, S, env', S', h => by cases h; rfl
  | x :: xs, ys, env, S, env', S', h => by
    rw [List.cons_append]
    have h : (match setPat p x env with
      | none => RS.no
      | some env1 => match body env1 S with
        | .nx env2 S2 => forGo p body xs env2 S2
        | .ret v S2 => .ret v S2
        | .no => .no) = .nx env' S' := h
    show (match setPat p x env with
      | none => RS.no
      | some env1 => match body env1 S with
        | .nx env2 S2 => forGo p body (xs ++ ys) env2 S2
        | .ret v S2 => .ret v S2
        | .no => .no) = forGo p body ys env' S'
    cases e : setPat p x env with
    | none => rw [e] at h; cases h
    | some env1 =>
      rw [e] at h
      have h : (match body env1 S with
        | .nx env2 S2 => forGo p body xs env2 S2
        | .ret v S2 => .ret v S2
        | .no => .no) = .nx env' S' := h
      show (match body env1 S with
        | .nx env2 S2 => forGo p body (xs ++ ys) env2 S2
        | .ret v S2 => .ret v S2
        | .no => .no) = forGo p body ys env' S'
      cases e2 : body env1 S with
      | nx env2 S2 => rw [e2] at h; exact forGo_append xs ys env2 S2 h
      | ret v S2 => rw [e2] at h; cases h
      | no => rw [e2] at h; cases h
instance (priority := low) {xs : List PV} {S : Sto} : Items (.lst xs) S xs (fun x => x) := ⟨congrArg some (List.map_id' xs).symm⟩
instance (priority := low) {xs : List PV} {S : Sto} : Items (.tup xs) S xs (fun x => x) := ⟨congrArg some (List.map_id' xs).symm⟩
instance {x : PV} {xs : List PV} {n l : Nat} {C : Prop} [a : Sms (x :: xs) n C l] : EqVs (x :: xs) [] n false := ⟨a.d, Nat.zero_le _, rfl⟩
instance {x : PV} {xs : List PV} {n l : Nat} {C : Prop} [a : Sms (x :: xs) n C l] : EqVs [] (x :: xs) n false := ⟨Nat.zero_le _, a.d, rfl⟩
end Pv
namespace Pv
theorem seq_assoc (a b c : FS) : sSeq (sSeq a b) c = sSeq a (sSeq b c) := by
  funext env S
  unfold sSeq
  cases a env S <;> rfl
theorem seq3 {a b c d : FS} {env e : VEnv} {S T : Sto} (h : sSeq a (sSeq b c) env S = .nx e T) : sSeq a (sSeq b (sSeq c d)) env S = d e T := by
  rw [← seq_assoc, ← seq_assoc, seq_assoc a b c]
  exact seq_nx h
end Pv

namespace Pv
open L2
/-! ### tables, cells -/
class MemT (l : List Nat) (ks : List (List Nat)) (b : outParam Bool) : Prop where
  eq : decide (l ∈ ks) = b
instance (priority := low) {l : List Nat} {ks : List (List Nat)} : MemT l ks (decide (l ∈ ks)) := ⟨rfl⟩
class TabV (tab : List Nat → Option FF) (l : List Nat) (F : outParam FF) : Prop where
  eq : tab l = some F
class TabW (tab : List Nat → Option (Int × FF)) (l : List Nat) (r : outParam (Int × FF)) : Prop where
  eq : tab l = some r
section
variable {env e1 e2 : VEnv} {S S1 S2 S3 S4 : Sto} {f g h : FE} {fa : FA} {x y z v w : PV} {C C1 C2 C3 C4 : Prop} {b b1 b2 : Bool} {i j k n : Nat} {l : List Nat} {ks : List (List Nat)} {xs ys zs : List PV} {r : RS}
instance [a : EvE f env S (.str l) S1 C] [c : MemT l ks b] : EvE (eInT ks f) env S (.bl b) S1 C := ⟨fun q => by
  unfold eInT; rw [a.run q, zb, ← c.eq]⟩
instance [a : EvE f env S (.str l) S1 C] [c : MemT l ks b] [m : NotB b b1] : EvE (eNInT ks f) env S (.bl b1) S1 C := ⟨fun q => by
  unfold eNInT; rw [a.run q, zb, ← m.eq, ← c.eq]⟩
instance {s : FS} [a : SetAt env i none e1] [c : EvS s e1 S r C] : EvS (dropE i s) env S r (i < env.length ∧ C) := ⟨fun q => by
  unfold dropE; rw [if_pos q.1, a.eq, c.run q.2]⟩
instance {tab : List Nat → Option FF} {F : FF} [a : EvE f env S (.str l) S1 C] [t : TabV tab l F] [c : EvA fa env S1 xs S2 C1] [d : EvF F xs S2 v S3 C2] : EvS (sDisp tab f fa) env S (.ret v S3) (C ∧ C1 ∧ C2) := ⟨fun q => by
  unfold sDisp
  rw [a.run q.1, zbS]
  show (match tab l with
    | some F => ((fa env S1).bind fun xs S => F xs S).bindS fun v S => RS.ret v S
    | none => RS.no) = _
  rw [t.eq]
  show ((fa env S1).bind fun xs S => F xs S).bindS _ = _
  rw [c.run q.2.1, zb, d.run q.2.2, zbS]⟩
instance {tab : List Nat → Option (Int × FF)} {F : FF} {m : Int} [a : EvE f env S (.str l) S1 C] [t : TabW tab l (m, F)] [s : SetAt env i (some (.int m)) e1] [c : EvE (eAnd g (eCall F fa)) e1 S1 v S2 C1] : EvS (sForm tab f i g fa) env S (.ret v S2) (C ∧ C1) := ⟨fun q => by
  unfold sForm
  rw [a.run q.1, zbS]
  show (match tab l with
    | some r => (eAnd g (eCall r.2 fa) (env.set i (some (.int r.1))) S1).bindS fun v S => RS.ret v S
    | none => RS.no) = _
  rw [t.eq]
  show (eAnd g (eCall F fa) (env.set i (some (.int m))) S1).bindS (fun v S => RS.ret v S) = _
  rw [s.eq, c.run q.2, zbS]⟩
instance {m : Int} [a : EvE f env S (.int m) S1 C] : EvA (lRg1 f) env S ((List.range m.toNat).map fun k => .int (k : Nat)) S1 (C ∧ (-4611686018427387904 ≤ m ∧ m < 4611686018427387904) ∧ m.toNat ≤ 16777216) := ⟨fun q => by
  unfold lRg1
  rw [a.run q.1, zb]
  have h : okRg 0 m = true := by
    unfold okRg
    rw [decide_eq_true (show -(2 ^ 62) ≤ (0 : Int) by decide), decide_eq_true (show (0 : Int) < 2 ^ 62 by decide), decide_eq_true (show -(2 ^ 62) ≤ m by omega), decide_eq_true (show m < 2 ^ 62 by omega), decide_eq_true (show (m - 0).toNat ≤ 2 ^ 24 by omega)]
    rfl
  show (if okRg 0 m = true then _ else _) = _
  rw [if_pos h, Int.sub_zero]
  unfold rgI
  congr 1
  apply List.map_congr_left
  intro k _
  congr 1
  omega⟩
instance : EvF bTupleX [.tup xs] S (.tup xs) S True := ⟨fun _ => rfl⟩
instance : EvF bTupleX [.lst xs] S (.tup xs) S True := ⟨fun _ => rfl⟩
instance {l : List Nat} : EvF bTupleX [.str l] S (.tup (l.map fun c => .str [c])) S True := ⟨fun _ => rfl⟩
instance : EvF bListX [.tup xs] S (.lst xs) S True := ⟨fun _ => rfl⟩
instance : EvF bListX [.lst xs] S (.lst xs) S True := ⟨fun _ => rfl⟩
instance {l : List Nat} : EvF bListX [.str l] S (.lst (l.map fun c => .str [c])) S True := ⟨fun _ => rfl⟩
instance : EvSl (.tup (x :: xs)) (some 1) none S (.tup xs) True := ⟨fun _ => by
  show R.ok (PV.tup (cut (x :: xs) (some ((1 : Nat) : Int)) none)) S = _
  unfold cut
  rw [HT.sIx_nat]
  simp [HT.sIx]⟩
theorem cutl {l : List PV} {k : Nat} (h : k ≤ l.length) : cut l none (some (k : Int)) = l.take k := by
  unfold cut
  rw [HT.sIx_nat]
  simp [HT.sIx, Nat.min_eq_left h]
instance : EvSl (.tup (x :: xs)) none (some 1) S (.tup [x]) True := ⟨fun _ => by
  show R.ok (PV.tup (cut (x :: xs) none (some ((1 : Nat) : Int)))) S = _
  rw [cutl (by simp)]; rfl⟩
instance : EvSl (.tup (x :: y :: xs)) none (some 2) S (.tup [x, y]) True := ⟨fun _ => by
  show R.ok (PV.tup (cut (x :: y :: xs) none (some ((2 : Nat) : Int)))) S = _
  rw [cutl (by simp)]; rfl⟩
instance : EvSl (.tup (x :: y :: z :: xs)) none (some 3) S (.tup [x, y, z]) True := ⟨fun _ => by
  show R.ok (PV.tup (cut (x :: y :: z :: xs) none (some ((3 : Nat) : Int)))) S = _
  rw [cutl (by simp)]; rfl⟩
/-! cells -/
instance (priority := low) cellSet [a : CellAt S n xs] : CellAt (S.set n (.lst ys)) n ys := ⟨by
  have := (List.getElem?_eq_some_iff.mp a.eq).1
  rw [List.getElem?_set_self this]⟩
class SetL (xs : List PV) (i : Int) (v : PV) (ys : outParam (List PV)) : Prop where
  eq : ∃ k, ixN xs.length i = some k ∧ xs.set k v = ys
theorem ix_k {n k : Nat} (h : k < n) : ixN n (k : Int) = some k := by
  unfold ixN
  rw [if_pos (by omega), if_pos (by omega)]
  simp
instance : SetL (x :: xs) 0 v (v :: xs) := ⟨⟨0, ix_k (by simp), rfl⟩⟩
instance : SetL (x :: y :: xs) 1 v (x :: v :: xs) := ⟨⟨1, ix_k (by simp), rfl⟩⟩
instance : SetL (x :: y :: z :: xs) 2 v (x :: y :: v :: xs) := ⟨⟨2, ix_k (by simp), rfl⟩⟩
instance {t : Int} [a : EvE f env S x S1 C] [c : EvE g env S1 (.ref n) S2 C1] [d : EvE h env S2 (.int t) S3 C2] [e : CellAt S3 n xs] [s : SetL xs t x ys] [p : IsPV x C3] : EvS (sSub g h f) env S (.nx env (S3.set n (.lst ys))) (C ∧ C1 ∧ C2 ∧ C3) := ⟨fun q => by
  obtain ⟨k, hk, hy⟩ := s.eq
  refine sub_eq (a.run q.1) (c.run q.2.1) (d.run q.2.2.1) ?_
  unfold setCl
  have hc : cl S3 n = some xs := by unfold cl; rw [e.eq]
  show (match cl S3 n with
    | some ys => (match ixN ys.length t with
      | some j => if isP x = true then some (S3.set n (.lst (ys.set j x))) else none
      | none => none)
    | none => none) = _
  rw [hc]
  show (match ixN xs.length t with
    | some j => if isP x = true then some (S3.set n (.lst (xs.set j x))) else none
    | none => none) = _
  rw [hk]
  show (if isP x = true then some (S3.set n (.lst (xs.set k x))) else none) = _
  rw [if_pos (p.run q.2.2.2), hy]⟩
instance {t : Int} [a : EvE f env S (.tup [x, y]) S1 C] [c : EvE g env S1 (.ref n) S2 C1] [d : EvE h env S2 (.int t) S3 C2] [e : CellAt S3 n xs] [s : SetL xs t x ys] [p : IsPV x C3] [u : SetAt env j (some y) e1] : EvS (sDm g h j f) env S (.nx e1 (S3.set n (.lst ys))) (C ∧ C1 ∧ C2 ∧ C3) := ⟨fun q => by
  obtain ⟨k, hk, hy⟩ := s.eq
  rw [← u.eq]
  refine dm_eq (a.run q.1) (c.run q.2.1) (d.run q.2.2.1) ?_
  unfold setCl
  have hc : cl S3 n = some xs := by unfold cl; rw [e.eq]
  show (match cl S3 n with
    | some ys => (match ixN ys.length t with
      | some j => if isP x = true then some (S3.set n (.lst (ys.set j x))) else none
      | none => none)
    | none => none) = _
  rw [hc]
  show (match ixN xs.length t with
    | some j => if isP x = true then some (S3.set n (.lst (xs.set j x))) else none
    | none => none) = _
  rw [hk]
  show (if isP x = true then some (S3.set n (.lst (xs.set k x))) else none) = _
  rw [if_pos (p.run q.2.2.2), hy]⟩
instance {t : Int} [a : CellAt S n xs] [c : AtL xs t v] : Ev2 oIx (.ref n) (.int t) S v True := ⟨fun _ => q_ixR a.eq c.eq⟩
instance [a : CellAt S n xs] : EvF bLen [.ref n] S (.int (xs.length : Nat)) S True := ⟨fun _ => by
  show (match lenPV S (.ref n) with | some n => R.ok (PV.int n) S | none => .no) = _
  have hd : lenPV S (.ref n) = some xs.length := by
    show (match S[n]? with
      | some (.lst xs) => some xs
      | _ => none).map List.length = _
    rw [a.eq]
    rfl
  rw [hd]⟩
instance [a : CellAt S n xs] [p : IsPV x C] : EvM bAppend (.ref n) [x] S .non (S.set n (.lst (xs ++ [x]))) (C ∧ xs.length < 16777216) := ⟨fun q => by
  have hc : cl S n = some xs := by unfold cl; rw [a.eq]
  show (match cl S n with | some ys => if (isP x && decide (ys.length < SZ)) = true then R.ok PV.non (S.set n (.lst (ys ++ [x]))) else .no | none => .no) = _
  rw [hc]
  show (if (isP x && decide (xs.length < SZ)) = true then R.ok PV.non (S.set n (.lst (xs ++ [x]))) else .no) = _
  rw [p.run q.1, decide_eq_true (show xs.length < SZ from q.2)]
  rfl⟩
end
end Pv

namespace Lw
open Pv L2
/-! ### closed stackings -/
instance (c : Nat) : Decidable (Lt c) := by unfold Lt; infer_instance
instance (l : List Nat) : Decidable (Stk l) := by unfold Stk; infer_instance
/-- closed -/
def Cls (l : List Nat) : Prop := Stk l ∧ gi l 0 ≠ gi l (-1)
instance (l : List Nat) : Decidable (Cls l) := by unfold Cls; infer_instance
/-- the letter so many further -/
def fu (c : Nat) (k : Int) : Nat := 65 + ((((c - 65 : Nat) : Int) + k) % 3).toNat
theorem fu_lt (c : Nat) (k : Int) : Lt (fu c k) := by
  have h0 := Int.emod_nonneg (((c - 65 : Nat) : Int) + k) (show (3 : Int) ≠ 0 by decide)
  have h1 := Int.emod_lt_of_pos (((c - 65 : Nat) : Int) + k) (show (0 : Int) < 3 by decide)
  unfold fu Lt
  omega
theorem abc_gi {z : Int} (h0 : 0 ≤ z) (h1 : z < 3) : gi ([65, 66, 67] : List Nat) z = 65 + z.toNat := by
  have : z = 0 ∨ z = 1 ∨ z = 2 := by omega
  rcases this with rfl | rfl | rfl <;> rfl
theorem abc_idx {c : Nat} (h : Lt c) : (([65, 66, 67] : List Nat).idxOf c : Nat) = c - 65 := by
  rcases h with rfl | rfl | rfl <;> rfl
/-! parts of lists, told by drop and take -/
theorem sx_none (n d : Nat) : HT.sIx n d none = d := rfl
theorem sx_nat (n d k : Nat) : HT.sIx n d (some (k : Int)) = min k n := HT.sIx_nat n d k
theorem sx_neg (n d k : Nat) (h : 1 ≤ k) : HT.sIx n d (some (-(k : Int))) = n - k := by
  show (if -(k : Int) < 0 then (-(k : Int) + (n : Int)).toNat else _) = _
  rw [if_pos (by omega)]
  omega
theorem take_min {α : Type} (l : List α) (k : Nat) : l.take (min k l.length) = l.take k := by
  by_cases h : k ≤ l.length
  · rw [Nat.min_eq_left h]
  · rw [Nat.min_eq_right (by omega), List.take_length, List.take_of_length_le (by omega)]
theorem drop_min {α : Type} (l : List α) (k : Nat) : l.drop (min k l.length) = l.drop k := by
  by_cases h : k ≤ l.length
  · rw [Nat.min_eq_left h]
  · rw [Nat.min_eq_right (by omega), List.drop_length, List.drop_eq_nil_of_le (by omega)]
theorem cut_drop {α : Type} (l : List α) (k : Nat) : cut l (some (k : Int)) none = l.drop k := by
  unfold cut
  rw [sx_nat, sx_none, drop_min, List.take_of_length_le]
  rw [List.length_drop]
  omega
theorem cut_take {α : Type} (l : List α) (k : Nat) : cut l none (some (k : Int)) = l.take k := by
  unfold cut
  rw [sx_nat, sx_none, List.drop_zero, Nat.sub_zero, take_min]
theorem cut_init {α : Type} (l : List α) : cut l none (some (-1)) = l.dropLast := by
  unfold cut
  rw [show (-1 : Int) = -((1 : Nat) : Int) from rfl, sx_neg _ _ _ (Nat.le_refl 1), sx_none, List.drop_zero, Nat.sub_zero, List.dropLast_eq_take]
theorem cut_mid {α : Type} (l : List α) (i j : Nat) : cut l (some (i : Int)) (some (j : Int)) = (l.drop i).take (j - i) := by
  unfold cut
  rw [sx_nat, sx_nat, drop_min]
  by_cases h : i ≤ l.length
  · rw [Nat.min_eq_left h]
    by_cases h2 : j ≤ l.length
    · rw [Nat.min_eq_left h2]
    · rw [Nat.min_eq_right (by omega), List.take_of_length_le (by rw [List.length_drop]; omega), List.take_of_length_le (by rw [List.length_drop]; omega)]
  · rw [List.drop_eq_nil_of_le (by omega)]
    simp
theorem cut_1 {α : Type} (l : List α) : cut l (some 1) none = l.drop 1 := cut_drop l 1
theorem cut_2 {α : Type} (l : List α) : cut l (some 2) none = l.drop 2 := cut_drop l 2
theorem cut_t1 {α : Type} (l : List α) : cut l none (some 1) = l.take 1 := cut_take l 1
theorem cut_z {α : Type} (l : List α) (z : Int) (h : 0 ≤ z) : cut l none (some z) = l.take z.toNat := by
  rw [← cut_take, Int.toNat_of_nonneg h]
theorem cut_dz {α : Type} (l : List α) (z : Int) (h : 0 ≤ z) : cut l (some z) none = l.drop z.toNat := by
  rw [← cut_drop, Int.toNat_of_nonneg h]
theorem gi_0 {α : Type} [Inhabited α] {l : List α} (h : 0 < l.length) : gi l 0 = l[0] := gi_nat (k := 0) h
theorem gi_last {α : Type} [Inhabited α] {l : List α} (h : 0 < l.length) : gi l (-1) = l[l.length - 1] := gi_neg (k := 1) (by decide) h
theorem zip_map_zz {α β : Type} (k : Nat) (f : α → α → β) (l : List α) : (l.zip (l.drop k)).map (fun p => f p.1 p.2) = zz k f l := by
  unfold zz
  rw [List.zip, List.map_zipWith]
theorem mem_zip {α : Type} {l : List α} {k : Nat} {p : α × α} (h : p ∈ l.zip (l.drop k)) : p.1 ∈ l ∧ p.2 ∈ l := by
  obtain ⟨a, b⟩ := p
  obtain ⟨h1, h2⟩ := List.of_mem_zip h
  exact ⟨h1, List.mem_of_mem_drop h2⟩
theorem zip_all {α : Type} (k : Nat) (f : α → α → Bool) (l : List α) : (l.zip (l.drop k)).all (fun p => f p.1 p.2) = (zz k f l).all id := by
  rw [← zip_map_zz, List.all_map]
  rfl
/-! letters led by steps -/
def led (c : Nat) : List Nat → List Nat
  | [] => [c]
  | s :: r => c :: led (fu c (if s = 43 then 1 else 2)) r
theorem led_len (c : Nat) : ∀ l : List Nat, (led c l).length = l.length + 1
  | [] => rfl
  | s :: r => by
    show (led _ r).length + 1 = _
    rw [led_len _ r]; rfl
theorem led_lt {c : Nat} (hc : Lt c) : ∀ (l : List Nat), ∀ x ∈ led c l, Lt x
  | [], x, hx => by rw [List.mem_singleton.mp hx]; exact hc
  | s :: r, x, hx => by
    rcases List.mem_cons.mp hx with rfl | hx
    · exact hc
    · exact led_lt (fu_lt _ _) r x hx
theorem led_ne (c : Nat) (l : List Nat) : led c l ≠ [] := by
  intro e
  have := led_len c l
  rw [e] at this
  cases this
theorem led_snoc (c : Nat) (l : List Nat) (s : Nat) : led c (l ++ [s]) = led c l ++ [fu ((led c l).getLast (led_ne c l)) (if s = 43 then 1 else 2)] := by
  induction l generalizing c with
  | nil => rfl
  | cons a l ih =>
    show c :: led (fu c (if a = 43 then 1 else 2)) (l ++ [s]) = c :: (led (fu c (if a = 43 then 1 else 2)) l ++ [_])
    rw [ih]
    congr 4
    show _ = (c :: led (fu c (if a = 43 then 1 else 2)) l).getLast _
    rw [List.getLast_cons (led_ne _ _)]
theorem fu_ne {c : Nat} (hc : Lt c) (s : Nat) : fu c (if s = 43 then 1 else 2) ≠ c := by
  rcases hc with rfl | rfl | rfl <;> split <;> decide
theorem led_head (c : Nat) (l : List Nat) : ∃ r, led c l = c :: r := by
  cases l with
  | nil => exact ⟨[], rfl⟩
  | cons s r => exact ⟨_, rfl⟩
theorem led_nb {c : Nat} (hc : Lt c) : ∀ (l : List Nat), ∀ b ∈ zz 1 (fun a b => a != b) (led c l), b = true
  | [], b, h => by cases h
  | s :: r, b, h => by
    obtain ⟨t, ht⟩ := led_head (fu c (if s = 43 then 1 else 2)) r
    have ih := led_nb (fu_lt c (if s = 43 then 1 else 2)) r
    have e : led c (s :: r) = c :: led (fu c (if s = 43 then 1 else 2)) r := rfl
    rw [e] at h
    rw [ht] at h ih
    have e2 : zz 1 (fun a b => a != b) (c :: fu c (if s = 43 then 1 else 2) :: t) = (c != fu c (if s = 43 then 1 else 2)) :: zz 1 (fun a b => a != b) (fu c (if s = 43 then 1 else 2) :: t) := rfl
    rw [e2] at h
    rcases List.mem_cons.mp h with rfl | h
    · exact bne_iff_ne.mpr fun q => fu_ne hc s q.symm
    · exact ih b h
theorem led_stk {c : Nat} (hc : Lt c) {l : List Nat} (hl : l.length ≤ 23) : Stk (led c l) := by
  refine ⟨led_lt hc l, ?_, ?_, led_nb hc l⟩
  · rw [led_len]; omega
  · rw [led_len]; omega
/-! neighbours unlike, of any length -/
structure Nb (l : List Nat) : Prop where
  lt : ∀ c ∈ l, Lt c
  ne : ∀ i a b, l[i]? = some a → l[i + 1]? = some b → a ≠ b
theorem Stk.nb {l : List Nat} (h : Stk l) : Nb l := ⟨h.1, fun _ _ _ ha hb => h.at ha hb⟩
theorem Nb.stk {l : List Nat} (h : Nb l) (h1 : 1 ≤ l.length) (h2 : l.length ≤ 24) : Stk l := by
  refine ⟨h.lt, h1, h2, fun b hb => ?_⟩
  obtain ⟨i, hi⟩ := List.getElem?_of_mem hb
  rw [zz_get] at hi
  split at hi
  · rename_i x y hx hy
    cases hi
    exact bne_iff_ne.mpr (h.ne i x y hx hy)
  · cases hi
theorem Nb.marks {l : List Nat} (h : Nb l) : zz 1 mark (zz 1 stp l) = (hs l).map mc := by
  apply List.ext_getElem?
  intro i
  unfold hs
  rw [zz_get, zz_get, zz_get, List.getElem?_map, zz_get]
  cases ea : l[i]? with
  | none => rfl
  | some a =>
    cases eb : l[i + 1]? with
    | none =>
      have e2 : l[i + 2]? = none := List.getElem?_eq_none (by have := List.getElem?_eq_none_iff.mp eb; omega)
      rw [e2]
      rfl
    | some b =>
      cases ec : l[i + 2]? with
      | none => rfl
      | some c => exact congrArg some (stp_stp (h.lt a (List.mem_of_getElem? ea)) (h.lt b (List.mem_of_getElem? eb)) (h.lt c (List.mem_of_getElem? ec)) (h.ne i a b ea eb) (h.ne (i + 1) b c eb ec))
theorem Nb.tail {c : Nat} {l : List Nat} (h : Nb (c :: l)) : Nb l := ⟨fun x hx => h.lt x (List.mem_cons_of_mem _ hx), fun i a b ha hb => h.ne (i + 1) a b ha hb⟩
theorem Nb.cons {c : Nat} {l : List Nat} (h : Nb l) (hc : Lt c) (hn : ∀ a, l[0]? = some a → c ≠ a) : Nb (c :: l) := by
  refine ⟨fun x hx => ?_, fun i a b ha hb => ?_⟩
  · rcases List.mem_cons.mp hx with rfl | hx
    · exact hc
    · exact h.lt x hx
  · cases i with
    | zero =>
      cases ha
      exact hn b hb
    | succ i => exact h.ne i a b ha hb
theorem Nb.snoc {c : Nat} {l : List Nat} (h : Nb l) (hc : Lt c) (hn : ∀ a, l.getLast? = some a → a ≠ c) : Nb (l ++ [c]) := by
  refine ⟨fun x hx => ?_, fun i a b ha hb => ?_⟩
  · rcases List.mem_append.mp hx with hx | hx
    · exact h.lt x hx
    · rw [List.mem_singleton.mp hx]; exact hc
  · have hl := (List.getElem?_eq_some_iff.mp hb).1
    rw [List.length_append] at hl
    by_cases hi : i + 1 < l.length
    · rw [List.getElem?_append_left hi] at hb
      rw [List.getElem?_append_left (by omega)] at ha
      exact h.ne i a b ha hb
    · have e : i + 1 = l.length := by simp at hl; omega
      rw [List.getElem?_append_right (by omega), e, Nat.sub_self] at hb
      cases hb
      refine hn a ?_
      rw [List.getLast?_eq_getElem?, show l.length - 1 = i by omega]
      rwa [List.getElem?_append_left (by omega)] at ha
/-! going round -/
theorem Cls.pos {l : List Nat} (h : Cls l) : 0 < l.length := h.1.2.1
theorem Cls.two {l : List Nat} (h : Cls l) : 2 ≤ l.length := by
  have h1 := h.1.2.1
  refine Classical.byContradiction fun q => h.2 ?_
  have e : l.length = 1 := by omega
  rw [gi_0 (by omega), gi_last (by omega)]
  congr 1
  omega
theorem Cls.nb1 {l : List Nat} (h : Cls l) : Nb (l ++ [gi l 0]) := by
  have h1 := h.1.2.1
  refine h.1.nb.snoc ?_ fun a ha e => h.2 ?_
  · rw [gi_0 (by omega)]; exact h.1.1 _ (List.getElem_mem _)
  · rw [gi_last (by omega), ← e]
    rw [List.getLast?_eq_getElem?, List.getElem?_eq_getElem (by omega)] at ha
    exact (Option.some.inj ha).symm
theorem Cls.nb2 {l : List Nat} (h : Cls l) : Nb (gi l (-1) :: (l ++ [gi l 0])) := by
  have h1 := h.1.2.1
  refine h.nb1.cons ?_ fun a ha e => h.2 ?_
  · rw [gi_last (by omega)]; exact h.1.1 _ (List.getElem_mem _)
  · rw [List.getElem?_append_left (by omega), List.getElem?_eq_getElem (by omega)] at ha
    rw [e, gi_0 (by omega)]
    exact Option.some.inj ha
/-- the round steps; the round marks -/
def rst (l : List Nat) : List Nat := zz 1 stp (l ++ [gi l 0])
def rmB (l : List Nat) : List Bool := hs (gi l (-1) :: (l ++ [gi l 0]))
def rmk (l : List Nat) : List Nat := (rmB l).map mc
theorem rst_len {l : List Nat} : (rst l).length = l.length := by
  unfold rst
  rw [zz_len, List.length_append]
  simp
theorem rmk_len {l : List Nat} : (rmk l).length = l.length := by
  unfold rmk rmB hs
  rw [List.length_map, zz_len, List.length_cons, List.length_append]
  simp
theorem zz_cons1 {α β : Type} (f : α → α → β) (a b : α) (l : List α) : zz 1 f (a :: b :: l) = f a b :: zz 1 f (b :: l) := rfl
theorem rst_last {l : List Nat} (h : 0 < l.length) : gi (rst l) (-1) = stp (gi l (-1)) (gi l 0) := by
  have hl : (rst l).length = l.length := rst_len
  rw [gi_last (by omega), gi_last h]
  have e : (rst l)[l.length - 1]? = some (stp (l[l.length - 1]) (gi l 0)) := by
    unfold rst
    rw [zz_get, List.getElem?_append_left (by omega), List.getElem?_eq_getElem (by omega), List.getElem?_append_right (by omega), show l.length - 1 + 1 - l.length = 0 by omega]
    rfl
  have := (List.getElem?_eq_some_iff.mp e).2
  simp only [hl]
  exact this
theorem rst_round {l : List Nat} (h : 0 < l.length) : gi (rst l) (-1) :: rst l = zz 1 stp (gi l (-1) :: (l ++ [gi l 0])) := by
  rw [rst_last h]
  cases l with
  | nil => simp at h
  | cons a r =>
    have e : gi (a :: r) 0 = a := gi_0 (by simp)
    unfold rst
    rw [e]
    rfl
theorem rmk_steps {l : List Nat} (h : Cls l) : zz 1 mark (gi (rst l) (-1) :: rst l) = rmk l := by
  rw [rst_round h.pos, h.nb2.marks]
  rfl
/-- the thing at a place, going round -/
def gx (l : List Nat) (i : Nat) : Nat := l.getD (i % l.length) 0
theorem gx_lt {l : List Nat} {i : Nat} (h : i < l.length) : gx l i = l[i] := by
  unfold gx
  rw [Nat.mod_eq_of_lt h, List.getD_eq_getElem?_getD, List.getElem?_eq_getElem h]
  rfl
theorem gx_get {l : List Nat} {i : Nat} (h : i < l.length) : l[i]? = some (gx l i) := by rw [gx_lt h, List.getElem?_eq_getElem h]
theorem gx_mod (l : List Nat) (i : Nat) : gx l (i % l.length) = gx l i := by
  unfold gx
  rw [Nat.mod_mod]
theorem gx_mem {l : List Nat} (h : 0 < l.length) (i : Nat) : gx l i ∈ l := by
  rw [← gx_mod, gx_lt (Nat.mod_lt _ h)]
  exact List.getElem_mem _
theorem gx_congr {l : List Nat} {i j : Nat} (h : i % l.length = j % l.length) : gx l i = gx l j := by
  unfold gx
  rw [h]
theorem gx_add (l : List Nat) (i : Nat) : gx l (i + l.length) = gx l i := gx_congr (Nat.add_mod_right _ _)
theorem gi_gx0 {l : List Nat} (h : 0 < l.length) : gi l 0 = gx l 0 := by rw [gi_0 h, gx_lt h]
theorem gi_gxl {l : List Nat} (h : 0 < l.length) : gi l (-1) = gx l (l.length - 1) := by rw [gi_last h, gx_lt (by omega)]
theorem rmB_get {l : List Nat} {i : Nat} (h : i < l.length) : (rmB l)[i]? = some (gx l (i + l.length - 1) == gx l (i + 1)) := by
  unfold rmB hs
  rw [zz_get]
  have h2 : (gi l (-1) :: (l ++ [gi l 0]))[i + 2]? = some (gx l (i + 1)) := by
    show (l ++ [gi l 0])[i + 1]? = _
    by_cases h1 : i + 1 < l.length
    · rw [List.getElem?_append_left h1, gx_get h1]
    · have e : i + 1 = l.length := by omega
      rw [List.getElem?_append_right (by omega), e, Nat.sub_self, gi_gx0 (by omega)]
      have := gx_add l 0
      rw [Nat.zero_add] at this
      rw [this]
      rfl
  have h0 : (gi l (-1) :: (l ++ [gi l 0]))[i]? = some (gx l (i + l.length - 1)) := by
    cases i with
    | zero =>
      rw [Nat.zero_add, ← gi_gxl h]
      rfl
    | succ i =>
      show (l ++ [gi l 0])[i]? = _
      rw [List.getElem?_append_left (by omega), show i + 1 + l.length - 1 = i + l.length by omega, gx_add, gx_get (by omega)]
  rw [h0, h2]
theorem rmB_len {l : List Nat} : (rmB l).length = l.length := by
  have := rmk_len (l := l)
  unfold rmk at this
  rwa [List.length_map] at this
/-! one thing again and again -/
theorem rep_succ {α : Type} (p : List α) (m : Nat) : repL p (m + 1) = p ++ repL p m := by
  unfold repL
  rw [List.replicate_succ, List.flatten_cons]
theorem rep_leng {α : Type} (l : List α) (k : Nat) : (repL l k).length = k * l.length := by
  unfold repL
  rw [List.length_flatten, List.map_replicate, List.sum_replicate_nat]
theorem rep_get {α : Type} {p : List α} (hp : 0 < p.length) : ∀ (m j : Nat), j < m * p.length → (repL p m)[j]? = p[j % p.length]?
  | 0, j, h => by rw [Nat.zero_mul] at h; exact absurd h (Nat.not_lt_zero _)
  | m + 1, j, h => by
    rw [rep_succ]
    by_cases hj : j < p.length
    · rw [List.getElem?_append_left hj, Nat.mod_eq_of_lt hj]
    · have h' : j - p.length < m * p.length := by rw [Nat.add_mul, Nat.one_mul] at h; omega
      rw [List.getElem?_append_right (by omega), rep_get hp m _ h', Nat.mod_eq_sub_mod (by omega : j ≥ p.length)]
theorem rep_gx {p : List Nat} (hp : 0 < p.length) {m : Nat} (hm : 0 < m) (i : Nat) : gx (repL p m) i = gx p i := by
  have hl := rep_leng p m
  have h : i % (m * p.length) < m * p.length := Nat.mod_lt _ (Nat.mul_pos hm hp)
  have e := rep_get hp m _ h
  have e2 := gx_get (l := repL p m) (i := i % (m * p.length)) (by rw [hl]; exact h)
  rw [e] at e2
  rw [gx_get (Nat.mod_lt _ hp)] at e2
  have e3 := Option.some.inj e2
  have e4 : gx (repL p m) (i % (m * p.length)) = gx (repL p m) i := by rw [← hl, gx_mod]
  rw [← e4, ← e3, gx_mod]
  refine gx_congr ?_
  exact (Nat.mod_mod_of_dvd i (Nat.dvd_mul_left p.length m)).symm ▸ rfl
theorem rmB_rep {p : List Nat} (hp : 0 < p.length) {m : Nat} (hm : 0 < m) : rmB (repL p m) = repL (rmB p) m := by
  have hl := rep_leng p m
  apply List.ext_getElem?
  intro i
  by_cases h : i < m * p.length
  · have hi := Nat.mod_lt i hp
    rw [rmB_get (by rw [hl]; exact h), rep_get (by rw [rmB_len]; exact hp) m i (by rw [rmB_len]; exact h), rmB_len, rmB_get hi, rep_gx hp hm, rep_gx hp hm]
    have e1 : gx p (i + (repL p m).length - 1) = gx p (i % p.length + p.length - 1) := by
      refine gx_congr ?_
      obtain ⟨k, rfl⟩ : ∃ k, m = k + 1 := ⟨m - 1, by omega⟩
      rw [hl, Nat.add_mul, Nat.one_mul]
      have : i + (k * p.length + p.length) - 1 = (i + p.length - 1) + k * p.length := by omega
      rw [this, Nat.add_mul_mod_self_right]
      have h2 : i + p.length - 1 = (i % p.length + p.length - 1) + p.length * (i / p.length) := by have := Nat.mod_add_div i p.length; omega
      rw [h2, Nat.add_mul_mod_self_left]
    have e2 : gx p (i + 1) = gx p (i % p.length + 1) := gx_congr (by rw [Nat.mod_add_mod])
    rw [e1, e2]
  · rw [List.getElem?_eq_none (by rw [rmB_len, hl]; omega), List.getElem?_eq_none (by rw [rep_leng, rmB_len]; omega)]
theorem rep_count {α : Type} [BEq α] (p : List α) (a : α) : ∀ m, (repL p m).count a = m * p.count a
  | 0 => by rw [Nat.zero_mul]; rfl
  | m + 1 => by rw [rep_succ, List.count_append, rep_count p a m, Nat.add_mul, Nat.one_mul, Nat.add_comm]
theorem rmk_count (l : List Nat) : (rmk l).count 104 = (rmB l).count true := cnt_mc _
/-- a part of a closed stacking that stands in it twice running is closed itself -/
theorem cls_part {p : List Nat} {m : Nat} (hp : 0 < p.length) (hm : 2 ≤ m) (h : Cls (repL p m)) : Cls p := by
  have hl := rep_leng p m
  have h24 := h.1.2.2.1
  have hlt : 2 * p.length ≤ m * p.length := Nat.mul_le_mul_right _ hm
  have get : ∀ i, i < p.length → (repL p m)[i]? = p[i]? := fun i hi => by rw [rep_get hp m i (by omega), Nat.mod_eq_of_lt hi]
  refine ⟨Nb.stk ⟨fun c hc => h.1.1 c ?_, fun i a b ha hb => ?_⟩ hp (by omega), ?_⟩
  · obtain ⟨i, hi⟩ := List.getElem?_of_mem hc
    have := (List.getElem?_eq_some_iff.mp hi).1
    exact List.mem_of_getElem? ((get i this).trans hi)
  · have hi := (List.getElem?_eq_some_iff.mp hb).1
    exact h.1.at ((get i (by omega)).trans ha) ((get (i + 1) hi).trans hb)
  · have e1 : (repL p m)[p.length - 1]? = some (gi p (-1)) := by rw [get _ (by omega), gi_last hp]; exact List.getElem?_eq_getElem _
    have e2 : (repL p m)[p.length - 1 + 1]? = some (gi p 0) := by
      rw [show p.length - 1 + 1 = p.length by omega, rep_get hp m _ (by omega), Nat.mod_self, gi_0 hp]
      exact List.getElem?_eq_getElem _
    exact fun q => h.1.at e1 e2 q.symm
theorem Cls.round {p : List Nat} (h : Cls p) (i : Nat) : gx p i ≠ gx p (i + 1) := by
  have hp := h.pos
  have hi := Nat.mod_lt i hp
  rw [← gx_mod p i]
  by_cases h1 : i % p.length + 1 < p.length
  · have e : gx p (i + 1) = gx p (i % p.length + 1) := gx_congr (by rw [Nat.mod_add_mod])
    rw [e]
    exact h.1.at (gx_get hi) (gx_get h1)
  · have e0 : i % p.length = p.length - 1 := by omega
    have e : gx p (i + 1) = gx p 0 := by
      refine gx_congr ?_
      rw [Nat.add_mod, e0]
      by_cases h2 : p.length = 1
      · rw [h2]
      · rw [Nat.mod_eq_of_lt (show 1 < p.length by omega), show p.length - 1 + 1 = p.length by omega, Nat.mod_self, Nat.zero_mod]
    rw [e, e0, ← gi_gxl hp, ← gi_gx0 hp]
    exact fun q => h.2 q.symm
theorem cls_of_round {l : List Nat} (h1 : 1 ≤ l.length) (h2 : l.length ≤ 24) (hl : ∀ c ∈ l, Lt c) (h : ∀ i, i < l.length → gx l i ≠ gx l (i + 1)) : Cls l := by
  refine ⟨Nb.stk ⟨hl, fun i a b ha hb => ?_⟩ h1 h2, ?_⟩
  · have hb1 := (List.getElem?_eq_some_iff.mp hb).1
    rw [gx_get (by omega)] at ha
    rw [gx_get hb1] at hb
    cases ha
    cases hb
    exact h i (by omega)
  · rw [gi_gx0 (by omega), gi_gxl (by omega)]
    have := h (l.length - 1) (by omega)
    rw [show l.length - 1 + 1 = 0 + l.length by omega, gx_add] at this
    exact fun q => this q.symm
theorem cls_rep {p : List Nat} (h : Cls p) {m : Nat} (hm : 0 < m) (hl : m * p.length ≤ 24) : Cls (repL p m) := by
  have hp := h.pos
  have e := rep_leng p m
  have hpos := Nat.mul_pos hm hp
  refine cls_of_round (by omega) (by omega) (fun c hc => ?_) fun i hi => ?_
  · obtain ⟨j, hj⟩ := List.getElem?_of_mem hc
    have hj1 := (List.getElem?_eq_some_iff.mp hj).1
    rw [gx_get hj1, rep_gx hp hm] at hj
    cases hj
    exact h.1.1 _ (gx_mem hp _)
  · rw [rep_gx hp hm, rep_gx hp hm]
    exact h.round i
end Lw

namespace Lw
open Pv L2
/-! ### counts of layers; moved ones; below 13 layers like counts mean moved -/
/-- how far from letter to letter -/
def dd (a b : Nat) : Nat := (b + 3 - a) % 3
/-- of so many apart, how many differ by v -/
def c1 (l : List Nat) (k v : Nat) : Nat := ((List.range l.length).filter fun i => dd (gx l i) (gx l (i + k)) == v).length
def c3 (l : List Nat) (k : Nat) : Nat × Nat × Nat := (c1 l k 0, c1 l k 1, c1 l k 2)
def cnts (l : List Nat) : List (Nat × Nat × Nat) := (List.range l.length).map (c3 l)
def xch (r : List (Nat × Nat × Nat)) : List (Nat × Nat × Nat) := r.map fun t => (t.1, t.2.2, t.2.1)
/-- the orders of the letters -/
def orders : List (List Nat) := [[65, 66, 67], [65, 67, 66], [66, 65, 67], [66, 67, 65], [67, 65, 66], [67, 66, 65]]
def ren (p : List Nat) (c : Nat) : Nat := p.getD (c - 65) 0
def mvd (p : List Nat) (k : Nat) (b : Bool) (l : List Nat) : List Nat :=
  let r := l.map (ren p)
  let r := r.drop k ++ r.take k
  if b then r.reverse else r
/-- closed ones that begin with A, B -/
def exts : Nat → List (List Nat)
  | 0 => [[65, 66]]
  | n + 1 => (exts n).flatMap fun t => (([65, 66, 67] : List Nat).filter fun c => c != t.getLast?.getD 0).map fun c => t ++ [c]
def allAB (n : Nat) : List (List Nat) := (exts (n - 2)).filter fun t => t.getLast?.getD 0 != 65
def repsT : List (List (List Nat)) := [[[65, 66]],
  [[65, 66, 67]],
  [[65, 66, 65, 66], [65, 66, 65, 67]],
  [[65, 66, 65, 66, 67]],
  [[65, 66, 65, 66, 65, 66], [65, 66, 65, 66, 65, 67], [65, 66, 65, 67, 66, 67], [65, 66, 67, 65, 66, 67]],
  [[65, 66, 65, 66, 65, 66, 67], [65, 66, 65, 66, 67, 65, 67], [65, 66, 65, 67, 65, 66, 67]],
  [[65, 66, 65, 66, 65, 66, 65, 66], [65, 66, 65, 66, 65, 66, 65, 67], [65, 66, 65, 66, 65, 67, 65, 67], [65, 66, 65, 66, 65, 67, 66, 67], [65, 66, 65, 66, 67, 65, 66, 67], [65, 66, 65, 66, 67, 66, 65, 67], [65, 66, 65, 67, 65, 66, 65, 67], [65, 66, 65, 67, 66, 65, 66, 67]],
  [[65, 66, 65, 66, 65, 66, 65, 66, 67], [65, 66, 65, 66, 65, 66, 67, 65, 67], [65, 66, 65, 66, 65, 67, 65, 66, 67], [65, 66, 65, 66, 67, 65, 66, 65, 67], [65, 66, 65, 66, 67, 65, 67, 66, 67], [65, 66, 65, 66, 67, 66, 67, 65, 67], [65, 66, 65, 67, 66, 65, 67, 66, 67], [65, 66, 67, 65, 66, 67, 65, 66, 67]],
  [[65, 66, 65, 66, 65, 66, 65, 66, 65, 66], [65, 66, 65, 66, 65, 66, 65, 66, 65, 67], [65, 66, 65, 66, 65, 66, 65, 67, 65, 67], [65, 66, 65, 66, 65, 66, 65, 67, 66, 67], [65, 66, 65, 66, 65, 66, 67, 65, 66, 67], [65, 66, 65, 66, 65, 66, 67, 66, 65, 67], [65, 66, 65, 66, 65, 67, 65, 66, 65, 67], [65, 66, 65, 66, 65, 67, 65, 67, 66, 67], [65, 66, 65, 66, 65, 67, 66, 65, 66, 67], [65, 66, 65, 66, 65, 67, 66, 67, 66, 67], [65, 66, 65, 66, 67, 65, 66, 65, 66, 67], [65, 66, 65, 66, 67, 65, 66, 67, 65, 67], [65, 66, 65, 66, 67, 65, 66, 67, 66, 67], [65, 66, 65, 66, 67, 65, 67, 66, 65, 67], [65, 66, 65, 66, 67, 66, 65, 66, 65, 67], [65, 66, 65, 67, 65, 66, 65, 67, 66, 67], [65, 66, 65, 67, 65, 66, 67, 65, 66, 67], [65, 66, 65, 67, 66, 65, 67, 65, 66, 67]],
  [[65, 66, 65, 66, 65, 66, 65, 66, 65, 66, 67], [65, 66, 65, 66, 65, 66, 65, 66, 67, 65, 67], [65, 66, 65, 66, 65, 66, 65, 67, 65, 66, 67], [65, 66, 65, 66, 65, 66, 67, 65, 66, 65, 67], [65, 66, 65, 66, 65, 66, 67, 65, 67, 65, 67], [65, 66, 65, 66, 65, 66, 67, 65, 67, 66, 67], [65, 66, 65, 66, 65, 66, 67, 66, 67, 65, 67], [65, 66, 65, 66, 65, 67, 65, 66, 65, 66, 67], [65, 66, 65, 66, 65, 67, 65, 66, 67, 65, 67], [65, 66, 65, 66, 65, 67, 65, 66, 67, 66, 67], [65, 66, 65, 66, 65, 67, 65, 67, 65, 66, 67], [65, 66, 65, 66, 65, 67, 66, 65, 67, 66, 67], [65, 66, 65, 66, 67, 65, 66, 65, 67, 66, 67], [65, 66, 65, 66, 67, 65, 66, 67, 65, 66, 67], [65, 66, 65, 66, 67, 65, 66, 67, 66, 65, 67], [65, 66, 65, 66, 67, 65, 67, 65, 66, 65, 67], [65, 66, 65, 66, 67, 65, 67, 66, 67, 65, 67], [65, 66, 65, 66, 67, 66, 65, 67, 66, 65, 67], [65, 66, 65, 67, 65, 66, 65, 67, 65, 66, 67], [65, 66, 65, 67, 65, 66, 67, 65, 67, 66, 67], [65, 66, 65, 67, 66, 65, 66, 67, 65, 66, 67]],
  [[65, 66, 65, 66, 65, 66, 65, 66, 65, 66, 65, 66], [65, 66, 65, 66, 65, 66, 65, 66, 65, 66, 65, 67], [65, 66, 65, 66, 65, 66, 65, 66, 65, 67, 65, 67], [65, 66, 65, 66, 65, 66, 65, 66, 65, 67, 66, 67], [65, 66, 65, 66, 65, 66, 65, 66, 67, 65, 66, 67], [65, 66, 65, 66, 65, 66, 65, 66, 67, 66, 65, 67], [65, 66, 65, 66, 65, 66, 65, 67, 65, 66, 65, 67], [65, 66, 65, 66, 65, 66, 65, 67, 65, 67, 65, 67], [65, 66, 65, 66, 65, 66, 65, 67, 65, 67, 66, 67], [65, 66, 65, 66, 65, 66, 65, 67, 66, 65, 66, 67], [65, 66, 65, 66, 65, 66, 65, 67, 66, 67, 66, 67], [65, 66, 65, 66, 65, 66, 67, 65, 66, 65, 66, 67], [65, 66, 65, 66, 65, 66, 67, 65, 66, 67, 65, 67], [65, 66, 65, 66, 65, 66, 67, 65, 66, 67, 66, 67], [65, 66, 65, 66, 65, 66, 67, 65, 67, 66, 65, 67], [65, 66, 65, 66, 65, 66, 67, 66, 65, 66, 65, 67], [65, 66, 65, 66, 65, 66, 67, 66, 65, 67, 65, 67], [65, 66, 65, 66, 65, 67, 65, 66, 65, 66, 65, 67], [65, 66, 65, 66, 65, 67, 65, 66, 65, 67, 65, 67], [65, 66, 65, 66, 65, 67, 65, 66, 65, 67, 66, 67], [65, 66, 65, 66, 65, 67, 65, 66, 67, 65, 66, 67], [65, 66, 65, 66, 65, 67, 65, 66, 67, 66, 65, 67], [65, 66, 65, 66, 65, 67, 65, 67, 66, 65, 66, 67], [65, 66, 65, 66, 65, 67, 65, 67, 66, 67, 65, 67], [65, 66, 65, 66, 65, 67, 65, 67, 66, 67, 66, 67], [65, 66, 65, 66, 65, 67, 66, 65, 66, 65, 66, 67], [65, 66, 65, 66, 65, 67, 66, 65, 66, 67, 66, 67], [65, 66, 65, 66, 65, 67, 66, 65, 67, 65, 66, 67], [65, 66, 65, 66, 65, 67, 66, 67, 65, 67, 66, 67], [65, 66, 65, 66, 67, 65, 66, 65, 66, 67, 65, 67], [65, 66, 65, 66, 67, 65, 66, 65, 67, 65, 66, 67], [65, 66, 65, 66, 67, 65, 66, 65, 67, 66, 65, 67], [65, 66, 65, 66, 67, 65, 66, 67, 65, 66, 65, 67], [65, 66, 65, 66, 67, 65, 66, 67, 65, 67, 66, 67], [65, 66, 65, 66, 67, 65, 66, 67, 66, 67, 65, 67], [65, 66, 65, 66, 67, 65, 67, 65, 66, 67, 66, 67], [65, 66, 65, 66, 67, 65, 67, 66, 65, 66, 65, 67], [65, 66, 65, 66, 67, 65, 67, 66, 65, 67, 66, 67], [65, 66, 65, 66, 67, 65, 67, 66, 67, 66, 65, 67], [65, 66, 65, 66, 67, 66, 65, 66, 67, 66, 65, 67], [65, 66, 65, 66, 67, 66, 65, 67, 66, 67, 65, 67], [65, 66, 65, 67, 65, 66, 65, 67, 65, 66, 65, 67], [65, 66, 65, 67, 65, 66, 65, 67, 66, 65, 66, 67], [65, 66, 65, 67, 65, 66, 67, 66, 65, 67, 66, 67], [65, 66, 65, 67, 66, 65, 67, 66, 65, 67, 66, 67], [65, 66, 65, 67, 66, 65, 67, 66, 67, 65, 66, 67], [65, 66, 65, 67, 66, 67, 65, 66, 65, 67, 66, 67], [65, 66, 67, 65, 66, 67, 65, 66, 67, 65, 66, 67]]]
def cert2 : List Nat := [0]
def cert3 : List Nat := [0]
def cert4 : List Nat := [0, 144, 194]
def cert5 : List Nat := [0, 7, 4, 27, 80]
def cert6 : List Nat := [0, 144, 194, 148, 171, 288, 432, 338, 197, 315, 217]
def cert7 : List Nat := [0, 11, 4, 144, 201, 288, 151, 7, 295, 194, 8, 296, 341, 148, 27, 394, 349, 338, 197, 246, 84]
def cert8 : List Nat := [0, 144, 194, 148, 288, 432, 576, 482, 198, 720, 338, 151, 864, 727, 292, 171, 756, 1008, 583, 436, 747, 553, 586, 1018, 580, 603, 656, 613, 540, 485, 1035, 793, 197, 735, 914, 724, 459, 1089, 662, 806, 341, 517, 217]
def cert9 : List Nat := [0, 15, 4, 144, 205, 288, 155, 11, 299, 194, 8, 432, 345, 148, 171, 576, 489, 338, 201, 720, 228, 442, 439, 292, 459, 656, 327, 182, 151, 470, 727, 7, 449, 482, 295, 320, 864, 871, 583, 198, 663, 217, 12, 300, 495, 436, 315, 877, 1008, 914, 341, 892, 370, 152, 469, 613, 185, 27, 398, 920, 917, 580, 534, 409, 353, 492, 485, 603, 512, 898, 610, 342, 891, 505, 197, 664, 520, 724, 250, 563, 376, 373, 232, 279, 88]
def cert10 : List Nat := [0, 144, 194, 148, 288, 432, 576, 482, 198, 720, 338, 152, 864, 731, 292, 315, 1008, 1152, 587, 436, 1019, 1296, 1440, 1202, 580, 1584, 1728, 1785, 1346, 486, 1872, 1065, 201, 2016, 914, 724, 1040, 1929, 1641, 1058, 342, 1097, 361, 151, 876, 2023, 868, 891, 2160, 2304, 1879, 727, 2188, 1090, 295, 903, 1047, 328, 171, 760, 1912, 1591, 1012, 2043, 1129, 1212, 1447, 1156, 1899, 1952, 2448, 1778, 583, 2311, 1634, 439, 2167, 1922, 1015, 747, 2281, 1959, 1735, 1300, 1142, 553, 590, 1166, 1444, 1791, 1647, 2318, 1906, 1205, 2461, 1945, 584, 2312, 2357, 1588, 603, 2410, 2371, 2498, 1732, 1686, 660, 1594, 1909, 1781, 1467, 1765, 617, 544, 1349, 1263, 1120, 485, 1891, 2213, 1876, 1179, 2555, 2416, 2272, 1061, 2004, 793, 197, 739, 926, 2020, 1035, 1934, 2365, 2210, 917, 2249, 937, 728, 2187, 2238, 1044, 459, 1985, 2504, 2354, 1925, 1974, 1273, 1738, 1962, 1637, 1755, 1520, 1692, 1123, 1062, 2003, 2089, 341, 1098, 949, 1093, 1323, 1237, 666, 810, 377, 521, 217]
def cert11 : List Nat := [0, 19, 4, 144, 209, 288, 159, 15, 303, 194, 8, 432, 349, 148, 576, 720, 493, 338, 205, 864, 637, 1008, 443, 292, 1152, 1296, 1440, 587, 155, 1163, 875, 11, 1019, 482, 299, 1451, 1584, 1595, 731, 198, 1307, 626, 12, 1020, 1065, 436, 1179, 1728, 1872, 1634, 345, 2016, 1497, 152, 2160, 1353, 580, 171, 1406, 1785, 1641, 724, 2304, 1417, 1077, 1058, 489, 2331, 2217, 2073, 1346, 342, 2448, 1202, 201, 2392, 1209, 868, 891, 2361, 1240, 1490, 633, 952, 232, 446, 1027, 1012, 2174, 2384, 2592, 2167, 439, 2607, 2377, 296, 2600, 2455, 1156, 459, 2736, 2771, 2023, 1300, 2443, 804, 1191, 1194, 1444, 1047, 1335, 331, 186, 583, 474, 906, 151, 2181, 2346, 1159, 1040, 2058, 2490, 2311, 871, 2436, 937, 7, 453, 1070, 1015, 1184, 1745, 2880, 1778, 486, 2764, 1225, 295, 2599, 2066, 1447, 324, 2131, 2887, 1879, 1588, 2475, 1705, 1738, 1735, 1591, 2043, 1849, 2124, 1413, 727, 2743, 2354, 202, 2391, 2210, 1303, 1328, 1864, 1720, 1432, 630, 811, 217, 16, 304, 499, 1024, 1456, 1601, 1888, 1791, 1061, 2079, 1234, 440, 2608, 2777, 1197, 315, 2484, 2896, 2893, 1732, 2118, 1714, 1882, 2890, 1876, 1899, 1952, 1915, 1701, 1638, 2907, 2521, 341, 2469, 2645, 2020, 1616, 2966, 1958, 2153, 1493, 1675, 374, 156, 1164, 2341, 2164, 1035, 2053, 1909, 1842, 1349, 1765, 1378, 584, 473, 761, 189, 27, 402, 1695, 1698, 1410, 1122, 1554, 1644, 1788, 1781, 1830, 2096, 2923, 1845, 1637, 2908, 2089, 728, 2744, 2789, 2308, 538, 2706, 2537, 2150, 1435, 1291, 409, 357, 496, 1073, 1361, 1217, 2463, 2338, 1062, 2080, 2224, 485, 2763, 2653, 2349, 747, 2797, 2661, 2642, 2213, 2406, 516, 2026, 2774, 2069, 1755, 1808, 1622, 758, 1350, 1766, 2417, 346, 2037, 2650, 2452, 1611, 2961, 2972, 2786, 1206, 1819, 505, 197, 1308, 2227, 2396, 1323, 1859, 1964, 2108, 1205, 1820, 1090, 872, 2435, 2414, 909, 254, 1262, 2147, 2540, 2357, 2262, 1129, 1509, 1237, 1244, 1388, 1100, 1669, 1381, 1494, 1676, 1093, 629, 812, 524, 956, 682, 567, 380, 377, 236, 283, 92]
def cert12 : List Nat := [0, 144, 194, 148, 288, 432, 576, 482, 198, 720, 338, 152, 864, 735, 292, 1008, 1152, 1296, 591, 436, 1167, 1440, 1584, 1346, 580, 1728, 1872, 1933, 1490, 486, 2016, 1213, 202, 2160, 914, 724, 2304, 2077, 1789, 1202, 342, 2365, 1058, 155, 2448, 2171, 868, 2592, 2736, 2880, 2027, 731, 3024, 2354, 296, 2603, 2315, 1012, 315, 2344, 3168, 1739, 1156, 3312, 3456, 3600, 1595, 1300, 3179, 3744, 3888, 1922, 587, 2891, 1778, 440, 2747, 2066, 1163, 2331, 4032, 3755, 1883, 1444, 3467, 1561, 1598, 3614, 1588, 4176, 4243, 4320, 3794, 1350, 4464, 3225, 584, 4608, 2937, 1732, 1755, 4752, 4377, 3938, 1876, 4896, 1993, 4186, 3801, 1929, 4203, 5040, 1984, 1552, 1494, 3856, 3513, 489, 5184, 2793, 2020, 3200, 5328, 4809, 4082, 1209, 5472, 2377, 201, 2183, 2498, 2164, 3339, 5241, 4665, 2786, 918, 5616, 2642, 728, 5673, 3074, 2308, 1188, 5529, 4521, 2930, 2073, 5760, 3865, 4233, 3218, 1785, 4923, 4266, 4953, 3506, 1206, 5817, 3362, 345, 3401, 2649, 2361, 3488, 3257, 1818, 2394, 1062, 1245, 361, 151, 880, 2176, 2452, 2611, 2755, 4624, 5191, 2167, 5681, 3385, 871, 5904, 5666, 2596, 891, 5733, 6048, 4615, 2740, 5718, 4153, 4330, 4471, 2884, 4635, 4873, 4365, 3863, 2023, 6076, 5810, 727, 5674, 5623, 3028, 2768, 6192, 4838, 5479, 2358, 4118, 1238, 295, 2604, 3351, 2599, 2475, 3063, 2919, 3207, 2311, 2775, 3495, 1015, 907, 1195, 332, 171, 764, 2060, 1772, 2348, 2204, 2417, 3804, 4183, 3172, 5211, 5516, 4508, 4220, 1735, 4652, 4940, 1160, 5725, 5767, 3316, 2187, 5660, 5869, 4903, 3460, 3446, 1273, 1360, 1605, 3604, 3811, 3232, 4481, 4193, 1591, 4337, 4226, 1303, 6055, 4514, 3175, 2043, 6298, 6112, 4370, 3748, 5862, 2100, 4474, 4327, 3892, 4491, 5408, 3926, 1991, 1926, 4358, 4946, 583, 4631, 4658, 2887, 2912, 6336, 6480, 4802, 1782, 4845, 1801, 439, 2748, 5234, 2743, 3051, 6624, 6343, 5335, 2070, 6199, 3250, 1159, 5726, 5522, 2351, 747, 3134, 6305, 4759, 4036, 5643, 2857, 3239, 4236, 3751, 5499, 5264, 5415, 5047, 1879, 4890, 4249, 1447, 4169, 3882, 3463, 2410, 2874, 2107, 2010, 1578, 1290, 553, 594, 1314, 1602, 1939, 1795, 2898, 3186, 3617, 3905, 3761, 1592, 4338, 4383, 4180, 1978, 4815, 4671, 4527, 4239, 4959, 1812, 4618, 6066, 4324, 4347, 4832, 2925, 2054, 3798, 4502, 5875, 1349, 4487, 6101, 4468, 3915, 6493, 6349, 6311, 3221, 5421, 2089, 588, 2892, 4677, 4612, 2907, 6355, 6768, 6386, 2933, 6364, 2962, 1736, 4651, 4795, 1775, 603, 2990, 6392, 6530, 4756, 4710, 3001, 2951, 4524, 4373, 4854, 4688, 6370, 5362, 3941, 6507, 4537, 1880, 4889, 4408, 4900, 1834, 4745, 2968, 3976, 2013, 1869, 664, 1742, 3189, 4190, 4213, 4933, 4645, 5218, 3797, 4501, 5509, 1925, 4357, 4868, 4223, 1611, 4436, 4789, 5365, 5044, 4278, 1956, 1769, 2057, 1988, 1625, 1913, 621, 548, 1555, 1411, 1268, 1493, 3855, 4143, 3860, 3627, 3999, 2996, 2852, 3509, 3284, 2436, 485, 2039, 2798, 5188, 3195, 5347, 6398, 6674, 2789, 6254, 3097, 2024, 6075, 6245, 3204, 1323, 4581, 6536, 6389, 5332, 4566, 4009, 4762, 6308, 4805, 4422, 4441, 4716, 2855, 4085, 6163, 5689, 1205, 5818, 5752, 5476, 3776, 4600, 3019, 3160, 2397, 2152, 793, 197, 743, 930, 2179, 2323, 2082, 2945, 2801, 2501, 3089, 2657, 2168, 5682, 5631, 3348, 1179, 5775, 4530, 4674, 5237, 5538, 3874, 4391, 6098, 4661, 4779, 4400, 4860, 4140, 2790, 6253, 5744, 917, 5639, 5954, 5620, 4059, 6137, 4694, 5755, 2646, 2829, 937, 732, 3036, 5628, 5669, 2763, 6211, 6376, 6242, 3077, 6651, 2818, 2312, 2776, 4072, 1192, 459, 2133, 5368, 4792, 5525, 5286, 3289, 3948, 4380, 4517, 5355, 4544, 6514, 4871, 2934, 6363, 4681, 2069, 6200, 6126, 5764, 2122, 6169, 4555, 4411, 3885, 3302, 1417, 1886, 3758, 4229, 5054, 4256, 4883, 5506, 3222, 5422, 5257, 1781, 4846, 4702, 4943, 1899, 4451, 4414, 4558, 4270, 4317, 1668, 4906, 5872, 4949, 4288, 4307, 1840, 1271, 3510, 3283, 3424, 1210, 5495, 5747, 5813, 3771, 4595, 4739, 5710, 3365, 5315, 2233, 341, 2366, 2654, 3397, 3483, 3262, 2974, 3109, 2645, 2830, 2521, 2357, 4117, 2821, 3492, 1467, 3829, 3973, 2965, 3253, 3838, 3685, 2007, 2110, 1822, 1966, 1678, 1863, 2439, 2398, 2151, 2254, 1061, 1246, 953, 1241, 1529, 1385, 670, 814, 381, 525, 217]
def decode (n : Nat) (z : Nat) : List Nat := mvd (orders.getD (z / 24 % 6) []) (z / 2 % 12) (z % 2 == 1) ((repsT.getD (n - 2) []).getD (z / 144) [])
def certOk (n : Nat) (cert : List Nat) : Bool := allAB n == cert.map (decode n) && cert.all fun z => z / 2 % 12 < n && z / 144 < (repsT.getD (n - 2) []).length
theorem cert_ok : certOk 2 cert2 = true ∧ certOk 3 cert3 = true ∧ certOk 4 cert4 = true ∧ certOk 5 cert5 = true ∧ certOk 6 cert6 = true ∧ certOk 7 cert7 = true ∧ certOk 8 cert8 = true ∧ certOk 9 cert9 = true ∧ certOk 10 cert10 = true ∧ certOk 11 cert11 = true ∧ certOk 12 cert12 = true := by decide +kernel
def apart (r : List (List Nat)) : Bool := match r with
  | [] => true
  | a :: t => (t.all fun b => !(cnts a == cnts b) && !(cnts a == xch (cnts b))) && apart t
theorem reps_apart : repsT.all apart = true := by decide +kernel
end Lw

namespace Lw
open Pv L2
/-- the thing at a place, going round both ways -/
def gz (l : List Nat) (z : Int) : Nat := l.getD (z % (l.length : Nat)).toNat 0
theorem gz_congr {l : List Nat} {a b : Int} (h : a % (l.length : Nat) = b % (l.length : Nat)) : gz l a = gz l b := by
  unfold gz
  rw [h]
theorem gz_nat (l : List Nat) (i : Nat) : gz l (i : Int) = gx l i := by
  unfold gz gx
  rw [← Int.natCast_emod, Int.toNat_natCast]
theorem gz_lt {l : List Nat} (h : ∀ c ∈ l, Lt c) (h0 : 0 < l.length) (z : Int) : Lt (gz l z) := by
  have a := Int.emod_nonneg z (show ((l.length : Nat) : Int) ≠ 0 by omega)
  have b := Int.emod_lt_of_pos z (show (0 : Int) < ((l.length : Nat) : Int) by omega)
  have e : ((z % (l.length : Nat)).toNat : Int) = z % (l.length : Nat) := Int.toNat_of_nonneg a
  have : gz l z = l[(z % (l.length : Nat)).toNat]'(by omega) := by
    unfold gz
    rw [List.getD_eq_getElem?_getD, List.getElem?_eq_getElem (by omega)]
    rfl
  rw [this]
  exact h _ (List.getElem_mem _)
theorem gz_at {l : List Nat} {i : Nat} (h : i < l.length) : l[i]? = some (gz l (i : Int)) := by rw [gz_nat, gx_get h]
theorem gz_ext {l m : List Nat} (hl : l.length = m.length) (h : ∀ z : Int, gz l z = gz m z) : l = m := by
  apply List.ext_getElem?
  intro i
  by_cases hi : i < l.length
  · rw [gz_at hi, gz_at (by omega), h]
  · rw [List.getElem?_eq_none (by omega), List.getElem?_eq_none (by omega)]
def sg (e : Bool) : Int := if e then -1 else 1
theorem sg_f : sg false = 1 := rfl
theorem sg_t : sg true = -1 := rfl
theorem emod_mul_congr {a b n c : Int} (h : a % n = b % n) : (c * a) % n = (c * b) % n := by
  rw [Int.mul_emod, h, ← Int.mul_emod]
theorem emod_add_congr {a b n c : Int} (h : a % n = b % n) : (c + a) % n = (c + b) % n := by
  rw [Int.add_emod, h, ← Int.add_emod]
/-- one told by the other: letters by p, places by s and e -/
structure Aff (n : Nat) (p : List Nat) (e : Bool) (s : Int) (l m : List Nat) : Prop where
  len : l.length = n
  len2 : m.length = n
  at_ : ∀ z : Int, gz m z = ren p (gz l (s + sg e * z))
theorem aff_of {n : Nat} {p : List Nat} {e : Bool} {s : Int} {l m : List Nat} (h0 : 0 < n) (hl : l.length = n) (hm : m.length = n) (h : ∀ i : Nat, i < n → gz m (i : Int) = ren p (gz l (s + sg e * (i : Nat)))) : Aff n p e s l m := by
  refine ⟨hl, hm, fun z => ?_⟩
  have a := Int.emod_nonneg z (show (n : Int) ≠ 0 by omega)
  have b := Int.emod_lt_of_pos z (show (0 : Int) < (n : Int) by omega)
  have e1 : ((z % (n : Int)).toNat : Int) = z % (n : Int) := Int.toNat_of_nonneg a
  have e2 : (z % (n : Int)) % (n : Int) = z % (n : Int) := Int.emod_emod_of_dvd z (Int.dvd_refl _)
  have q := h (z % (n : Int)).toNat (by omega)
  rw [e1] at q
  rw [gz_congr (l := m) (a := z) (b := z % (n : Int)) (by rw [hm, e2]), q]
  congr 1
  exact gz_congr (by rw [hl]; exact emod_add_congr (emod_mul_congr e2))
theorem rot_get {l : List Nat} {k i : Nat} (hk : k ≤ l.length) (hi : i < l.length) : (l.drop k ++ l.take k)[i]? = some (gx l (i + k)) := by
  by_cases h : i + k < l.length
  · rw [List.getElem?_append_left (by rw [List.length_drop]; omega), List.getElem?_drop, Nat.add_comm k i, gx_get h]
  · have e : gx l (i + k) = gx l (i + k - l.length) := by
      have := gx_add l (i + k - l.length)
      rw [show i + k - l.length + l.length = i + k by omega] at this
      exact this
    rw [List.getElem?_append_right (by rw [List.length_drop]; omega), List.length_drop, List.getElem?_take_of_lt (by omega), e, ← gx_get (by omega)]
    congr 1
    omega
theorem gx_map {l : List Nat} (f : Nat → Nat) (h : 0 < l.length) (i : Nat) : gx (l.map f) i = f (gx l i) := by
  have hm : i % l.length < l.length := Nat.mod_lt _ h
  have e1 := gx_get (l := l.map f) (i := i % l.length) (by rw [List.length_map]; exact hm)
  have e2 := gx_get (l := l) hm
  rw [List.getElem?_map, e2] at e1
  have e3 := Option.some.inj e1
  rw [gx_mod] at e3
  rw [e3, ← gx_mod (l.map f) i, List.length_map]
theorem mvd_len (p : List Nat) (k : Nat) (b : Bool) (l : List Nat) (hk : k ≤ l.length) : (mvd p k b l).length = l.length := by
  unfold mvd
  cases b <;> simp <;> omega
theorem mvd_aff {p : List Nat} {k : Nat} {b : Bool} {l : List Nat} (h0 : 0 < l.length) (hk : k ≤ l.length) : Aff l.length p b (if b then (l.length : Int) - 1 + k else k) l (mvd p k b l) := by
  have hl := mvd_len p k b l hk
  refine aff_of h0 rfl hl fun i hi => ?_
  have hr : ∀ j, j < l.length → ((l.map (ren p)).drop k ++ (l.map (ren p)).take k)[j]? = some (ren p (gx l (j + k))) := fun j hj => by
    rw [rot_get (by rw [List.length_map]; exact hk) (by rw [List.length_map]; exact hj), gx_map _ h0]
  have g := gz_at (l := mvd p k b l) (i := i) (by omega)
  have hrl : ((l.map (ren p)).drop k ++ (l.map (ren p)).take k).length = l.length := by simp; omega
  cases b with
  | false =>
    have e : mvd p k false l = (l.map (ren p)).drop k ++ (l.map (ren p)).take k := rfl
    rw [e, hr i hi] at g
    rw [e, ← Option.some.inj g]
    show ren p (gx l (i + k)) = ren p (gz l ((k : Int) + sg false * (i : Nat)))
    rw [sg_f, Int.one_mul, show (k : Int) + (i : Nat) = ((i + k : Nat) : Int) by omega, gz_nat]
  | true =>
    have e : mvd p k true l = ((l.map (ren p)).drop k ++ (l.map (ren p)).take k).reverse := rfl
    rw [e, List.getElem?_reverse (by omega), hrl, hr (l.length - 1 - i) (by omega)] at g
    rw [e, ← Option.some.inj g]
    show ren p (gx l (l.length - 1 - i + k)) = ren p (gz l ((l.length : Int) - 1 + k + sg true * (i : Nat)))
    rw [sg_t, show (l.length : Int) - 1 + k + -1 * (i : Nat) = ((l.length - 1 - i + k : Nat) : Int) by omega, gz_nat]
theorem aff_mvd {n : Nat} {p : List Nat} {e : Bool} {s : Int} {l m : List Nat} (h0 : 0 < n) (a : Aff n p e s l m) : ∃ k, k < n ∧ m = mvd p k e l := by
  obtain ⟨hl, hm, h⟩ := a
  have key : ∀ k : Nat, k < n → (∀ z : Int, (s + sg e * z) % (n : Int) = ((if e then (n : Int) - 1 + k else k) + sg e * z) % (n : Int)) → m = mvd p k e l := fun k hk hz => by
    have b := mvd_aff (p := p) (k := k) (b := e) (l := l) (by omega) (by omega)
    refine gz_ext (by rw [mvd_len _ _ _ _ (by omega)]; omega) fun z => ?_
    rw [h z, b.at_ z]
    congr 1
    refine gz_congr ?_
    rw [hl]
    exact hz z
  have n0 : (n : Int) ≠ 0 := by omega
  cases e with
  | false =>
    have a := Int.emod_nonneg s n0
    have b := Int.emod_lt_of_pos s (show (0 : Int) < (n : Int) by omega)
    refine ⟨(s % (n : Int)).toNat, by omega, key _ (by omega) fun z => ?_⟩
    show _ = (((s % (n : Int)).toNat : Int) + sg false * z) % (n : Int)
    rw [Int.toNat_of_nonneg a, Int.add_comm s, Int.add_comm (s % (n : Int))]
    exact emod_add_congr (Int.emod_emod_of_dvd s (Int.dvd_refl _)).symm
  | true =>
    have a := Int.emod_nonneg (s + 1) n0
    have b := Int.emod_lt_of_pos (s + 1) (show (0 : Int) < (n : Int) by omega)
    refine ⟨((s + 1) % (n : Int)).toNat, by omega, key _ (by omega) fun z => ?_⟩
    show _ = ((n : Int) - 1 + (((s + 1) % (n : Int)).toNat : Int) + sg true * z) % (n : Int)
    rw [Int.toNat_of_nonneg a]
    have e1 : (s + sg true * z) % (n : Int) = ((s + sg true * z - 1 + 1)) % (n : Int) := by congr 1; omega
    have e2 : (n : Int) - 1 + (s + 1) % (n : Int) + sg true * z = (sg true * z - 1 + (s + 1) % (n : Int)) + (n : Int) := by omega
    rw [e2, Int.add_emod_right, show s + sg true * z = sg true * z - 1 + (s + 1) by omega]
    exact emod_add_congr (Int.emod_emod_of_dvd (s + 1) (Int.dvd_refl _)).symm
/-! orders: one behind another, back -/
theorem ord_cmp : ∀ p ∈ orders, ∀ q ∈ orders, ∃ r ∈ orders, ∀ c ∈ ([65, 66, 67] : List Nat), ren r c = ren q (ren p c) := by decide
theorem ord_inv : ∀ p ∈ orders, ∃ q ∈ orders, ∀ c ∈ ([65, 66, 67] : List Nat), ren q (ren p c) = c := by decide
theorem ord_lt : ∀ p ∈ orders, ∀ c ∈ ([65, 66, 67] : List Nat), ren p c ∈ ([65, 66, 67] : List Nat) := by decide
theorem sg_sg (e : Bool) (z : Int) : sg e * (sg e * z) = z := by
  cases e
  · rw [sg_f]; omega
  · rw [sg_t]; omega
/-- moved, somehow -/
def Mv (l m : List Nat) : Prop := ∃ p ∈ orders, ∃ e s, Aff l.length p e s l m
theorem Mv.symm {l m : List Nat} (hl : ∀ c ∈ l, Lt c) (h0 : 0 < l.length) (h : Mv l m) : Mv m l := by
  obtain ⟨p, hp, e, s, a⟩ := h
  obtain ⟨q, hq, hi⟩ := ord_inv p hp
  refine ⟨q, hq, e, -(sg e * s), a.len2 ▸ rfl, by rw [a.len2], fun z => ?_⟩
  rw [a.at_, show s + sg e * (-(sg e * s) + sg e * z) = z by
    rw [Int.mul_add, Int.mul_neg, sg_sg, sg_sg]; omega]
  exact (hi _ (abc_in.mpr (gz_lt hl h0 z))).symm
theorem Mv.trans {l m k : List Nat} (hl : ∀ c ∈ l, Lt c) (h0 : 0 < l.length) (h : Mv l m) (h2 : Mv m k) : Mv l k := by
  obtain ⟨p, hp, e, s, a⟩ := h
  obtain ⟨q, hq, f, t, b⟩ := h2
  obtain ⟨r, hr, hc⟩ := ord_cmp p hp q hq
  refine ⟨r, hr, e != f, s + sg e * t, rfl, by rw [b.len2, a.len2], fun z => ?_⟩
  rw [b.at_, a.at_, hc _ (abc_in.mpr (gz_lt hl h0 _))]
  congr 3
  rw [Int.mul_add, ← Int.add_assoc]
  congr 1
  cases e <;> cases f <;> simp [sg]
theorem Mv.mvd {l : List Nat} {p : List Nat} (hp : p ∈ orders) (h0 : 0 < l.length) {k : Nat} (hk : k ≤ l.length) (b : Bool) : Mv l (mvd p k b l) := ⟨p, hp, b, _, mvd_aff h0 hk⟩
theorem Mv.out {l m : List Nat} (h0 : 0 < l.length) (h : Mv l m) : ∃ p ∈ orders, ∃ k, k < l.length ∧ ∃ b, m = Lw.mvd p k b l := by
  obtain ⟨p, hp, e, s, a⟩ := h
  obtain ⟨k, hk, q⟩ := aff_mvd h0 a
  exact ⟨p, hp, k, hk, e, q⟩
end Lw

namespace Lw
open Pv L2
/-! ### counting around -/
def cN (F : Int → Bool) : Nat → Nat
  | 0 => 0
  | n + 1 => cN F n + (if F (n : Int) then 1 else 0)
theorem filt_cN (F : Int → Bool) : ∀ n : Nat, ((List.range n).filter fun (i : Nat) => F (i : Int)).length = cN F n
  | 0 => rfl
  | n + 1 => by
    rw [List.range_succ, List.filter_append, List.length_append, filt_cN F n]
    unfold cN
    cases h : F (n : Int) <;> simp [h]
    all_goals (first | rfl | (cases n <;> rfl))
theorem cN_congr {F G : Int → Bool} : ∀ n : Nat, (∀ i : Nat, i < n → F i = G i) → cN F n = cN G n
  | 0, _ => rfl
  | n + 1, h => by
    unfold cN
    rw [cN_congr n fun i hi => h i (Nat.lt_succ_of_lt hi), h n (Nat.lt_succ_self n)]
theorem cN_front (F : Int → Bool) : ∀ n : Nat, cN F (n + 1) = (if F 0 then 1 else 0) + cN (fun z => F (z + 1)) n
  | 0 => by
    show 0 + _ = _ + 0
    rw [Nat.zero_add, Nat.add_zero]
    rfl
  | n + 1 => by
    have ih := cN_front F n
    show cN F (n + 1) + (if F ((n + 1 : Nat) : Int) then 1 else 0) = (if F 0 then 1 else 0) + (cN (fun z => F (z + 1)) n + (if F ((n : Int) + 1) then 1 else 0))
    rw [ih, Nat.add_assoc, show ((n + 1 : Nat) : Int) = (n : Int) + 1 by omega]
section
variable {n : Nat} {F : Int → Bool}
theorem cN_one (h : ∀ a b : Int, a % (n : Int) = b % (n : Int) → F a = F b) : cN (fun z => F (z + 1)) n = cN F n := by
  have a := cN_front F n
  have b : cN F (n + 1) = cN F n + (if F (n : Int) then 1 else 0) := rfl
  have e : F (n : Int) = F 0 := h _ _ (by simp)
  rw [e] at b
  omega
theorem cN_nat : ∀ (c : Nat) (F : Int → Bool), (∀ a b : Int, a % (n : Int) = b % (n : Int) → F a = F b) → cN (fun z => F (z + (c : Nat))) n = cN F n
  | 0, F, h => by
    congr 1
    funext z
    rw [show z + ((0 : Nat) : Int) = z by omega]
  | c + 1, F, h => by
    have ih := cN_nat c F h
    have q := cN_one (n := n) (F := fun z => F (z + (c : Nat))) fun a b e => h _ _ (by rw [Int.add_emod, e, ← Int.add_emod])
    rw [← ih, ← q]
    congr 1
    funext z
    show F (z + ((c + 1 : Nat) : Int)) = F (z + 1 + (c : Nat))
    congr 1
    omega
theorem cN_add (h : ∀ a b : Int, a % (n : Int) = b % (n : Int) → F a = F b) (h0 : 0 < n) (c : Int) : cN (fun z => F (z + c)) n = cN F n := by
  have a := Int.emod_nonneg c (show (n : Int) ≠ 0 by omega)
  rw [← cN_nat (c % (n : Int)).toNat F h]
  congr 1
  funext z
  refine h _ _ ?_
  rw [Int.toNat_of_nonneg a]
  exact emod_add_congr (Int.emod_emod_of_dvd c (Int.dvd_refl _)).symm
theorem cN_rev (F : Int → Bool) : ∀ n : Nat, cN (fun z => F ((n : Int) - 1 - z)) n = cN F n
  | 0 => rfl
  | n + 1 => by
    have ih := cN_rev F n
    rw [cN_front]
    have e1 : cN F (n + 1) = cN F n + (if F (n : Int) then 1 else 0) := rfl
    rw [e1, ← ih, Nat.add_comm]
    congr 1
    · congr 1
      funext z
      congr 1
      omega
    · congr 2
      congr 1
      omega
theorem cN_sub (h : ∀ a b : Int, a % (n : Int) = b % (n : Int) → F a = F b) (h0 : 0 < n) (c : Int) : cN (fun z => F (c - z)) n = cN F n := by
  rw [← cN_add h h0 (c - (n - 1)), ← cN_rev (fun z => F (z + (c - (n - 1)))) n]
  congr 1
  funext z
  congr 1
  omega
end
/-! ### counts of moved ones -/
def ng (v : Nat) : Nat := (3 - v) % 3
theorem ord_dd : ∀ p ∈ orders, (∀ a ∈ ([65, 66, 67] : List Nat), ∀ b ∈ ([65, 66, 67] : List Nat), dd (ren p a) (ren p b) = dd a b) ∨ ∀ a ∈ ([65, 66, 67] : List Nat), ∀ b ∈ ([65, 66, 67] : List Nat), dd (ren p a) (ren p b) = ng (dd a b) := by decide
theorem dd_sw : ∀ a ∈ ([65, 66, 67] : List Nat), ∀ b ∈ ([65, 66, 67] : List Nat), dd b a = ng (dd a b) := by decide
theorem dd_lt (a b : Nat) : dd a b < 3 := Nat.mod_lt _ (by decide)
theorem ng_eq {d v : Nat} (hd : d < 3) (hv : v < 3) : (ng d == v) = (d == ng v) := by
  have : d = 0 ∨ d = 1 ∨ d = 2 := by omega
  have : v = 0 ∨ v = 1 ∨ v = 2 := by omega
  rcases ‹d = 0 ∨ d = 1 ∨ d = 2› with rfl | rfl | rfl <;> rcases ‹v = 0 ∨ v = 1 ∨ v = 2› with rfl | rfl | rfl <;> rfl
theorem ng_ng {d : Nat} (hd : d < 3) : ng (ng d) = d := by
  have : d = 0 ∨ d = 1 ∨ d = 2 := by omega
  rcases this with rfl | rfl | rfl <;> rfl
def fk (l : List Nat) (k v : Nat) : Int → Bool := fun z => dd (gz l z) (gz l (z + (k : Nat))) == v
theorem c1_cN (l : List Nat) (k v : Nat) : c1 l k v = cN (fk l k v) l.length := by
  rw [← filt_cN]
  unfold c1 fk
  congr 2
theorem fk_per (l : List Nat) (k v : Nat) : ∀ a b : Int, a % (l.length : Int) = b % (l.length : Int) → fk l k v a = fk l k v b := fun a b e => by
  unfold fk
  rw [gz_congr e, gz_congr (a := a + (k : Nat)) (b := b + (k : Nat)) (by rw [Int.add_emod, e, ← Int.add_emod])]
theorem c1_aff {n : Nat} {p : List Nat} {e : Bool} {s : Int} {l m : List Nat} (hp : p ∈ orders) (h0 : 0 < l.length) (hl : ∀ c ∈ l, Lt c) (a : Aff l.length p e s l m) :
    (∀ k v, v < 3 → c1 m k v = c1 l k v) ∨ ∀ k v, v < 3 → c1 m k v = c1 l k (ng v) := by
  have let_ := fun z => abc_in.mpr (gz_lt hl h0 z)
  have hlen := a.len2
  have go : ∀ f : Nat → Nat, (∀ x ∈ ([65, 66, 67] : List Nat), ∀ y ∈ ([65, 66, 67] : List Nat), dd (ren p x) (ren p y) = f (dd x y)) → (f = _root_.id ∨ f = ng) →
      (∀ k v, v < 3 → c1 m k v = c1 l k v) ∨ ∀ k v, v < 3 → c1 m k v = c1 l k (ng v) := by
    intro f hf hfi
    cases e with
    | false =>
      have key : ∀ k v z, fk m k v z = (f (dd (gz l (z + s)) (gz l (z + s + (k : Nat)))) == v) := fun k v z => by
        unfold fk
        rw [a.at_, a.at_, hf _ (let_ _) _ (let_ _), sg_f]
        congr 3
        · congr 1; omega
        · congr 1; omega
      rcases hfi with rfl | rfl
      · left
        intro k v hv
        rw [c1_cN, c1_cN, hlen, ← cN_add (fk_per l k v) h0 s]
        exact cN_congr _ fun i _ => key k v i
      · right
        intro k v hv
        rw [c1_cN, c1_cN, hlen, ← cN_add (fk_per l k (ng v)) h0 s]
        exact cN_congr _ fun i _ => (key k v i).trans (ng_eq (dd_lt _ _) hv)
    | true =>
      have key : ∀ k v z, fk m k v z = (f (ng (dd (gz l (s - (k : Nat) - z)) (gz l (s - (k : Nat) - z + (k : Nat))))) == v) := fun k v z => by
        unfold fk
        rw [a.at_, a.at_, hf _ (let_ _) _ (let_ _), sg_t, dd_sw _ (let_ (s + -1 * (z + (k : Nat)))) _ (let_ (s + -1 * z))]
        congr 4
        · congr 1; omega
        · congr 1; omega
      rcases hfi with rfl | rfl
      · right
        intro k v hv
        rw [c1_cN, c1_cN, hlen, ← cN_sub (fk_per l k (ng v)) h0 (s - (k : Nat))]
        exact cN_congr _ fun i _ => (key k v i).trans (ng_eq (dd_lt _ _) hv)
      · left
        intro k v hv
        rw [c1_cN, c1_cN, hlen, ← cN_sub (fk_per l k v) h0 (s - (k : Nat))]
        exact cN_congr _ fun i _ => (key k v i).trans (by rw [ng_ng (dd_lt _ _)]; rfl)
  rcases ord_dd p hp with h | h
  · exact go _root_.id h (.inl rfl)
  · exact go ng h (.inr rfl)
theorem Mv.cnts {l m : List Nat} (hl : ∀ c ∈ l, Lt c) (h0 : 0 < l.length) (h : Mv l m) : Lw.cnts m = Lw.cnts l ∨ Lw.cnts m = xch (Lw.cnts l) := by
  obtain ⟨p, hp, e, s, a⟩ := h
  rcases c1_aff (n := l.length) hp h0 hl a with q | q
  · left
    unfold Lw.cnts
    rw [a.len2]
    refine List.map_congr_left fun k _ => ?_
    unfold c3
    rw [q k 0 (by decide), q k 1 (by decide), q k 2 (by decide)]
  · right
    unfold Lw.cnts xch
    rw [a.len2, List.map_map]
    refine List.map_congr_left fun k _ => ?_
    unfold c3
    rw [q k 0 (by decide), q k 1 (by decide), q k 2 (by decide)]
    rfl
theorem xch_xch (r : List (Nat × Nat × Nat)) : xch (xch r) = r := by
  unfold xch
  rw [List.map_map]
  exact (List.map_congr_left fun t _ => rfl).trans (List.map_id r)
end Lw

namespace Lw
open Pv L2
theorem exts_mem : ∀ (n : Nat) (t : List Nat), Nb t → t.length = n + 2 → t.take 2 = [65, 66] → t ∈ exts n
  | 0, t, _, hl, ht => by
    have : t = [65, 66] := by rw [← ht, List.take_of_length_le (by omega)]
    rw [this]
    exact List.mem_singleton.mpr rfl
  | n + 1, t, h, hl, ht => by
    have hp : t ≠ [] := List.length_pos_iff.mp (by omega)
    have e : t.dropLast ++ [t.getLast hp] = t := List.dropLast_concat_getLast hp
    have hd : t.dropLast.length = n + 2 := by rw [List.length_dropLast]; omega
    have hnb : Nb t.dropLast := ⟨fun c hc => h.lt c (List.dropLast_subset _ hc), fun i a b ha hb => h.ne i a b (by
        rw [← e, List.getElem?_append_left (List.getElem?_eq_some_iff.mp ha).1]; exact ha) (by
        rw [← e, List.getElem?_append_left (List.getElem?_eq_some_iff.mp hb).1]; exact hb)⟩
    have ih := exts_mem n t.dropLast hnb hd (by rw [← ht, ← e, List.take_append_of_le_length (by omega), e])
    refine List.mem_flatMap.mpr ⟨t.dropLast, ih, List.mem_map.mpr ⟨t.getLast hp, List.mem_filter.mpr ⟨abc_in.mpr (h.lt _ (List.getLast_mem hp)), ?_⟩, e⟩⟩
    rw [bne_iff_ne]
    intro q
    have q2 : t.dropLast.getLast? = t[n + 1]? := by
      rw [List.getLast?_eq_getElem?, hd, List.dropLast_eq_take, List.getElem?_take_of_lt (by omega)]
      rfl
    obtain ⟨a, ha⟩ : ∃ a, t[n + 1]? = some a := ⟨_, List.getElem?_eq_getElem (by omega)⟩
    have hlast : t[n + 1 + 1]? = some (t.getLast hp) := by
      have : t.getLast hp = t[n + 1 + 1]'(by omega) := (List.getLast_eq_getElem hp).trans (getElem_congr_idx (by omega))
      rw [this]
      exact List.getElem?_eq_getElem _
    rw [q2, ha] at q
    exact h.ne (n + 1) a (t.getLast hp) ha hlast q.symm
theorem allAB_mem {t : List Nat} (h : Cls t) (ht : t.take 2 = [65, 66]) : t ∈ allAB t.length := by
  have h2 := h.two
  refine List.mem_filter.mpr ⟨exts_mem _ t h.1.nb (by omega) ht, ?_⟩
  rw [bne_iff_ne]
  intro q
  refine h.2 ?_
  have e0 : t[0]'(by omega) = 65 := by
    have := congrArg (fun l => l[0]?) ht
    simp only [List.getElem?_take_of_lt (show 0 < 2 by decide)] at this
    rw [List.getElem?_eq_getElem (by omega)] at this
    exact Option.some.inj this
  rw [gi_0 (by omega), gi_last (by omega), e0]
  rw [List.getLast?_eq_getElem?, List.getElem?_eq_getElem (by omega)] at q
  exact q.symm
/-- the letters told so that A, B come first -/
theorem to_AB : ∀ a ∈ ([65, 66, 67] : List Nat), ∀ b ∈ ([65, 66, 67] : List Nat), a ≠ b → ∃ p ∈ orders, ren p a = 65 ∧ ren p b = 66 := by decide
theorem ren_inj : ∀ p ∈ orders, ∀ a ∈ ([65, 66, 67] : List Nat), ∀ b ∈ ([65, 66, 67] : List Nat), ren p a = ren p b → a = b := by decide
theorem cls_ren {l : List Nat} (h : Cls l) {p : List Nat} (hp : p ∈ orders) : Cls (l.map (ren p)) := by
  have h0 := h.pos
  have hlt := h.1.1
  refine ⟨Nb.stk ⟨fun c hc => ?_, fun i a b ha hb q => ?_⟩ (by rw [List.length_map]; exact h0) (by rw [List.length_map]; exact h.1.2.2.1), ?_⟩
  · obtain ⟨d, hd, rfl⟩ := List.mem_map.mp hc
    exact abc_in.mp (ord_lt p hp d (abc_in.mpr (hlt d hd)))
  · rw [List.getElem?_map] at ha hb
    obtain ⟨x, hx, rfl⟩ := Option.map_eq_some_iff.mp ha
    obtain ⟨y, hy, rfl⟩ := Option.map_eq_some_iff.mp hb
    exact h.1.nb.ne i x y hx hy (ren_inj p hp x (abc_in.mpr (hlt x (List.mem_of_getElem? hx))) y (abc_in.mpr (hlt y (List.mem_of_getElem? hy))) q)
  · intro q
    refine h.2 ?_
    rw [gi_0 (by rw [List.length_map]; exact h0), gi_last (by rw [List.length_map]; exact h0), List.getElem_map] at q
    simp only [List.length_map, List.getElem_map] at q
    rw [gi_0 h0, gi_last h0]
    exact ren_inj p hp _ (abc_in.mpr (hlt _ (List.getElem_mem _))) _ (abc_in.mpr (hlt _ (List.getElem_mem _))) q
def certs : List (List Nat) := [cert2, cert3, cert4, cert5, cert6, cert7, cert8, cert9, cert10, cert11, cert12]
theorem certs_ok : ∀ n : Nat, 2 ≤ n → n ≤ 12 → certOk n (certs.getD (n - 2) []) = true := by
  intro n h2 h12
  obtain ⟨a, b, c, d, e, f, g, h, i, j, k⟩ := cert_ok
  have : n = 2 ∨ n = 3 ∨ n = 4 ∨ n = 5 ∨ n = 6 ∨ n = 7 ∨ n = 8 ∨ n = 9 ∨ n = 10 ∨ n = 11 ∨ n = 12 := by omega
  rcases this with rfl | rfl | rfl | rfl | rfl | rfl | rfl | rfl | rfl | rfl | rfl <;> assumption
theorem reps_good : ∀ n : Fin 11, ∀ r ∈ repsT.getD n.val [], r.length = n.val + 2 ∧ ∀ c ∈ r, c ∈ ([65, 66, 67] : List Nat) := by decide +kernel
theorem ords_at : ∀ i : Fin 6, orders.getD i.val [] ∈ orders := by decide
theorem getD_mem {α : Type} {l : List α} {i : Nat} (d : α) (h : i < l.length) : l.getD i d ∈ l := by
  rw [List.getD_eq_getElem?_getD, List.getElem?_eq_getElem h]
  exact List.getElem_mem _
/-- each closed one is moved of one of the few -/
theorem cls_rep_of {l : List Nat} (h : Cls l) (hn : l.length ≤ 12) : ∃ r ∈ repsT.getD (l.length - 2) [], r.length = l.length ∧ (∀ c ∈ r, Lt c) ∧ Mv r l := by
  have h2 := h.two
  have hlt := h.1.1
  have hne : l[0]'(by omega) ≠ l[1]'(by omega) := h.1.nb.ne 0 _ _ (List.getElem?_eq_getElem (by omega)) (List.getElem?_eq_getElem (by omega))
  obtain ⟨p, hp, pa, pb⟩ := to_AB _ (abc_in.mpr (hlt _ (List.getElem_mem (l := l) (n := 0) (by omega)))) _ (abc_in.mpr (hlt _ (List.getElem_mem (l := l) (n := 1) (by omega)))) hne
  have hm := cls_ren h hp
  have hml : (l.map (ren p)).length = l.length := List.length_map ..
  have ht : (l.map (ren p)).take 2 = [65, 66] := by
    apply List.ext_getElem?
    intro i
    match i with
    | 0 => rw [List.getElem?_take_of_lt (by decide), List.getElem?_map, List.getElem?_eq_getElem (by omega), Option.map_some, pa]; rfl
    | 1 => rw [List.getElem?_take_of_lt (by decide), List.getElem?_map, List.getElem?_eq_getElem (by omega), Option.map_some, pb]; rfl
    | i + 2 => rw [List.getElem?_eq_none (by rw [List.length_take]; omega), List.getElem?_eq_none (by simp)]
  have hab := allAB_mem hm ht
  rw [hml] at hab
  have hc := certs_ok l.length h2 hn
  unfold certOk at hc
  obtain ⟨hc1, hc2⟩ := Bool.and_eq_true_iff.mp hc
  rw [beq_iff_eq.mp hc1] at hab
  obtain ⟨z, hz, e⟩ := List.mem_map.mp hab
  have hz2 := List.all_eq_true.mp hc2 z hz
  obtain ⟨k1, k2⟩ := Bool.and_eq_true_iff.mp hz2
  have k1 := of_decide_eq_true k1
  have k2 := of_decide_eq_true k2
  have hr := getD_mem [] k2
  obtain ⟨g1, g2⟩ := reps_good ⟨l.length - 2, by omega⟩ _ hr
  have g1 : ((repsT.getD (l.length - 2) []).getD (z / 144) []).length = l.length := by
    have : _ = l.length - 2 + 2 := g1
    omega
  have g3 : ∀ c ∈ (repsT.getD (l.length - 2) []).getD (z / 144) [], Lt c := fun c hc => abc_in.mp (g2 c hc)
  refine ⟨_, hr, g1, g3, ?_⟩
  have m1 : Mv ((repsT.getD (l.length - 2) []).getD (z / 144) []) (l.map (ren p)) := by
    rw [← e]
    exact Mv.mvd (ords_at ⟨z / 24 % 6, Nat.mod_lt _ (by decide)⟩) (by omega) (by omega) _
  have m2 : Mv l (l.map (ren p)) := by
    have q := Mv.mvd (l := l) hp h.pos (k := 0) (Nat.zero_le _) false
    have e0 : mvd p 0 false l = l.map (ren p) := by
      show (l.map (ren p)).drop 0 ++ (l.map (ren p)).take 0 = _
      rw [List.drop_zero, List.take_zero, List.append_nil]
    rwa [e0] at q
  exact m1.trans g3 (by omega) (m2.symm hlt h.pos)
theorem apart_ne : ∀ (r : List (List Nat)), apart r = true → ∀ a ∈ r, ∀ b ∈ r, (cnts a = cnts b ∨ cnts a = xch (cnts b)) → a = b
  | [], _, a, ha, _, _, _ => by cases ha
  | x :: t, h, a, ha, b, hb, q => by
    obtain ⟨h1, h2⟩ := Bool.and_eq_true_iff.mp (show ((t.all fun b => !(cnts x == cnts b) && !(cnts x == xch (cnts b))) && apart t) = true from h)
    have no : ∀ y ∈ t, (cnts x = cnts y ∨ cnts x = xch (cnts y)) → False := fun y hy q => by
      have := List.all_eq_true.mp h1 y hy
      obtain ⟨q1, q2⟩ := Bool.and_eq_true_iff.mp this
      rw [Bool.not_eq_true', beq_eq_false_iff_ne] at q1 q2
      rcases q with q | q
      · exact q1 q
      · exact q2 q
    rcases List.mem_cons.mp ha with e1 | ha1
    · subst e1
      rcases List.mem_cons.mp hb with e2 | hb
      · exact e2.symm
      · exact (no b hb q).elim
    · rcases List.mem_cons.mp hb with e2 | hb
      · subst e2
        refine (no a ha1 ?_).elim
        rcases q with q | q
        · exact .inl q.symm
        · exact .inr (by rw [q, xch_xch])
      · exact apart_ne t h2 a ha1 b hb q
theorem like_moved {l m : List Nat} (h : Cls l) (h' : Cls m) (hlm : m.length = l.length) (hn : l.length ≤ 12) : (cnts l = cnts m ∨ cnts l = xch (cnts m)) ↔ Mv l m := by
  constructor
  · intro q
    obtain ⟨r, hr, r1, r2, r3⟩ := cls_rep_of h hn
    obtain ⟨t, ht, t1, t2, t3⟩ := cls_rep_of h' (by omega)
    rw [hlm] at ht
    have h2 := h.two
    have e : r = t := by
      have ap : apart (repsT.getD (l.length - 2) []) = true := by
        exact List.all_eq_true.mp reps_apart _ (getD_mem [] (show l.length - 2 < 11 by omega))
      refine apart_ne _ ap r hr t ht ?_
      rcases r3.cnts r2 (by omega) with a | a <;> rcases t3.cnts t2 (by omega) with b | b <;> rw [a, b] at q <;> rcases q with q | q
      · exact .inl q
      · exact .inr q
      · exact .inr q
      · rw [xch_xch] at q; exact .inl q
      · exact .inr (by rw [← q, xch_xch])
      · have := congrArg xch q; rw [xch_xch, xch_xch] at this; exact .inl this
      · have := congrArg xch q; rw [xch_xch, xch_xch] at this; exact .inl this
      · have := congrArg xch q; rw [xch_xch, xch_xch] at this; exact .inr this
    subst e
    exact (r3.symm r2 (by omega)).trans h.1.1 h.pos t3
  · intro q
    rcases q.cnts h.1.1 h.pos with a | a
    · exact .inl a.symm
    · exact .inr (by rw [a, xch_xch])
end Lw

namespace Lw
open Pv L2
/-! ### steps -/
def Sg (l : List Nat) : Prop := ∀ c ∈ l, c = 43 ∨ c = 45
def Stp (l : List Nat) : Prop := Sg l ∧ 1 ≤ l.length ∧ l.length ≤ 24
instance (l : List Nat) : Decidable (Sg l) := by unfold Sg; infer_instance
instance (l : List Nat) : Decidable (Stp l) := by unfold Stp; infer_instance
/-- how far they lead -/
def dif (l : List Nat) : Int := (l.count 43 : Nat) - (l.count 45 : Nat)
def wor (s : Nat) : Int := if s = 43 then 1 else -1
theorem wor_fu {c s : Nat} : fu c (wor s) = fu c (if s = 43 then 1 else 2) := by
  unfold wor
  by_cases h : s = 43
  · rw [if_pos h, if_pos h]
  · rw [if_neg h, if_neg h]
    unfold fu
    omega
theorem wor_sum : ∀ {l : List Nat}, Sg l → (l.map wor).sum = dif l
  | [], _ => rfl
  | s :: r, h => by
    have ih := wor_sum (l := r) fun c hc => h c (List.mem_cons_of_mem _ hc)
    rw [List.map_cons, List.sum_cons, ih]
    unfold dif
    rw [List.count_cons, List.count_cons]
    rcases h s (List.mem_cons_self ..) with rfl | rfl
    · simp [wor]; omega
    · simp [wor]; omega
/-! what leads back -/
theorem led_get {c : Nat} (hc : Lt c) : ∀ (l : List Nat), ((led c l).getLast (led_ne c l)) = fu c ((l.map wor).sum)
  | [] => by
    show c = _
    rcases hc with rfl | rfl | rfl <;> rfl
  | s :: r => by
    have ih := led_get (fu_lt c (if s = 43 then 1 else 2)) r
    show (c :: led (fu c (if s = 43 then 1 else 2)) r).getLast _ = _
    rw [List.getLast_cons (led_ne _ _), ih, List.map_cons, List.sum_cons]
    unfold fu wor
    rcases hc with rfl | rfl | rfl <;> split <;> omega
theorem stp_fu {c : Nat} (hc : Lt c) {s : Nat} (hs : s = 43 ∨ s = 45) : stp c (fu c (if s = 43 then 1 else 2)) = s := by
  rcases hc with rfl | rfl | rfl <;> rcases hs with rfl | rfl <;> decide
theorem led_steps {c : Nat} (hc : Lt c) : ∀ (l : List Nat), Sg l → zz 1 stp (led c l) = l
  | [], _ => rfl
  | s :: r, h => by
    obtain ⟨t, ht⟩ := led_head (fu c (if s = 43 then 1 else 2)) r
    have ih := led_steps (fu_lt c (if s = 43 then 1 else 2)) r fun x hx => h x (List.mem_cons_of_mem _ hx)
    have e : led c (s :: r) = c :: led (fu c (if s = 43 then 1 else 2)) r := rfl
    rw [e, ht, zz_cons1, ← ht, ih, stp_fu hc (h s (List.mem_cons_self ..))]
theorem Sg.init {l : List Nat} (h : Sg l) : Sg l.dropLast := fun c hc => h c (List.dropLast_subset _ hc)
theorem back_ok {c : Nat} (hc : Lt c) {l : List Nat} (h : Stp l) (hd : dif l % 3 = 0) : Cls (led c l.dropLast) ∧ rst (led c l.dropLast) = l := by
  have hp : l ≠ [] := List.length_pos_iff.mp (by have := h.2.1; omega)
  have e : l.dropLast ++ [l.getLast hp] = l := List.dropLast_concat_getLast hp
  have hs : l.getLast hp = 43 ∨ l.getLast hp = 45 := h.1 _ (List.getLast_mem hp)
  have e2 : led c l = led c l.dropLast ++ [c] := by
    have q := led_snoc c l.dropLast (l.getLast hp)
    have q2 := led_get hc l
    rw [wor_sum h.1] at q2
    have q3 : fu c (dif l) = c := by
      unfold fu
      rcases hc with rfl | rfl | rfl <;> omega
    rw [q3] at q2
    have q4 : led c l = led c l.dropLast ++ [fu ((led c l.dropLast).getLast (led_ne c l.dropLast)) (if l.getLast hp = 43 then 1 else 2)] := by
      rw [← q, e]
    have q5 : (led c l).getLast (led_ne c l) = fu ((led c l.dropLast).getLast (led_ne c l.dropLast)) (if l.getLast hp = 43 then 1 else 2) := by
      simp only [q4, List.getLast_concat]
    rw [q4, ← q5, q2]
  have hn := led_len c l.dropLast
  obtain ⟨t, ht⟩ := led_head c l.dropLast
  have g0 : gi (led c l.dropLast) 0 = c := by
    rw [gi_0 (by omega)]
    simp only [ht, List.getElem_cons_zero]
  refine ⟨⟨led_stk hc (by rw [List.length_dropLast]; have := h.2.2; omega), ?_⟩, ?_⟩
  · rw [g0, gi_last (by omega)]
    intro q
    have nb := led_nb hc l
    rw [e2] at nb
    have hz : (zz 1 (fun a b => a != b) (led c l.dropLast ++ [c]))[(led c l.dropLast).length - 1]? = some ((led c l.dropLast)[(led c l.dropLast).length - 1] != c) := by
      rw [zz_get, List.getElem?_append_left (by omega), List.getElem?_eq_getElem (by omega), List.getElem?_append_right (by omega), show (led c l.dropLast).length - 1 + 1 - (led c l.dropLast).length = 0 by omega]
      rfl
    have := nb _ (List.mem_of_getElem? hz)
    rw [bne_iff_ne] at this
    exact this q.symm
  · unfold rst
    rw [g0, ← e2, led_steps hc l h.1]
theorem led_of {c : Nat} : ∀ (r : List Nat), Nb (c :: r) → led c (zz 1 stp (c :: r)) = c :: r
  | [], _ => rfl
  | d :: r, h => by
    have hc : Lt c := h.lt c (List.mem_cons_self ..)
    have hd : Lt d := h.lt d (by simp)
    have hn : c ≠ d := h.ne 0 c d rfl rfl
    have ih := led_of r h.tail
    rw [zz_cons1]
    show c :: led (fu c (if stp c d = 43 then 1 else 2)) (zz 1 stp (d :: r)) = _
    have e : fu c (if stp c d = 43 then 1 else 2) = d := by
      rcases hc with rfl | rfl | rfl <;> rcases hd with rfl | rfl | rfl <;> first | exact absurd rfl hn | decide
    rw [e, ih]
theorem rst_stp {l : List Nat} (h : Cls l) : Stp (rst l) := by
  refine ⟨fun c hc => ?_, by rw [rst_len]; exact h.pos, by rw [rst_len]; exact h.1.2.2.1⟩
  obtain ⟨i, hi⟩ := List.getElem?_of_mem hc
  unfold rst at hi
  rw [zz_get] at hi
  split at hi
  · cases hi
    unfold stp
    split <;> simp
  · cases hi
/-- closed ones go round -/
theorem rst_dif {l : List Nat} (h : Cls l) : dif (rst l) % 3 = 0 := by
  have h0 := h.pos
  cases l with
  | nil => simp at h0
  | cons c r =>
    have e0 : gi (c :: r) 0 = c := gi_0 h0
    have nb := h.nb1
    rw [e0] at nb
    have hc : Lt c := nb.lt c (by simp)
    have q : led c (rst (c :: r)) = c :: (r ++ [c]) := by
      unfold rst
      rw [e0]
      exact led_of (r ++ [c]) nb
    have g := led_get hc (rst (c :: r))
    rw [wor_sum (rst_stp h).1] at g
    simp only [q] at g
    rw [List.getLast_cons (by simp), List.getLast_concat] at g
    unfold fu at g
    rcases hc with rfl | rfl | rfl <;> omega
end Lw

set_option synthInstance.maxSize 1000000
namespace Pv
open L2
section
variable {env : VEnv} {S S1 S2 S3 S4 S5 : Sto} {x y : PV} {fa : FA} {C C1 C2 C3 C4 : Prop}
instance {α β : Type} {xs : List α} {φ : α → PV} {ys : List β} {ψ : β → PV} [a : EvA fa env S [x, y] S1 C] [c : Items x S1 xs φ] [d : Items y S1 ys ψ] : EvI (iEz' fa) env S (xs.zip ys).zipIdx (fun p : (α × β) × Nat => .tup [.int (p.2 : Nat), .tup [φ p.1.1, ψ p.1.2]]) S1 C := ⟨fun q => by
  unfold iEz'
  rw [a.run q, zb]
  show (match seqI x, seqI y with
    | some a, some b => R.ok ((a.zip b).zipIdx.map fun p : (PV × PV) × Nat => PV.tup [.int (p.2 : Nat), .tup [p.1.1, p.1.2]]) S1
    | _, _ => .no) = _
  rw [c.eq, d.eq]
  show R.ok (((xs.map φ).zip (ys.map ψ)).zipIdx.map fun p : (PV × PV) × Nat => PV.tup [.int (p.2 : Nat), .tup [p.1.1, p.1.2]]) S1 = _
  rw [List.zip_map, List.zipIdx_map, List.map_map]
  rfl⟩
end
end Pv

namespace Lw
open PySem PySem.Spec PyProof.Rows L2 Pv
/-- a def as it stands -/
def Df (K : PySem.W.Frag) (mg : Str → Option Value) (x : Str) (i : Nat) : Prop := ∃ (f : Addr) (fd : FuncData), mg x = some (.ref f) ∧ FunD K x x (defArgs (top i)) (defBody (top i)) (defScope (top i)) [] [] f fd
structure Fx (P : Program) (w : World) (K : PySem.W.Frag) (mg : Str → Option Value) (base : Heap) : Prop where
  d_law_bag : Df K mg "_law_bag" 107
  d_law_draw : Df K mg "_law_draw" 108
  d_law_one : Df K mg "_law_one" 109
  d_law_further : Df K mg "_law_further" 112
  d_law_by : Df K mg "_law_by" 115
  d_law_stacking : Df K mg "_law_stacking" 116
  d_law_closed : Df K mg "_law_closed" 117
  d_law_motions : Df K mg "_law_motions" 119
  d_law_moved : Df K mg "_law_moved" 118
  d_law_steps : Df K mg "_law_steps" 113
  d_law_round_steps : Df K mg "_law_round_steps" 114
  d_law_exchanged : Df K mg "_law_exchanged" 123
  d_law_counts : Df K mg "_law_counts" 120
  d_is_text_of : Df K mg "is_text_of" 6
  d_is_whole : Df K mg "is_whole" 2
  d_is_between : Df K mg "is_between" 3
  d_is_layer_number : Df K mg "is_layer_number" 13
  d_is_stacked : Df K mg "is_stacked" 14
  d_is_closed_one : Df K mg "is_closed_one" 15
  d_check_closed : Df K mg "check_closed" 44
  d_number_of : Df K mg "number_of" 17
  d_count_triple : Df K mg "count_triple" 47
  d_layer_counts_by : Df K mg "layer_counts_by" 48
  d_layer_counts : Df K mg "layer_counts" 101
  d_like_row : Df K mg "like_row" 102
  d_check_two_closed : Df K mg "check_two_closed" 45
  d_first_unlike : Df K mg "first_unlike" 50
  d_exchanged_triples : Df K mg "exchanged_triples" 49
  d_unlike_places_by : Df K mg "unlike_places_by" 51
  d_have_like_counts_by : Df K mg "have_like_counts_by" 53
  d_have_like_counts : Df K mg "have_like_counts" 103
  d_unlike_places : Df K mg "unlike_places" 104
  d_check_stacking : Df K mg "check_stacking" 43
  d_letter_counts : Df K mg "letter_counts" 105
  d_law_same : Df K mg "_law_same" 110
  d_certify_counts : Df K mg "certify_counts" 80
  d_tells_two_closed : Df K mg "tells_two_closed" 73
  d_is_claim : Df K mg "is_claim" 78
  d_is_tuple_of : Df K mg "is_tuple_of" 4
  d_is_nothing : Df K mg "is_nothing" 82
  d_shows_like_counts : Df K mg "shows_like_counts" 88
  d_are_unlike_at : Df K mg "are_unlike_at" 52
  d_shows_unlike_counts : Df K mg "shows_unlike_counts" 89
  d_accepts : Df K mg "accepts" 99
  d_law_is_whole : Df K mg "_law_is_whole" 111
  d_law_is_bar : Df K mg "_law_is_bar" 121
  d_law_pair_right : Df K mg "_law_pair_right" 122
  d_law : Df K mg "law" 124
  t_FORMS : ∃ d, mg "FORMS" = some (.ref d) ∧ Tab K w d ["round", "not round", "alike", "not alike", "slips", "like counts", "unlike counts", "mirror", "no mirror", "least", "not least", "own", "again"] ∧ (∃ t f, mg "tells_two_closed" = some (.ref f) ∧ PySem.W.nsIn K d "like counts" = some (some (.ref t)) ∧ ∀ H, SqT K H t [.int 2, .ref f]) ∧ (∃ t f, mg "tells_two_closed" = some (.ref f) ∧ PySem.W.nsIn K d "unlike counts" = some (some (.ref t)) ∧ ∀ H, SqT K H t [.int 2, .ref f])
  t_OF_ONE : ∃ d, mg "OF_ONE" = some (.ref d) ∧ Tab K w d ["round", "not round", "mirror", "no mirror", "own", "again"]
  t_OF_TWO : ∃ d, mg "OF_TWO" = some (.ref d) ∧ Tab K w d ["alike", "not alike", "like counts", "unlike counts", "least", "not least"] ∧ (∃ f, mg "shows_like_counts" = some (.ref f) ∧ PySem.W.nsIn K d "like counts" = some (some (.ref f))) ∧ (∃ f, mg "shows_unlike_counts" = some (.ref f) ∧ PySem.W.nsIn K d "unlike counts" = some (some (.ref f)))
  b_abs : mg "abs" = none
  b_all : mg "all" = none
  b_any : mg "any" = none
  b_bool : mg "bool" = none
  b_divmod : mg "divmod" = none
  b_enumerate : mg "enumerate" = none
  b_int : mg "int" = none
  b_isinstance : mg "isinstance" = none
  b_len : mg "len" = none
  b_list : mg "list" = none
  b_max : mg "max" = none
  b_min : mg "min" = none
  b_range : mg "range" = none
  b_str : mg "str" = none
  b_tuple : mg "tuple" = none
  b_zip : mg "zip" = none
  g_LETTERS : ∃ t, mg "LETTERS" = some (.str "ABC" t)
  g_MOST_LAYERS : ∃ t, mg "MOST_LAYERS" = some (.int 24 t)
section
variable {P : Program} {w : World} {K : PySem.W.Frag} {mg : Str → Option Value} {base : Heap}
abbrev N_law_bag : List Str := ["script", "at", "stirred", "place", "cell", "own", "digits"]
theorem sc_law_bag : FnScope N_law_bag ["script", "at"] (defScope (top 107)) := ⟨rfl, rfl, rfl, by decide +kernel, rfl, by decide +kernel, by decide +kernel⟩
def f_law_bag : FF := fnKeep 2 7 ((sSeq (sSet 2 (eBin oAdd (eCon (.int 70001)) (eBin oMul (eCon (.int 3571)) (eVar 1)))) (sSeq (sFor (.tp [(.nm 3), (.nm 4)]) (iEnum' (eSl (eVar 0) oNone (oSome (eCon (.int 9))))) (sSet 2 (eBin oMod (eCall bInt (aCons (eBin oAdd (eBin oAdd (eBin oAdd (eBin oMul (eVar 2) (eCon (.int 47653))) (eBin oMod (eCall bInt (aCons (eVar 4) aNil)) (eCon (.int 1999999943)))) (eBin oMul (eCon (.int 31)) (eVar 3))) (eCon (.int 5))) aNil)) (eCon (.int 2147483477))))) (sSeq (sSet 5 (eIf (toT (eBin oLt (eVar 1) (eCall bLen (aCons (eVar 0) aNil)))) (eCall bInt (aCons (eBin oIx (eVar 0) (eVar 1)) aNil)) (eCon (.int 0)))) (sSeq (sSet 6 (eIf (toT (eBin oGe (eCall bAbs (aCons (eVar 5) aNil)) (eBin oPow (eCon (.int 10)) (eCon (.int 18))))) (eBin oMod (eCall bAbs (aCons (eVar 5) aNil)) (eCon (.int 1000000000000000000000000000007))) (eCon (.int 0)))) (sRet (eCell (lDisp (aCons (eVar 6) (aCons (eBin oMod (eCall bInt (aCons (eBin oAdd (eVar 2) (eBin oMul (eCon (.int 3)) (eBin oMod (eCall bInt (aCons (eVar 5) aNil)) (eCon (.int 1999999943))))) aNil)) (eCon (.int 2147483477))) (aCons (eCon (.int 0)) aNil)))))))))))
theorem ok_law_bag (Z : Fx P w K mg base) : DefOk P w K mg base CX0 "_law_bag" ["script", "at"] 1 f_law_bag := by
  obtain ⟨f, fd, hm, D⟩ := Z.d_law_bag
  exact def_keep (k := 0) D hm sc_law_bag (fun _ _ _ _ _ _ us hl => match us, hl with | [_, _], _ => rfl) fun cdv A outer s H E hr =>
    (ss_cons (ss_set 2 sc_law_bag.nd (s_bin o_add s_int (s_bin o_mul s_int (s_var 1))))
    (ss_cons (ss_for PassesOwn.never rfl (si_enum rfl Z.b_enumerate (s_sl (s_var 0) so_none (so_some s_int))) (g_tup rfl (g_cons (g_nm 3 sc_law_bag.nd) (g_cons (g_nm 4 sc_law_bag.nd) g_nil))) (ss_one (ss_set 2 sc_law_bag.nd (s_bin o_mod (s_typ c_int PyProof.Rows.boot_int Z.b_int (a_cons (s_bin o_add (s_bin o_add (s_bin o_add (s_bin o_mul (s_var 2) s_int) (s_bin o_mod (s_typ c_int PyProof.Rows.boot_int Z.b_int (a_cons (s_var 4) a_nil)) s_int)) (s_bin o_mul s_int (s_var 3))) s_int) a_nil)) s_int))))
    (ss_cons (ss_set 5 sc_law_bag.nd (s_if (t_cmp o_lt (s_var 1) (s_blt c_len boot_len Z.b_len (a_cons (s_var 0) a_nil))) (s_typ c_int PyProof.Rows.boot_int Z.b_int (a_cons (s_ix (s_var 0) (s_var 1)) a_nil)) s_int))
    (ss_cons (ss_set 6 sc_law_bag.nd (s_if (t_cmp o_ge (s_blt c_abs PyProof.Rows.boot_abs Z.b_abs (a_cons (s_var 5) a_nil)) (s_bin o_pow s_int s_int)) (s_bin o_mod (s_blt c_abs PyProof.Rows.boot_abs Z.b_abs (a_cons (s_var 5) a_nil)) s_int) s_int))
    (ss_one (ss_ret (s_cell (f_lst (a_cons (s_var 6) (a_cons (s_bin o_mod (s_typ c_int PyProof.Rows.boot_int Z.b_int (a_cons (s_bin o_add (s_var 2) (s_bin o_mul s_int (s_bin o_mod (s_typ c_int PyProof.Rows.boot_int Z.b_int (a_cons (s_var 5) a_nil)) s_int))) a_nil)) s_int) (a_cons s_int a_nil)))))))))))
abbrev N_law_draw : List Str := ["bag", "many", "digit", "old"]
theorem sc_law_draw : FnScope N_law_draw ["bag", "many"] (defScope (top 108)) := ⟨rfl, rfl, rfl, by decide +kernel, rfl, by decide +kernel, by decide +kernel⟩
def f_law_draw : FF := fnOf 2 4 ((sSeq (sIf (toT (eBin oGt (eBin oIx (eVar 0) (eCon (.int 0))) (eCon (.int 0)))) (sSeq (sDm (eVar 0) (eCon (.int 0)) 2 (eCall bDivmod (aCons (eBin oIx (eVar 0) (eCon (.int 0))) (aCons (eVar 1) aNil)))) (sRet (eVar 2))) sNil) (sSeq (sSub (eVar 0) (eCon (.int 2)) (eBin oAdd (eBin oIx (eVar 0) (eCon (.int 2))) (eCon (.int 1)))) (sSeq (sSet 3 (eCall bInt (aCons (eBin oIx (eVar 0) (eCon (.int 1))) aNil))) (sSeq (sSub (eVar 0) (eCon (.int 1)) (eBin oMod (eCall bInt (aCons (eBin oAdd (eBin oAdd (eBin oMul (eVar 3) (eBin oAdd (eBin oMod (eCall bInt (aCons (eVar 3) aNil)) (eCon (.int 40009))) (eCon (.int 30013)))) (eBin oMul (eCon (.int 65003)) (eBin oIx (eVar 0) (eCon (.int 2))))) (eCon (.int 13))) aNil)) (eCon (.int 2147483477)))) (sRet (eBin oMod (eCall bInt (aCons (eBin oDiv (eBin oIx (eVar 0) (eCon (.int 1))) (eCon (.int 256))) aNil)) (eVar 1))))))))
theorem ok_law_draw (Z : Fx P w K mg base) : DefOk P w K mg base CX0 "_law_draw" ["bag", "many"] 1 f_law_draw := by
  obtain ⟨f, fd, hm, D⟩ := Z.d_law_draw
  exact def_ok (k := 0) D hm sc_law_draw (fun _ _ _ _ _ _ us hl => match us, hl with | [_, _], _ => rfl) fun cdv A outer s H E hr =>
    (ss_cons (ss_if (t_cmp o_gt (s_ix (s_var 0) s_int) s_int) (ss_cons (ss_dm 2 rfl sc_law_draw.nd (s_blt c_divmod PyProof.Rows.boot_divmod Z.b_divmod (a_cons (s_ix (s_var 0) s_int) (a_cons (s_var 1) a_nil))) (s_var 0) s_int)
    (ss_one (ss_ret (s_var 2)))) ss_nil)
    (ss_cons (ss_sub (s_bin o_add (s_ix (s_var 0) s_int) s_int) (s_var 0) s_int)
    (ss_cons (ss_set 3 sc_law_draw.nd (s_typ c_int PyProof.Rows.boot_int Z.b_int (a_cons (s_ix (s_var 0) s_int) a_nil)))
    (ss_cons (ss_sub (s_bin o_mod (s_typ c_int PyProof.Rows.boot_int Z.b_int (a_cons (s_bin o_add (s_bin o_add (s_bin o_mul (s_var 3) (s_bin o_add (s_bin o_mod (s_typ c_int PyProof.Rows.boot_int Z.b_int (a_cons (s_var 3) a_nil)) s_int) s_int)) (s_bin o_mul s_int (s_ix (s_var 0) s_int))) s_int) a_nil)) s_int) (s_var 0) s_int)
    (ss_one (ss_ret (s_bin o_mod (s_typ c_int PyProof.Rows.boot_int Z.b_int (a_cons (s_bin o_div (s_ix (s_var 0) s_int) s_int) a_nil)) (s_var 1))))))))
abbrev N_law_one : List Str := ["bag", "some"]
theorem sc_law_one : FnScope N_law_one ["bag", "some"] (defScope (top 109)) := ⟨rfl, rfl, rfl, by decide +kernel, rfl, by decide +kernel, by decide +kernel⟩
def f_law_one : FF := fnOf 2 2 ((sRet (eBin oIx (eVar 1) (eCall f_law_draw (aCons (eVar 0) (aCons (eCall bLen (aCons (eVar 1) aNil)) aNil))))))
theorem ok_law_one (Z : Fx P w K mg base) : DefOk P w K mg base CX0 "_law_one" ["bag", "some"] 2 f_law_one := by
  obtain ⟨f, fd, hm, D⟩ := Z.d_law_one
  exact def_ok (k := 1) D hm sc_law_one (fun _ _ _ _ _ _ us hl => match us, hl with | [_, _], _ => rfl) fun cdv A outer s H E hr =>
    (ss_one (ss_ret (s_ix (s_var 1) (s_call (ok_law_draw Z) (hr.mono (by decide)) pass0 (a_cons (s_var 0) (a_cons (s_blt c_len boot_len Z.b_len (a_cons (s_var 1) a_nil)) a_nil))))))
abbrev N_law_further : List Str := ["letter", "k"]
theorem sc_law_further : FnScope N_law_further ["letter", "k"] (defScope (top 112)) := ⟨rfl, rfl, rfl, by decide +kernel, rfl, by decide +kernel, by decide +kernel⟩
def f_law_further : FF := fnOf 2 2 ((sRet (eBin oIx (eCon (.str [65, 66, 67])) (eBin oMod (eBin oAdd (eMeth "str" bIndex (eCon (.str [65, 66, 67])) (aCons (eVar 0) aNil)) (eVar 1)) (eCon (.int 3))))))
theorem ok_law_further (Z : Fx P w K mg base) : DefOk P w K mg base CX0 "_law_further" ["letter", "k"] 1 f_law_further := by
  obtain ⟨f, fd, hm, D⟩ := Z.d_law_further
  exact def_ok (k := 0) D hm sc_law_further (fun _ _ _ _ _ _ us hl => match us, hl with | [_, _], _ => rfl) fun cdv A outer s H E hr =>
    (ss_one (ss_ret (s_ix s_str (s_bin o_mod (s_bin o_add (s_meth F.plainAttrs_str F.slot_str_index F.type_str_index m_index s_str (a_cons (s_var 0) a_nil)) (s_var 1)) s_int))))
abbrev N_law_by : List Str := ["letter", "steps", "found", "step"]
theorem sc_law_by : FnScope N_law_by ["letter", "steps"] (defScope (top 115)) := ⟨rfl, rfl, rfl, by decide +kernel, rfl, by decide +kernel, by decide +kernel⟩
def f_law_by : FF := fnOf 2 4 ((sSeq (sSet 2 (eVar 0)) (sSeq (sFor (.nm 3) (iVal (eVar 1)) (sSet 2 (eBin oAdd (eVar 2) (eCall f_law_further (aCons (eBin oIx (eVar 2) (eNeg (eCon (.int 1)))) (aCons (eIf (toT (eBin oEq (eVar 3) (eCon (.str [43])))) (eCon (.int 1)) (eCon (.int 2))) aNil)))))) (sRet (eVar 2)))))
theorem ok_law_by (Z : Fx P w K mg base) : DefOk P w K mg base CX0 "_law_by" ["letter", "steps"] 2 f_law_by := by
  obtain ⟨f, fd, hm, D⟩ := Z.d_law_by
  exact def_ok (k := 1) D hm sc_law_by (fun _ _ _ _ _ _ us hl => match us, hl with | [_, _], _ => rfl) fun cdv A outer s H E hr =>
    (ss_cons (ss_set 2 sc_law_by.nd (s_var 0))
    (ss_cons (ss_for PassesOwn.never rfl (si_val (s_var 1)) (g_nm 3 sc_law_by.nd) (ss_one (ss_set 2 sc_law_by.nd (s_bin o_add (s_var 2) (s_call (ok_law_further Z) (hr.mono (by decide)) pass0 (a_cons (s_ix (s_var 2) (s_neg s_int)) (a_cons (s_if (t_cmp (o_eq hr.units) (s_var 3) s_str) s_int s_int) a_nil)))))))
    (ss_one (ss_ret (s_var 2)))))
abbrev N_law_stacking : List Str := ["bag", "low", "most", "many", "letter", "row", "turn"]
theorem sc_law_stacking : FnScope N_law_stacking ["bag", "low", "most"] (defScope (top 116)) := ⟨rfl, rfl, rfl, by decide +kernel, rfl, by decide +kernel, by decide +kernel⟩
def f_law_stacking : FF := fnOf 3 7 ((sSeq (sPar 3 4 (aCons (eBin oAdd (eVar 1) (eCall f_law_draw (aCons (eVar 0) (aCons (eBin oAdd (eBin oSub (eVar 2) (eVar 1)) (eCon (.int 1))) aNil)))) (aCons (eCall f_law_one (aCons (eVar 0) (aCons (eCon (.str [65, 66, 67])) aNil))) aNil))) (sSeq (sSet 5 (eMeth "str" bJoin (eCon (.str [])) (aCons (eFrz (fLc (.nm 6) (iRg (aCons (eCall f_law_one (aCons (eVar 0) (aCons (eFrz (lDisp (aCons (eCon (.int 24)) (aCons (eCon (.int 24)) (aCons (eCon (.int 1)) (aCons (eCon (.int 2)) (aCons (eCon (.int 3)) (aCons (eCon (.int 4)) (aCons (eCon (.int 6)) aNil))))))))) aNil))) aNil)) tYes' (eCall f_law_one (aCons (eVar 0) (aCons (eCon (.str [43, 45])) aNil))) [6])) aNil))) (sRet (eCall f_law_by (aCons (eVar 4) (aCons (eSl (eBin oMul (eVar 5) (eCon (.int 24))) oNone (oSome (eBin oSub (eVar 3) (eCon (.int 1))))) aNil)))))))
theorem ok_law_stacking (Z : Fx P w K mg base) : DefOk P w K mg base CX0 "_law_stacking" ["bag", "low", "most"] 3 f_law_stacking := by
  obtain ⟨f, fd, hm, D⟩ := Z.d_law_stacking
  exact def_ok (k := 2) D hm sc_law_stacking (fun _ _ _ _ _ _ us hl => match us, hl with | [_, _, _], _ => rfl) fun cdv A outer s H E hr =>
    (ss_cons (ss_par 3 4 rfl sc_law_stacking.nd (a_cons (s_bin o_add (s_var 1) (s_call (ok_law_draw Z) (hr.mono (by decide)) pass0 (a_cons (s_var 0) (a_cons (s_bin o_add (s_bin o_sub (s_var 2) (s_var 1)) s_int) a_nil)))) (a_cons (s_call (ok_law_one Z) (hr.mono (by decide)) pass0 (a_cons (s_var 0) (a_cons s_str a_nil))) a_nil)))
    (ss_cons (ss_set 5 sc_law_stacking.nd (s_meth F.plainAttrs_str F.slot_str_join F.type_str_join m_join s_str (a_cons (s_frz (f_lc rfl sc_law_stacking.nd (si_range1 rfl Z.b_range (a_cons (s_call (ok_law_one Z) (hr.mono (by decide)) pass0 (a_cons (s_var 0) (a_cons (s_frz (f_lst (a_cons s_int (a_cons s_int (a_cons s_int (a_cons s_int (a_cons s_int (a_cons s_int (a_cons s_int a_nil))))))))) a_nil))) a_nil)) (own := [("turn", 6)]) (show BlkOk N_law_stacking (defScope (top 116)) _ _ from ⟨rfl, by decide +kernel, by decide +kernel, by decide +kernel, by decide +kernel⟩) (by decide) (fun _ _ _ _ _ => (g_nm 6 sc_law_stacking.nd)) (fun _ _ _ _ _ => sts_nil) (fun _ _ _ _ _ => (s_call (ok_law_one Z) (hr.mono (by decide)) pass0 (a_cons (s_var 0) (a_cons s_str a_nil)))))) a_nil)))
    (ss_one (ss_ret (s_call (ok_law_by Z) (hr.mono (by decide)) pass0 (a_cons (s_var 4) (a_cons (s_sl (s_bin o_mul (s_var 5) s_int) so_none (so_some (s_bin o_sub (s_var 3) s_int))) a_nil)))))))
abbrev N_law_closed : List Str := ["bag", "low", "most", "text", "letter"]
theorem sc_law_closed : FnScope N_law_closed ["bag", "low", "most"] (defScope (top 117)) := ⟨rfl, rfl, rfl, by decide +kernel, rfl, by decide +kernel, by decide +kernel⟩
def f_law_closed : FF := fnOf 3 5 ((sSeq (sSet 3 (eCall f_law_stacking (aCons (eVar 0) (aCons (eCall bMax2 (aCons (eVar 1) (aCons (eCon (.int 2)) aNil))) (aCons (eVar 2) aNil))))) (sSeq (sIf (toT (eBin oEq (eBin oIx (eVar 3) (eCon (.int 0))) (eBin oIx (eVar 3) (eNeg (eCon (.int 1)))))) (sSet 3 (eBin oAdd (eSl (eVar 3) oNone (oSome (eNeg (eCon (.int 1))))) (eBin oIx (eFrz (fLc (.nm 4) (iVal (eCon (.str [65, 66, 67]))) (toT (eBin oNotIn (eVar 4) (eFrz (lDisp (aCons (eBin oIx (eVar 3) (eCon (.int 0))) (aCons (eBin oIx (eVar 3) (eNeg (eCon (.int 2)))) aNil)))))) (eVar 4) [4])) (eCon (.int 0))))) sNil) (sRet (eVar 3)))))
theorem ok_law_closed (Z : Fx P w K mg base) : DefOk P w K mg base CX0 "_law_closed" ["bag", "low", "most"] 4 f_law_closed := by
  obtain ⟨f, fd, hm, D⟩ := Z.d_law_closed
  exact def_ok (k := 3) D hm sc_law_closed (fun _ _ _ _ _ _ us hl => match us, hl with | [_, _, _], _ => rfl) fun cdv A outer s H E hr =>
    (ss_cons (ss_set 3 sc_law_closed.nd (s_call (ok_law_stacking Z) (hr.mono (by decide)) pass0 (a_cons (s_var 0) (a_cons (s_blt (c_max2 rfl) boot_max Z.b_max (a_cons (s_var 1) (a_cons s_int a_nil))) (a_cons (s_var 2) a_nil)))))
    (ss_cons (ss_if (t_cmp (o_eq hr.units) (s_ix (s_var 3) s_int) (s_ix (s_var 3) (s_neg s_int))) (ss_one (ss_set 3 sc_law_closed.nd (s_bin o_add (s_sl (s_var 3) so_none (so_some (s_neg s_int))) (s_ix (s_frz (f_lc rfl sc_law_closed.nd (si_val s_str) (own := [("letter", 4)]) (show BlkOk N_law_closed (defScope (top 117)) _ _ from ⟨rfl, by decide +kernel, by decide +kernel, by decide +kernel, by decide +kernel⟩) (by decide) (fun _ _ _ _ _ => (g_nm 4 sc_law_closed.nd)) (fun _ _ _ _ _ => (sts_one (t_cmp (o_notin (units65 hr)) (s_var 4) (s_frz (f_lst (a_cons (s_ix (s_var 3) s_int) (a_cons (s_ix (s_var 3) (s_neg s_int)) a_nil))))))) (fun _ _ _ _ _ => (s_var 4)))) s_int)))) ss_nil)
    (ss_one (ss_ret (s_var 3)))))
abbrev N_law_motions : List Str := ["many", "found", "names", "k"]
theorem sc_law_motions : FnScope N_law_motions ["many"] (defScope (top 119)) := ⟨rfl, rfl, rfl, by decide +kernel, rfl, by decide +kernel, by decide +kernel⟩
def f_law_motions : FF := fnOf 1 4 ((sSeq (sSet 1 (eFrz (lDisp aNil))) (sSeq (sFor (.nm 2) (iVal (eFrz (lDisp (aCons (eCon (.str [65, 66, 67])) (aCons (eCon (.str [65, 67, 66])) (aCons (eCon (.str [66, 65, 67])) (aCons (eCon (.str [66, 67, 65])) (aCons (eCon (.str [67, 65, 66])) (aCons (eCon (.str [67, 66, 65])) aNil))))))))) (sFor (.nm 3) (iRg (aCons (eVar 0) aNil)) (sSet 1 (eBin oAdd (eVar 1) (eFrz (lDisp (aCons (eTup (aCons (eVar 2) (aCons (eVar 3) (aCons (eCon (.bl false)) aNil)))) (aCons (eTup (aCons (eVar 2) (aCons (eVar 3) (aCons (eCon (.bl true)) aNil)))) aNil)))))))) (sRet (eVar 1)))))
theorem ok_law_motions (Z : Fx P w K mg base) : DefOk P w K mg base CX0 "_law_motions" ["many"] 1 f_law_motions := by
  obtain ⟨f, fd, hm, D⟩ := Z.d_law_motions
  exact def_ok (k := 0) D hm sc_law_motions (fun _ _ _ _ _ _ us hl => match us, hl with | [_], _ => rfl) fun cdv A outer s H E hr =>
    (ss_cons (ss_set 1 sc_law_motions.nd (s_frz (f_lst a_nil)))
    (ss_cons (ss_for PassesOwn.never rfl (si_val (s_frz (f_lst (a_cons s_str (a_cons s_str (a_cons s_str (a_cons s_str (a_cons s_str (a_cons s_str a_nil))))))))) (g_nm 2 sc_law_motions.nd) (ss_one (ss_for PassesOwn.never rfl (si_range1 rfl Z.b_range (a_cons (s_var 0) a_nil)) (g_nm 3 sc_law_motions.nd) (ss_one (ss_set 1 sc_law_motions.nd (s_bin o_add (s_var 1) (s_frz (f_lst (a_cons (s_tup (a_cons (s_var 2) (a_cons (s_var 3) (a_cons s_bl a_nil)))) (a_cons (s_tup (a_cons (s_var 2) (a_cons (s_var 3) (a_cons s_bl a_nil)))) a_nil))))))))))
    (ss_one (ss_ret (s_var 1)))))
abbrev N_law_moved : List Str := ["text", "motion", "names", "k", "back", "row", "letter"]
theorem sc_law_moved : FnScope N_law_moved ["text", "motion"] (defScope (top 118)) := ⟨rfl, rfl, rfl, by decide +kernel, rfl, by decide +kernel, by decide +kernel⟩
def f_law_moved : FF := fnOf 2 7 ((sSeq (sAsg (.tp [(.nm 2), (.nm 3), (.nm 4)]) (eVar 1)) (sSeq (sSet 5 (eMeth "str" bJoin (eCon (.str [])) (aCons (eFrz (fLc (.nm 6) (iVal (eVar 0)) tYes' (eBin oIx (eVar 2) (eMeth "str" bIndex (eCon (.str [65, 66, 67])) (aCons (eVar 6) aNil))) [6])) aNil))) (sSeq (sSet 5 (eBin oAdd (eSl (eVar 5) (oSome (eVar 3)) oNone) (eSl (eVar 5) oNone (oSome (eVar 3))))) (sRet (eIf (toT (eVar 4)) (eRev (eVar 5)) (eVar 5)))))))
theorem ok_law_moved (Z : Fx P w K mg base) : DefOk P w K mg base CX0 "_law_moved" ["text", "motion"] 1 f_law_moved := by
  obtain ⟨f, fd, hm, D⟩ := Z.d_law_moved
  exact def_ok (k := 0) D hm sc_law_moved (fun _ _ _ _ _ _ us hl => match us, hl with | [_, _], _ => rfl) fun cdv A outer s H E hr =>
    (ss_cons (ss_asg (s_var 1) (g_tup rfl (g_cons (g_nm 2 sc_law_moved.nd) (g_cons (g_nm 3 sc_law_moved.nd) (g_cons (g_nm 4 sc_law_moved.nd) g_nil)))))
    (ss_cons (ss_set 5 sc_law_moved.nd (s_meth F.plainAttrs_str F.slot_str_join F.type_str_join m_join s_str (a_cons (s_frz (f_lc rfl sc_law_moved.nd (si_val (s_var 0)) (own := [("letter", 6)]) (show BlkOk N_law_moved (defScope (top 118)) _ _ from ⟨rfl, by decide +kernel, by decide +kernel, by decide +kernel, by decide +kernel⟩) (by decide) (fun _ _ _ _ _ => (g_nm 6 sc_law_moved.nd)) (fun _ _ _ _ _ => sts_nil) (fun _ _ _ _ _ => (s_ix (s_var 2) (s_meth F.plainAttrs_str F.slot_str_index F.type_str_index m_index s_str (a_cons (s_var 6) a_nil)))))) a_nil)))
    (ss_cons (ss_set 5 sc_law_moved.nd (s_bin o_add (s_sl (s_var 5) (so_some (s_var 3)) so_none) (s_sl (s_var 5) so_none (so_some (s_var 3)))))
    (ss_one (ss_ret (s_if (t_val (s_var 4)) (s_rev (s_var 5)) (s_var 5)))))))
abbrev N_law_steps : List Str := ["text", "one", "two"]
theorem sc_law_steps : FnScope N_law_steps ["text"] (defScope (top 113)) := ⟨rfl, rfl, rfl, by decide +kernel, rfl, by decide +kernel, by decide +kernel⟩
def f_law_steps : FF := fnOf 1 3 ((sRet (eMeth "str" bJoin (eCon (.str [])) (aCons (eFrz (fLc (.tp [(.nm 1), (.nm 2)]) (iZip' (aCons (eVar 0) (aCons (eSl (eVar 0) (oSome (eCon (.int 1))) oNone) aNil))) tYes' (eIf (toT (eBin oEq (eCall f_law_further (aCons (eVar 1) (aCons (eCon (.int 1)) aNil))) (eVar 2))) (eCon (.str [43])) (eCon (.str [45]))) [1, 2])) aNil))))
theorem ok_law_steps (Z : Fx P w K mg base) : DefOk P w K mg base CX0 "_law_steps" ["text"] 2 f_law_steps := by
  obtain ⟨f, fd, hm, D⟩ := Z.d_law_steps
  exact def_ok (k := 1) D hm sc_law_steps (fun _ _ _ _ _ _ us hl => match us, hl with | [_], _ => rfl) fun cdv A outer s H E hr =>
    (ss_one (ss_ret (s_meth F.plainAttrs_str F.slot_str_join F.type_str_join m_join s_str (a_cons (s_frz (f_lc rfl sc_law_steps.nd (si_zip rfl Z.b_zip (a_cons (s_var 0) (a_cons (s_sl (s_var 0) (so_some s_int) so_none) a_nil))) (own := [("one", 1), ("two", 2)]) (show BlkOk N_law_steps (defScope (top 113)) _ _ from ⟨rfl, by decide +kernel, by decide +kernel, by decide +kernel, by decide +kernel⟩) (by decide) (fun _ _ _ _ _ => (g_tup rfl (g_cons (g_nm 1 sc_law_steps.nd) (g_cons (g_nm 2 sc_law_steps.nd) g_nil)))) (fun _ _ _ _ _ => sts_nil) (fun _ _ _ _ _ => (s_if (t_cmp (o_eq hr.units) (s_call (ok_law_further Z) (hr.mono (by decide)) pass0 (a_cons (s_var 1) (a_cons s_int a_nil))) (s_var 2)) s_str s_str)))) a_nil))))
abbrev N_law_round_steps : List Str := ["text"]
theorem sc_law_round_steps : FnScope N_law_round_steps ["text"] (defScope (top 114)) := ⟨rfl, rfl, rfl, by decide +kernel, rfl, by decide +kernel, by decide +kernel⟩
def f_law_round_steps : FF := fnOf 1 1 ((sRet (eCall f_law_steps (aCons (eBin oAdd (eVar 0) (eSl (eVar 0) oNone (oSome (eCon (.int 1))))) aNil))))
theorem ok_law_round_steps (Z : Fx P w K mg base) : DefOk P w K mg base CX0 "_law_round_steps" ["text"] 3 f_law_round_steps := by
  obtain ⟨f, fd, hm, D⟩ := Z.d_law_round_steps
  exact def_ok (k := 2) D hm sc_law_round_steps (fun _ _ _ _ _ _ us hl => match us, hl with | [_], _ => rfl) fun cdv A outer s H E hr =>
    (ss_one (ss_ret (s_call (ok_law_steps Z) (hr.mono (by decide)) pass0 (a_cons (s_bin o_add (s_var 0) (s_sl (s_var 0) so_none (so_some s_int))) a_nil))))
abbrev N_law_exchanged : List Str := ["bag", "text", "steps", "i", "j"]
theorem sc_law_exchanged : FnScope N_law_exchanged ["bag", "text"] (defScope (top 123)) := ⟨rfl, rfl, rfl, by decide +kernel, rfl, by decide +kernel, by decide +kernel⟩
def f_law_exchanged : FF := fnOf 2 5 ((sSeq (sSet 2 (eCell (lCall bTx (aCons (eCall f_law_round_steps (aCons (eVar 1) aNil)) aNil)))) (sSeq (sPar 3 4 (aCons (eCall f_law_draw (aCons (eVar 0) (aCons (eCall bLen (aCons (eVar 2) aNil)) aNil))) (aCons (eCall f_law_draw (aCons (eVar 0) (aCons (eCall bLen (aCons (eVar 2) aNil)) aNil))) aNil))) (sSeq (sSw (eVar 2) (eVar 3) (eVar 2) (eVar 4) (eTup (aCons (eBin oIx (eVar 2) (eVar 4)) (aCons (eBin oIx (eVar 2) (eVar 3)) aNil)))) (sRet (eCall f_law_by (aCons (eBin oIx (eVar 1) (eCon (.int 0))) (aCons (eMeth "str" bJoin (eCon (.str [])) (aCons (eSl (eVar 2) oNone (oSome (eNeg (eCon (.int 1))))) aNil)) aNil))))))))
theorem ok_law_exchanged (Z : Fx P w K mg base) : DefOk P w K mg base CX0 "_law_exchanged" ["bag", "text"] 4 f_law_exchanged := by
  obtain ⟨f, fd, hm, D⟩ := Z.d_law_exchanged
  exact def_ok (k := 3) D hm sc_law_exchanged (fun _ _ _ _ _ _ us hl => match us, hl with | [_, _], _ => rfl) fun cdv A outer s H E hr =>
    (ss_cons (ss_set 2 sc_law_exchanged.nd (s_cell (s_typF (c_ltx rfl) Pv.boot_list Z.b_list (a_cons (s_call (ok_law_round_steps Z) (hr.mono (by decide)) pass0 (a_cons (s_var 1) a_nil)) a_nil))))
    (ss_cons (ss_par 3 4 rfl sc_law_exchanged.nd (a_cons (s_call (ok_law_draw Z) (hr.mono (by decide)) pass0 (a_cons (s_var 0) (a_cons (s_blt c_len boot_len Z.b_len (a_cons (s_var 2) a_nil)) a_nil))) (a_cons (s_call (ok_law_draw Z) (hr.mono (by decide)) pass0 (a_cons (s_var 0) (a_cons (s_blt c_len boot_len Z.b_len (a_cons (s_var 2) a_nil)) a_nil))) a_nil)))
    (ss_cons (ss_sw rfl (s_tup (a_cons (s_ix (s_var 2) (s_var 4)) (a_cons (s_ix (s_var 2) (s_var 3)) a_nil))) (s_var 2) (s_var 3) (s_var 2) (s_var 4))
    (ss_one (ss_ret (s_call (ok_law_by Z) (hr.mono (by decide)) pass0 (a_cons (s_ix (s_var 1) s_int) (a_cons (s_meth F.plainAttrs_str F.slot_str_join F.type_str_join m_join s_str (a_cons (s_sl (s_var 2) so_none (so_some (s_neg s_int))) a_nil)) a_nil))))))))
abbrev N_law_counts : List Str := ["text", "found", "k", "far", "one", "two"]
theorem sc_law_counts : FnScope N_law_counts ["text"] (defScope (top 120)) := ⟨rfl, rfl, rfl, by decide +kernel, rfl, by decide +kernel, by decide +kernel⟩
def f_law_counts : FF := fnOf 1 6 ((sSeq (sSet 1 (eCell (lDisp aNil))) (sSeq (sFor (.nm 2) (iRg (aCons (eCall bLen (aCons (eVar 0) aNil)) aNil)) (sSeq (sSet 3 (eFrz (fLc (.tp [(.nm 4), (.nm 5)]) (iZip' (aCons (eVar 0) (aCons (eBin oAdd (eSl (eVar 0) (oSome (eVar 2)) oNone) (eSl (eVar 0) oNone (oSome (eVar 2)))) aNil))) tYes' (eBin oMod (eBin oSub (eMeth "str" bIndex (eCon (.str [65, 66, 67])) (aCons (eVar 5) aNil)) (eMeth "str" bIndex (eCon (.str [65, 66, 67])) (aCons (eVar 4) aNil))) (eCon (.int 3))) [4, 5]))) (sExpr (eMeth "list" bAppend (eVar 1) (aCons (eTup (aCons (eMeth "list" bLCount (eVar 3) (aCons (eCon (.int 0)) aNil)) (aCons (eMeth "list" bLCount (eVar 3) (aCons (eCon (.int 1)) aNil)) (aCons (eMeth "list" bLCount (eVar 3) (aCons (eCon (.int 2)) aNil)) aNil)))) aNil))))) (sRet (eCall bTupleX (aCons (eVar 1) aNil))))))
theorem ok_law_counts (Z : Fx P w K mg base) : DefOk P w K mg base CX0 "_law_counts" ["text"] 1 f_law_counts := by
  obtain ⟨f, fd, hm, D⟩ := Z.d_law_counts
  exact def_ok (k := 0) D hm sc_law_counts (fun _ _ _ _ _ _ us hl => match us, hl with | [_], _ => rfl) fun cdv A outer s H E hr =>
    (ss_cons (ss_set 1 sc_law_counts.nd (s_cell (f_lst a_nil)))
    (ss_cons (ss_for PassesOwn.never rfl (si_range1 rfl Z.b_range (a_cons (s_blt c_len boot_len Z.b_len (a_cons (s_var 0) a_nil)) a_nil)) (g_nm 2 sc_law_counts.nd) (ss_cons (ss_setLf 3 rfl sc_law_counts.nd (si_zip rfl Z.b_zip (a_cons (s_var 0) (a_cons (s_bin o_add (s_sl (s_var 0) (so_some (s_var 2)) so_none) (s_sl (s_var 0) so_none (so_some (s_var 2)))) a_nil))) (own := [("one", 4), ("two", 5)]) (show BlkOk N_law_counts (defScope (top 120)) _ _ from ⟨rfl, by decide +kernel, by decide +kernel, by decide +kernel, by decide +kernel⟩) (by decide) (fun _ _ _ _ _ => (g_tup rfl (g_cons (g_nm 4 sc_law_counts.nd) (g_cons (g_nm 5 sc_law_counts.nd) g_nil)))) (fun _ _ _ _ _ => sts_nil) (fun _ _ _ _ _ => (s_bin o_mod (s_bin o_sub (s_meth F.plainAttrs_str F.slot_str_index F.type_str_index m_index s_str (a_cons (s_var 5) a_nil)) (s_meth F.plainAttrs_str F.slot_str_index F.type_str_index m_index s_str (a_cons (s_var 4) a_nil))) s_int)))
    (ss_one (ss_expr (s_meth F.plainAttrs_list F.slot_list_append F.type_list_append m_append (s_var 1) (a_cons (s_tup (a_cons (s_meth F.plainAttrs_list F.slot_list_count F.type_list_count m_lcount (s_var 3) (a_cons s_int a_nil)) (a_cons (s_meth F.plainAttrs_list F.slot_list_count F.type_list_count m_lcount (s_var 3) (a_cons s_int a_nil)) (a_cons (s_meth F.plainAttrs_list F.slot_list_count F.type_list_count m_lcount (s_var 3) (a_cons s_int a_nil)) a_nil)))) a_nil))))))
    (ss_one (ss_ret (s_typ (c_tupleX rfl) Pv.boot_tuple Z.b_tuple (a_cons (s_var 1) a_nil))))))
abbrev N_is_text_of : List Str := ["value", "signs", "sign"]
theorem sc_is_text_of : FnScope N_is_text_of ["value", "signs"] (defScope (top 6)) := ⟨rfl, rfl, rfl, by decide +kernel, rfl, by decide +kernel, by decide +kernel⟩
def f_is_text_of : FF := fnOf 2 3 ((sRet (eAnd (eIsi "str" (eVar 0)) (eCall bAll (aCons (eFrz (fLc (.nm 2) (iVal (eVar 0)) tYes' (eBin oIn (eVar 2) (eVar 1)) [2])) aNil)))))
theorem ok_is_text_of (Z : Fx P w K mg base) : DefOk P w K mg base CX0 "is_text_of" ["value", "signs"] 1 f_is_text_of := by
  obtain ⟨f, fd, hm, D⟩ := Z.d_is_text_of
  exact def_ok (k := 0) D hm sc_is_text_of (fun _ _ _ _ _ _ us hl => match us, hl with | [_, _], _ => rfl) fun cdv A outer s H E hr =>
    (ss_one (ss_ret (s_and (s_isi Z.b_isinstance (s_var 0) Z.b_str PyProof.Rows.boot_str) (s_one (s_blt (c_all rfl) PyProof.Rows.boot_all Z.b_all (a_cons (s_frz (f_lc rfl sc_is_text_of.nd (si_val (s_var 0)) (own := [("sign", 2)]) (show BlkOk N_is_text_of (defScope (top 6)) _ _ from ⟨rfl, by decide +kernel, by decide +kernel, by decide +kernel, by decide +kernel⟩) (by decide) (fun _ _ _ _ _ => (g_nm 2 sc_is_text_of.nd)) (fun _ _ _ _ _ => sts_nil) (fun _ _ _ _ _ => (s_cmp (o_in (units65 hr)) (s_var 2) (s_var 1) in_mark)))) a_nil))))))
abbrev N_is_whole : List Str := ["value"]
theorem sc_is_whole : FnScope N_is_whole ["value"] (defScope (top 2)) := ⟨rfl, rfl, rfl, by decide +kernel, rfl, by decide +kernel, by decide +kernel⟩
def f_is_whole : FF := fnOf 1 1 ((sRet (eAnd (eIsi "int" (eVar 0)) (eNot (eIsi "bool" (eVar 0))))))
theorem ok_is_whole (Z : Fx P w K mg base) : DefOk P w K mg base CX0 "is_whole" ["value"] 1 f_is_whole := by
  obtain ⟨f, fd, hm, D⟩ := Z.d_is_whole
  exact def_ok (k := 0) D hm sc_is_whole (fun _ _ _ _ _ _ us hl => match us, hl with | [_], _ => rfl) fun cdv A outer s H E hr =>
    (ss_one (ss_ret (s_and (s_isi Z.b_isinstance (s_var 0) Z.b_int PyProof.Rows.boot_int) (s_one (s_not (s_isi Z.b_isinstance (s_var 0) Z.b_bool PyProof.Rows.boot_bool))))))
abbrev N_is_between : List Str := ["value", "low", "high"]
theorem sc_is_between : FnScope N_is_between ["value", "low", "high"] (defScope (top 3)) := ⟨rfl, rfl, rfl, by decide +kernel, rfl, by decide +kernel, by decide +kernel⟩
def f_is_between : FF := fnOf 3 3 ((sRet (eAnd (eCall f_is_whole (aCons (eVar 0) aNil)) (eChain oLe oLe (eVar 1) (eVar 0) (eVar 2)))))
theorem ok_is_between (Z : Fx P w K mg base) : DefOk P w K mg base CX0 "is_between" ["value", "low", "high"] 2 f_is_between := by
  obtain ⟨f, fd, hm, D⟩ := Z.d_is_between
  exact def_ok (k := 1) D hm sc_is_between (fun _ _ _ _ _ _ us hl => match us, hl with | [_, _, _], _ => rfl) fun cdv A outer s H E hr =>
    (ss_one (ss_ret (s_and (s_call (ok_is_whole Z) (hr.mono (by decide)) pass0 (a_cons (s_var 0) a_nil)) (s_one (s_chain o_le o_le (s_var 1) (s_var 0) (s_var 2))))))
abbrev N_is_layer_number : List Str := ["value"]
theorem sc_is_layer_number : FnScope N_is_layer_number ["value"] (defScope (top 13)) := ⟨rfl, rfl, rfl, by decide +kernel, rfl, by decide +kernel, by decide +kernel⟩
def f_is_layer_number : FF := fnOf 1 1 ((sRet (eCall f_is_between (aCons (eVar 0) (aCons (eCon (.int 1)) (aCons (eCon (.int 24)) aNil))))))
theorem ok_is_layer_number (Z : Fx P w K mg base) : DefOk P w K mg base CX0 "is_layer_number" ["value"] 3 f_is_layer_number := by
  obtain ⟨f, fd, hm, D⟩ := Z.d_is_layer_number
  exact def_ok (k := 2) D hm sc_is_layer_number (fun _ _ _ _ _ _ us hl => match us, hl with | [_], _ => rfl) fun cdv A outer s H E hr =>
    (ss_one (ss_ret (s_call (ok_is_between Z) (hr.mono (by decide)) pass0 (a_cons (s_var 0) (a_cons s_int (a_cons (s_gI Z.g_MOST_LAYERS) a_nil))))))
abbrev N_is_stacked : List Str := ["value", "one", "two"]
theorem sc_is_stacked : FnScope N_is_stacked ["value"] (defScope (top 14)) := ⟨rfl, rfl, rfl, by decide +kernel, rfl, by decide +kernel, by decide +kernel⟩
def f_is_stacked : FF := fnOf 1 3 ((sSeq (sIf (tOr' (tNot' (toT (eCall f_is_text_of (aCons (eVar 0) (aCons (eCon (.str [65, 66, 67])) aNil))))) (tNot' (toT (eCall f_is_layer_number (aCons (eCall bLen (aCons (eVar 0) aNil)) aNil))))) (sRet (eCon (.bl false))) sNil) (sRet (eCall bAll (aCons (eFrz (fLc (.tp [(.nm 1), (.nm 2)]) (iZip' (aCons (eVar 0) (aCons (eSl (eVar 0) (oSome (eCon (.int 1))) oNone) aNil))) tYes' (eBin oNe (eVar 1) (eVar 2)) [1, 2])) aNil)))))
theorem ok_is_stacked (Z : Fx P w K mg base) : DefOk P w K mg base CX0 "is_stacked" ["value"] 4 f_is_stacked := by
  obtain ⟨f, fd, hm, D⟩ := Z.d_is_stacked
  exact def_ok (k := 3) D hm sc_is_stacked (fun _ _ _ _ _ _ us hl => match us, hl with | [_], _ => rfl) fun cdv A outer s H E hr =>
    (ss_cons (ss_if (t_w (t_or (t_not (t_val (s_call (ok_is_text_of Z) (hr.mono (by decide)) pass0 (a_cons (s_var 0) (a_cons (s_gS Z.g_LETTERS) a_nil))))) (t_or1 (t_not (t_val (s_call (ok_is_layer_number Z) (hr.mono (by decide)) pass0 (a_cons (s_blt c_len boot_len Z.b_len (a_cons (s_var 0) a_nil)) a_nil))))))) (ss_one (ss_ret s_bl)) ss_nil)
    (ss_one (ss_ret (s_blt (c_all rfl) PyProof.Rows.boot_all Z.b_all (a_cons (s_frz (f_lc rfl sc_is_stacked.nd (si_zip rfl Z.b_zip (a_cons (s_var 0) (a_cons (s_sl (s_var 0) (so_some s_int) so_none) a_nil))) (own := [("one", 1), ("two", 2)]) (show BlkOk N_is_stacked (defScope (top 14)) _ _ from ⟨rfl, by decide +kernel, by decide +kernel, by decide +kernel, by decide +kernel⟩) (by decide) (fun _ _ _ _ _ => (g_tup rfl (g_cons (g_nm 1 sc_is_stacked.nd) (g_cons (g_nm 2 sc_is_stacked.nd) g_nil)))) (fun _ _ _ _ _ => sts_nil) (fun _ _ _ _ _ => (s_cmp (o_ne hr.units) (s_var 1) (s_var 2))))) a_nil)))))
abbrev N_is_closed_one : List Str := ["value"]
theorem sc_is_closed_one : FnScope N_is_closed_one ["value"] (defScope (top 15)) := ⟨rfl, rfl, rfl, by decide +kernel, rfl, by decide +kernel, by decide +kernel⟩
def f_is_closed_one : FF := fnOf 1 1 ((sRet (eAnd (eCall f_is_stacked (aCons (eVar 0) aNil)) (eBin oNe (eBin oIx (eVar 0) (eCon (.int 0))) (eBin oIx (eVar 0) (eNeg (eCon (.int 1))))))))
theorem ok_is_closed_one (Z : Fx P w K mg base) : DefOk P w K mg base CX0 "is_closed_one" ["value"] 5 f_is_closed_one := by
  obtain ⟨f, fd, hm, D⟩ := Z.d_is_closed_one
  exact def_ok (k := 4) D hm sc_is_closed_one (fun _ _ _ _ _ _ us hl => match us, hl with | [_], _ => rfl) fun cdv A outer s H E hr =>
    (ss_one (ss_ret (s_and (s_call (ok_is_stacked Z) (hr.mono (by decide)) pass0 (a_cons (s_var 0) a_nil)) (s_one (s_cmp (o_ne hr.units) (s_ix (s_var 0) s_int) (s_ix (s_var 0) (s_neg s_int)))))))
abbrev N_check_closed : List Str := ["closed"]
theorem sc_check_closed : FnScope N_check_closed ["closed"] (defScope (top 44)) := ⟨rfl, rfl, rfl, by decide +kernel, rfl, by decide +kernel, by decide +kernel⟩
def f_check_closed : FF := fnOf 1 1 ((sIf (tNot' (toT (eCall f_is_closed_one (aCons (eVar 0) aNil)))) sNo sNil))
theorem ok_check_closed (Z : Fx P w K mg base) : DefOk P w K mg base CX0 "check_closed" ["closed"] 6 f_check_closed := by
  obtain ⟨f, fd, hm, D⟩ := Z.d_check_closed
  exact def_ok (k := 5) D hm sc_check_closed (fun _ _ _ _ _ _ us hl => match us, hl with | [_], _ => rfl) fun cdv A outer s H E hr =>
    (ss_one (ss_if (t_not (t_val (s_call (ok_is_closed_one Z) (hr.mono (by decide)) pass0 (a_cons (s_var 0) a_nil)))) (ss_one ss_no) ss_nil))
abbrev N_number_of : List Str := ["letter"]
theorem sc_number_of : FnScope N_number_of ["letter"] (defScope (top 17)) := ⟨rfl, rfl, rfl, by decide +kernel, rfl, by decide +kernel, by decide +kernel⟩
def f_number_of : FF := fnOf 1 1 ((sRet (eMeth "str" bIndex (eCon (.str [65, 66, 67])) (aCons (eVar 0) aNil))))
theorem ok_number_of (Z : Fx P w K mg base) : DefOk P w K mg base CX0 "number_of" ["letter"] 1 f_number_of := by
  obtain ⟨f, fd, hm, D⟩ := Z.d_number_of
  exact def_ok (k := 0) D hm sc_number_of (fun _ _ _ _ _ _ us hl => match us, hl with | [_], _ => rfl) fun cdv A outer s H E hr =>
    (ss_one (ss_ret (s_meth F.plainAttrs_str F.slot_str_index F.type_str_index m_index (s_gS Z.g_LETTERS) (a_cons (s_var 0) a_nil))))
abbrev N_count_triple : List Str := ["closed", "apart", "turned", "rests", "letter", "later", "rest"]
theorem sc_count_triple : FnScope N_count_triple ["closed", "apart"] (defScope (top 47)) := ⟨rfl, rfl, rfl, by decide +kernel, rfl, by decide +kernel, by decide +kernel⟩
def f_count_triple : FF := fnOf 2 7 ((sSeq (sSet 2 (eBin oAdd (eSl (eVar 0) (oSome (eVar 1)) oNone) (eSl (eVar 0) oNone (oSome (eVar 1))))) (sSeq (sSet 3 (eFrz (fLc (.tp [(.nm 4), (.nm 5)]) (iZip' (aCons (eVar 0) (aCons (eVar 2) aNil))) tYes' (eBin oMod (eBin oSub (eCall f_number_of (aCons (eVar 5) aNil)) (eCall f_number_of (aCons (eVar 4) aNil))) (eCall bLen (aCons (eCon (.str [65, 66, 67])) aNil))) [4, 5]))) (sRet (eCall bTupleX (aCons (eFrz (fLc (.nm 6) (iRg (aCons (eCall bLen (aCons (eCon (.str [65, 66, 67])) aNil)) aNil)) tYes' (eMeth "list" bLCount (eVar 3) (aCons (eVar 6) aNil)) [6])) aNil))))))
theorem ok_count_triple (Z : Fx P w K mg base) : DefOk P w K mg base CX0 "count_triple" ["closed", "apart"] 2 f_count_triple := by
  obtain ⟨f, fd, hm, D⟩ := Z.d_count_triple
  exact def_ok (k := 1) D hm sc_count_triple (fun _ _ _ _ _ _ us hl => match us, hl with | [_, _], _ => rfl) fun cdv A outer s H E hr =>
    (ss_cons (ss_set 2 sc_count_triple.nd (s_bin o_add (s_sl (s_var 0) (so_some (s_var 1)) so_none) (s_sl (s_var 0) so_none (so_some (s_var 1)))))
    (ss_cons (ss_set 3 sc_count_triple.nd (s_frz (f_lc rfl sc_count_triple.nd (si_zip rfl Z.b_zip (a_cons (s_var 0) (a_cons (s_var 2) a_nil))) (own := [("letter", 4), ("later", 5)]) (show BlkOk N_count_triple (defScope (top 47)) _ _ from ⟨rfl, by decide +kernel, by decide +kernel, by decide +kernel, by decide +kernel⟩) (by decide) (fun _ _ _ _ _ => (g_tup rfl (g_cons (g_nm 4 sc_count_triple.nd) (g_cons (g_nm 5 sc_count_triple.nd) g_nil)))) (fun _ _ _ _ _ => sts_nil) (fun _ _ _ _ _ => (s_bin o_mod (s_bin o_sub (s_call (ok_number_of Z) (hr.mono (by decide)) pass0 (a_cons (s_var 5) a_nil)) (s_call (ok_number_of Z) (hr.mono (by decide)) pass0 (a_cons (s_var 4) a_nil))) (s_blt c_len boot_len Z.b_len (a_cons (s_gS Z.g_LETTERS) a_nil)))))))
    (ss_one (ss_ret (s_typ (c_tupleX rfl) Pv.boot_tuple Z.b_tuple (a_cons (s_frz (f_lc rfl sc_count_triple.nd (si_range1 rfl Z.b_range (a_cons (s_blt c_len boot_len Z.b_len (a_cons (s_gS Z.g_LETTERS) a_nil)) a_nil)) (own := [("rest", 6)]) (show BlkOk N_count_triple (defScope (top 47)) _ _ from ⟨rfl, by decide +kernel, by decide +kernel, by decide +kernel, by decide +kernel⟩) (by decide) (fun _ _ _ _ _ => (g_nm 6 sc_count_triple.nd)) (fun _ _ _ _ _ => sts_nil) (fun _ _ _ _ _ => (s_meth F.plainAttrs_list F.slot_list_count F.type_list_count m_lcount (s_var 3) (a_cons (s_var 6) a_nil))))) a_nil))))))
abbrev N_layer_counts_by : List Str := ["closed", "apart"]
theorem sc_layer_counts_by : FnScope N_layer_counts_by ["closed"] (defScope (top 48)) := ⟨rfl, rfl, rfl, by decide +kernel, rfl, by decide +kernel, by decide +kernel⟩
def f_layer_counts_by : FF := fnOf 1 2 ((sRet (eFrz (fLc (.nm 1) (iRg (aCons (eCall bLen (aCons (eVar 0) aNil)) aNil)) tYes' (eCall f_count_triple (aCons (eVar 0) (aCons (eVar 1) aNil))) [1]))))
theorem ok_layer_counts_by (Z : Fx P w K mg base) : DefOk P w K mg base CX0 "layer_counts_by" ["closed"] 3 f_layer_counts_by := by
  obtain ⟨f, fd, hm, D⟩ := Z.d_layer_counts_by
  exact def_ok (k := 2) D hm sc_layer_counts_by (fun _ _ _ _ _ _ us hl => match us, hl with | [_], _ => rfl) fun cdv A outer s H E hr =>
    (ss_one (ss_ret (s_frz (f_lc rfl sc_layer_counts_by.nd (si_range1 rfl Z.b_range (a_cons (s_blt c_len boot_len Z.b_len (a_cons (s_var 0) a_nil)) a_nil)) (own := [("apart", 1)]) (show BlkOk N_layer_counts_by (defScope (top 48)) _ _ from ⟨rfl, by decide +kernel, by decide +kernel, by decide +kernel, by decide +kernel⟩) (by decide) (fun _ _ _ _ _ => (g_nm 1 sc_layer_counts_by.nd)) (fun _ _ _ _ _ => sts_nil) (fun _ _ _ _ _ => (s_call (ok_count_triple Z) (hr.mono (by decide)) pass0 (a_cons (s_var 0) (a_cons (s_var 1) a_nil))))))))
abbrev N_layer_counts : List Str := ["closed"]
theorem sc_layer_counts : FnScope N_layer_counts ["closed"] (defScope (top 101)) := ⟨rfl, rfl, rfl, by decide +kernel, rfl, by decide +kernel, by decide +kernel⟩
def f_layer_counts : FF := fnOf 1 1 ((sSeq (sExpr (eCall f_check_closed (aCons (eVar 0) aNil))) (sRet (eCall bTupleX (aCons (eCall f_layer_counts_by (aCons (eVar 0) aNil)) aNil)))))
theorem ok_layer_counts (Z : Fx P w K mg base) : DefOk P w K mg base CX0 "layer_counts" ["closed"] 7 f_layer_counts := by
  obtain ⟨f, fd, hm, D⟩ := Z.d_layer_counts
  exact def_ok (k := 6) D hm sc_layer_counts (fun _ _ _ _ _ _ us hl => match us, hl with | [_], _ => rfl) fun cdv A outer s H E hr =>
    (ss_cons (ss_expr (s_call (ok_check_closed Z) (hr.mono (by decide)) pass0 (a_cons (s_var 0) a_nil)))
    (ss_one (ss_ret (s_typ (c_tupleX rfl) Pv.boot_tuple Z.b_tuple (a_cons (s_call (ok_layer_counts_by Z) (hr.mono (by decide)) pass0 (a_cons (s_var 0) a_nil)) a_nil)))))
abbrev N_like_row : List Str := ["closed", "like", "one", "two"]
theorem sc_like_row : FnScope N_like_row ["closed"] (defScope (top 102)) := ⟨rfl, rfl, rfl, by decide +kernel, rfl, by decide +kernel, by decide +kernel⟩
def f_like_row : FF := fnOf 1 4 ((sSeq (sExpr (eCall f_check_closed (aCons (eVar 0) aNil))) (sRet (eCall bTupleX (aCons (eFrz (fLc (.tp [(.nm 1), (.nm 2), (.nm 3)]) (iVal (eCall f_layer_counts_by (aCons (eVar 0) aNil))) tYes' (eVar 1) [1, 2, 3])) aNil)))))
theorem ok_like_row (Z : Fx P w K mg base) : DefOk P w K mg base CX0 "like_row" ["closed"] 7 f_like_row := by
  obtain ⟨f, fd, hm, D⟩ := Z.d_like_row
  exact def_ok (k := 6) D hm sc_like_row (fun _ _ _ _ _ _ us hl => match us, hl with | [_], _ => rfl) fun cdv A outer s H E hr =>
    (ss_cons (ss_expr (s_call (ok_check_closed Z) (hr.mono (by decide)) pass0 (a_cons (s_var 0) a_nil)))
    (ss_one (ss_ret (s_typ (c_tupleX rfl) Pv.boot_tuple Z.b_tuple (a_cons (s_frz (f_lc rfl sc_like_row.nd (si_val (s_call (ok_layer_counts_by Z) (hr.mono (by decide)) pass0 (a_cons (s_var 0) a_nil))) (own := [("like", 1), ("one", 2), ("two", 3)]) (show BlkOk N_like_row (defScope (top 102)) _ _ from ⟨rfl, by decide +kernel, by decide +kernel, by decide +kernel, by decide +kernel⟩) (by decide) (fun _ _ _ _ _ => (g_tup rfl (g_cons (g_nm 1 sc_like_row.nd) (g_cons (g_nm 2 sc_like_row.nd) (g_cons (g_nm 3 sc_like_row.nd) g_nil))))) (fun _ _ _ _ _ => sts_nil) (fun _ _ _ _ _ => (s_var 1)))) a_nil)))))
abbrev N_check_two_closed : List Str := ["closed", "other"]
theorem sc_check_two_closed : FnScope N_check_two_closed ["closed", "other"] (defScope (top 45)) := ⟨rfl, rfl, rfl, by decide +kernel, rfl, by decide +kernel, by decide +kernel⟩
def f_check_two_closed : FF := fnOf 2 2 ((sSeq (sExpr (eCall f_check_closed (aCons (eVar 0) aNil))) (sIf (tOr' (tNot' (toT (eCall f_is_closed_one (aCons (eVar 1) aNil)))) (toT (eBin oNe (eCall bLen (aCons (eVar 1) aNil)) (eCall bLen (aCons (eVar 0) aNil))))) sNo sNil)))
theorem ok_check_two_closed (Z : Fx P w K mg base) : DefOk P w K mg base CX0 "check_two_closed" ["closed", "other"] 7 f_check_two_closed := by
  obtain ⟨f, fd, hm, D⟩ := Z.d_check_two_closed
  exact def_ok (k := 6) D hm sc_check_two_closed (fun _ _ _ _ _ _ us hl => match us, hl with | [_, _], _ => rfl) fun cdv A outer s H E hr =>
    (ss_cons (ss_expr (s_call (ok_check_closed Z) (hr.mono (by decide)) pass0 (a_cons (s_var 0) a_nil)))
    (ss_one (ss_if (t_w (t_or (t_not (t_val (s_call (ok_is_closed_one Z) (hr.mono (by decide)) pass0 (a_cons (s_var 1) a_nil)))) (t_or1 (t_cmp (o_ne hr.units) (s_blt c_len boot_len Z.b_len (a_cons (s_var 1) a_nil)) (s_blt c_len boot_len Z.b_len (a_cons (s_var 0) a_nil)))))) (ss_one ss_no) ss_nil)))
abbrev N_first_unlike : List Str := ["row", "other", "unlike", "index", "one", "two"]
theorem sc_first_unlike : FnScope N_first_unlike ["row", "other"] (defScope (top 50)) := ⟨rfl, rfl, rfl, by decide +kernel, rfl, by decide +kernel, by decide +kernel⟩
def f_first_unlike : FF := fnOf 2 6 ((sSeq (sSet 2 (eFrz (fLc (.tp [(.nm 3), (.tp [(.nm 4), (.nm 5)])]) (iEz' (aCons (eVar 0) (aCons (eVar 1) aNil))) (toT (eBin oNe (eVar 4) (eVar 5))) (eVar 3) [3, 4, 5]))) (sRet (eIf (toT (eBin oNe (eVar 2) (eFrz (lDisp aNil)))) (eBin oIx (eVar 2) (eCon (.int 0))) (eCon .non)))))
theorem ok_first_unlike (Z : Fx P w K mg base) : DefOk P w K mg base CX0 "first_unlike" ["row", "other"] 1 f_first_unlike := by
  obtain ⟨f, fd, hm, D⟩ := Z.d_first_unlike
  exact def_ok (k := 0) D hm sc_first_unlike (fun _ _ _ _ _ _ us hl => match us, hl with | [_, _], _ => rfl) fun cdv A outer s H E hr =>
    (ss_cons (ss_setLf 2 rfl sc_first_unlike.nd (si_ez rfl Z.b_enumerate rfl Z.b_zip (a_cons (s_var 0) (a_cons (s_var 1) a_nil))) (own := [("index", 3), ("one", 4), ("two", 5)]) (show BlkOk N_first_unlike (defScope (top 50)) _ _ from ⟨rfl, by decide +kernel, by decide +kernel, by decide +kernel, by decide +kernel⟩) (by decide) (fun _ _ _ _ _ => (g_tup rfl (g_cons (g_nm 3 sc_first_unlike.nd) (g_cons (g_tup rfl (g_cons (g_nm 4 sc_first_unlike.nd) (g_cons (g_nm 5 sc_first_unlike.nd) g_nil))) g_nil)))) (fun _ _ _ _ _ => (sts_one (t_cmp (o_ne hr.units) (s_var 4) (s_var 5)))) (fun _ _ _ _ _ => (s_var 3)))
    (ss_one (ss_ret (s_if (t_cmp (o_ne hr.units) (s_var 2) (s_frz (f_lst a_nil))) (s_ix (s_var 2) s_int) s_non))))
abbrev N_exchanged_triples : List Str := ["triples", "like", "one", "two"]
theorem sc_exchanged_triples : FnScope N_exchanged_triples ["triples"] (defScope (top 49)) := ⟨rfl, rfl, rfl, by decide +kernel, rfl, by decide +kernel, by decide +kernel⟩
def f_exchanged_triples : FF := fnOf 1 4 ((sRet (eFrz (fLc (.tp [(.nm 1), (.nm 2), (.nm 3)]) (iVal (eVar 0)) tYes' (eTup (aCons (eVar 1) (aCons (eVar 3) (aCons (eVar 2) aNil)))) [1, 2, 3]))))
theorem ok_exchanged_triples (Z : Fx P w K mg base) : DefOk P w K mg base CX0 "exchanged_triples" ["triples"] 1 f_exchanged_triples := by
  obtain ⟨f, fd, hm, D⟩ := Z.d_exchanged_triples
  exact def_ok (k := 0) D hm sc_exchanged_triples (fun _ _ _ _ _ _ us hl => match us, hl with | [_], _ => rfl) fun cdv A outer s H E hr =>
    (ss_one (ss_ret (s_frz (f_lc rfl sc_exchanged_triples.nd (si_val (s_var 0)) (own := [("like", 1), ("one", 2), ("two", 3)]) (show BlkOk N_exchanged_triples (defScope (top 49)) _ _ from ⟨rfl, by decide +kernel, by decide +kernel, by decide +kernel, by decide +kernel⟩) (by decide) (fun _ _ _ _ _ => (g_tup rfl (g_cons (g_nm 1 sc_exchanged_triples.nd) (g_cons (g_nm 2 sc_exchanged_triples.nd) (g_cons (g_nm 3 sc_exchanged_triples.nd) g_nil))))) (fun _ _ _ _ _ => sts_nil) (fun _ _ _ _ _ => (s_tup (a_cons (s_var 1) (a_cons (s_var 3) (a_cons (s_var 2) a_nil)))))))))
abbrev N_unlike_places_by : List Str := ["closed", "other", "triples", "other_triples", "found"]
theorem sc_unlike_places_by : FnScope N_unlike_places_by ["closed", "other"] (defScope (top 51)) := ⟨rfl, rfl, rfl, by decide +kernel, rfl, by decide +kernel, by decide +kernel⟩
def f_unlike_places_by : FF := fnOf 2 5 ((sSeq (sPar 2 3 (aCons (eCall f_layer_counts_by (aCons (eVar 0) aNil)) (aCons (eCall f_layer_counts_by (aCons (eVar 1) aNil)) aNil))) (sSeq (sSet 4 (eTup (aCons (eCall f_first_unlike (aCons (eVar 2) (aCons (eVar 3) aNil))) (aCons (eCall f_first_unlike (aCons (eVar 2) (aCons (eCall f_exchanged_triples (aCons (eVar 3) aNil)) aNil))) aNil)))) (sRet (eIf (toT (eBin oIn (eCon .non) (eVar 4))) (eCon .non) (eVar 4))))))
theorem ok_unlike_places_by (Z : Fx P w K mg base) : DefOk P w K mg base CX0 "unlike_places_by" ["closed", "other"] 4 f_unlike_places_by := by
  obtain ⟨f, fd, hm, D⟩ := Z.d_unlike_places_by
  exact def_ok (k := 3) D hm sc_unlike_places_by (fun _ _ _ _ _ _ us hl => match us, hl with | [_, _], _ => rfl) fun cdv A outer s H E hr =>
    (ss_cons (ss_par 2 3 rfl sc_unlike_places_by.nd (a_cons (s_call (ok_layer_counts_by Z) (hr.mono (by decide)) pass0 (a_cons (s_var 0) a_nil)) (a_cons (s_call (ok_layer_counts_by Z) (hr.mono (by decide)) pass0 (a_cons (s_var 1) a_nil)) a_nil)))
    (ss_cons (ss_set 4 sc_unlike_places_by.nd (s_tup (a_cons (s_call (ok_first_unlike Z) (hr.mono (by decide)) pass0 (a_cons (s_var 2) (a_cons (s_var 3) a_nil))) (a_cons (s_call (ok_first_unlike Z) (hr.mono (by decide)) pass0 (a_cons (s_var 2) (a_cons (s_call (ok_exchanged_triples Z) (hr.mono (by decide)) pass0 (a_cons (s_var 3) a_nil)) a_nil))) a_nil))))
    (ss_one (ss_ret (s_if (t_cmp (o_in (units65 hr)) s_non (s_var 4) in_mark) s_non (s_var 4))))))
abbrev N_have_like_counts_by : List Str := ["closed", "other"]
theorem sc_have_like_counts_by : FnScope N_have_like_counts_by ["closed", "other"] (defScope (top 53)) := ⟨rfl, rfl, rfl, by decide +kernel, rfl, by decide +kernel, by decide +kernel⟩
def f_have_like_counts_by : FF := fnOf 2 2 ((sRet (eBin oIs (eCall f_unlike_places_by (aCons (eVar 0) (aCons (eVar 1) aNil))) (eCon .non))))
theorem ok_have_like_counts_by (Z : Fx P w K mg base) : DefOk P w K mg base CX0 "have_like_counts_by" ["closed", "other"] 5 f_have_like_counts_by := by
  obtain ⟨f, fd, hm, D⟩ := Z.d_have_like_counts_by
  exact def_ok (k := 4) D hm sc_have_like_counts_by (fun _ _ _ _ _ _ us hl => match us, hl with | [_, _], _ => rfl) fun cdv A outer s H E hr =>
    (ss_one (ss_ret (s_cmp o_is (s_call (ok_unlike_places_by Z) (hr.mono (by decide)) pass0 (a_cons (s_var 0) (a_cons (s_var 1) a_nil))) s_non)))
abbrev N_have_like_counts : List Str := ["closed", "other"]
theorem sc_have_like_counts : FnScope N_have_like_counts ["closed", "other"] (defScope (top 103)) := ⟨rfl, rfl, rfl, by decide +kernel, rfl, by decide +kernel, by decide +kernel⟩
def f_have_like_counts : FF := fnOf 2 2 ((sSeq (sExpr (eCall f_check_two_closed (aCons (eVar 0) (aCons (eVar 1) aNil)))) (sRet (eCall f_have_like_counts_by (aCons (eVar 0) (aCons (eVar 1) aNil))))))
theorem ok_have_like_counts (Z : Fx P w K mg base) : DefOk P w K mg base CX0 "have_like_counts" ["closed", "other"] 8 f_have_like_counts := by
  obtain ⟨f, fd, hm, D⟩ := Z.d_have_like_counts
  exact def_ok (k := 7) D hm sc_have_like_counts (fun _ _ _ _ _ _ us hl => match us, hl with | [_, _], _ => rfl) fun cdv A outer s H E hr =>
    (ss_cons (ss_expr (s_call (ok_check_two_closed Z) (hr.mono (by decide)) pass0 (a_cons (s_var 0) (a_cons (s_var 1) a_nil))))
    (ss_one (ss_ret (s_call (ok_have_like_counts_by Z) (hr.mono (by decide)) pass0 (a_cons (s_var 0) (a_cons (s_var 1) a_nil))))))
theorem kw0_have_like_counts (Z : Fx P w K mg base) : DefKw P w K mg base CX0 "have_like_counts" ["closed", "other"] ["other", "closed"] [1, 0] 8 f_have_like_counts := by
  obtain ⟨f, fd, hm, D⟩ := Z.d_have_like_counts
  exact kw_of (def_run (k := 7) D sc_have_like_counts fun cdv A outer s H E hr =>
    (ss_cons (ss_expr (s_call (ok_check_two_closed Z) (hr.mono (by decide)) pass0 (a_cons (s_var 0) (a_cons (s_var 1) a_nil))))
    (ss_one (ss_ret (s_call (ok_have_like_counts_by Z) (hr.mono (by decide)) pass0 (a_cons (s_var 0) (a_cons (s_var 1) a_nil))))))) D hm (fun _ _ _ _ _ _ ws hl => match ws, hl with | [_, _], _ => rfl)
abbrev N_unlike_places : List Str := ["closed", "other"]
theorem sc_unlike_places : FnScope N_unlike_places ["closed", "other"] (defScope (top 104)) := ⟨rfl, rfl, rfl, by decide +kernel, rfl, by decide +kernel, by decide +kernel⟩
def f_unlike_places : FF := fnOf 2 2 ((sSeq (sExpr (eCall f_check_two_closed (aCons (eVar 0) (aCons (eVar 1) aNil)))) (sRet (eCall f_unlike_places_by (aCons (eVar 0) (aCons (eVar 1) aNil))))))
theorem ok_unlike_places (Z : Fx P w K mg base) : DefOk P w K mg base CX0 "unlike_places" ["closed", "other"] 8 f_unlike_places := by
  obtain ⟨f, fd, hm, D⟩ := Z.d_unlike_places
  exact def_ok (k := 7) D hm sc_unlike_places (fun _ _ _ _ _ _ us hl => match us, hl with | [_, _], _ => rfl) fun cdv A outer s H E hr =>
    (ss_cons (ss_expr (s_call (ok_check_two_closed Z) (hr.mono (by decide)) pass0 (a_cons (s_var 0) (a_cons (s_var 1) a_nil))))
    (ss_one (ss_ret (s_call (ok_unlike_places_by Z) (hr.mono (by decide)) pass0 (a_cons (s_var 0) (a_cons (s_var 1) a_nil))))))
theorem kw0_unlike_places (Z : Fx P w K mg base) : DefKw P w K mg base CX0 "unlike_places" ["closed", "other"] ["other", "closed"] [1, 0] 8 f_unlike_places := by
  obtain ⟨f, fd, hm, D⟩ := Z.d_unlike_places
  exact kw_of (def_run (k := 7) D sc_unlike_places fun cdv A outer s H E hr =>
    (ss_cons (ss_expr (s_call (ok_check_two_closed Z) (hr.mono (by decide)) pass0 (a_cons (s_var 0) (a_cons (s_var 1) a_nil))))
    (ss_one (ss_ret (s_call (ok_unlike_places_by Z) (hr.mono (by decide)) pass0 (a_cons (s_var 0) (a_cons (s_var 1) a_nil))))))) D hm (fun _ _ _ _ _ _ ws hl => match ws, hl with | [_, _], _ => rfl)
abbrev N_check_stacking : List Str := ["stacking"]
theorem sc_check_stacking : FnScope N_check_stacking ["stacking"] (defScope (top 43)) := ⟨rfl, rfl, rfl, by decide +kernel, rfl, by decide +kernel, by decide +kernel⟩
def f_check_stacking : FF := fnOf 1 1 ((sIf (tNot' (toT (eCall f_is_stacked (aCons (eVar 0) aNil)))) sNo sNil))
theorem ok_check_stacking (Z : Fx P w K mg base) : DefOk P w K mg base CX0 "check_stacking" ["stacking"] 5 f_check_stacking := by
  obtain ⟨f, fd, hm, D⟩ := Z.d_check_stacking
  exact def_ok (k := 4) D hm sc_check_stacking (fun _ _ _ _ _ _ us hl => match us, hl with | [_], _ => rfl) fun cdv A outer s H E hr =>
    (ss_one (ss_if (t_not (t_val (s_call (ok_is_stacked Z) (hr.mono (by decide)) pass0 (a_cons (s_var 0) a_nil)))) (ss_one ss_no) ss_nil))
abbrev N_letter_counts : List Str := ["stacking", "letter"]
theorem sc_letter_counts : FnScope N_letter_counts ["stacking"] (defScope (top 105)) := ⟨rfl, rfl, rfl, by decide +kernel, rfl, by decide +kernel, by decide +kernel⟩
def f_letter_counts : FF := fnOf 1 2 ((sSeq (sExpr (eCall f_check_stacking (aCons (eVar 0) aNil))) (sRet (eCall bTupleX (aCons (eFrz (fLc (.nm 1) (iVal (eCon (.str [65, 66, 67]))) tYes' (eMeth "str" bCount (eVar 0) (aCons (eVar 1) aNil)) [1])) aNil)))))
theorem ok_letter_counts (Z : Fx P w K mg base) : DefOk P w K mg base CX0 "letter_counts" ["stacking"] 6 f_letter_counts := by
  obtain ⟨f, fd, hm, D⟩ := Z.d_letter_counts
  exact def_ok (k := 5) D hm sc_letter_counts (fun _ _ _ _ _ _ us hl => match us, hl with | [_], _ => rfl) fun cdv A outer s H E hr =>
    (ss_cons (ss_expr (s_call (ok_check_stacking Z) (hr.mono (by decide)) pass0 (a_cons (s_var 0) a_nil)))
    (ss_one (ss_ret (s_typ (c_tupleX rfl) Pv.boot_tuple Z.b_tuple (a_cons (s_frz (f_lc rfl sc_letter_counts.nd (si_val (s_gS Z.g_LETTERS)) (own := [("letter", 1)]) (show BlkOk N_letter_counts (defScope (top 105)) _ _ from ⟨rfl, by decide +kernel, by decide +kernel, by decide +kernel, by decide +kernel⟩) (by decide) (fun _ _ _ _ _ => (g_nm 1 sc_letter_counts.nd)) (fun _ _ _ _ _ => sts_nil) (fun _ _ _ _ _ => (s_meth F.plainAttrs_str F.slot_str_count F.type_str_count m_count (s_var 0) (a_cons (s_var 1) a_nil))))) a_nil)))))
abbrev N_law_same : List Str := ["told", "due", "alike", "k"]
theorem sc_law_same : FnScope N_law_same ["told", "due"] (defScope (top 110)) := ⟨rfl, rfl, rfl, by decide +kernel, rfl, by decide +kernel, by decide +kernel⟩
def f_law_same : Nat → FF
  | 0 => fnOf 2 4 sNo
  | n + 1 => fnOf 2 4 ((sSeq (sIf (toT (eBin oIs (eVar 1) (eCon .non))) (sRet (eBin oIs (eVar 0) (eCon .non))) sNil) (sSeq (sIf (tOr' (toT (eIsi "tuple" (eVar 1))) (toT (eIsi "list" (eVar 1)))) (sSeq (sSet 2 (eIf (toT (eIsi "tuple" (eVar 1))) (eIsi "tuple" (eVar 0)) (eIsi "list" (eVar 0)))) (sRet (eAnd (eVar 2) (eAnd (eBin oEq (eCall bLen (aCons (eVar 0) aNil)) (eCall bLen (aCons (eVar 1) aNil))) (eCall bAll (aCons (eFrz (fLc (.nm 3) (iRg (aCons (eCall bLen (aCons (eVar 1) aNil)) aNil)) tYes' (eCall (f_law_same n) (aCons (eBin oIx (eVar 0) (eVar 3)) (aCons (eBin oIx (eVar 1) (eVar 3)) aNil))) [3])) aNil)))))) sNil) (sSeq (sIf (toT (eIsi "int" (eVar 1))) (sRet (eAnd (eIsi "int" (eVar 0)) (eAnd (eBin oEq (eIsi "bool" (eVar 0)) (eIsi "bool" (eVar 1))) (eBin oEq (eVar 0) (eVar 1))))) sNil) (sRet (eAnd (eIsi "str" (eVar 1)) (eAnd (eIsi "str" (eVar 0)) (eBin oEq (eVar 0) (eVar 1)))))))))
theorem ok_law_same (Z : Fx P w K mg base) : ∀ n : Nat, DefOk P w K mg base CX0 "_law_same" ["told", "due"] (n + 1) (f_law_same n)
  | 0 => by
    obtain ⟨f, fd, hm, D⟩ := Z.d_law_same
    exact (def_ok (k := 0) D hm sc_law_same (fun _ _ _ _ _ _ us hl => match us, hl with | [_, _], _ => rfl) fun _ _ _ _ _ _ _ => ss_never).mono (by omega)
  | n + 1 => by
    have ih := ok_law_same Z n
    obtain ⟨f, fd, hm, D⟩ := Z.d_law_same
    exact def_ok (k := n + 1) D hm sc_law_same (fun _ _ _ _ _ _ us hl => match us, hl with | [_, _], _ => rfl) fun cdv A outer s H E hr =>
      (ss_cons (ss_if (t_cmp o_is (s_var 1) s_non) (ss_one (ss_ret (s_cmp o_is (s_var 0) s_non))) ss_nil)
    (ss_cons (ss_if (t_w (t_or (t_val (s_isi Z.b_isinstance (s_var 1) Z.b_tuple PyProof.Rows.boot_tuple)) (t_or1 (t_val (s_isi Z.b_isinstance (s_var 1) Z.b_list PyProof.Rows.boot_list))))) (ss_cons (ss_set 2 sc_law_same.nd (s_if (t_val (s_isi Z.b_isinstance (s_var 1) Z.b_tuple PyProof.Rows.boot_tuple)) (s_isi Z.b_isinstance (s_var 0) Z.b_tuple PyProof.Rows.boot_tuple) (s_isi Z.b_isinstance (s_var 0) Z.b_list PyProof.Rows.boot_list)))
    (ss_one (ss_ret (s_and (s_var 2) (s_and (s_cmp (o_eq hr.units) (s_blt c_len boot_len Z.b_len (a_cons (s_var 0) a_nil)) (s_blt c_len boot_len Z.b_len (a_cons (s_var 1) a_nil))) (s_one (s_blt (c_all rfl) PyProof.Rows.boot_all Z.b_all (a_cons (s_frz (f_lc rfl sc_law_same.nd (si_range1 rfl Z.b_range (a_cons (s_blt c_len boot_len Z.b_len (a_cons (s_var 1) a_nil)) a_nil)) (own := [("k", 3)]) (show BlkOk N_law_same (defScope (top 110)) _ _ from ⟨rfl, by decide +kernel, by decide +kernel, by decide +kernel, by decide +kernel⟩) (by decide) (fun _ _ _ _ _ => (g_nm 3 sc_law_same.nd)) (fun _ _ _ _ _ => sts_nil) (fun _ _ _ _ _ => (s_call ih (hr.mono (by omega)) pass0 (a_cons (s_ix (s_var 0) (s_var 3)) (a_cons (s_ix (s_var 1) (s_var 3)) a_nil)))))) a_nil)))))))) ss_nil)
    (ss_cons (ss_if (t_val (s_isi Z.b_isinstance (s_var 1) Z.b_int PyProof.Rows.boot_int)) (ss_one (ss_ret (s_and (s_isi Z.b_isinstance (s_var 0) Z.b_int PyProof.Rows.boot_int) (s_and (s_cmp (o_eq hr.units) (s_isi Z.b_isinstance (s_var 0) Z.b_bool PyProof.Rows.boot_bool) (s_isi Z.b_isinstance (s_var 1) Z.b_bool PyProof.Rows.boot_bool)) (s_one (s_cmp (o_eq hr.units) (s_var 0) (s_var 1))))))) ss_nil)
    (ss_one (ss_ret (s_and (s_isi Z.b_isinstance (s_var 1) Z.b_str PyProof.Rows.boot_str) (s_and (s_isi Z.b_isinstance (s_var 0) Z.b_str PyProof.Rows.boot_str) (s_one (s_cmp (o_eq hr.units) (s_var 0) (s_var 1))))))))))
abbrev N_certify_counts : List Str := ["closed", "other", "places"]
theorem sc_certify_counts : FnScope N_certify_counts ["closed", "other"] (defScope (top 80)) := ⟨rfl, rfl, rfl, by decide +kernel, rfl, by decide +kernel, by decide +kernel⟩
def f_certify_counts : FF := fnOf 2 3 ((sSeq (sExpr (eCall f_check_two_closed (aCons (eVar 0) (aCons (eVar 1) aNil)))) (sSeq (sSet 2 (eCall f_unlike_places_by (aCons (eVar 0) (aCons (eVar 1) aNil)))) (sRet (eIf (toT (eBin oIs (eVar 2) (eCon .non))) (eTup (aCons (eTup (aCons (eCon (.str [108, 105, 107, 101, 32, 99, 111, 117, 110, 116, 115])) (aCons (eVar 0) (aCons (eVar 1) aNil)))) (aCons (eTup aNil) aNil))) (eTup (aCons (eTup (aCons (eCon (.str [117, 110, 108, 105, 107, 101, 32, 99, 111, 117, 110, 116, 115])) (aCons (eVar 0) (aCons (eVar 1) aNil)))) (aCons (eVar 2) aNil))))))))
theorem ok_certify_counts (Z : Fx P w K mg base) : DefOk P w K mg base CX0 "certify_counts" ["closed", "other"] 8 f_certify_counts := by
  obtain ⟨f, fd, hm, D⟩ := Z.d_certify_counts
  exact def_ok (k := 7) D hm sc_certify_counts (fun _ _ _ _ _ _ us hl => match us, hl with | [_, _], _ => rfl) fun cdv A outer s H E hr =>
    (ss_cons (ss_expr (s_call (ok_check_two_closed Z) (hr.mono (by decide)) pass0 (a_cons (s_var 0) (a_cons (s_var 1) a_nil))))
    (ss_cons (ss_set 2 sc_certify_counts.nd (s_call (ok_unlike_places_by Z) (hr.mono (by decide)) pass0 (a_cons (s_var 0) (a_cons (s_var 1) a_nil))))
    (ss_one (ss_ret (s_if (t_cmp o_is (s_var 2) s_non) (s_tup (a_cons (s_tup (a_cons s_str (a_cons (s_var 0) (a_cons (s_var 1) a_nil)))) (a_cons (s_tup a_nil) a_nil))) (s_tup (a_cons (s_tup (a_cons s_str (a_cons (s_var 0) (a_cons (s_var 1) a_nil)))) (a_cons (s_var 2) a_nil))))))))
abbrev N_tells_two_closed : List Str := ["parts", "closed"]
theorem sc_tells_two_closed : FnScope N_tells_two_closed ["parts"] (defScope (top 73)) := ⟨rfl, rfl, rfl, by decide +kernel, rfl, by decide +kernel, by decide +kernel⟩
def f_tells_two_closed : FF := fnOf 1 2 ((sRet (eAnd (eCall bAll (aCons (eFrz (fLc (.nm 1) (iVal (eVar 0)) tYes' (eCall f_is_closed_one (aCons (eVar 1) aNil)) [1])) aNil)) (eBin oEq (eCall bLen (aCons (eBin oIx (eVar 0) (eCon (.int 0))) aNil)) (eCall bLen (aCons (eBin oIx (eVar 0) (eCon (.int 1))) aNil))))))
theorem ok_tells_two_closed (Z : Fx P w K mg base) : DefOk P w K mg base CX0 "tells_two_closed" ["parts"] 6 f_tells_two_closed := by
  obtain ⟨f, fd, hm, D⟩ := Z.d_tells_two_closed
  exact def_ok (k := 5) D hm sc_tells_two_closed (fun _ _ _ _ _ _ us hl => match us, hl with | [_], _ => rfl) fun cdv A outer s H E hr =>
    (ss_one (ss_ret (s_and (s_blt (c_all rfl) PyProof.Rows.boot_all Z.b_all (a_cons (s_frz (f_lc rfl sc_tells_two_closed.nd (si_val (s_var 0)) (own := [("closed", 1)]) (show BlkOk N_tells_two_closed (defScope (top 73)) _ _ from ⟨rfl, by decide +kernel, by decide +kernel, by decide +kernel, by decide +kernel⟩) (by decide) (fun _ _ _ _ _ => (g_nm 1 sc_tells_two_closed.nd)) (fun _ _ _ _ _ => sts_nil) (fun _ _ _ _ _ => (s_call (ok_is_closed_one Z) (hr.mono (by decide)) pass0 (a_cons (s_var 1) a_nil))))) a_nil)) (s_one (s_cmp (o_eq hr.units) (s_blt c_len boot_len Z.b_len (a_cons (s_ix (s_var 0) s_int) a_nil)) (s_blt c_len boot_len Z.b_len (a_cons (s_ix (s_var 0) s_int) a_nil)))))))
def tb_FORMS (l : List Nat) : Option (Int × FF) := if l = [108, 105, 107, 101, 32, 99, 111, 117, 110, 116, 115] then some (2, f_tells_two_closed) else if l = [117, 110, 108, 105, 107, 101, 32, 99, 111, 117, 110, 116, 115] then some (2, f_tells_two_closed) else none
abbrev N_is_claim : List Str := ["value", "many", "is_told"]
theorem sc_is_claim : FnScope N_is_claim ["value"] (defScope (top 78)) := ⟨rfl, rfl, rfl, by decide +kernel, rfl, by decide +kernel, by decide +kernel⟩
def f_is_claim : FF := fnOf 1 3 ((sSeq (sIf (tOr' (tNot' (toT (eIsi "tuple" (eVar 0)))) (tOr' (toT (eBin oEq (eVar 0) (eTup aNil))) (tOr' (tNot' (toT (eIsi "str" (eBin oIx (eVar 0) (eCon (.int 0)))))) (toT (eNInT (codesOf ["round", "not round", "alike", "not alike", "slips", "like counts", "unlike counts", "mirror", "no mirror", "least", "not least", "own", "again"]) (eBin oIx (eVar 0) (eCon (.int 0)))))))) (sRet (eCon (.bl false))) sNil) (dropE 2 (sForm tb_FORMS (eBin oIx (eVar 0) (eCon (.int 0))) 1 (eBin oEq (eCall bLen (aCons (eVar 0) aNil)) (eBin oAdd (eVar 1) (eCon (.int 1)))) (aCons (eSl (eVar 0) (oSome (eCon (.int 1))) oNone) aNil)))))
theorem ok_is_claim (Z : Fx P w K mg base) : DefOk P w K mg base CX0 "is_claim" ["value"] 7 f_is_claim := by
  obtain ⟨f, fd, hm, D⟩ := Z.d_is_claim
  exact def_ok (k := 6) D hm sc_is_claim (fun _ _ _ _ _ _ us hl => match us, hl with | [_], _ => rfl) fun cdv A outer s H E hr =>
    (ss_cons (ss_if (t_w (t_or (t_not (t_val (s_isi Z.b_isinstance (s_var 0) Z.b_tuple PyProof.Rows.boot_tuple))) (t_or (t_cmp (o_eq hr.units) (s_var 0) (s_tup a_nil)) (t_or (t_not (t_val (s_isi Z.b_isinstance (s_ix (s_var 0) s_int) Z.b_str PyProof.Rows.boot_str))) (t_or1 (by obtain ⟨d, hm, T, _, _⟩ := Z.t_FORMS; exact t_ninT T hm (s_ix (s_var 0) s_int))))))) (ss_one (ss_ret s_bl)) ss_nil)
    (by
    obtain ⟨d, hm, T, c0, c1⟩ := Z.t_FORMS
    exact ss_form 1 2 T hm rfl sc_is_claim.nd (s_ix (s_var 0) s_int) (s_cmp (o_eq hr.units) (s_blt c_len boot_len Z.b_len (a_cons (s_var 0) a_nil)) (s_bin o_add (s_var 1) s_int)) (a_cons (s_sl (s_var 0) (so_some s_int) so_none) a_nil) pass0 (fun l F h => by
      unfold tb_FORMS at h
      split at h
      · rename_i e; subst e; obtain ⟨t, f, h1, h2, h3⟩ := c0; cases h; exact ⟨"like counts", t, f, rfl, h2, h3, .of (ok_tells_two_closed Z) h1 (hr.mono (by decide))⟩
      split at h
      · rename_i e; subst e; obtain ⟨t, f, h1, h2, h3⟩ := c1; cases h; exact ⟨"unlike counts", t, f, rfl, h2, h3, .of (ok_tells_two_closed Z) h1 (hr.mono (by decide))⟩
      cases h)))
def tb_OF_ONE (l : List Nat) : Option FF := none
abbrev N_is_tuple_of : List Str := ["value", "many"]
theorem sc_is_tuple_of : FnScope N_is_tuple_of ["value", "many"] (defScope (top 4)) := ⟨rfl, rfl, rfl, by decide +kernel, rfl, by decide +kernel, by decide +kernel⟩
def f_is_tuple_of : FF := fnOf 2 2 ((sRet (eAnd (eIsi "tuple" (eVar 0)) (eBin oEq (eCall bLen (aCons (eVar 0) aNil)) (eVar 1)))))
theorem ok_is_tuple_of (Z : Fx P w K mg base) : DefOk P w K mg base CX0 "is_tuple_of" ["value", "many"] 1 f_is_tuple_of := by
  obtain ⟨f, fd, hm, D⟩ := Z.d_is_tuple_of
  exact def_ok (k := 0) D hm sc_is_tuple_of (fun _ _ _ _ _ _ us hl => match us, hl with | [_, _], _ => rfl) fun cdv A outer s H E hr =>
    (ss_one (ss_ret (s_and (s_isi Z.b_isinstance (s_var 0) Z.b_tuple PyProof.Rows.boot_tuple) (s_one (s_cmp (o_eq hr.units) (s_blt c_len boot_len Z.b_len (a_cons (s_var 0) a_nil)) (s_var 1))))))
abbrev N_is_nothing : List Str := ["paper"]
theorem sc_is_nothing : FnScope N_is_nothing ["paper"] (defScope (top 82)) := ⟨rfl, rfl, rfl, by decide +kernel, rfl, by decide +kernel, by decide +kernel⟩
def f_is_nothing : FF := fnOf 1 1 ((sRet (eCall f_is_tuple_of (aCons (eVar 0) (aCons (eCon (.int 0)) aNil)))))
theorem ok_is_nothing (Z : Fx P w K mg base) : DefOk P w K mg base CX0 "is_nothing" ["paper"] 2 f_is_nothing := by
  obtain ⟨f, fd, hm, D⟩ := Z.d_is_nothing
  exact def_ok (k := 1) D hm sc_is_nothing (fun _ _ _ _ _ _ us hl => match us, hl with | [_], _ => rfl) fun cdv A outer s H E hr =>
    (ss_one (ss_ret (s_call (ok_is_tuple_of Z) (hr.mono (by decide)) pass0 (a_cons (s_var 0) (a_cons s_int a_nil)))))
abbrev N_shows_like_counts : List Str := ["closed", "other", "paper"]
theorem sc_shows_like_counts : FnScope N_shows_like_counts ["closed", "other", "paper"] (defScope (top 88)) := ⟨rfl, rfl, rfl, by decide +kernel, rfl, by decide +kernel, by decide +kernel⟩
def f_shows_like_counts : FF := fnOf 3 3 ((sRet (eAnd (eCall f_is_nothing (aCons (eVar 2) aNil)) (eCall f_have_like_counts_by (aCons (eVar 0) (aCons (eVar 1) aNil))))))
theorem ok_shows_like_counts (Z : Fx P w K mg base) : DefOk P w K mg base CX0 "shows_like_counts" ["closed", "other", "paper"] 6 f_shows_like_counts := by
  obtain ⟨f, fd, hm, D⟩ := Z.d_shows_like_counts
  exact def_ok (k := 5) D hm sc_shows_like_counts (fun _ _ _ _ _ _ us hl => match us, hl with | [_, _, _], _ => rfl) fun cdv A outer s H E hr =>
    (ss_one (ss_ret (s_and (s_call (ok_is_nothing Z) (hr.mono (by decide)) pass0 (a_cons (s_var 2) a_nil)) (s_one (s_call (ok_have_like_counts_by Z) (hr.mono (by decide)) pass0 (a_cons (s_var 0) (a_cons (s_var 1) a_nil)))))))
abbrev N_are_unlike_at : List Str := ["closed", "other", "apart", "is_exchanged", "triples"]
theorem sc_are_unlike_at : FnScope N_are_unlike_at ["closed", "other", "apart", "is_exchanged"] (defScope (top 52)) := ⟨rfl, rfl, rfl, by decide +kernel, rfl, by decide +kernel, by decide +kernel⟩
def f_are_unlike_at : FF := fnOf 4 5 ((sSeq (sSet 4 (eFrz (lDisp (aCons (eCall f_count_triple (aCons (eVar 1) (aCons (eVar 2) aNil))) aNil)))) (sRet (eBin oNe (eFrz (lDisp (aCons (eCall f_count_triple (aCons (eVar 0) (aCons (eVar 2) aNil))) aNil))) (eIf (toT (eVar 3)) (eCall f_exchanged_triples (aCons (eVar 4) aNil)) (eVar 4))))))
theorem ok_are_unlike_at (Z : Fx P w K mg base) : DefOk P w K mg base CX0 "are_unlike_at" ["closed", "other", "apart", "is_exchanged"] 3 f_are_unlike_at := by
  obtain ⟨f, fd, hm, D⟩ := Z.d_are_unlike_at
  exact def_ok (k := 2) D hm sc_are_unlike_at (fun _ _ _ _ _ _ us hl => match us, hl with | [_, _, _, _], _ => rfl) fun cdv A outer s H E hr =>
    (ss_cons (ss_set 4 sc_are_unlike_at.nd (s_frz (f_lst (a_cons (s_call (ok_count_triple Z) (hr.mono (by decide)) pass0 (a_cons (s_var 1) (a_cons (s_var 2) a_nil))) a_nil))))
    (ss_one (ss_ret (s_cmp (o_ne hr.units) (s_frz (f_lst (a_cons (s_call (ok_count_triple Z) (hr.mono (by decide)) pass0 (a_cons (s_var 0) (a_cons (s_var 2) a_nil))) a_nil))) (s_if (t_val (s_var 3)) (s_call (ok_exchanged_triples Z) (hr.mono (by decide)) pass0 (a_cons (s_var 4) a_nil)) (s_var 4))))))
abbrev N_shows_unlike_counts : List Str := ["closed", "other", "paper", "each"]
theorem sc_shows_unlike_counts : FnScope N_shows_unlike_counts ["closed", "other", "paper"] (defScope (top 89)) := ⟨rfl, rfl, rfl, by decide +kernel, rfl, by decide +kernel, by decide +kernel⟩
def f_shows_unlike_counts : FF := fnOf 3 4 ((sSeq (sIf (tOr' (tNot' (toT (eCall f_is_tuple_of (aCons (eVar 2) (aCons (eCon (.int 2)) aNil))))) (tNot' (toT (eCall bAll (aCons (eFrz (fLc (.nm 3) (iVal (eVar 2)) tYes' (eCall f_is_between (aCons (eVar 3) (aCons (eCon (.int 0)) (aCons (eBin oSub (eCall bLen (aCons (eVar 0) aNil)) (eCon (.int 1))) aNil)))) [3])) aNil))))) (sRet (eCon (.bl false))) sNil) (sRet (eAnd (eCall f_are_unlike_at (aCons (eVar 0) (aCons (eVar 1) (aCons (eBin oIx (eVar 2) (eCon (.int 0))) (aCons (eCon (.bl false)) aNil))))) (eCall f_are_unlike_at (aCons (eVar 0) (aCons (eVar 1) (aCons (eBin oIx (eVar 2) (eCon (.int 1))) (aCons (eCon (.bl true)) aNil)))))))))
theorem ok_shows_unlike_counts (Z : Fx P w K mg base) : DefOk P w K mg base CX0 "shows_unlike_counts" ["closed", "other", "paper"] 4 f_shows_unlike_counts := by
  obtain ⟨f, fd, hm, D⟩ := Z.d_shows_unlike_counts
  exact def_ok (k := 3) D hm sc_shows_unlike_counts (fun _ _ _ _ _ _ us hl => match us, hl with | [_, _, _], _ => rfl) fun cdv A outer s H E hr =>
    (ss_cons (ss_if (t_w (t_or (t_not (t_val (s_call (ok_is_tuple_of Z) (hr.mono (by decide)) pass0 (a_cons (s_var 2) (a_cons s_int a_nil))))) (t_or1 (t_not (t_val (s_blt (c_all rfl) PyProof.Rows.boot_all Z.b_all (a_cons (s_frz (f_lc rfl sc_shows_unlike_counts.nd (si_val (s_var 2)) (own := [("each", 3)]) (show BlkOk N_shows_unlike_counts (defScope (top 89)) _ _ from ⟨rfl, by decide +kernel, by decide +kernel, by decide +kernel, by decide +kernel⟩) (by decide) (fun _ _ _ _ _ => (g_nm 3 sc_shows_unlike_counts.nd)) (fun _ _ _ _ _ => sts_nil) (fun _ _ _ _ _ => (s_call (ok_is_between Z) (hr.mono (by decide)) pass0 (a_cons (s_var 3) (a_cons s_int (a_cons (s_bin o_sub (s_blt c_len boot_len Z.b_len (a_cons (s_var 0) a_nil)) s_int) a_nil))))))) a_nil))))))) (ss_one (ss_ret s_bl)) ss_nil)
    (ss_one (ss_ret (s_and (s_call (ok_are_unlike_at Z) (hr.mono (by decide)) pass0 (a_cons (s_var 0) (a_cons (s_var 1) (a_cons (s_ix (s_var 2) s_int) (a_cons s_bl a_nil))))) (s_one (s_call (ok_are_unlike_at Z) (hr.mono (by decide)) pass0 (a_cons (s_var 0) (a_cons (s_var 1) (a_cons (s_ix (s_var 2) s_int) (a_cons s_bl a_nil))))))))))
def tb_OF_TWO (l : List Nat) : Option FF := if l = [108, 105, 107, 101, 32, 99, 111, 117, 110, 116, 115] then some f_shows_like_counts else if l = [117, 110, 108, 105, 107, 101, 32, 99, 111, 117, 110, 116, 115] then some f_shows_unlike_counts else none
abbrev N_accepts : List Str := ["claim", "paper", "word", "judge"]
theorem sc_accepts : FnScope N_accepts ["claim", "paper"] (defScope (top 99)) := ⟨rfl, rfl, rfl, by decide +kernel, rfl, by decide +kernel, by decide +kernel⟩
def f_accepts : FF := fnOf 2 4 ((sSeq (sIf (tNot' (toT (eCall f_is_claim (aCons (eVar 0) aNil)))) (sRet (eCon (.bl false))) sNil) (sSeq (sSet 2 (eBin oIx (eVar 0) (eCon (.int 0)))) (sSeq (sIf (toT (eInT (codesOf ["round", "not round", "mirror", "no mirror", "own", "again"]) (eVar 2))) (dropE 3 (sDisp tb_OF_ONE (eVar 2) (aCons (eBin oIx (eVar 0) (eCon (.int 1))) (aCons (eVar 1) aNil)))) sNil) (sSeq (sIf (toT (eInT (codesOf ["alike", "not alike", "like counts", "unlike counts", "least", "not least"]) (eVar 2))) (dropE 3 (sDisp tb_OF_TWO (eVar 2) (aCons (eBin oIx (eVar 0) (eCon (.int 1))) (aCons (eBin oIx (eVar 0) (eCon (.int 2))) (aCons (eVar 1) aNil))))) sNil) sNo)))))
theorem ok_accepts (Z : Fx P w K mg base) : DefOk P w K mg base CX0 "accepts" ["claim", "paper"] 8 f_accepts := by
  obtain ⟨f, fd, hm, D⟩ := Z.d_accepts
  exact def_ok (k := 7) D hm sc_accepts (fun _ _ _ _ _ _ us hl => match us, hl with | [_, _], _ => rfl) fun cdv A outer s H E hr =>
    (ss_cons (ss_if (t_not (t_val (s_call (ok_is_claim Z) (hr.mono (by decide)) pass0 (a_cons (s_var 0) a_nil)))) (ss_one (ss_ret s_bl)) ss_nil)
    (ss_cons (ss_set 2 sc_accepts.nd (s_ix (s_var 0) s_int))
    (ss_cons (ss_if (by obtain ⟨d, hm, T⟩ := Z.t_OF_ONE; exact t_inT T hm (s_var 2)) (by
    obtain ⟨d, hm, T⟩ := Z.t_OF_ONE
    exact ss_disp 3 T hm sc_accepts.nd (s_var 2) (a_cons (s_ix (s_var 0) s_int) (a_cons (s_var 1) a_nil)) pass0 (fun l F h => by
      unfold tb_OF_ONE at h
      cases h)) ss_nil)
    (ss_cons (ss_if (by obtain ⟨d, hm, T, _, _⟩ := Z.t_OF_TWO; exact t_inT T hm (s_var 2)) (by
    obtain ⟨d, hm, T, c0, c1⟩ := Z.t_OF_TWO
    exact ss_disp 3 T hm sc_accepts.nd (s_var 2) (a_cons (s_ix (s_var 0) s_int) (a_cons (s_ix (s_var 0) s_int) (a_cons (s_var 1) a_nil))) pass0 (fun l F h => by
      unfold tb_OF_TWO at h
      split at h
      · rename_i e; subst e; obtain ⟨f, h1, h2⟩ := c0; cases h; exact ⟨"like counts", f, rfl, h2, .of (ok_shows_like_counts Z) h1 (hr.mono (by decide))⟩
      split at h
      · rename_i e; subst e; obtain ⟨f, h1, h2⟩ := c1; cases h; exact ⟨"unlike counts", f, rfl, h2, .of (ok_shows_unlike_counts Z) h1 (hr.mono (by decide))⟩
      cases h)) ss_nil)
    (ss_one ss_no)))))
theorem kw0_accepts (Z : Fx P w K mg base) : DefKw P w K mg base CX0 "accepts" ["claim", "paper"] ["paper", "claim"] [1, 0] 8 f_accepts := by
  obtain ⟨f, fd, hm, D⟩ := Z.d_accepts
  exact kw_of (def_run (k := 7) D sc_accepts fun cdv A outer s H E hr =>
    (ss_cons (ss_if (t_not (t_val (s_call (ok_is_claim Z) (hr.mono (by decide)) pass0 (a_cons (s_var 0) a_nil)))) (ss_one (ss_ret s_bl)) ss_nil)
    (ss_cons (ss_set 2 sc_accepts.nd (s_ix (s_var 0) s_int))
    (ss_cons (ss_if (by obtain ⟨d, hm, T⟩ := Z.t_OF_ONE; exact t_inT T hm (s_var 2)) (by
    obtain ⟨d, hm, T⟩ := Z.t_OF_ONE
    exact ss_disp 3 T hm sc_accepts.nd (s_var 2) (a_cons (s_ix (s_var 0) s_int) (a_cons (s_var 1) a_nil)) pass0 (fun l F h => by
      unfold tb_OF_ONE at h
      cases h)) ss_nil)
    (ss_cons (ss_if (by obtain ⟨d, hm, T, _, _⟩ := Z.t_OF_TWO; exact t_inT T hm (s_var 2)) (by
    obtain ⟨d, hm, T, c0, c1⟩ := Z.t_OF_TWO
    exact ss_disp 3 T hm sc_accepts.nd (s_var 2) (a_cons (s_ix (s_var 0) s_int) (a_cons (s_ix (s_var 0) s_int) (a_cons (s_var 1) a_nil))) pass0 (fun l F h => by
      unfold tb_OF_TWO at h
      split at h
      · rename_i e; subst e; obtain ⟨f, h1, h2⟩ := c0; cases h; exact ⟨"like counts", f, rfl, h2, .of (ok_shows_like_counts Z) h1 (hr.mono (by decide))⟩
      split at h
      · rename_i e; subst e; obtain ⟨f, h1, h2⟩ := c1; cases h; exact ⟨"unlike counts", f, rfl, h2, .of (ok_shows_unlike_counts Z) h1 (hr.mono (by decide))⟩
      cases h)) ss_nil)
    (ss_one ss_no)))))) D hm (fun _ _ _ _ _ _ ws hl => match ws, hl with | [_, _], _ => rfl)
abbrev N_law_is_whole : List Str := ["value"]
theorem sc_law_is_whole : FnScope N_law_is_whole ["value"] (defScope (top 111)) := ⟨rfl, rfl, rfl, by decide +kernel, rfl, by decide +kernel, by decide +kernel⟩
def f_law_is_whole : FF := fnOf 1 1 ((sRet (eAnd (eIsi "int" (eVar 0)) (eNot (eIsi "bool" (eVar 0))))))
theorem ok_law_is_whole (Z : Fx P w K mg base) : DefOk P w K mg base CX0 "_law_is_whole" ["value"] 1 f_law_is_whole := by
  obtain ⟨f, fd, hm, D⟩ := Z.d_law_is_whole
  exact def_ok (k := 0) D hm sc_law_is_whole (fun _ _ _ _ _ _ us hl => match us, hl with | [_], _ => rfl) fun cdv A outer s H E hr =>
    (ss_one (ss_ret (s_and (s_isi Z.b_isinstance (s_var 0) Z.b_int PyProof.Rows.boot_int) (s_one (s_not (s_isi Z.b_isinstance (s_var 0) Z.b_bool PyProof.Rows.boot_bool))))))
abbrev N_law_is_bar : List Str := ["rows", "value", "k"]
theorem sc_law_is_bar : FnScope N_law_is_bar ["rows", "value"] (defScope (top 121)) := ⟨rfl, rfl, rfl, by decide +kernel, rfl, by decide +kernel, by decide +kernel⟩
def f_law_is_bar : FF := fnOf 2 3 ((sSeq (sIf (tOr' (tNot' (toT (eIsi "tuple" (eVar 1)))) (toT (eBin oNe (eCall bLen (aCons (eVar 1) aNil)) (eCon (.int 2))))) (sRet (eCon (.bl false))) sNil) (sSeq (sIf (tNot' (toT (eCall bAll (aCons (eFrz (fLc (.nm 2) (iVal (eVar 1)) tYes' (eAnd (eCall f_law_is_whole (aCons (eVar 2) aNil)) (eChain oLe oLt (eCon (.int 0)) (eVar 2) (eCall bLen (aCons (eBin oIx (eVar 0) (eCon (.int 0))) aNil)))) [2])) aNil)))) (sRet (eCon (.bl false))) sNil) (sRet (eAnd (eBin oNe (eBin oIx (eBin oIx (eVar 0) (eCon (.int 0))) (eBin oIx (eVar 1) (eCon (.int 0)))) (eBin oIx (eBin oIx (eVar 0) (eCon (.int 1))) (eBin oIx (eVar 1) (eCon (.int 0))))) (eBin oNe (eBin oIx (eBin oIx (eVar 0) (eCon (.int 0))) (eBin oIx (eVar 1) (eCon (.int 1)))) (eBin oIx (eBin oIx (eVar 0) (eCon (.int 2))) (eBin oIx (eVar 1) (eCon (.int 1))))))))))
theorem ok_law_is_bar (Z : Fx P w K mg base) : DefOk P w K mg base CX0 "_law_is_bar" ["rows", "value"] 2 f_law_is_bar := by
  obtain ⟨f, fd, hm, D⟩ := Z.d_law_is_bar
  exact def_ok (k := 1) D hm sc_law_is_bar (fun _ _ _ _ _ _ us hl => match us, hl with | [_, _], _ => rfl) fun cdv A outer s H E hr =>
    (ss_cons (ss_if (t_w (t_or (t_not (t_val (s_isi Z.b_isinstance (s_var 1) Z.b_tuple PyProof.Rows.boot_tuple))) (t_or1 (t_cmp (o_ne hr.units) (s_blt c_len boot_len Z.b_len (a_cons (s_var 1) a_nil)) s_int)))) (ss_one (ss_ret s_bl)) ss_nil)
    (ss_cons (ss_if (t_not (t_val (s_blt (c_all rfl) PyProof.Rows.boot_all Z.b_all (a_cons (s_frz (f_lc rfl sc_law_is_bar.nd (si_val (s_var 1)) (own := [("k", 2)]) (show BlkOk N_law_is_bar (defScope (top 121)) _ _ from ⟨rfl, by decide +kernel, by decide +kernel, by decide +kernel, by decide +kernel⟩) (by decide) (fun _ _ _ _ _ => (g_nm 2 sc_law_is_bar.nd)) (fun _ _ _ _ _ => sts_nil) (fun _ _ _ _ _ => (s_and (s_call (ok_law_is_whole Z) (hr.mono (by decide)) pass0 (a_cons (s_var 2) a_nil)) (s_one (s_chain o_le o_lt s_int (s_var 2) (s_blt c_len boot_len Z.b_len (a_cons (s_ix (s_var 0) s_int) a_nil)))))))) a_nil)))) (ss_one (ss_ret s_bl)) ss_nil)
    (ss_one (ss_ret (s_and (s_cmp (o_ne hr.units) (s_ix (s_ix (s_var 0) s_int) (s_ix (s_var 1) s_int)) (s_ix (s_ix (s_var 0) s_int) (s_ix (s_var 1) s_int))) (s_one (s_cmp (o_ne hr.units) (s_ix (s_ix (s_var 0) s_int) (s_ix (s_var 1) s_int)) (s_ix (s_ix (s_var 0) s_int) (s_ix (s_var 1) s_int)))))))))
abbrev N_law_pair_right : List Str := ["bag", "one", "two", "many", "rows", "same", "second", "third", "due", "bars", "row", "k", "least", "told", "letters", "letter", "each", "motion", "claims", "claim", "paper", "papers", "turn", "wanted", "answers", "odd"]
theorem sc_law_pair_right : FnScope N_law_pair_right ["bag", "one", "two"] (defScope (top 122)) := ⟨rfl, rfl, rfl, by decide +kernel, rfl, by decide +kernel, by decide +kernel⟩
def f_law_pair_right : FF := fnOf 3 26 ((sSeq (sSet 3 (eCall bLen (aCons (eVar 1) aNil))) (sSeq (sSet 4 (eCell (lDisp (aCons (eCall f_law_counts (aCons (eVar 1) aNil)) (aCons (eCall f_law_counts (aCons (eVar 2) aNil)) aNil))))) (sSeq (sExpr (eMeth "list" bAppend (eVar 4) (aCons (eCall bTupleX (aCons (eFrz (fLc (.tp [(.nm 5), (.nm 6), (.nm 7)]) (iVal (eBin oIx (eVar 4) (eCon (.int 1)))) tYes' (eTup (aCons (eVar 5) (aCons (eVar 7) (aCons (eVar 6) aNil)))) [5, 6, 7])) aNil)) aNil))) (sSeq (sSet 8 (eBin oIn (eBin oIx (eVar 4) (eCon (.int 0))) (eSl (eVar 4) (oSome (eCon (.int 1))) oNone))) (sSeq (sSet 9 (eFrz (fLc (.nm 10) (iVal (eSl (eVar 4) (oSome (eCon (.int 1))) oNone)) tYes' (eFrz (fLc (.nm 11) (iRg (aCons (eVar 3) aNil)) (toT (eBin oNe (eBin oIx (eBin oIx (eVar 4) (eCon (.int 0))) (eVar 11)) (eBin oIx (eVar 10) (eVar 11)))) (eVar 11) [11])) [10]))) (sSeq (sSet 12 (eIf (toT (eVar 8)) (eCon .non) (eTup (aCons (eBin oIx (eBin oIx (eVar 9) (eCon (.int 0))) (eCon (.int 0))) (aCons (eBin oIx (eBin oIx (eVar 9) (eCon (.int 1))) (eCon (.int 0))) aNil))))) (sSeq (sSet 13 (eFrz (lDisp (aCons (eCall f_layer_counts (aCons (eVar 1) aNil)) (aCons (eCall f_like_row (aCons (eVar 1) aNil)) (aCons (eCall f_have_like_counts (aCons (eVar 1) (aCons (eVar 2) aNil))) (aCons (eCallK f_have_like_counts 2 [1, 0] (aCons (eVar 2) (aCons (eVar 1) aNil))) aNil))))))) (sSeq (sSet 13 (eBin oAdd (eVar 13) (eFrz (lDisp (aCons (eCall f_unlike_places (aCons (eVar 1) (aCons (eVar 2) aNil))) (aCons (eCallK f_unlike_places 2 [1, 0] (aCons (eVar 2) (aCons (eVar 1) aNil))) (aCons (eCall f_letter_counts (aCons (eVar 1) aNil)) aNil))))))) (sSeq (sSet 14 (eCall bTupleX (aCons (eFrz (fLc (.nm 15) (iVal (eCon (.str [65, 66, 67]))) tYes' (eMeth "str" bCount (eVar 1) (aCons (eVar 15) aNil)) [15])) aNil))) (sSeq (sIf (tNot' (toT (eCall (f_law_same 8) (aCons (eVar 13) (aCons (eFrz (lDisp (aCons (eBin oIx (eVar 4) (eCon (.int 0))) (aCons (eCall bTupleX (aCons (eFrz (fLc (.nm 16) (iVal (eBin oIx (eVar 4) (eCon (.int 0)))) tYes' (eBin oIx (eVar 16) (eCon (.int 0))) [16])) aNil)) (aCons (eVar 8) (aCons (eVar 8) (aCons (eVar 12) (aCons (eVar 12) (aCons (eVar 14) aNil))))))))) aNil))))) (sRet (eCon (.bl false))) sNil) (sSeq (sIf (tAnd' (toT (eBin oLt (eVar 3) (eCon (.int 13)))) (toT (eBin oNe (eVar 8) (eBin oIn (eVar 2) (eFrz (fLc (.nm 17) (iVal (eCall f_law_motions (aCons (eVar 3) aNil))) tYes' (eCall f_law_moved (aCons (eVar 1) (aCons (eVar 17) aNil))) [17])))))) (sRet (eCon (.bl false))) sNil) (sSeq (sSet 18 (eFrz (lDisp (aCons (eTup (aCons (eCon (.str [108, 105, 107, 101, 32, 99, 111, 117, 110, 116, 115])) (aCons (eVar 1) (aCons (eVar 2) aNil)))) (aCons (eTup (aCons (eCon (.str [117, 110, 108, 105, 107, 101, 32, 99, 111, 117, 110, 116, 115])) (aCons (eVar 1) (aCons (eVar 2) aNil)))) aNil))))) (sSeq (sAsg (.tp [(.nm 19), (.nm 20)]) (eCall f_certify_counts (aCons (eVar 1) (aCons (eVar 2) aNil)))) (sSeq (sIf (tNot' (toT (eCall (f_law_same 8) (aCons (eFrz (lDisp (aCons (eVar 19) (aCons (eCall f_accepts (aCons (eVar 19) (aCons (eVar 20) aNil))) aNil)))) (aCons (eFrz (lDisp (aCons (eIf (toT (eVar 8)) (eBin oIx (eVar 18) (eCon (.int 0))) (eBin oIx (eVar 18) (eCon (.int 1)))) (aCons (eCon (.bl true)) aNil)))) aNil))))) (sRet (eCon (.bl false))) sNil) (sSeq (sSet 21 (eFrz (lDisp (aCons (eVar 20) (aCons (eVar 12) (aCons (eTup aNil) (aCons (eCon .non) (aCons (eTup (aCons (eCon (.int 0)) (aCons (eCon (.int 0)) aNil))) (aCons (eTup (aCons (eCon (.int 1)) (aCons (eCon (.int 1)) aNil))) (aCons (eTup (aCons (eCon (.int 1)) aNil)) (aCons (eFrz (lDisp (aCons (eCon (.int 1)) (aCons (eCon (.int 1)) aNil)))) (aCons (eTup (aCons (eCon (.int 2)) (aCons (eCon (.int 3)) (aCons (eCon (.int 4)) aNil)))) (aCons (eTup (aCons (eVar 3) (aCons (eCon (.int 1)) aNil))) (aCons (eTup (aCons (eCon (.int 1)) (aCons (eBin oSub (eCon (.int 0)) (eCon (.int 1))) aNil))) (aCons (eTup (aCons (eCon (.bl true)) (aCons (eCon (.int 1)) aNil))) aNil))))))))))))))) (sSeq (sSet 21 (eBin oAdd (eVar 21) (eFrz (lDisp (aCons (eTup (aCons (eCon (.str [49])) (aCons (eCon (.int 1)) aNil))) (aCons (eCon (.int 1)) (aCons (eCon (.str [])) aNil))))))) (sSeq (sFor (.nm 16) (iVal (eBin oAdd (eVar 21) (eFrz (fLc (.nm 22) (iRg (aCons (eCon (.int 8)) aNil)) tYes' (eTup (aCons (eCall f_law_draw (aCons (eVar 0) (aCons (eVar 3) aNil))) (aCons (eCall f_law_draw (aCons (eVar 0) (aCons (eVar 3) aNil))) aNil))) [22])))) (sSeq (sSet 23 (eFrz (lDisp (aCons (eAnd (eIsi "tuple" (eVar 16)) (eAnd (eBin oEq (eVar 16) (eTup aNil)) (eVar 8))) (aCons (eCall f_law_is_bar (aCons (eVar 4) (aCons (eVar 16) aNil))) aNil))))) (sSeq (sSet 24 (eFrz (lDisp (aCons (eCall f_accepts (aCons (eBin oIx (eVar 18) (eCon (.int 0))) (aCons (eVar 16) aNil))) (aCons (eCallK f_accepts 2 [1, 0] (aCons (eVar 16) (aCons (eBin oIx (eVar 18) (eCon (.int 1))) aNil))) aNil))))) (sIf (tOr' (tNot' (toT (eCall (f_law_same 8) (aCons (eVar 24) (aCons (eVar 23) aNil))))) (toT (eBin oEq (eVar 23) (eFrz (lDisp (aCons (eCon (.bl true)) (aCons (eCon (.bl true)) aNil))))))) (sRet (eCon (.bl false))) sNil)))) (sSeq (sSet 25 (eFrz (lDisp (aCons (eSl (eVar 19) oNone (oSome (eCon (.int 2)))) (aCons (eBin oAdd (eVar 19) (eTup (aCons (eCon (.int 0)) aNil))) (aCons (eCall bListX (aCons (eVar 19) aNil)) (aCons (eTup (aCons (eBin oIx (eVar 19) (eCon (.int 0))) (aCons (eVar 1) (aCons (eSl (eVar 2) (oSome (eCon (.int 1))) oNone) aNil)))) (aCons (eTup (aCons (eBin oIx (eVar 19) (eCon (.int 0))) (aCons (eVar 1) (aCons (eCon .non) aNil)))) aNil)))))))) (sSeq (sSet 25 (eBin oAdd (eVar 25) (eFrz (lDisp (aCons (eTup (aCons (eBin oIx (eVar 19) (eCon (.int 0))) (aCons (eBin oAdd (eVar 1) (eBin oIx (eVar 1) (eCon (.int 0)))) (aCons (eVar 2) aNil)))) aNil))))) (sSeq (sSet 25 (eBin oAdd (eVar 25) (eFrz (lDisp (aCons (eTup (aCons (eCon (.str [99, 111, 117, 110, 116, 115])) (aCons (eVar 1) (aCons (eVar 2) aNil)))) (aCons (eTup (aCons (eBin oIx (eVar 19) (eCon (.int 0))) (aCons (eCon (.str [65])) (aCons (eCon (.str [65])) aNil)))) (aCons (eTup (aCons (eBin oIx (eVar 19) (eCon (.int 0))) (aCons (eVar 1) (aCons (eBin oAdd (eSl (eVar 2) oNone (oSome (eNeg (eCon (.int 1))))) (eBin oIx (eVar 2) (eCon (.int 0)))) aNil)))) aNil))))))) (sSeq (sSet 25 (eBin oAdd (eVar 25) (eFrz (lDisp (aCons (eTup (aCons (eBin oIx (eVar 19) (eCon (.int 0))) (aCons (eCall bTupleX (aCons (eVar 1) aNil)) (aCons (eVar 2) aNil)))) aNil))))) (sRet (eNot (eCall bAny (aCons (eFrz (fLc (.nm 16) (iVal (eVar 25)) tYes' (eOr (eCall f_accepts (aCons (eVar 16) (aCons (eVar 20) aNil))) (eCall f_accepts (aCons (eVar 16) (aCons (eTup aNil) aNil)))) [16])) aNil))))))))))))))))))))))))))
theorem ok_law_pair_right (Z : Fx P w K mg base) : DefOk P w K mg base CX0 "_law_pair_right" ["bag", "one", "two"] 10 f_law_pair_right := by
  obtain ⟨f, fd, hm, D⟩ := Z.d_law_pair_right
  exact def_ok (k := 9) D hm sc_law_pair_right (fun _ _ _ _ _ _ us hl => match us, hl with | [_, _, _], _ => rfl) fun cdv A outer s H E hr =>
    (ss_cons (ss_set 3 sc_law_pair_right.nd (s_blt c_len boot_len Z.b_len (a_cons (s_var 1) a_nil)))
    (ss_cons (ss_set 4 sc_law_pair_right.nd (s_cell (f_lst (a_cons (s_call (ok_law_counts Z) (hr.mono (by decide)) pass0 (a_cons (s_var 1) a_nil)) (a_cons (s_call (ok_law_counts Z) (hr.mono (by decide)) pass0 (a_cons (s_var 2) a_nil)) a_nil)))))
    (ss_cons (ss_expr (s_meth F.plainAttrs_list F.slot_list_append F.type_list_append m_append (s_var 4) (a_cons (s_typ (c_tupleX rfl) Pv.boot_tuple Z.b_tuple (a_cons (s_frz (f_lc rfl sc_law_pair_right.nd (si_val (s_ix (s_var 4) s_int)) (own := [("same", 5), ("second", 6), ("third", 7)]) (show BlkOk N_law_pair_right (defScope (top 122)) _ _ from ⟨rfl, by decide +kernel, by decide +kernel, by decide +kernel, by decide +kernel⟩) (by decide) (fun _ _ _ _ _ => (g_tup rfl (g_cons (g_nm 5 sc_law_pair_right.nd) (g_cons (g_nm 6 sc_law_pair_right.nd) (g_cons (g_nm 7 sc_law_pair_right.nd) g_nil))))) (fun _ _ _ _ _ => sts_nil) (fun _ _ _ _ _ => (s_tup (a_cons (s_var 5) (a_cons (s_var 7) (a_cons (s_var 6) a_nil))))))) a_nil)) a_nil)))
    (ss_cons (ss_set 8 sc_law_pair_right.nd (s_cmp (o_in (units65 hr)) (s_ix (s_var 4) s_int) (s_sl (s_var 4) (so_some s_int) so_none)))
    (ss_cons (ss_setLf 9 rfl sc_law_pair_right.nd (si_val (s_sl (s_var 4) (so_some s_int) so_none)) (own := [("row", 10)]) (show BlkOk N_law_pair_right (defScope (top 122)) _ _ from ⟨rfl, by decide +kernel, by decide +kernel, by decide +kernel, by decide +kernel⟩) (by decide) (fun _ _ _ _ _ => (g_nm 10 sc_law_pair_right.nd)) (fun _ _ _ _ _ => sts_nil) (fun _ _ _ _ _ => (s_frz (f_lc rfl sc_law_pair_right.nd (si_range1 rfl Z.b_range (a_cons (s_var 3) a_nil)) (own := [("k", 11)]) (show BlkOk N_law_pair_right ⟨.function, [((".0" : Str), NameKind.local), (("row" : Str), NameKind.cell), (("range" : Str), NameKind.globalImplicit), (("many" : Str), NameKind.cell), (("rows" : Str), NameKind.cell)], false, false, []⟩ _ _ from ⟨rfl, by decide +kernel, by decide +kernel, by decide +kernel, by decide +kernel⟩) (by decide) (fun _ _ _ _ _ => (g_nm 11 sc_law_pair_right.nd)) (fun _ _ _ _ _ => (sts_one (t_cmp (o_ne hr.units) (s_ix (s_ix (s_var 4) s_int) (s_var 11)) (s_ix (s_var 10) (s_var 11))))) (fun _ _ _ _ _ => (s_var 11))))))
    (ss_cons (ss_set 12 sc_law_pair_right.nd (s_if (t_val (s_var 8)) s_non (s_tup (a_cons (s_ix (s_ix (s_var 9) s_int) s_int) (a_cons (s_ix (s_ix (s_var 9) s_int) s_int) a_nil)))))
    (ss_cons (ss_set 13 sc_law_pair_right.nd (s_frz (f_lst (a_cons (s_call (ok_layer_counts Z) (hr.mono (by decide)) pass0 (a_cons (s_var 1) a_nil)) (a_cons (s_call (ok_like_row Z) (hr.mono (by decide)) pass0 (a_cons (s_var 1) a_nil)) (a_cons (s_call (ok_have_like_counts Z) (hr.mono (by decide)) pass0 (a_cons (s_var 1) (a_cons (s_var 2) a_nil))) (a_cons (s_callK (kw0_have_like_counts Z) (hr.mono (by decide)) pass0 (sk_cons (s_var 2) (sk_cons (s_var 1) sk_nil))) a_nil)))))))
    (ss_cons (ss_set 13 sc_law_pair_right.nd (s_bin o_add (s_var 13) (s_frz (f_lst (a_cons (s_call (ok_unlike_places Z) (hr.mono (by decide)) pass0 (a_cons (s_var 1) (a_cons (s_var 2) a_nil))) (a_cons (s_callK (kw0_unlike_places Z) (hr.mono (by decide)) pass0 (sk_cons (s_var 2) (sk_cons (s_var 1) sk_nil))) (a_cons (s_call (ok_letter_counts Z) (hr.mono (by decide)) pass0 (a_cons (s_var 1) a_nil)) a_nil)))))))
    (ss_cons (ss_set 14 sc_law_pair_right.nd (s_typ (c_tupleX rfl) Pv.boot_tuple Z.b_tuple (a_cons (s_frz (f_lc rfl sc_law_pair_right.nd (si_val s_str) (own := [("letter", 15)]) (show BlkOk N_law_pair_right (defScope (top 122)) _ _ from ⟨rfl, by decide +kernel, by decide +kernel, by decide +kernel, by decide +kernel⟩) (by decide) (fun _ _ _ _ _ => (g_nm 15 sc_law_pair_right.nd)) (fun _ _ _ _ _ => sts_nil) (fun _ _ _ _ _ => (s_meth F.plainAttrs_str F.slot_str_count F.type_str_count m_count (s_var 1) (a_cons (s_var 15) a_nil))))) a_nil)))
    (ss_cons (ss_if (t_not (t_val (s_call (ok_law_same Z 8) (hr.mono (by decide)) pass0 (a_cons (s_var 13) (a_cons (s_frz (f_lst (a_cons (s_ix (s_var 4) s_int) (a_cons (s_typ (c_tupleX rfl) Pv.boot_tuple Z.b_tuple (a_cons (s_frz (f_lc rfl sc_law_pair_right.nd (si_val (s_ix (s_var 4) s_int)) (own := [("each", 16)]) (show BlkOk N_law_pair_right (defScope (top 122)) _ _ from ⟨rfl, by decide +kernel, by decide +kernel, by decide +kernel, by decide +kernel⟩) (by decide) (fun _ _ _ _ _ => (g_nm 16 sc_law_pair_right.nd)) (fun _ _ _ _ _ => sts_nil) (fun _ _ _ _ _ => (s_ix (s_var 16) s_int)))) a_nil)) (a_cons (s_var 8) (a_cons (s_var 8) (a_cons (s_var 12) (a_cons (s_var 12) (a_cons (s_var 14) a_nil))))))))) a_nil))))) (ss_one (ss_ret s_bl)) ss_nil)
    (ss_cons (ss_if (t_w (t_and (t_cmp o_lt (s_var 3) s_int) (t_and1 (t_cmp (o_ne hr.units) (s_var 8) (s_cmp (o_in (units65 hr)) (s_var 2) (s_frz (f_lc rfl sc_law_pair_right.nd (si_val (s_call (ok_law_motions Z) (hr.mono (by decide)) pass0 (a_cons (s_var 3) a_nil))) (own := [("motion", 17)]) (show BlkOk N_law_pair_right (defScope (top 122)) _ _ from ⟨rfl, by decide +kernel, by decide +kernel, by decide +kernel, by decide +kernel⟩) (by decide) (fun _ _ _ _ _ => (g_nm 17 sc_law_pair_right.nd)) (fun _ _ _ _ _ => sts_nil) (fun _ _ _ _ _ => (s_call (ok_law_moved Z) (hr.mono (by decide)) pass0 (a_cons (s_var 1) (a_cons (s_var 17) a_nil))))))))))) (ss_one (ss_ret s_bl)) ss_nil)
    (ss_cons (ss_set 18 sc_law_pair_right.nd (s_frz (f_lst (a_cons (s_tup (a_cons s_str (a_cons (s_var 1) (a_cons (s_var 2) a_nil)))) (a_cons (s_tup (a_cons s_str (a_cons (s_var 1) (a_cons (s_var 2) a_nil)))) a_nil)))))
    (ss_cons (ss_asg (s_call (ok_certify_counts Z) (hr.mono (by decide)) pass0 (a_cons (s_var 1) (a_cons (s_var 2) a_nil))) (g_tup rfl (g_cons (g_nm 19 sc_law_pair_right.nd) (g_cons (g_nm 20 sc_law_pair_right.nd) g_nil))))
    (ss_cons (ss_if (t_not (t_val (s_call (ok_law_same Z 8) (hr.mono (by decide)) pass0 (a_cons (s_frz (f_lst (a_cons (s_var 19) (a_cons (s_call (ok_accepts Z) (hr.mono (by decide)) pass0 (a_cons (s_var 19) (a_cons (s_var 20) a_nil))) a_nil)))) (a_cons (s_frz (f_lst (a_cons (s_if (t_val (s_var 8)) (s_ix (s_var 18) s_int) (s_ix (s_var 18) s_int)) (a_cons s_bl a_nil)))) a_nil))))) (ss_one (ss_ret s_bl)) ss_nil)
    (ss_cons (ss_set 21 sc_law_pair_right.nd (s_frz (f_lst (a_cons (s_var 20) (a_cons (s_var 12) (a_cons (s_tup a_nil) (a_cons s_non (a_cons (s_tup (a_cons s_int (a_cons s_int a_nil))) (a_cons (s_tup (a_cons s_int (a_cons s_int a_nil))) (a_cons (s_tup (a_cons s_int a_nil)) (a_cons (s_frz (f_lst (a_cons s_int (a_cons s_int a_nil)))) (a_cons (s_tup (a_cons s_int (a_cons s_int (a_cons s_int a_nil)))) (a_cons (s_tup (a_cons (s_var 3) (a_cons s_int a_nil))) (a_cons (s_tup (a_cons s_int (a_cons (s_bin o_sub s_int s_int) a_nil))) (a_cons (s_tup (a_cons s_bl (a_cons s_int a_nil))) a_nil)))))))))))))))
    (ss_cons (ss_set 21 sc_law_pair_right.nd (s_bin o_add (s_var 21) (s_frz (f_lst (a_cons (s_tup (a_cons s_str (a_cons s_int a_nil))) (a_cons s_int (a_cons s_str a_nil)))))))
    (ss_cons (ss_for PassesOwn.never rfl (si_val (s_bin o_add (s_var 21) (s_frz (f_lc rfl sc_law_pair_right.nd (si_range1 rfl Z.b_range (a_cons s_int a_nil)) (own := [("turn", 22)]) (show BlkOk N_law_pair_right (defScope (top 122)) _ _ from ⟨rfl, by decide +kernel, by decide +kernel, by decide +kernel, by decide +kernel⟩) (by decide) (fun _ _ _ _ _ => (g_nm 22 sc_law_pair_right.nd)) (fun _ _ _ _ _ => sts_nil) (fun _ _ _ _ _ => (s_tup (a_cons (s_call (ok_law_draw Z) (hr.mono (by decide)) pass0 (a_cons (s_var 0) (a_cons (s_var 3) a_nil))) (a_cons (s_call (ok_law_draw Z) (hr.mono (by decide)) pass0 (a_cons (s_var 0) (a_cons (s_var 3) a_nil))) a_nil)))))))) (g_nm 16 sc_law_pair_right.nd) (ss_cons (ss_set 23 sc_law_pair_right.nd (s_frz (f_lst (a_cons (s_and (s_isi Z.b_isinstance (s_var 16) Z.b_tuple PyProof.Rows.boot_tuple) (s_and (s_cmp (o_eq hr.units) (s_var 16) (s_tup a_nil)) (s_one (s_var 8)))) (a_cons (s_call (ok_law_is_bar Z) (hr.mono (by decide)) pass0 (a_cons (s_var 4) (a_cons (s_var 16) a_nil))) a_nil)))))
    (ss_cons (ss_set 24 sc_law_pair_right.nd (s_frz (f_lst (a_cons (s_call (ok_accepts Z) (hr.mono (by decide)) pass0 (a_cons (s_ix (s_var 18) s_int) (a_cons (s_var 16) a_nil))) (a_cons (s_callK (kw0_accepts Z) (hr.mono (by decide)) pass0 (sk_cons (s_var 16) (sk_cons (s_ix (s_var 18) s_int) sk_nil))) a_nil)))))
    (ss_one (ss_if (t_w (t_or (t_not (t_val (s_call (ok_law_same Z 8) (hr.mono (by decide)) pass0 (a_cons (s_var 24) (a_cons (s_var 23) a_nil))))) (t_or1 (t_cmp (o_eq hr.units) (s_var 23) (s_frz (f_lst (a_cons s_bl (a_cons s_bl a_nil)))))))) (ss_one (ss_ret s_bl)) ss_nil)))))
    (ss_cons (ss_set 25 sc_law_pair_right.nd (s_frz (f_lst (a_cons (s_sl (s_var 19) so_none (so_some s_int)) (a_cons (s_bin o_add (s_var 19) (s_tup (a_cons s_int a_nil))) (a_cons (s_typ (c_listX rfl) Pv.boot_list Z.b_list (a_cons (s_var 19) a_nil)) (a_cons (s_tup (a_cons (s_ix (s_var 19) s_int) (a_cons (s_var 1) (a_cons (s_sl (s_var 2) (so_some s_int) so_none) a_nil)))) (a_cons (s_tup (a_cons (s_ix (s_var 19) s_int) (a_cons (s_var 1) (a_cons s_non a_nil)))) a_nil))))))))
    (ss_cons (ss_set 25 sc_law_pair_right.nd (s_bin o_add (s_var 25) (s_frz (f_lst (a_cons (s_tup (a_cons (s_ix (s_var 19) s_int) (a_cons (s_bin o_add (s_var 1) (s_ix (s_var 1) s_int)) (a_cons (s_var 2) a_nil)))) a_nil)))))
    (ss_cons (ss_set 25 sc_law_pair_right.nd (s_bin o_add (s_var 25) (s_frz (f_lst (a_cons (s_tup (a_cons s_str (a_cons (s_var 1) (a_cons (s_var 2) a_nil)))) (a_cons (s_tup (a_cons (s_ix (s_var 19) s_int) (a_cons s_str (a_cons s_str a_nil)))) (a_cons (s_tup (a_cons (s_ix (s_var 19) s_int) (a_cons (s_var 1) (a_cons (s_bin o_add (s_sl (s_var 2) so_none (so_some (s_neg s_int))) (s_ix (s_var 2) s_int)) a_nil)))) a_nil)))))))
    (ss_cons (ss_set 25 sc_law_pair_right.nd (s_bin o_add (s_var 25) (s_frz (f_lst (a_cons (s_tup (a_cons (s_ix (s_var 19) s_int) (a_cons (s_typ (c_tupleX rfl) Pv.boot_tuple Z.b_tuple (a_cons (s_var 1) a_nil)) (a_cons (s_var 2) a_nil)))) a_nil)))))
    (ss_one (ss_ret (s_not (s_blt (c_any rfl) PyProof.Rows.boot_any Z.b_any (a_cons (s_frz (f_lc rfl sc_law_pair_right.nd (si_val (s_var 25)) (own := [("each", 16)]) (show BlkOk N_law_pair_right (defScope (top 122)) _ _ from ⟨rfl, by decide +kernel, by decide +kernel, by decide +kernel, by decide +kernel⟩) (by decide) (fun _ _ _ _ _ => (g_nm 16 sc_law_pair_right.nd)) (fun _ _ _ _ _ => sts_nil) (fun _ _ _ _ _ => (s_or (s_call (ok_accepts Z) (hr.mono (by decide)) pass0 (a_cons (s_var 16) (a_cons (s_var 20) a_nil))) (s_one (s_call (ok_accepts Z) (hr.mono (by decide)) pass0 (a_cons (s_var 16) (a_cons (s_tup a_nil) a_nil)))))))) a_nil))))))))))))))))))))))))))
abbrev N_law : List Str := ["script", "at", "bag", "turn", "one", "lot", "two"]
theorem sc_law : FnScope N_law ["script"] (defScope (top 124)) := ⟨rfl, rfl, rfl, by decide +kernel, rfl, by decide +kernel, by decide +kernel⟩
def f_law : FF := fnOf 1 7 ((sSeq (sFor (.nm 1) (iRg (aCons (eCall bMax2 (aCons (eCon (.int 2)) (aCons (eCall bMin2 (aCons (eCall bLen (aCons (eVar 0) aNil)) (aCons (eCon (.int 5)) aNil))) aNil))) aNil)) (sSeq (sSet 2 (eCall f_law_bag (aCons (eVar 0) (aCons (eVar 1) aNil)))) (sFor (.nm 3) (iRg (aCons (eCon (.int 6)) aNil)) (sSeq (sPar 4 5 (aCons (eCall f_law_closed (aCons (eVar 2) (aCons (eCon (.int 2)) (aCons (eCall f_law_one (aCons (eVar 2) (aCons (eFrz (lDisp (aCons (eCon (.int 4)) (aCons (eCon (.int 9)) (aCons (eCon (.int 12)) (aCons (eCon (.int 24)) aNil)))))) aNil))) aNil)))) (aCons (eCall f_law_draw (aCons (eVar 2) (aCons (eCon (.int 4)) aNil))) aNil))) (sSeq (sSet 6 (eCall f_law_moved (aCons (eVar 4) (aCons (eCall f_law_one (aCons (eVar 2) (aCons (eCall f_law_motions (aCons (eCall bLen (aCons (eVar 4) aNil)) aNil)) aNil))) aNil)))) (sSeq (sIf (toT (eBin oEq (eVar 5) (eCon (.int 0)))) (sSet 6 (eCall f_law_closed (aCons (eVar 2) (aCons (eCall bLen (aCons (eVar 4) aNil)) (aCons (eCall bLen (aCons (eVar 4) aNil)) aNil))))) sNil) (sSeq (sIf (toT (eBin oEq (eVar 5) (eCon (.int 1)))) (sSet 6 (eCall f_law_exchanged (aCons (eVar 2) (aCons (eVar 6) aNil)))) sNil) (sIf (tNot' (toT (eCall f_law_pair_right (aCons (eVar 2) (aCons (eVar 4) (aCons (eVar 6) aNil)))))) (sRet (eCon (.bl false))) sNil)))))))) (sRet (eCon (.bl true)))))
theorem ok_law (Z : Fx P w K mg base) : DefOk P w K mg base CX0 "law" ["script"] 11 f_law := by
  obtain ⟨f, fd, hm, D⟩ := Z.d_law
  exact def_ok (k := 10) D hm sc_law (fun _ _ _ _ _ _ us hl => match us, hl with | [_], _ => rfl) fun cdv A outer s H E hr =>
    (ss_cons (ss_for PassesOwn.never rfl (si_range1 rfl Z.b_range (a_cons (s_blt (c_max2 rfl) boot_max Z.b_max (a_cons s_int (a_cons (s_blt (c_min2 rfl) PyProof.Rows.boot_min Z.b_min (a_cons (s_blt c_len boot_len Z.b_len (a_cons (s_var 0) a_nil)) (a_cons s_int a_nil))) a_nil))) a_nil)) (g_nm 1 sc_law.nd) (ss_cons (ss_set 2 sc_law.nd (s_call (ok_law_bag Z) (hr.mono (by decide)) pass0 (a_cons (s_var 0) (a_cons (s_var 1) a_nil))))
    (ss_one (ss_for PassesOwn.never rfl (si_range1 rfl Z.b_range (a_cons s_int a_nil)) (g_nm 3 sc_law.nd) (ss_cons (ss_par 4 5 rfl sc_law.nd (a_cons (s_call (ok_law_closed Z) (hr.mono (by decide)) pass0 (a_cons (s_var 2) (a_cons s_int (a_cons (s_call (ok_law_one Z) (hr.mono (by decide)) pass0 (a_cons (s_var 2) (a_cons (s_frz (f_lst (a_cons s_int (a_cons s_int (a_cons s_int (a_cons s_int a_nil)))))) a_nil))) a_nil)))) (a_cons (s_call (ok_law_draw Z) (hr.mono (by decide)) pass0 (a_cons (s_var 2) (a_cons s_int a_nil))) a_nil)))
    (ss_cons (ss_set 6 sc_law.nd (s_call (ok_law_moved Z) (hr.mono (by decide)) pass0 (a_cons (s_var 4) (a_cons (s_call (ok_law_one Z) (hr.mono (by decide)) pass0 (a_cons (s_var 2) (a_cons (s_call (ok_law_motions Z) (hr.mono (by decide)) pass0 (a_cons (s_blt c_len boot_len Z.b_len (a_cons (s_var 4) a_nil)) a_nil)) a_nil))) a_nil))))
    (ss_cons (ss_if (t_cmp (o_eq hr.units) (s_var 5) s_int) (ss_one (ss_set 6 sc_law.nd (s_call (ok_law_closed Z) (hr.mono (by decide)) pass0 (a_cons (s_var 2) (a_cons (s_blt c_len boot_len Z.b_len (a_cons (s_var 4) a_nil)) (a_cons (s_blt c_len boot_len Z.b_len (a_cons (s_var 4) a_nil)) a_nil)))))) ss_nil)
    (ss_cons (ss_if (t_cmp (o_eq hr.units) (s_var 5) s_int) (ss_one (ss_set 6 sc_law.nd (s_call (ok_law_exchanged Z) (hr.mono (by decide)) pass0 (a_cons (s_var 2) (a_cons (s_var 6) a_nil))))) ss_nil)
    (ss_one (ss_if (t_not (t_val (s_call (ok_law_pair_right Z) (hr.mono (by decide)) pass0 (a_cons (s_var 2) (a_cons (s_var 4) (a_cons (s_var 6) a_nil)))))) (ss_one (ss_ret s_bl)) ss_nil))))))))))
    (ss_one (ss_ret s_bl)))
theorem run_law (Z : Fx P w K mg base) {f : Addr} {fd : FuncData} (D : FunD K "law" "law" (defArgs (top 124)) (defBody (top 124)) (defScope (top 124)) [] [] f fd) : FnOk P w K mg base CX0 11 f fd ["script"] (spOf K f_law) := def_run (k := 10) D sc_law fun cdv A outer s H E hr =>
    (ss_cons (ss_for PassesOwn.never rfl (si_range1 rfl Z.b_range (a_cons (s_blt (c_max2 rfl) boot_max Z.b_max (a_cons s_int (a_cons (s_blt (c_min2 rfl) PyProof.Rows.boot_min Z.b_min (a_cons (s_blt c_len boot_len Z.b_len (a_cons (s_var 0) a_nil)) (a_cons s_int a_nil))) a_nil))) a_nil)) (g_nm 1 sc_law.nd) (ss_cons (ss_set 2 sc_law.nd (s_call (ok_law_bag Z) (hr.mono (by decide)) pass0 (a_cons (s_var 0) (a_cons (s_var 1) a_nil))))
    (ss_one (ss_for PassesOwn.never rfl (si_range1 rfl Z.b_range (a_cons s_int a_nil)) (g_nm 3 sc_law.nd) (ss_cons (ss_par 4 5 rfl sc_law.nd (a_cons (s_call (ok_law_closed Z) (hr.mono (by decide)) pass0 (a_cons (s_var 2) (a_cons s_int (a_cons (s_call (ok_law_one Z) (hr.mono (by decide)) pass0 (a_cons (s_var 2) (a_cons (s_frz (f_lst (a_cons s_int (a_cons s_int (a_cons s_int (a_cons s_int a_nil)))))) a_nil))) a_nil)))) (a_cons (s_call (ok_law_draw Z) (hr.mono (by decide)) pass0 (a_cons (s_var 2) (a_cons s_int a_nil))) a_nil)))
    (ss_cons (ss_set 6 sc_law.nd (s_call (ok_law_moved Z) (hr.mono (by decide)) pass0 (a_cons (s_var 4) (a_cons (s_call (ok_law_one Z) (hr.mono (by decide)) pass0 (a_cons (s_var 2) (a_cons (s_call (ok_law_motions Z) (hr.mono (by decide)) pass0 (a_cons (s_blt c_len boot_len Z.b_len (a_cons (s_var 4) a_nil)) a_nil)) a_nil))) a_nil))))
    (ss_cons (ss_if (t_cmp (o_eq hr.units) (s_var 5) s_int) (ss_one (ss_set 6 sc_law.nd (s_call (ok_law_closed Z) (hr.mono (by decide)) pass0 (a_cons (s_var 2) (a_cons (s_blt c_len boot_len Z.b_len (a_cons (s_var 4) a_nil)) (a_cons (s_blt c_len boot_len Z.b_len (a_cons (s_var 4) a_nil)) a_nil)))))) ss_nil)
    (ss_cons (ss_if (t_cmp (o_eq hr.units) (s_var 5) s_int) (ss_one (ss_set 6 sc_law.nd (s_call (ok_law_exchanged Z) (hr.mono (by decide)) pass0 (a_cons (s_var 2) (a_cons (s_var 6) a_nil))))) ss_nil)
    (ss_one (ss_if (t_not (t_val (s_call (ok_law_pair_right Z) (hr.mono (by decide)) pass0 (a_cons (s_var 2) (a_cons (s_var 4) (a_cons (s_var 6) a_nil)))))) (ss_one (ss_ret s_bl)) ss_nil))))))))))
    (ss_one (ss_ret s_bl)))
end
end Lw

set_option synthInstance.maxSize 1000000
set_option synthInstance.maxHeartbeats 0
namespace Lw
open Pv L2
theorem mulOk_l {i j : Int} (h : -(2 ^ 64) < i ∧ i < 2 ^ 64) : mulOk i j = true := by
  unfold mulOk
  rw [decide_eq_true h, Bool.true_or, Bool.true_or]
theorem divOk_s {i j : Int} (h0 : 0 < j) (h1 : j < 100000) : divOk i j = true := by
  unfold divOk
  rw [decide_eq_true h0, decide_eq_true (show j.natAbs.log2 < 9000 by
    have : j.natAbs.log2 ≤ j.natAbs := Nat.log2_le_self _
    have h2 : j.natAbs.log2 < 17 := (Nat.log2_lt (by omega)).mpr (by omega)
    omega)]
  rfl
instance {n : Int} {S : Sto} : EvF f_is_whole [.int n] S (.bl true) S True := ⟨fun _ => by unfold f_is_whole; exact ev_fn rfl (by simp)⟩
instance {b : Bool} {S : Sto} : EvF f_is_whole [.bl b] S (.bl false) S True := ⟨fun _ => by unfold f_is_whole; exact ev_fn rfl (by simp)⟩
instance {b : List Nat} {S : Sto} : EvF f_is_whole [.str b] S (.bl false) S True := ⟨fun _ => by unfold f_is_whole; exact ev_fn rfl (by simp)⟩
instance {b : List PV} {S : Sto} : EvF f_is_whole [.tup b] S (.bl false) S True := ⟨fun _ => by unfold f_is_whole; exact ev_fn rfl (by simp)⟩
instance {b : List PV} {S : Sto} : EvF f_is_whole [.lst b] S (.bl false) S True := ⟨fun _ => by unfold f_is_whole; exact ev_fn rfl (by simp)⟩
instance {S : Sto} : EvF f_is_whole [.non] S (.bl false) S True := ⟨fun _ => by unfold f_is_whole; exact ev_fn rfl (by simp)⟩
instance {n : Int} {S : Sto} : EvF f_law_is_whole [.int n] S (.bl true) S True := ⟨fun _ => by unfold f_law_is_whole; exact ev_fn rfl (by simp)⟩
instance {b : Bool} {S : Sto} : EvF f_law_is_whole [.bl b] S (.bl false) S True := ⟨fun _ => by unfold f_law_is_whole; exact ev_fn rfl (by simp)⟩
instance {b : List Nat} {S : Sto} : EvF f_law_is_whole [.str b] S (.bl false) S True := ⟨fun _ => by unfold f_law_is_whole; exact ev_fn rfl (by simp)⟩
instance {b : List PV} {S : Sto} : EvF f_law_is_whole [.tup b] S (.bl false) S True := ⟨fun _ => by unfold f_law_is_whole; exact ev_fn rfl (by simp)⟩
instance {b : List PV} {S : Sto} : EvF f_law_is_whole [.lst b] S (.bl false) S True := ⟨fun _ => by unfold f_law_is_whole; exact ev_fn rfl (by simp)⟩
instance {S : Sto} : EvF f_law_is_whole [.non] S (.bl false) S True := ⟨fun _ => by unfold f_law_is_whole; exact ev_fn rfl (by simp)⟩
instance {n a b : Int} {p q r : Bool} {S : Sto} [h : DecP (a ≤ n) p] [k : DecP (n ≤ b) q] [m : AndB p q r] : EvF f_is_between [.int n, .int a, .int b] S (.bl r) S True := ⟨fun _ => by unfold f_is_between; exact ev_fn rfl (by simp)⟩
instance {v : PV} {a b : Int} {S : Sto} [h : EvF f_is_whole [v] S (.bl false) S True] : EvF f_is_between [v, .int a, .int b] S (.bl false) S True := ⟨fun _ => by unfold f_is_between; exact ev_fn rfl (by simp)⟩
instance {n : Int} {p q r : Bool} {S : Sto} [h : DecP ((1 : Int) ≤ n) p] [k : DecP (n ≤ 24) q] [m : AndB p q r] : EvF f_is_layer_number [.int n] S (.bl r) S True := ⟨fun _ => by unfold f_is_layer_number; exact ev_fn rfl (by simp)⟩
instance {l z : List Nat} {S : Sto} : EvF f_is_text_of [.str l, .str z] S (.bl (l.all fun c => decide (c ∈ z))) S (l.length < 16777216) := ⟨fun h => by unfold f_is_text_of; exact ev_fn rfl (by simp [h])⟩
class NoStr (x : PV) : Prop where
  eq : kitB (tyPV x) "str" = some false
instance : NoStr .non := ⟨kt_NoneType_str⟩
instance {b : Bool} : NoStr (.bl b) := ⟨kt_bool_str⟩
instance {b : Int} : NoStr (.int b) := ⟨kt_int_str⟩
instance {b : List PV} : NoStr (.tup b) := ⟨kt_tuple_str⟩
instance {b : List PV} : NoStr (.lst b) := ⟨kt_list_str⟩
instance (priority := low) {x : PV} [h : NoStr x] : Kit x "str" false := ⟨h.eq⟩
instance {x : PV} {z : List Nat} {S : Sto} [h : NoStr x] : EvF f_is_text_of [x, .str z] S (.bl false) S True := ⟨fun _ => by unfold f_is_text_of; exact ev_fn rfl (by simp)⟩
theorem stk_of {l : List Nat} : Stk l ↔ ((∀ c ∈ l, c = 65 ∨ c = 66 ∨ c = 67) ∧ 1 ≤ l.length ∧ l.length ≤ 24) ∧ ∀ b ∈ zz 1 (fun a b => a != b) l, b = true := by
  unfold Stk Lt
  constructor
  · exact fun ⟨a, b, c, d⟩ => ⟨⟨a, b, c⟩, d⟩
  · exact fun ⟨⟨a, b, c⟩, d⟩ => ⟨a, b, c, d⟩
theorem is_stacked_b {l : List Nat} (hl : l.length < 16777216) (S : Sto) : f_is_stacked [.str l] S = .ok (.bl (decide (Stk l))) S := by
  unfold f_is_stacked
  by_cases h : (∀ c ∈ l, c = 65 ∨ c = 66 ∨ c = 67) ∧ 1 ≤ l.length ∧ l.length ≤ 24
  · refine (ev_fn rfl ?_).trans ?_
    · simp [hl]
      exact ⟨⟨h.1, by omega, by omega⟩, by omega⟩
    · congr 2
      rw [cut_1, zip_all 1 (fun a b => !decide ([a] = [b])), Bool.eq_iff_iff, decide_eq_true_eq, stk_of, List.all_eq_true]
      rw [zz_ext 1 (fun a b => !decide ([a] = [b])) (fun a b => a != b) l fun _ a b _ _ => by
        by_cases e : a = b
        · subst e; simp
        · rw [bne_iff_ne.mpr e]; simp [e]]
      exact ⟨fun q => ⟨h, q⟩, fun q => q.2⟩
  · rw [decide_eq_false fun q => h (stk_of.mp q).1]
    refine fn_st rfl (seq_ret (v := .bl false) (S1 := S) ((sif_tv (b := _) ?_ ?_).trans rfl)) ?_
    · simp [hl]
    · simp
      by_cases h1 : ∀ c ∈ l, c = 65 ∨ c = 66 ∨ c = 67
      · refine .inr ?_
        have : ¬ (1 ≤ l.length ∧ l.length ≤ 24) := fun q => h ⟨h1, q⟩
        omega
      · refine .inl ?_
        exact Classical.byContradiction fun q => h1 fun c hc => Classical.byContradiction fun q2 => q ⟨c, hc, by omega⟩
    · rw [z_out_ret, z_out_bl, List.take_length]
instance {l : List Nat} {p : Bool} {S : Sto} [h : DecP (Stk l) p] : EvF f_is_stacked [.str l] S (.bl p) S (l.length < 16777216) := ⟨fun q => by rw [is_stacked_b q, h.eq]⟩
instance {x : PV} {S : Sto} [h : NoStr x] : EvF f_is_stacked [x] S (.bl false) S True := ⟨fun _ => by unfold f_is_stacked; exact ev_fn rfl (by simp)⟩
theorem is_closed_b {l : List Nat} (hl : l.length < 16777216) (S : Sto) : f_is_closed_one [.str l] S = .ok (.bl (decide (Cls l))) S := by
  unfold f_is_closed_one
  by_cases h : Stk l
  · haveI : DecP (Stk l) true := ⟨decide_eq_true h⟩
    have h1 := h.2.1
    refine (ev_fn rfl ?_).trans ?_
    · simp [hl]
      omega
    · congr 2
      unfold Cls
      by_cases e : gi l 0 = gi l (-1)
      · simp [e]
      · simp [e, h]
  · haveI : DecP (Stk l) false := ⟨decide_eq_false h⟩
    rw [decide_eq_false fun q => h q.1]
    exact ev_fn rfl (by simp [hl])
instance {l : List Nat} {p : Bool} {S : Sto} [h : DecP (Cls l) p] : EvF f_is_closed_one [.str l] S (.bl p) S (l.length < 16777216) := ⟨fun q => by rw [is_closed_b q, h.eq]⟩
instance {x : PV} {S : Sto} [h : NoStr x] : EvF f_is_closed_one [x] S (.bl false) S True := ⟨fun _ => by unfold f_is_closed_one; exact ev_fn rfl (by simp)⟩
theorem cls_len {l : List Nat} (h : Cls l) : l.length < 16777216 := by have := h.1.2.2.1; omega
theorem stk_len {l : List Nat} (h : Stk l) : l.length < 16777216 := by have := h.2.2.1; omega
instance {l : List Nat} {S : Sto} : EvF f_check_closed [.str l] S .non S (Cls l) := ⟨fun h => by
  haveI : DecP (Cls l) true := ⟨decide_eq_true h⟩
  unfold f_check_closed
  exact ev_fn rfl (by simp [cls_len h])⟩
instance {l : List Nat} {S : Sto} : EvF f_check_stacking [.str l] S .non S (Stk l) := ⟨fun h => by
  haveI : DecP (Stk l) true := ⟨decide_eq_true h⟩
  unfold f_check_stacking
  exact ev_fn rfl (by simp [stk_len h])⟩
instance {c : Nat} {S : Sto} : EvF f_number_of [.str [c]] S (.int ((c - 65 : Nat) : Int)) S (Lt c) := ⟨fun h => by
  unfold f_number_of
  refine (ev_fn rfl ?_).trans ?_
  · simp
    exact h
  · rw [abc_idx h]⟩
instance {c : Nat} {k : Int} {S : Sto} : EvF f_law_further [.str [c], .int k] S (.str [fu c k]) S (Lt c) := ⟨fun h => by
  unfold f_law_further
  refine (ev_fn rfl ?_).trans ?_
  · simp
    exact ⟨h, by omega⟩
  · congr 3
    rw [abc_idx h]
    exact abc_gi (Int.emod_nonneg _ (by decide)) (Int.emod_lt_of_pos _ (by decide))⟩
instance {l : List Nat} {S : Sto} : EvF f_law_steps [.str l] S (.str (zz 1 stp l)) S ((∀ c ∈ l, Lt c) ∧ l.length < 16777216) := ⟨fun h => by
  have e : (l.zip (cut l (some 1) none)).map (fun p => if decide ([fu p.1 1] = [p.2]) = true then (43 : Nat) else 45) = zz 1 stp l := by
    rw [cut_1, zip_map_zz 1 (fun a b => if decide ([fu a 1] = [b]) = true then (43 : Nat) else 45)]
    refine zz_ext 1 _ _ l fun _ a b ha hb => ?_
    obtain rfl | rfl | rfl := h.1 a (List.mem_of_getElem? ha) <;> obtain rfl | rfl | rfl := h.1 b (List.mem_of_getElem? hb) <;> rfl
  unfold f_law_steps
  refine (ev_fn rfl ?_).trans ?_
  · simp
    refine ⟨⟨by omega, fun a b hab => ?_⟩, by omega⟩
    rw [cut_1] at hab
    exact h.1 _ (mem_zip hab).1
  · exact congrArg (fun z => R.ok (PV.str z) S) e⟩
def per (l : List Nat) : List Nat := (List.range ((l.length : Int) - 1).toNat).filter fun k => decide ((l.length : Int) % (1 + (k : Nat)) = 0) && decide (repL (cut l none (some (1 + (k : Nat)))) ((l.length : Int) / (1 + (k : Nat))).toNat = l)
theorem cut_le {α : Type} (l : List α) (a b : Option Int) : (cut l a b).length ≤ l.length := by
  unfold cut
  rw [List.length_take, List.length_drop]
  omega
theorem per_c {l : List Nat} (h : l.length ≤ 24) {k : Nat} (hk : (k : Int) < (l.length : Int) - 1) : (cut l none (some (1 + (k : Nat)))).length * ((l.length : Int) / (1 + (k : Nat))).toNat ≤ 16777216 := by
  have h1 := cut_le l none (some (1 + (k : Nat)))
  have h2 : ((l.length : Int) / (1 + (k : Nat))) ≤ 24 := by
    have := Int.ediv_le_self (a := (l.length : Int)) (1 + (k : Nat)) (by omega)
    omega
  have h3 : ((l.length : Int) / (1 + (k : Nat))).toNat ≤ 24 := by omega
  have := Nat.mul_le_mul h1 h3
  omega
theorem per_ok {l : List Nat} {k : Nat} (hk : k ∈ per l) : k + 1 < l.length ∧ ∃ m, 2 ≤ m ∧ repL (l.take (k + 1)) m = l ∧ m * (k + 1) = l.length := by
  unfold per at hk
  simp only [List.mem_filter, List.mem_range, Bool.and_eq_true, decide_eq_true_eq] at hk
  obtain ⟨h0, h1, h2⟩ := hk
  have hl : k + 1 < l.length := by omega
  have e : (1 + (k : Nat) : Int) = ((k + 1 : Nat) : Int) := by omega
  rw [e] at h1 h2
  rw [cut_take] at h2
  have e2 : ((l.length : Int) / ((k + 1 : Nat) : Int)).toNat = l.length / (k + 1) := by rw [← Int.natCast_ediv]; rfl
  rw [e2] at h2
  have h3 : l.length % (k + 1) = 0 := by omega
  have h4 := Nat.div_mul_cancel (Nat.dvd_of_mod_eq_zero h3)
  refine ⟨hl, l.length / (k + 1), ?_, h2, h4⟩
  refine Classical.byContradiction fun q => ?_
  have : l.length / (k + 1) = 0 ∨ l.length / (k + 1) = 1 := by omega
  rcases this with q | q <;> rw [q] at h4 <;> omega
def part (l : List Nat) : List Nat := if per l = [] then l else cut l none (some (1 + (gi (per l) 0 : Nat)))
theorem part_ok {l : List Nat} (h : Cls l) : Cls (part l) ∧ ∃ m, 0 < m ∧ repL (part l) m = l := by
  unfold part
  by_cases hp : per l = []
  · rw [if_pos hp]
    refine ⟨h, 1, by decide, ?_⟩
    unfold repL
    simp
  · rw [if_neg hp]
    have hl : 0 < (per l).length := List.length_pos_iff.mpr hp
    obtain ⟨h0, m, h1, h2, h3⟩ := per_ok (l := l) (k := gi (per l) 0) (by rw [gi_0 hl]; exact List.getElem_mem _)
    have e : (1 + (gi (per l) 0 : Nat) : Int) = ((gi (per l) 0 + 1 : Nat) : Int) := by omega
    rw [e, cut_take]
    have hlen : (l.take (gi (per l) 0 + 1)).length = gi (per l) 0 + 1 := by rw [List.length_take]; omega
    rw [← h2] at h
    exact ⟨cls_part (by rw [hlen]; omega) h1 h, m, by omega, h2⟩
theorem part_red {l : List Nat} (h : Cls l) : red ((rmk (part l)).count 104) (part l).length = red ((rmk l).count 104) l.length := by
  obtain ⟨c, m, hm, e⟩ := part_ok h
  have hp := c.pos
  have e1 : (rmk l).count 104 = m * (rmk (part l)).count 104 := by
    rw [rmk_count, rmk_count, ← e, rmB_rep hp hm, rep_count, e]
  have e2 : l.length = m * (part l).length := by
    have := rep_leng (part l) m
    rw [e] at this
    exact this
  refine red_cross hp h.pos ?_
  rw [e1, e2]
  ac_rfl
end Lw


set_option synthInstance.maxSize 1000000
set_option synthInstance.maxHeartbeats 0
namespace Lw
open Pv L2
theorem law_draw_s {n : Nat} {S : Sto} (k : Has n S) {m : Nat} (h0 : 0 < m) (h1 : m < 100000) : ∃ d S', f_law_draw [.ref n, .int (m : Int)] S = .ok (.int ((d : Nat) : Int)) S' ∧ Dr n S S' ∧ d < m := by
  suffices q : ∃ (d : Int) (S' : Sto), f_law_draw [.ref n, .int (m : Int)] S = .ok (.int d) S' ∧ Dr n S S' ∧ 0 ≤ d ∧ d < m by
    obtain ⟨d, S', e, k, l0, l1⟩ := q
    exact ⟨d.toNat, S', by rw [e, Int.toNat_of_nonneg l0], k, by omega⟩
  obtain ⟨a, b, c, h⟩ := k
  haveI : CellAt S n [.int a, .int b, .int c] := ⟨h⟩
  have hm : (0 : Int) < m := by omega
  unfold f_law_draw
  by_cases ha : 0 < a
  · haveI : DecP (0 < a) true := ⟨decide_eq_true ha⟩
    refine ⟨_, _, ev_fn rfl ?_, ⟨_, _, _, rfl⟩, Int.emod_nonneg _ (by omega), Int.emod_lt_of_pos _ hm⟩
    simp [divOk_s hm (by omega : (m : Int) < 100000)]
  · haveI : DecP (0 < a) false := ⟨decide_eq_false ha⟩
    refine ⟨_, _, ev_fn rfl ?_, ⟨_, _, _, by rw [List.set_set]; rfl⟩, Int.emod_nonneg _ (by omega), Int.emod_lt_of_pos _ hm⟩
    simp [h0, mul_small (i := b) (j := b % 40009 + 30013) (by omega), mulOk_l (i := 65003) (j := c + 1) (by decide), divOk_s (i := (b * (b % 40009 + 30013) + 65003 * (c + 1) + 13) % 2147483477) (j := 256) (by decide) (by decide)]
theorem law_one_l {n : Nat} {S : Sto} (k : Has n S) {l : List PV} (h0 : l ≠ []) (h1 : l.length < 1000) (hp : ∀ x ∈ l, isP x = true) : ∃ x S', f_law_one [.ref n, .lst l] S = .ok x S' ∧ Dr n S S' ∧ x ∈ l := by
  have hl : 0 < l.length := List.length_pos_iff.mpr h0
  obtain ⟨d, S', e, r, hd⟩ := law_draw_s k (m := l.length) hl (by omega)
  refine ⟨l[d], S', ?_, r, List.getElem_mem _⟩
  unfold f_law_one
  haveI : EvF f_law_draw [.ref n, .int (l.length : Nat)] S (.int ((d : Nat) : Int)) S' True := ⟨fun _ => e⟩
  haveI : AtL l (d : Int) l[d] := ⟨at_nat (List.getElem?_eq_getElem hd)⟩
  haveI : IsPV l[d] True := ⟨fun _ => hp _ (List.getElem_mem hd)⟩
  refine ev_fn rfl ?_
  simp [r.len]
theorem law_one_s {n : Nat} {S : Sto} (k : Has n S) {l : List Nat} (h0 : l ≠ []) (h1 : l.length < 1000) : ∃ c S', f_law_one [.ref n, .str l] S = .ok (.str [c]) S' ∧ Dr n S S' ∧ c ∈ l := by
  have hl : 0 < l.length := List.length_pos_iff.mpr h0
  obtain ⟨d, S', e, r, hd⟩ := law_draw_s k (m := l.length) hl (by omega)
  refine ⟨l[d], S', ?_, r, List.getElem_mem _⟩
  unfold f_law_one
  haveI : EvF f_law_draw [.ref n, .int (l.length : Nat)] S (.int ((d : Nat) : Int)) S' True := ⟨fun _ => e⟩
  refine (ev_fn rfl ?_).trans ?_
  · simp [r.len]
    omega
  · rw [gi_nat hd]
instance {c : Nat} {l : List Nat} {S : Sto} : EvF f_law_by [.str [c], .str l] S (.str (led c l)) S (Lt c ∧ l.length < 1000) := ⟨fun h => by
  obtain ⟨e', S', g, ⟨x, rfl, rfl⟩⟩ := for_l (p := .nm 3) (body := sSet 2 (eBin oAdd (eVar 2) (eCall f_law_further (aCons (eBin oIx (eVar 2) (eNeg (eCon (.int 1)))) (aCons (eIf (toT (eBin oEq (eVar 3) (eCon (.str [43])))) (eCon (.int 1)) (eCon (.int 2))) aNil))))) (xs := l) (φ := fun c => .str [c])
    (fun i env T => ∃ x, env = [some (PV.str [c]), some (.str l), some (.str (led c (l.take i))), x] ∧ T = S) (fun i hi env T ⟨x, h1, h2⟩ => by
      subst h1 h2
      have hn := led_ne c (l.take i)
      have hln := led_len c (l.take i)
      rw [List.length_take] at hln
      have e : led c (l.take (i + 1)) = led c (l.take i) ++ [fu ((led c (l.take i)).getLast hn) (if l[i] = 43 then 1 else 2)] := by
        rw [List.take_succ, List.getElem?_eq_getElem hi]
        exact led_snoc c (l.take i) l[i]
      have eg : gi (led c (l.take i)) (-1) = (led c (l.take i)).getLast hn := by
        rw [gi_last (by omega), List.getLast_eq_getElem]
      refine ⟨_, _, _, SetP.eq, EvS.run ?_, ⟨some (PV.str [l[i]]), ?_, rfl⟩⟩
      · simp
        rw [eg]
        exact ⟨⟨by omega, led_lt h.1 _ _ (List.getLast_mem hn)⟩, by omega⟩
      · rw [e, eg]
        simp) (env := [some (PV.str [c]), some (.str l), some (.str [c]), none]) (S := S) ⟨none, rfl, rfl⟩
  unfold f_law_by
  rw [List.take_length] at g
  haveI i1 := EvS.mk (C := True) fun _ => sfor_ev (p := .nm 3) (it := iVal (eVar 1)) (body := sSet 2 (eBin oAdd (eVar 2) (eCall f_law_further (aCons (eBin oIx (eVar 2) (eNeg (eCon (.int 1)))) (aCons (eIf (toT (eBin oEq (eVar 3) (eCon (.str [43])))) (eCon (.int 1)) (eCon (.int 2))) aNil))))) (by simp) g
  exact ev_fn rfl (by simp)⟩
theorem one_ints {n : Nat} {S : Sto} (k : Has n S) {l : List Int} {ys : List PV} (hy : ys = l.map .int) (h0 : l ≠ []) (h1 : l.length < 1000) : ∃ (z : Int) (S' : Sto), f_law_one [.ref n, .lst ys] S = .ok (.int z) S' ∧ Dr n S S' ∧ z ∈ l := by
  subst hy
  obtain ⟨x, S', e, d, hx⟩ := law_one_l k (l := l.map .int) (by simpa using h0) (by simpa using h1) (fun x hx => by obtain ⟨z, _, rfl⟩ := List.mem_map.mp hx; rfl)
  obtain ⟨z, hz, rfl⟩ := List.mem_map.mp hx
  exact ⟨z, S', e, d, hz⟩
abbrev skL0 : FE := eFrz (lDisp (aCons (eCon (.int 24)) (aCons (eCon (.int 24)) (aCons (eCon (.int 1)) (aCons (eCon (.int 2)) (aCons (eCon (.int 3)) (aCons (eCon (.int 4)) (aCons (eCon (.int 6)) aNil))))))))
abbrev skC : FA := fLc (.nm 6) (iRg (aCons (eCall f_law_one (aCons (eVar 0) (aCons skL0 aNil))) aNil)) tYes' (eCall f_law_one (aCons (eVar 0) (aCons (eCon (.str [43, 45])) aNil))) [6]
theorem sk_eq : f_law_stacking = fnOf 3 7 (sSeq (sPar 3 4 (aCons (eBin oAdd (eVar 1) (eCall f_law_draw (aCons (eVar 0) (aCons (eBin oAdd (eBin oSub (eVar 2) (eVar 1)) (eCon (.int 1))) aNil)))) (aCons (eCall f_law_one (aCons (eVar 0) (aCons (eCon (.str [65, 66, 67])) aNil))) aNil))) (sSeq (sSet 5 (eMeth "str" bJoin (eCon (.str [])) (aCons (eFrz skC) aNil))) (sRet (eCall f_law_by (aCons (eVar 4) (aCons (eSl (eBin oMul (eVar 5) (eCon (.int 24))) oNone (oSome (eBin oSub (eVar 3) (eCon (.int 1))))) aNil)))))) := rfl
theorem rep_len {α : Type} (l : List α) (k : Nat) : (repL l k).length = k * l.length := by
  unfold repL
  rw [List.length_flatten, List.map_replicate, List.sum_replicate_nat]
theorem rep_mem {α : Type} {l : List α} {k : Nat} {x : α} (h : x ∈ repL l k) : x ∈ l := by
  unfold repL at h
  obtain ⟨y, hy, hx⟩ := List.mem_flatten.mp h
  rw [(List.mem_replicate.mp hy).2] at hx
  exact hx
theorem law_stacking_s {n : Nat} {S : Sto} (k : Has n S) {lo hi : Int} (h0 : 1 ≤ lo) (h1 : lo ≤ hi) (h2 : hi ≤ 24) : ∃ l S', f_law_stacking [.ref n, .int lo, .int hi] S = .ok (.str l) S' ∧ Dr n S S' ∧ Stk l ∧ lo ≤ (l.length : Int) ∧ (l.length : Int) ≤ hi := by
  obtain ⟨d, S1, e1, d1, hd⟩ := law_draw_s k (m := (hi - lo + 1).toNat) (by omega) (by omega)
  rw [Int.toNat_of_nonneg (by omega)] at e1
  obtain ⟨c, S2, e2, d2, hc⟩ := law_one_s (d1.has k) (l := [65, 66, 67]) (by simp) (by simp)
  have k2 := d2.has (d1.has k)
  obtain ⟨z, S3, e3, d3, hz⟩ := one_ints k2 (l := [24, 24, 1, 2, 3, 4, 6]) (ys := [.int 24, .int 24, .int 1, .int 2, .int 3, .int 4, .int 6]) rfl (by simp) (by simp)
  have hz' : 1 ≤ z ∧ z ≤ 24 := by
    simp at hz
    omega
  have k3 := d3.has k2
  obtain ⟨cs, S4, e4, d4, l4, t4⟩ := lc_draw (p := .nm 6) (elt := eCall f_law_one (aCons (eVar 0) (aCons (eCon (.str [43, 45])) aNil))) (φ := fun k : Nat => .int (k : Nat)) (T := fun c => c ∈ ([43, 45] : List Nat))
    (env := [some (PV.ref n), some (.int lo), some (.int hi), some (.int (lo + (d : Nat))), some (.str [c]), none, none]) (E := fun k : Nat => [some (PV.ref n), some (.int lo), some (.int hi), some (.int (lo + (d : Nat))), some (.str [c]), none, some (.int (k : Nat))]) (List.range z.toNat) S3 k3 rfl (fun x => rfl) (fun x T kT => by
      obtain ⟨c, T', e, dd, hc⟩ := law_one_s kT (l := [43, 45]) (by simp) (by simp)
      exact ⟨c, T', call2 rfl rfl e, dd, hc⟩)
  rw [List.length_range] at l4
  have hcs : ∀ c ∈ cs, c = 43 ∨ c = 45 := fun c hc => by simpa using t4 c hc
  haveI i1 : EvF f_law_draw [.ref n, .int (hi - lo + 1)] S (.int ((d : Nat) : Int)) S1 True := ⟨fun _ => e1⟩
  haveI i2 : EvF f_law_one [.ref n, .str [65, 66, 67]] S1 (.str [c]) S2 True := ⟨fun _ => e2⟩
  have hlen : (cs.length : Nat) = z.toNat := l4
  haveI i3 : EvA skC [some (PV.ref n), some (.int lo), some (.int hi), some (.int (lo + (d : Nat))), some (.str [c]), none, none] S2 (cs.map fun c => .str [c]) S4 True := ⟨fun _ => by
    have q1 : iRg (aCons (eCall f_law_one (aCons (eVar 0) (aCons skL0 aNil))) aNil) [some (PV.ref n), some (.int lo), some (.int hi), some (.int (lo + (d : Nat))), some (.str [c]), none, none] S2 = .ok ((List.range z.toNat).map fun k => .int (k : Nat)) S3 := by
      haveI : EvF f_law_one [.ref n, .lst [.int 24, .int 24, .int 1, .int 2, .int 3, .int 4, .int 6]] S2 (.int z) S3 True := ⟨fun _ => e3⟩
      exact EvI.run (by simp; omega)
    unfold skC
    rw [z_lc, q1, zb, if_pos (by rw [List.length_map, List.length_range]; exact Nat.lt_of_le_of_lt (show z.toNat ≤ 24 by omega) (by decide))]
    exact e4⟩
  have ll : ((repL cs 24).take (lo + (d : Int) - 1).toNat).length = (lo + (d : Int) - 1).toNat := by
    rw [List.length_take, rep_len]
    omega
  have hc' : Lt c := abc_in.mp hc
  refine ⟨led c ((repL cs 24).take (lo + (d : Int) - 1).toNat), S4, ?_, ((d1.trans d2).trans d3).trans d4, led_stk hc' (by omega), by rw [led_len, ll]; omega, by rw [led_len, ll]; omega⟩
  rw [sk_eq]
  refine (ev_fn rfl ?_).trans ?_
  · simp
    rw [cut_z _ _ (by omega), ll]
    exact ⟨⟨by omega, by omega, hc', by omega⟩, (((d1.trans d2).trans d3).trans d4).len⟩
  · rw [cut_z _ _ (by omega)]
    simp
theorem third_pick {a b : Nat} (ha : Lt a) (hb : Lt b) (h : a ≠ b) : ([65, 66, 67] : List Nat).filter (fun c => !(decide ([a] = [c]) || decide ([b] = [c]))) = [third a b] := by
  rcases ha with rfl | rfl | rfl <;> rcases hb with rfl | rfl | rfl <;> first | rfl | exact absurd rfl h
theorem law_closed_s {n : Nat} {S : Sto} (k : Has n S) {lo hi : Int} (h0 : 1 ≤ lo) (h1 : lo ≤ hi) (h2 : hi ≤ 24) (h3 : 2 ≤ hi) : ∃ l S', f_law_closed [.ref n, .int lo, .int hi] S = .ok (.str l) S' ∧ Dr n S S' ∧ Cls l ∧ lo ≤ (l.length : Int) ∧ (l.length : Int) ≤ hi := by
  obtain ⟨l, S', e, d, hs, l1, l2⟩ := law_stacking_s k (lo := if 2 > lo then 2 else lo) (hi := hi) (by split <;> omega) (by split <;> omega) h2
  have hl : 2 ≤ l.length ∧ lo ≤ (l.length : Int) := by split at l1 <;> omega
  haveI : EvF f_law_stacking [.ref n, .int (if 2 > lo then 2 else lo), .int hi] S (.str l) S' True := ⟨fun _ => e⟩
  have g0 : gi l 0 = l[0] := gi_0 (by omega)
  have g1 : gi l (-1) = l[l.length - 1] := gi_last (by omega)
  have g2 : gi l (-2) = l[l.length - 2] := gi_neg (k := 2) (by decide) (by omega)
  by_cases hc : gi l 0 = gi l (-1)
  · haveI : DecP ([gi l 0] = [gi l (-1)]) true := ⟨decide_eq_true (by rw [hc])⟩
    have a0 := hs.1 _ (List.getElem_mem (show 0 < l.length by omega))
    have a2 := hs.1 _ (List.getElem_mem (show l.length - 2 < l.length by omega))
    have ne2 : l[l.length - 2] ≠ l[l.length - 1] := hs.at (i := l.length - 2) (List.getElem?_eq_getElem _) (by rw [show l.length - 2 + 1 = l.length - 1 by omega]; exact List.getElem?_eq_getElem _)
    have ne : gi l 0 ≠ gi l (-2) := by rw [hc, g1, g2]; exact fun q => ne2 q.symm
    have tp := third_pick (by rw [g0]; exact a0) (by rw [g2]; exact a2) ne
    have tl := third_lt (by rw [g0]; exact a0) (by rw [g2]; exact a2) ne
    have h3l : 3 ≤ l.length := by
      refine Classical.byContradiction fun q => ne ?_
      rw [g0, g2]
      congr 1
      omega
    refine ⟨l.dropLast ++ [third (gi l 0) (gi l (-2))], S', ?_, d, ?_, by simp; omega, by simp; omega⟩
    · have tp2 : ([65, 66, 67] : List Nat).filter (fun x => !(decide ([gi l 0] = [x]) || (decide ([gi l (-2)] = [x]) || false))) = [third (gi l 0) (gi l (-2))] := by
        simpa using tp
      unfold f_law_closed
      refine (ev_fn rfl ?_).trans ?_
      · rw [tp2]
        simp [cut_init]
        exact ⟨by omega, d.len⟩
      · rw [cut_init, tp2]
        rfl
    · have hd : Stk l.dropLast := by
        refine Nb.stk ⟨fun c hc => hs.1 c (List.dropLast_subset l hc), fun i a b ha hb => ?_⟩ (by simp; omega) (by simp; omega)
        rw [List.getElem?_dropLast] at ha hb
        split at ha
        · split at hb
          · exact hs.at ha hb
          · cases hb
        · cases ha
      have hlast : l.dropLast.getLast? = some (gi l (-2)) := by
        rw [List.getLast?_eq_getElem?, List.length_dropLast, List.getElem?_dropLast, if_pos (by omega), g2, show l.length - 1 - 1 = l.length - 2 by omega]
        exact List.getElem?_eq_getElem _
      refine ⟨hd.snoc tl.1 hlast (fun q => tl.2.2 q.symm) (by simp; omega), ?_⟩
      have e0 : gi (l.dropLast ++ [third (gi l 0) (gi l (-2))]) 0 = gi l 0 := by
        rw [gi_0 (by simp), g0]
        rw [List.getElem_append_left (by simp; omega), List.getElem_dropLast]
      have e1 : gi (l.dropLast ++ [third (gi l 0) (gi l (-2))]) (-1) = third (gi l 0) (gi l (-2)) := by
        rw [gi_last (by simp)]
        simp
      rw [e0, e1]
      exact fun q => tl.2.1 q.symm
  · haveI : DecP ([gi l 0] = [gi l (-1)]) false := ⟨decide_eq_false fun q => hc (List.cons.inj q).1⟩
    refine ⟨l, S', ?_, d, ⟨hs, hc⟩, hl.2, l2⟩
    unfold f_law_closed
    refine ev_fn rfl ?_
    simp
    exact ⟨by omega, d.len⟩
theorem any_b {l : List Nat} : (l.zip (l.drop 1)).any (fun p => decide ([p.1] = [p.2])) = !((zz 1 (fun a b => a != b) l).all id) := by
  rw [← zip_all, List.any_eq_not_all_not]
  congr 2
  funext p
  by_cases h : p.1 = p.2 <;> simp [h]
abbrev bgB : FS := sSet 2 (eBin oMod (eCall bInt (aCons (eBin oAdd (eBin oAdd (eBin oAdd (eBin oMul (eVar 2) (eCon (.int 47653))) (eBin oMod (eCall bInt (aCons (eVar 4) aNil)) (eCon (.int 1999999943)))) (eBin oMul (eCon (.int 31)) (eVar 3))) (eCon (.int 5))) aNil)) (eCon (.int 2147483477)))
theorem law_bag_s (ns : List Int) (hl : ns.length ≤ 63) {t : Int} (h0 : 0 ≤ t) (h1 : t ≤ 1000) (S : Sto) : ∃ a b, f_law_bag [.scr ns, .int t] S = .ok (.ref S.length) (S ++ [pot a b 0]) := by
  obtain ⟨e', S', g, ⟨st, x3, x4, rfl, rfl⟩⟩ := for_l (p := .tp [.nm 3, .nm 4]) (body := bgB) (xs := (cut ns none (some 9)).zipIdx) (φ := fun p => .tup [.int (p.2 : Nat), .int p.1])
    (fun i env T => ∃ (st : Int) (x3 x4 : Option PV), env = [some (PV.scr ns), some (.int t), some (.int st), x3, x4, none, none] ∧ T = S) (fun i hi env T ⟨st, x3, x4, h1, h2⟩ => by
      subst h1 h2
      refine ⟨_, _, _, SetP.eq, EvS.run ?_, ⟨_, _, _, rfl, rfl⟩⟩
      simp [mul_small (i := st) (j := 47653) (by decide), fun j => mulOk_l (i := 31) (j := j) (by decide)]) (env := [some (PV.scr ns), some (.int t), some (.int (70001 + 3571 * t)), none, none, none, none]) (S := S) ⟨_, none, none, rfl, rfl⟩
  haveI i1 := EvS.mk (C := True) fun _ => sfor_ev (p := .tp [.nm 3, .nm 4]) (it := iEnum' (eSl (eVar 0) oNone (oSome (eCon (.int 9))))) (body := bgB) (by simp) g
  by_cases hc : t < (ns.length : Nat)
  · haveI : DecP (t < (ns.length : Nat)) true := ⟨decide_eq_true hc⟩
    refine ⟨_, _, fk_ret rfl Start.eq (EvS.run ?_)⟩
    simp [mulOk_l (i := 3571) (j := t) (by decide), fun j => mulOk_l (i := 3) (j := j) (by decide), hc, powOk]
    omega
  · haveI : DecP (t < (ns.length : Nat)) false := ⟨decide_eq_false hc⟩
    refine ⟨_, _, fk_ret rfl Start.eq (EvS.run ?_)⟩
    simp [mulOk_l (i := 3571) (j := t) (by decide), fun j => mulOk_l (i := 3) (j := j) (by decide), powOk]
theorem same_seqB (n : Nat) (x : PV) (xs : List PV) (hx : x = .tup xs ∨ x = .lst xs) (hl : xs.length ≤ 1000000) (ih : ∀ y ∈ xs, ∀ S, f_law_same n [y, y] S = .ok (.bl true) S) (S : Sto) : f_law_same (n + 1) [x, x] S = .ok (.bl true) S := by
  haveI : ∀ y S, EvF (f_law_same n) [y, y] S (.bl true) S (y ∈ xs) := fun y S => ⟨fun h => ih y h S⟩
  have hm : ∀ k : Nat, k < xs.length → gi xs (k : Int) ∈ xs := fun k hk => by rw [gi_nat hk]; exact List.getElem_mem hk
  unfold f_law_same
  rcases hx with rfl | rfl
  · refine (ev_fn rfl ?_).trans ?_
    · simp
      exact ⟨by omega, by omega, fun k hk => ⟨by omega, hm k hk⟩⟩
    · simp
  · refine (ev_fn rfl ?_).trans ?_
    · simp
      exact ⟨by omega, by omega, fun k hk => ⟨by omega, hm k hk⟩⟩
    · simp
end Lw


namespace Lw
open Pv L2
noncomputable def dI (n : Nat) (m : Int) (S : Sto) : Nat := vI (f_law_draw [.ref n, .int m] S)
noncomputable def dS (n : Nat) (m : Int) (S : Sto) : Sto := stS n S (f_law_draw [.ref n, .int m] S)
theorem d_all {n : Nat} {S : Sto} {m : Int} (h : Has n S ∧ 0 < m ∧ m < 100000) : ∃ v S', f_law_draw [.ref n, .int m] S = .ok v S' ∧ Dr n S S' ∧ (.int ((vI (f_law_draw [.ref n, .int m] S) : Nat) : Int) : PV) = v ∧ (((vI (f_law_draw [.ref n, .int m] S) : Nat) : Int) < m) := by
  obtain ⟨d, S', e, k, l⟩ := law_draw_s h.1 (m := m.toNat) (by omega) (by omega)
  rw [show ((m.toNat : Nat) : Int) = m by omega] at e
  exact ⟨_, S', e, k, by rw [e]; rfl, by rw [e]; show (((d : Nat) : Int).toNat : Int) < m; omega⟩
instance {n : Nat} {S : Sto} {m : Int} : EvF f_law_draw [.ref n, .int m] S (.int ((dI n m S : Nat) : Int)) (dS n m S) (Has n S ∧ 0 < m ∧ m < 100000) := ⟨fun h => by
  obtain ⟨v, S', e, k, w, _⟩ := d_all h
  exact dr_run h.1 e k w⟩
theorem d_ok {n : Nat} {S : Sto} {m : Int} (h : Has n S ∧ 0 < m ∧ m < 100000) : ((dI n m S : Nat) : Int) < m := by
  obtain ⟨v, S', e, k, w, q⟩ := d_all h
  exact q
theorem dS_dr {n : Nat} {S : Sto} {m : Int} {S0 : Sto} (h : Dr n S0 S) : Dr n S0 (dS n m S) := stS_dr h
@[simp] theorem dS_has {n : Nat} {S : Sto} {m : Int} : Has n (dS n m S) ↔ Has n S := stS_has
@[simp] theorem dS_len {n : Nat} {S : Sto} {m : Int} : (dS n m S).length = S.length := stS_len
noncomputable def onC (n : Nat) (l : List Nat) (S : Sto) : Nat := vC (f_law_one [.ref n, .str l] S)
noncomputable def onS (n : Nat) (l : List Nat) (S : Sto) : Sto := stS n S (f_law_one [.ref n, .str l] S)
theorem on_all {n : Nat} {S : Sto} {l : List Nat} (h : Has n S ∧ l ≠ [] ∧ l.length < 1000) : ∃ v S', f_law_one [.ref n, .str l] S = .ok v S' ∧ Dr n S S' ∧ (.str [vC (f_law_one [.ref n, .str l] S)] : PV) = v ∧ (vC (f_law_one [.ref n, .str l] S) ∈ l) := by
  obtain ⟨d, S', e, k, l⟩ := law_one_s h.1 h.2.1 h.2.2
  exact ⟨_, S', e, k, by rw [e]; rfl, by rw [e]; exact l⟩
instance {n : Nat} {S : Sto} {l : List Nat} : EvF f_law_one [.ref n, .str l] S (.str [onC n l S]) (onS n l S) (Has n S ∧ l ≠ [] ∧ l.length < 1000) := ⟨fun h => by
  obtain ⟨v, S', e, k, w, _⟩ := on_all h
  exact dr_run h.1 e k w⟩
theorem on_ok {n : Nat} {S : Sto} {l : List Nat} (h : Has n S ∧ l ≠ [] ∧ l.length < 1000) : onC n l S ∈ l := by
  obtain ⟨v, S', e, k, w, q⟩ := on_all h
  exact q
theorem onS_dr {n : Nat} {S : Sto} {l : List Nat} {S0 : Sto} (h : Dr n S0 S) : Dr n S0 (onS n l S) := stS_dr h
@[simp] theorem onS_has {n : Nat} {S : Sto} {l : List Nat} : Has n (onS n l S) ↔ Has n S := stS_has
@[simp] theorem onS_len {n : Nat} {S : Sto} {l : List Nat} : (onS n l S).length = S.length := stS_len
noncomputable def skL (n : Nat) (a b : Int) (S : Sto) : List Nat := vL (f_law_stacking [.ref n, .int a, .int b] S)
noncomputable def skS (n : Nat) (a b : Int) (S : Sto) : Sto := stS n S (f_law_stacking [.ref n, .int a, .int b] S)
theorem sk_all {n : Nat} {S : Sto} {a b : Int} (h : Has n S ∧ 1 ≤ a ∧ a ≤ b ∧ b ≤ 24) : ∃ v S', f_law_stacking [.ref n, .int a, .int b] S = .ok v S' ∧ Dr n S S' ∧ (.str (vL (f_law_stacking [.ref n, .int a, .int b] S)) : PV) = v ∧ (Stk (vL (f_law_stacking [.ref n, .int a, .int b] S)) ∧ a ≤ (((vL (f_law_stacking [.ref n, .int a, .int b] S)).length : Nat) : Int) ∧ (((vL (f_law_stacking [.ref n, .int a, .int b] S)).length : Nat) : Int) ≤ b) := by
  obtain ⟨d, S', e, k, l1, l2, l3⟩ := law_stacking_s h.1 h.2.1 h.2.2.1 h.2.2.2
  exact ⟨_, S', e, k, by rw [e]; rfl, by rw [e]; exact ⟨l1, l2, l3⟩⟩
instance {n : Nat} {S : Sto} {a b : Int} : EvF f_law_stacking [.ref n, .int a, .int b] S (.str (skL n a b S)) (skS n a b S) (Has n S ∧ 1 ≤ a ∧ a ≤ b ∧ b ≤ 24) := ⟨fun h => by
  obtain ⟨v, S', e, k, w, _⟩ := sk_all h
  exact dr_run h.1 e k w⟩
theorem sk_ok {n : Nat} {S : Sto} {a b : Int} (h : Has n S ∧ 1 ≤ a ∧ a ≤ b ∧ b ≤ 24) : Stk (skL n a b S) ∧ a ≤ (((skL n a b S).length : Nat) : Int) ∧ (((skL n a b S).length : Nat) : Int) ≤ b := by
  obtain ⟨v, S', e, k, w, q⟩ := sk_all h
  exact q
theorem skS_dr {n : Nat} {S : Sto} {a b : Int} {S0 : Sto} (h : Dr n S0 S) : Dr n S0 (skS n a b S) := stS_dr h
@[simp] theorem skS_has {n : Nat} {S : Sto} {a b : Int} : Has n (skS n a b S) ↔ Has n S := stS_has
@[simp] theorem skS_len {n : Nat} {S : Sto} {a b : Int} : (skS n a b S).length = S.length := stS_len
noncomputable def clL (n : Nat) (a b : Int) (S : Sto) : List Nat := vL (f_law_closed [.ref n, .int a, .int b] S)
noncomputable def clS (n : Nat) (a b : Int) (S : Sto) : Sto := stS n S (f_law_closed [.ref n, .int a, .int b] S)
theorem cl_all {n : Nat} {S : Sto} {a b : Int} (h : Has n S ∧ 1 ≤ a ∧ a ≤ b ∧ b ≤ 24 ∧ 2 ≤ b) : ∃ v S', f_law_closed [.ref n, .int a, .int b] S = .ok v S' ∧ Dr n S S' ∧ (.str (vL (f_law_closed [.ref n, .int a, .int b] S)) : PV) = v ∧ (Cls (vL (f_law_closed [.ref n, .int a, .int b] S)) ∧ a ≤ (((vL (f_law_closed [.ref n, .int a, .int b] S)).length : Nat) : Int) ∧ (((vL (f_law_closed [.ref n, .int a, .int b] S)).length : Nat) : Int) ≤ b) := by
  obtain ⟨d, S', e, k, l1, l2, l3⟩ := law_closed_s h.1 h.2.1 h.2.2.1 h.2.2.2.1 h.2.2.2.2
  exact ⟨_, S', e, k, by rw [e]; rfl, by rw [e]; exact ⟨l1, l2, l3⟩⟩
instance {n : Nat} {S : Sto} {a b : Int} : EvF f_law_closed [.ref n, .int a, .int b] S (.str (clL n a b S)) (clS n a b S) (Has n S ∧ 1 ≤ a ∧ a ≤ b ∧ b ≤ 24 ∧ 2 ≤ b) := ⟨fun h => by
  obtain ⟨v, S', e, k, w, _⟩ := cl_all h
  exact dr_run h.1 e k w⟩
theorem cl_ok {n : Nat} {S : Sto} {a b : Int} (h : Has n S ∧ 1 ≤ a ∧ a ≤ b ∧ b ≤ 24 ∧ 2 ≤ b) : Cls (clL n a b S) ∧ a ≤ (((clL n a b S).length : Nat) : Int) ∧ (((clL n a b S).length : Nat) : Int) ≤ b := by
  obtain ⟨v, S', e, k, w, q⟩ := cl_all h
  exact q
theorem clS_dr {n : Nat} {S : Sto} {a b : Int} {S0 : Sto} (h : Dr n S0 S) : Dr n S0 (clS n a b S) := stS_dr h
@[simp] theorem clS_has {n : Nat} {S : Sto} {a b : Int} : Has n (clS n a b S) ↔ Has n S := stS_has
@[simp] theorem clS_len {n : Nat} {S : Sto} {a b : Int} : (clS n a b S).length = S.length := stS_len
noncomputable def oiI (n : Nat) (l : List Int) (S : Sto) : Int := match f_law_one [.ref n, .lst (l.map .int)] S with
  | .ok (.int z) _ => z
  | _ => 0
noncomputable def oiS (n : Nat) (l : List Int) (S : Sto) : Sto := stS n S (f_law_one [.ref n, .lst (l.map .int)] S)
theorem oi_all {n : Nat} {S : Sto} {l : List Int} (h : Has n S ∧ l ≠ [] ∧ l.length < 1000) : ∃ S', f_law_one [.ref n, .lst (l.map .int)] S = .ok (.int (oiI n l S)) S' ∧ Dr n S S' ∧ oiI n l S ∈ l := by
  obtain ⟨z, S', e, d, hz⟩ := one_ints h.1 (l := l) rfl h.2.1 h.2.2
  have hi : oiI n l S = z := by unfold oiI; rw [e]
  exact ⟨S', by rw [hi]; exact e, d, by rw [hi]; exact hz⟩
instance {n : Nat} {S : Sto} {l : List Int} {ys : List PV} [a : Lits ys l PV.int] : EvF f_law_one [.ref n, .lst ys] S (.int (oiI n l S)) (oiS n l S) (Has n S ∧ l ≠ [] ∧ l.length < 1000) := ⟨fun h => by
  obtain ⟨S', e, d, _⟩ := oi_all h
  rw [a.eq]
  exact dr_run h.1 e d rfl⟩
theorem oi_ok {n : Nat} {S : Sto} {l : List Int} (h : Has n S ∧ l ≠ [] ∧ l.length < 1000) : oiI n l S ∈ l := by
  obtain ⟨S', e, d, q⟩ := oi_all h
  exact q
theorem oiS_dr {n : Nat} {S S0 : Sto} {l : List Int} (h : Dr n S0 S) : Dr n S0 (oiS n l S) := stS_dr h
@[simp] theorem oiS_has {n : Nat} {S : Sto} {l : List Int} : Has n (oiS n l S) ↔ Has n S := stS_has
@[simp] theorem oiS_len {n : Nat} {S : Sto} {l : List Int} : (oiS n l S).length = S.length := stS_len

noncomputable def poC (ns : List Int) (t : Int) (S : Sto) : List PV := match f_law_bag [.scr ns, .int t] S with
  | .ok _ S' => (match S'[S.length]? with
    | some (.lst xs) => xs
    | none => [])
  | .no => []
theorem po_all {ns : List Int} {t : Int} {S : Sto} (h : ns.length ≤ 63 ∧ 0 ≤ t ∧ t ≤ 1000) : f_law_bag [.scr ns, .int t] S = .ok (.ref S.length) (S ++ [.lst (poC ns t S)]) ∧ Has S.length (S ++ [.lst (poC ns t S)]) := by
  obtain ⟨a, b, e⟩ := law_bag_s ns h.1 h.2.1 h.2.2 S
  have e2 : poC ns t S = [.int a, .int b, .int 0] := by
    unfold poC
    rw [e]
    show (match (S ++ [pot a b 0])[S.length]? with | some (.lst xs) => xs | none => []) = _
    rw [show (S ++ [pot a b 0])[S.length]? = some (pot a b 0) by simp]
    rfl
  rw [e2]
  exact ⟨e, ⟨a, b, 0, by simp; rfl⟩⟩
instance {ns : List Int} {t : Int} {S : Sto} : EvF f_law_bag [.scr ns, .int t] S (.ref S.length) (S ++ [.lst (poC ns t S)]) (ns.length ≤ 63 ∧ 0 ≤ t ∧ t ≤ 1000) := ⟨fun h => (po_all h).1⟩
end Lw

namespace Lw
open Pv L2
theorem same_atom {n : Nat} {x : PV} (h : ∀ ys, x ≠ .tup ys) (h1 : ∀ ys, x ≠ .lst ys) (h2 : smP x = true) (S : Sto) : f_law_same (n + 1) [x, x] S = .ok (.bl true) S := by
  cases x with
  | non => unfold f_law_same; refine (ev_fn rfl ?_).trans ?_ <;> simp
  | bl b => unfold f_law_same; refine (ev_fn rfl ?_).trans ?_ <;> simp
  | int b => unfold f_law_same; refine (ev_fn rfl ?_).trans ?_ <;> simp
  | str b => unfold f_law_same; refine (ev_fn rfl ?_).trans ?_ <;> simp
  | tup xs => exact absurd rfl (h xs)
  | lst xs => exact absurd rfl (h1 xs)
  | scr => cases h2
  | ref => cases h2
theorem same_all : ∀ (n : Nat) (x : PV), dpt x ≤ n → smP x = true → ∀ S, f_law_same (n + 1) [x, x] S = .ok (.bl true) S
  | 0, x, hd, hs, S => same_atom (fun ys e => by subst e; simp only [dpt] at hd; omega) (fun ys e => by subst e; simp only [dpt] at hd; omega) hs S
  | n + 1, x, hd, hs, S => by
    have go : ∀ xs : List PV, (x = .tup xs ∨ x = .lst xs) → xs.length ≤ 1000000 → dpts xs ≤ n → smPs xs = true → f_law_same (n + 1 + 1) [x, x] S = .ok (.bl true) S := fun xs hx hl hd hs => same_seqB (n + 1) x xs hx hl (fun y hy S => same_all n y (dpts_all hd y hy) (smPs_all hs y hy) S) S
    cases x with
    | tup xs =>
      obtain ⟨h1, h2⟩ := Bool.and_eq_true_iff.mp (show (decide (xs.length ≤ 1000000) && smPs xs) = true from hs)
      exact go xs (.inl rfl) (of_decide_eq_true h1) (by simp only [dpt] at hd; omega) h2
    | lst xs =>
      obtain ⟨h1, h2⟩ := Bool.and_eq_true_iff.mp (show (decide (xs.length ≤ 1000000) && smPs xs) = true from hs)
      exact go xs (.inr rfl) (of_decide_eq_true h1) (by simp only [dpt] at hd; omega) h2
    | _ => exact same_atom (fun ys e => by cases e) (fun ys e => by cases e) hs S
theorem same_ok {x y : PV} {n d : Nat} {C : Prop} [a : Sm x d C] {S : Sto} (h : x = y ∧ d < n ∧ C) : f_law_same n [x, y] S = .ok (.bl true) S := by
  obtain ⟨m, rfl⟩ : ∃ m, n = m + 1 := ⟨n - 1, by omega⟩
  have hd := a.d
  rw [← h.1]
  exact same_all m x (by omega) (a.run h.2.2) S
instance {x y : PV} {n d : Nat} {C : Prop} {S : Sto} [a : Sm x d C] : EvF (f_law_same n) [x, y] S (.bl true) S (x = y ∧ d < n ∧ C) := ⟨same_ok⟩
end Lw

set_option synthInstance.maxSize 1000000
set_option synthInstance.maxHeartbeats 0
namespace Lw
open Pv L2
/-! ### triples -/
abbrev T3 := Nat × Nat × Nat
def tp (t : T3) : PV := .tup [.int (t.1 : Nat), .int (t.2.1 : Nat), .int (t.2.2 : Nat)]
instance {t : T3} : IsPV (tp t) True := ⟨fun _ => rfl⟩
instance {t : T3} {ps : List Pat} {env e1 : VEnv} [h : SetP (.tp ps) (.tup [.int (t.1 : Nat), .int (t.2.1 : Nat), .int (t.2.2 : Nat)]) env e1] : SetP (.tp ps) (tp t) env e1 := ⟨h.eq⟩
theorem ints3 {a b : List Int} : eqPVs (a.map PV.int) (b.map PV.int) = decide (a = b) := by
  have := (inferInstance : EqVs (a.map PV.int) (b.map PV.int) 0 _).eq
  exact this
instance : InjV tp 1 := ⟨fun a => Nat.le_refl _, fun a b => by
  obtain ⟨a1, a2, a3⟩ := a
  obtain ⟨b1, b2, b3⟩ := b
  show eqPVs (([a1, a2, a3] : List Nat).map fun (k : Nat) => PV.int (k : Nat)) (([b1, b2, b3] : List Nat).map fun (k : Nat) => PV.int (k : Nat)) = _
  rw [(inferInstance : EqVs (([a1, a2, a3] : List Nat).map fun (k : Nat) => PV.int (k : Nat)) (([b1, b2, b3] : List Nat).map fun (k : Nat) => PV.int (k : Nat)) 0 _).eq, Bool.eq_iff_iff]
  simp⟩
instance {a b : T3} {p : Bool} [h : DecP (a = b) p] : EqV (tp a) (tp b) 1 p := ⟨Nat.le_refl _, Nat.le_refl _, by
  rw [← h.eq]
  exact InjV.eq (φ := tp) a b⟩
/-- how far apart, of a text and itself turned -/
def far (l : List Nat) (k : Nat) : List Int := (l.zip (l.drop k ++ l.take k)).map fun p => (((p.2 - 65 : Nat) : Int) - ((p.1 - 65 : Nat) : Int)) % 3
theorem far_count {l : List Nat} (hl : ∀ c ∈ l, Lt c) (h0 : 0 < l.length) {k : Nat} (hk : k ≤ l.length) (v : Nat) (hv : v < 3) : (far l k).count (v : Int) = c1 l k v := by
  have e : far l k = (List.range l.length).map fun i => ((dd (gx l i) (gx l (i + k)) : Nat) : Int) := by
    apply List.ext_getElem?
    intro i
    unfold far
    rw [List.getElem?_map, List.getElem?_map]
    by_cases hi : i < l.length
    · rw [List.getElem?_range hi, List.getElem?_zip_eq_some (z := (gx l i, gx l (i + k))) |>.mpr ⟨gx_get hi, rot_get hk hi⟩]
      have a := hl _ (gx_mem h0 i)
      have b := hl _ (gx_mem h0 (i + k))
      simp only [Option.map_some, Option.some.injEq]
      rcases a with a | a | a <;> rcases b with b | b | b <;> rw [a, b] <;> rfl
    · rw [List.getElem?_eq_none (by simp; omega), List.getElem?_eq_none (by simp; omega)]
      rfl
  rw [e, List.count_eq_countP, List.countP_map, c1, List.countP_eq_length_filter]
  congr 2
  funext i
  simp only [Function.comp]
  rw [Bool.eq_iff_iff, beq_iff_eq, beq_iff_eq]
  omega
instance {xs : List Int} {k : Int} {S : Sto} : EvM bLCount (.lst (xs.map PV.int)) [.int k] S (.int (xs.count k : Nat)) S True := ⟨fun _ => by
  unfold bLCount
  simp only [intsOf_map]⟩
instance {α : Type} {xs : List α} {f : α → Int} {k : Int} {S : Sto} : EvM bLCount (.lst (xs.map fun x => .int (f x))) [.int k] S (.int ((xs.map f).count k : Nat)) S True := ⟨fun _ => by
  have e : (xs.map fun x => PV.int (f x)) = (xs.map f).map PV.int := by rw [List.map_map]; rfl
  rw [e]
  unfold bLCount
  simp only [intsOf_map]⟩
instance {l : List Nat} {k : Nat} {S : Sto} : EvF f_count_triple [.str l, .int (k : Nat)] S (tp (c3 l k)) S ((∀ c ∈ l, Lt c) ∧ 0 < l.length ∧ k ≤ l.length ∧ l.length < 1000) := ⟨fun h => by
  unfold f_count_triple
  obtain ⟨h1, h2, h3, h4⟩ := h
  refine (ev_fn rfl ?_).trans ?_
  · simp [cut_drop, cut_take]
    refine ⟨by omega, by omega, fun a b hm => ?_⟩
    obtain ⟨m1, m2⟩ := List.of_mem_zip hm
    refine ⟨?_, h1 a m1⟩
    rcases List.mem_append.mp m2 with m2 | m2
    · exact h1 b (List.mem_of_mem_drop m2)
    · exact h1 b (List.mem_of_mem_take m2)
  · rw [cut_drop, cut_take]
    show R.ok (PV.tup [.int (((far l k).count ((0 : Nat) : Int) : Nat) : Int), .int (((far l k).count ((1 : Nat) : Int) : Nat) : Int), .int (((far l k).count ((2 : Nat) : Int) : Nat) : Int)]) S = _
    rw [far_count h1 h2 h3 0 (by decide), far_count h1 h2 h3 1 (by decide), far_count h1 h2 h3 2 (by decide)]
    rfl⟩
abbrev rP (r : List T3) : PV := .lst (r.map tp)
instance {l : List Nat} {S : Sto} : EvF f_layer_counts_by [.str l] S (rP (cnts l)) S ((∀ c ∈ l, Lt c) ∧ 0 < l.length ∧ l.length < 1000) := ⟨fun h => by
  unfold f_layer_counts_by
  obtain ⟨h1, h2, h3⟩ := h
  refine (ev_fn rfl ?_).trans ?_
  · simp
    exact ⟨by omega, by omega, fun k hk => ⟨h1, h2, by omega, h3⟩⟩
  · show R.ok (PV.lst ((List.range ((l.length : Nat) : Int).toNat).map fun k => tp (c3 l k))) S = _
    rw [Int.toNat_natCast]
    unfold cnts
    rw [rP, List.map_map]
    rfl⟩
instance {r : List T3} {S : Sto} : EvF f_exchanged_triples [rP r] S (rP (xch r)) S (r.length < 1000) := ⟨fun h => by
  unfold f_exchanged_triples
  refine (ev_fn rfl ?_).trans ?_
  · simp
    omega
  · unfold xch
    rw [rP, List.map_map]
    rfl⟩
/-- where they are unlike -/
def uL (r q : List T3) : List Nat := ((r.zip q).zipIdx.filter fun p => !decide (p.1.1 = p.1.2)).map (·.2)
def fuV (r q : List T3) : PV := match uL r q with
  | [] => .non
  | a :: _ => .int (a : Nat)
theorem dpts_ints {α : Type} (f : α → Int) : ∀ xs : List α, dpts (xs.map fun x => PV.int (f x)) = 0
  | [] => rfl
  | x :: xs => by
    have ih := dpts_ints f xs
    simp only [List.map_cons, dpts, ih]
    rfl
instance {α : Type} [DecidableEq (List α)] {xs : List α} {f : α → Int} {p : Bool} [k : DecP (xs = []) p] : EqVs (xs.map fun x => PV.int (f x)) [] 0 p := ⟨Nat.le_of_eq (dpts_ints f xs), Nat.le_refl _, by
  rw [← k.eq]
  cases xs with
  | nil => exact (decide_eq_true rfl).symm
  | cons a r => exact (decide_eq_false (fun e => by cases e)).symm⟩
instance {r q : List T3} {S : Sto} : EvF f_first_unlike [rP r, rP q] S (fuV r q) S (r.length < 1000) := ⟨fun h => by
  unfold f_first_unlike
  have hm : min r.length q.length ≤ r.length := Nat.min_le_left _ _
  by_cases e : ((r.zip q).zipIdx.filter fun p => !decide (p.1.1 = p.1.2)) = []
  · haveI : DecP (((r.zip q).zipIdx.filter fun p => !decide (p.1.1 = p.1.2)) = []) true := ⟨decide_eq_true e⟩
    refine (ev_fn rfl ?_).trans ?_
    · simp
      omega
    · unfold fuV uL
      rw [e]
      rfl
  · haveI : DecP (((r.zip q).zipIdx.filter fun p => !decide (p.1.1 = p.1.2)) = []) false := ⟨decide_eq_false e⟩
    have hl := List.length_pos_iff.mpr e
    refine (ev_fn rfl ?_).trans ?_
    · obtain ⟨a, b, hab⟩ := List.exists_cons_of_ne_nil e
      have hex : ∃ x ∈ (r.zip q).zipIdx, ¬x.1.1 = x.1.2 := by
        have m : a ∈ ((r.zip q).zipIdx.filter fun p => !decide (p.1.1 = p.1.2)) := by rw [hab]; exact List.mem_cons_self ..
        obtain ⟨m1, m2⟩ := List.mem_filter.mp m
        exact ⟨a, m1, by simpa using m2⟩
      simp [-Prod.exists, -Prod.forall]
      exact ⟨by omega, hex⟩
    · unfold fuV uL
      obtain ⟨a, b, hab⟩ := List.exists_cons_of_ne_nil e
      rw [hab, gi_0 (by simp)]
      rfl⟩
instance : MemV .non [] 0 false := ⟨Nat.le_refl _, Nat.le_refl _, rfl⟩
instance {i : Int} : EqV (.int i) .non 0 false := ⟨Nat.le_refl _, Nat.le_refl _, rfl⟩
theorem fuV_cases (r q : List T3) : (uL r q = [] ∧ fuV r q = .non) ∨ ∃ a b, uL r q = a :: b ∧ fuV r q = .int (a : Nat) := by
  unfold fuV
  cases h : uL r q with
  | nil => exact .inl ⟨rfl, rfl⟩
  | cons a b => exact .inr ⟨a, b, rfl, rfl⟩
/-- the two places where counts differ, if they do both ways -/
def upV (r q : List T3) : PV := match uL r q, uL r (xch q) with
  | a :: _, b :: _ => .tup [.int (a : Nat), .int (b : Nat)]
  | _, _ => .non
theorem cnts_len {l : List Nat} : (cnts l).length = l.length := by
  unfold cnts
  rw [List.length_map, List.length_range]
theorem places_s {l m : List Nat} (h : (∀ c ∈ l, Lt c) ∧ 0 < l.length ∧ l.length < 1000) (h' : (∀ c ∈ m, Lt c) ∧ 0 < m.length ∧ m.length < 1000) (S : Sto) : f_unlike_places_by [.str l, .str m] S = .ok (upV (cnts l) (cnts m)) S := by
  have k1 : (cnts l).length < 1000 := by rw [cnts_len]; exact h.2.2
  have k2 : (cnts m).length < 1000 := by rw [cnts_len]; exact h'.2.2
  unfold f_unlike_places_by upV
  rcases fuV_cases (cnts l) (cnts m) with ⟨a1, a2⟩ | ⟨a, b, a1, a2⟩
  · rw [a1]
    haveI : ∀ S, EvF f_first_unlike [rP (cnts l), rP (cnts m)] S .non S True := fun S => ⟨fun _ => by rw [← a2]; exact EvF.run k1⟩
    rcases fuV_cases (cnts l) (xch (cnts m)) with ⟨b1, b2⟩ | ⟨c, d, b1, b2⟩
    · haveI : ∀ S, EvF f_first_unlike [rP (cnts l), rP (xch (cnts m))] S .non S True := fun S => ⟨fun _ => by rw [← b2]; exact EvF.run k1⟩
      exact ev_fn rfl (by simp [h, h', k2]; exact ⟨h.1, h'.1⟩)
    · haveI : ∀ S, EvF f_first_unlike [rP (cnts l), rP (xch (cnts m))] S (.int (c : Nat)) S True := fun S => ⟨fun _ => by rw [← b2]; exact EvF.run k1⟩
      exact ev_fn rfl (by simp [h, h', k2]; exact ⟨h.1, h'.1⟩)
  · rw [a1]
    haveI : ∀ S, EvF f_first_unlike [rP (cnts l), rP (cnts m)] S (.int (a : Nat)) S True := fun S => ⟨fun _ => by rw [← a2]; exact EvF.run k1⟩
    rcases fuV_cases (cnts l) (xch (cnts m)) with ⟨b1, b2⟩ | ⟨c, d, b1, b2⟩
    · rw [b1]
      haveI : ∀ S, EvF f_first_unlike [rP (cnts l), rP (xch (cnts m))] S .non S True := fun S => ⟨fun _ => by rw [← b2]; exact EvF.run k1⟩
      exact ev_fn rfl (by simp [h, h', k2]; exact ⟨h.1, h'.1⟩)
    · rw [b1]
      haveI : ∀ S, EvF f_first_unlike [rP (cnts l), rP (xch (cnts m))] S (.int (c : Nat)) S True := fun S => ⟨fun _ => by rw [← b2]; exact EvF.run k1⟩
      exact ev_fn rfl (by simp [h, h', k2]; exact ⟨h.1, h'.1⟩)
end Lw

set_option synthInstance.maxSize 1000000
set_option synthInstance.maxHeartbeats 0
namespace Lw
open Pv L2
theorem cls_n {l : List Nat} (h : Cls l) : (∀ c ∈ l, Lt c) ∧ 0 < l.length ∧ l.length < 1000 := ⟨h.1.1, h.pos, by have := h.1.2.2.1; omega⟩
instance {l m : List Nat} {S : Sto} : EvF f_unlike_places_by [.str l, .str m] S (upV (cnts l) (cnts m)) S (Cls l ∧ Cls m) := ⟨fun h => places_s (cls_n h.1) (cls_n h.2) S⟩
instance {l m : List Nat} {S : Sto} : EvF f_check_two_closed [.str l, .str m] S .non S (Cls l ∧ Cls m ∧ m.length = l.length) := ⟨fun h => by
  haveI : DecP (Cls m) true := ⟨decide_eq_true h.2.1⟩
  haveI : DecP (((m.length : Nat) : Int) = ((l.length : Nat) : Int)) true := ⟨decide_eq_true (by rw [h.2.2])⟩
  unfold f_check_two_closed
  exact ev_fn rfl (by simp [h, cls_len h.1, cls_len h.2.1])⟩
instance {l m : List Nat} {S : Sto} : EvF f_unlike_places [.str l, .str m] S (upV (cnts l) (cnts m)) S (Cls l ∧ Cls m ∧ m.length = l.length) := ⟨fun h => by
  have hi : IsPV (upV (cnts l) (cnts m)) True := ⟨fun _ => by
    unfold upV
    split <;> rfl⟩
  unfold f_unlike_places
  exact ev_fn rfl (by simp [h])⟩
instance {l : List Nat} {S : Sto} : EvF f_layer_counts [.str l] S (.tup ((cnts l).map tp)) S (Cls l) := ⟨fun h => by
  unfold f_layer_counts
  exact ev_fn rfl (by simp [h]; exact cls_n h)⟩
instance {l : List Nat} {S : Sto} : EvF f_like_row [.str l] S (.tup ((cnts l).map fun t => .int (t.1 : Nat))) S (Cls l) := ⟨fun h => by
  unfold f_like_row
  exact ev_fn rfl (by simp [h, cnts_len]; exact ⟨cls_n h, by have := h.1.2.2.1; omega⟩)⟩
instance {l : List Nat} {S : Sto} : EvF f_letter_counts [.str l] S (.tup [.int (l.count 65 : Nat), .int (l.count 66 : Nat), .int (l.count 67 : Nat)]) S (Stk l) := ⟨fun h => by
  haveI : DecP (Stk l) true := ⟨decide_eq_true h⟩
  have e : f_check_stacking [.str l] S = .ok .non S := by
    unfold f_check_stacking
    exact ev_fn rfl (by simp [stk_len h])
  haveI : EvF f_check_stacking [.str l] S .non S True := ⟨fun _ => e⟩
  unfold f_letter_counts
  exact (ev_fn rfl (by simp)).trans rfl⟩
theorem upV_cases (r q : List T3) : upV r q = .non ∨ ∃ a b : Nat, upV r q = .tup [.int (a : Nat), .int (b : Nat)] := by
  unfold upV
  split
  · exact .inr ⟨_, _, rfl⟩
  · exact .inl rfl
/-- like counts, as the program says -/
def lkB (r q : List T3) : Bool := match upV r q with
  | .non => true
  | _ => false
instance {l m : List Nat} {S : Sto} : EvF f_have_like_counts_by [.str l, .str m] S (.bl (lkB (cnts l) (cnts m))) S (Cls l ∧ Cls m) := ⟨fun h => by
  unfold f_have_like_counts_by lkB
  rcases upV_cases (cnts l) (cnts m) with e | ⟨a, b, e⟩
  · haveI : ∀ S, EvF f_unlike_places_by [.str l, .str m] S .non S True := fun S => ⟨fun _ => by rw [← e]; exact EvF.run h⟩
    rw [e]
    exact (ev_fn rfl (by simp)).trans rfl
  · haveI : ∀ S, EvF f_unlike_places_by [.str l, .str m] S (.tup [.int (a : Nat), .int (b : Nat)]) S True := fun S => ⟨fun _ => by rw [← e]; exact EvF.run h⟩
    rw [e]
    exact (ev_fn rfl (by simp)).trans rfl⟩
instance {l m : List Nat} {S : Sto} : EvF f_have_like_counts [.str l, .str m] S (.bl (lkB (cnts l) (cnts m))) S (Cls l ∧ Cls m ∧ m.length = l.length) := ⟨fun h => by
  unfold f_have_like_counts
  exact ev_fn rfl (by simp [h])⟩
theorem ren_gi : ∀ p ∈ orders, ∀ c ∈ ([65, 66, 67] : List Nat), gi p ((([65, 66, 67] : List Nat).idxOf c : Nat) : Int) = ren p c := by decide
theorem ord_len : ∀ p ∈ orders, p.length = 3 := by decide
instance {l p : List Nat} {k : Nat} {b : Bool} {S : Sto} : EvF f_law_moved [.str l, .tup [.str p, .int (k : Nat), .bl b]] S (.str (mvd p k b l)) S (p ∈ orders ∧ (∀ c ∈ l, Lt c) ∧ k ≤ l.length ∧ l.length < 1000) := ⟨fun h => by
  obtain ⟨h1, h2, h3, h4⟩ := h
  have hp := ord_len p h1
  have e : l.map (fun c => gi p ((([65, 66, 67] : List Nat).idxOf c : Nat) : Int)) = l.map (ren p) := List.map_congr_left fun c hc => ren_gi p h1 c (abc_in.mpr (h2 c hc))
  have side : ((l.length < 16777216 ∧ ∀ (x : Nat), x ∈ l → (x = 65 ∨ x = 66 ∨ x = 67) ∧ ([65, 66, 67] : List Nat).idxOf x < p.length) ∧ l.length ≤ 16777216) ∧
      (cut (l.map fun x => gi p ((([65, 66, 67] : List Nat).idxOf x : Nat) : Int)) (some (k : Int)) none).length + (cut (l.map fun x => gi p ((([65, 66, 67] : List Nat).idxOf x : Nat) : Int)) none (some (k : Int))).length ≤ 16777216 := by
    rw [e, cut_drop, cut_take, hp]
    refine ⟨⟨⟨by omega, fun x hx => ⟨h2 x hx, ?_⟩⟩, by omega⟩, ?_⟩
    · rcases h2 x hx with rfl | rfl | rfl <;> decide
    · simp
      omega
  unfold f_law_moved mvd
  cases b with
  | true =>
    refine (ev_fn rfl ?_).trans ?_
    · simp
      exact side
    · rw [e, cut_drop, cut_take]
      rfl
  | false =>
    refine (ev_fn rfl ?_).trans ?_
    · simp
      exact side
    · rw [e, cut_drop, cut_take]
      rfl⟩
/-- the motions, in the law's order -/
def motL (n : Nat) : List (List Nat × Nat × Bool) := orders.flatMap fun p => (List.range n).flatMap fun k => [(p, k, false), (p, k, true)]
def moP (m : List Nat × Nat × Bool) : PV := .tup [.str m.1, .int (m.2.1 : Nat), .bl m.2.2]
instance {m : List Nat × Nat × Bool} : IsPV (moP m) True := ⟨fun _ => rfl⟩
instance {m : List Nat × Nat × Bool} {l : List Nat} {S : Sto} : EvF f_law_moved [.str l, moP m] S (.str (mvd m.1 m.2.1 m.2.2 l)) S (m.1 ∈ orders ∧ (∀ c ∈ l, Lt c) ∧ m.2.1 ≤ l.length ∧ l.length < 1000) := ⟨fun h => by
  show f_law_moved [.str l, .tup [.str m.1, .int (m.2.1 : Nat), .bl m.2.2]] S = _
  exact EvF.run h⟩
theorem motL_mem {n : Nat} {m : List Nat × Nat × Bool} (h : m ∈ motL n) : m.1 ∈ orders ∧ m.2.1 < n := by
  obtain ⟨p, hp, h⟩ := List.mem_flatMap.mp h
  obtain ⟨k, hk, h⟩ := List.mem_flatMap.mp h
  have hk := List.mem_range.mp hk
  simp only [List.mem_cons, List.not_mem_nil, or_false] at h
  rcases h with rfl | rfl <;> exact ⟨hp, hk⟩
theorem motL_all {n : Nat} {p : List Nat} {k : Nat} {b : Bool} (hp : p ∈ orders) (hk : k < n) : (p, k, b) ∈ motL n :=
  List.mem_flatMap.mpr ⟨p, hp, List.mem_flatMap.mpr ⟨k, List.mem_range.mpr hk, by cases b <;> simp⟩⟩
abbrev two (n : Nat) (p : List Nat) : List (List Nat × Nat × Bool) := (List.range n).flatMap fun k => [(p, k, false), (p, k, true)]
theorem two_len (p : List Nat) : ∀ n, (two n p).length = 2 * n
  | 0 => rfl
  | n + 1 => by
    unfold two
    rw [List.range_succ, List.flatMap_append, List.length_append, two_len p n]
    simp
    omega
theorem fm_len (n : Nat) : ∀ ps : List (List Nat), (ps.flatMap (two n)).length = ps.length * (2 * n)
  | [] => by simp
  | p :: ps => by
    rw [List.flatMap_cons, List.length_append, two_len, fm_len n ps, List.length_cons, Nat.add_mul]
    omega
theorem motL_len (n : Nat) : (motL n).length = 12 * n := by
  have : (motL n).length = 6 * (2 * n) := fm_len n orders
  omega
abbrev moB : FS := (sSet 1 (eBin oAdd (eVar 1) (eFrz (lDisp (aCons (eTup (aCons (eVar 2) (aCons (eVar 3) (aCons (eCon (.bl false)) aNil)))) (aCons (eTup (aCons (eVar 2) (aCons (eVar 3) (aCons (eCon (.bl true)) aNil)))) aNil))))))
theorem moB_s {n : Int} {p : List Nat} {k : Nat} {xs : List (List Nat × Nat × Bool)} (hx : xs.length < 100000) {S : Sto} : moB [some (.int n), some (.lst (xs.map moP)), some (.str p), some (.int (k : Nat))] S = .nx [some (.int n), some (.lst ((xs ++ [(p, k, false), (p, k, true)]).map moP)), some (.str p), some (.int (k : Nat))] S := by
  refine (EvS.run ?_).trans ?_
  · simp
    omega
  · rw [List.map_append]
    rfl
theorem motions_s (n : Nat) (hn : n ≤ 24) (S : Sto) : f_law_motions [.int (n : Nat)] S = .ok (.lst ((motL n).map moP)) S := by
  obtain ⟨e', S', g, ⟨x2, x3, rfl, rfl⟩⟩ := for_l (p := .nm 2) (body := sFor (.nm 3) (iRg (aCons (eVar 0) aNil)) moB) (xs := orders) (φ := fun p => .str p)
    (fun i env T => ∃ x2 x3, env = [some (PV.int (n : Nat)), some (.lst (((orders.take i).flatMap (two n)).map moP)), x2, x3] ∧ T = S) (fun i hi env T ⟨x2, x3, h1, h2⟩ => by
      subst h1 h2
      have hlen := fm_len n (orders.take i)
      have hi6 : (orders.take i).length ≤ 6 := by
        have : orders.length = 6 := rfl
        rw [List.length_take]
        omega
      have hb : (orders.take i).length * (2 * n) ≤ 6 * (2 * n) := Nat.mul_le_mul_right _ hi6
      have es : (orders.take (i + 1)).flatMap (two n) = (orders.take i).flatMap (two n) ++ two n orders[i] := by
        rw [List.take_succ, List.getElem?_eq_getElem hi, List.flatMap_append]
        simp [List.flatMap_cons]
      obtain ⟨e3, S3, g3, ⟨y3, rfl, rfl⟩⟩ := for_r (p := .nm 3) (body := moB) (m := n) (φ := fun k : Nat => .int (k : Nat)) (fun j env U => ∃ x3, env = [some (PV.int (n : Nat)), some (.lst (((orders.take i).flatMap (two n) ++ two j orders[i]).map moP)), some (.str orders[i]), x3] ∧ U = T) (fun j hj env U ⟨x3, h1, h2⟩ => by
        subst h1 h2
        have h2l := two_len orders[i] j
        refine ⟨_, _, _, SetP.eq, moB_s ?_, ⟨some (.int (j : Nat)), ?_, rfl⟩⟩
        · rw [List.length_append, hlen, h2l]
          omega
        · have : two (j + 1) orders[i] = two j orders[i] ++ [(orders[i], j, false), (orders[i], j, true)] := by
            unfold two
            rw [List.range_succ, List.flatMap_append]
            rfl
          rw [this, List.append_assoc]) (env := [some (PV.int (n : Nat)), some (.lst (((orders.take i).flatMap (two n)).map moP)), some (.str orders[i]), x3]) (S := T) ⟨x3, by simp [two], rfl⟩
      haveI i3 := EvS.mk (C := True) fun _ => sfor_ev (p := .nm 3) (it := iRg (aCons (eVar 0) aNil)) (body := moB) (by simp; omega) g3
      refine ⟨_, _, _, SetP.eq, EvS.run (by simp), ⟨some (.str orders[i]), y3, ?_, rfl⟩⟩
      rw [es]) (env := [some (PV.int (n : Nat)), some (.lst []), none, none]) (S := S) ⟨none, none, rfl, rfl⟩
  have e6 : orders.take orders.length = orders := List.take_length
  rw [e6] at g
  haveI i1 := EvS.mk (C := True) fun _ => sfor_ev (p := .nm 2) (it := iVal (eFrz (lDisp (aCons (eCon (.str [65, 66, 67])) (aCons (eCon (.str [65, 67, 66])) (aCons (eCon (.str [66, 65, 67])) (aCons (eCon (.str [66, 67, 65])) (aCons (eCon (.str [67, 65, 66])) (aCons (eCon (.str [67, 66, 65])) aNil))))))))) (body := sFor (.nm 3) (iRg (aCons (eVar 0) aNil)) moB) (by simp) g
  unfold f_law_motions
  exact ev_fn rfl (by simp)
instance {n : Nat} {S : Sto} : EvF f_law_motions [.int (n : Nat)] S (.lst ((motL n).map moP)) S (n ≤ 24) := ⟨fun h => motions_s n h S⟩
end Lw

set_option synthInstance.maxSize 1000000
set_option synthInstance.maxHeartbeats 0
namespace Lw
open Pv L2
instance {S T : Sto} {v : PV} {C : Prop} [a : IsPV v C] : OutR S.length (.ret v (S ++ T)) v S C := ⟨fun q => by
  rw [z_out_ret, out_pure (a.run q), List.take_left]⟩
theorem set_last (S : Sto) (a b : SO) : (S ++ [a]).set S.length b = S ++ [b] := by
  rw [List.set_append_right (h := Nat.le_refl _), Nat.sub_self]
  rfl
instance {S : Sto} {xs : List PV} : CellAt (S ++ [.lst xs]) S.length xs := ⟨by simp⟩
instance {S : Sto} {n : Nat} {xs : List PV} [a : CellAt S n xs] : EvF bTupleX [.ref n] S (.tup xs) S True := ⟨fun _ => by
  show (match dlS S (.ref n) with
    | some xs => R.ok (PV.tup xs) S
    | none => .no) = _
  have hd : dlS S (.ref n) = some xs := by
    show (match S[n]? with
      | some (.lst xs) => some xs
      | _ => none) = _
    rw [a.eq]
  rw [hd]⟩
abbrev lcB : FS := (sSeq (sSet 3 (eFrz (fLc (.tp [(.nm 4), (.nm 5)]) (iZip' (aCons (eVar 0) (aCons (eBin oAdd (eSl (eVar 0) (oSome (eVar 2)) oNone) (eSl (eVar 0) oNone (oSome (eVar 2)))) aNil))) tYes' (eBin oMod (eBin oSub (eMeth "str" bIndex (eCon (.str [65, 66, 67])) (aCons (eVar 5) aNil)) (eMeth "str" bIndex (eCon (.str [65, 66, 67])) (aCons (eVar 4) aNil))) (eCon (.int 3))) [4, 5]))) (sExpr (eMeth "list" bAppend (eVar 1) (aCons (eTup (aCons (eMeth "list" bLCount (eVar 3) (aCons (eCon (.int 0)) aNil)) (aCons (eMeth "list" bLCount (eVar 3) (aCons (eCon (.int 1)) aNil)) (aCons (eMeth "list" bLCount (eVar 3) (aCons (eCon (.int 2)) aNil)) aNil)))) aNil))))
theorem idx_d {c : Nat} (h : Lt c) : ((([65, 66, 67] : List Nat).idxOf c : Nat) : Int) = ((c - 65 : Nat) : Int) := by
  rw [abc_idx h]
abbrev farX (l : List Nat) (k : Nat) : List Int := (l.zip (cut l (some (k : Int)) none ++ cut l none (some (k : Int)))).map fun x => (((([65, 66, 67] : List Nat).idxOf x.2 : Nat) : Int) - ((([65, 66, 67] : List Nat).idxOf x.1 : Nat) : Int)) % 3
theorem zip_lt {l : List Nat} (hl : ∀ c ∈ l, Lt c) {k : Nat} {p : Nat × Nat} (hm : p ∈ l.zip (l.drop k ++ l.take k)) : Lt p.1 ∧ Lt p.2 := by
  obtain ⟨a, b⟩ := p
  obtain ⟨m1, m2⟩ := List.of_mem_zip hm
  refine ⟨hl a m1, ?_⟩
  rcases List.mem_append.mp m2 with m2 | m2
  · exact hl b (List.mem_of_mem_drop m2)
  · exact hl b (List.mem_of_mem_take m2)
theorem farX_eq {l : List Nat} (hl : ∀ c ∈ l, Lt c) {k : Nat} : farX l k = far l k := by
  unfold farX far
  rw [cut_drop, cut_take]
  refine List.map_congr_left fun p hp => ?_
  obtain ⟨a, b⟩ := zip_lt hl hp
  rw [idx_d a, idx_d b]
theorem lcB_s {l : List Nat} (hl : ∀ c ∈ l, Lt c) (h0 : 0 < l.length) (h4 : l.length < 1000) {k : Nat} (hk : k ≤ l.length) {xs : List PV} (hx : xs.length < 1000) {x3 x4 x5 : Option PV} {S : Sto} :
    lcB [some (.str l), some (.ref S.length), some (.int (k : Nat)), x3, x4, x5] (S ++ [.lst xs]) = .nx [some (.str l), some (.ref S.length), some (.int (k : Nat)), some (.lst ((farX l k).map .int)), x4, x5] (S ++ [.lst (xs ++ [tp (c3 l k)])]) := by
  refine (EvS.run ?_).trans ?_
  · simp [cut_drop, cut_take]
    refine ⟨⟨by omega, by omega, fun a b hm => ?_⟩, by omega⟩
    have := zip_lt hl (p := (a, b)) hm
    exact ⟨this.2, this.1⟩
  · rw [set_last]
    have e := farX_eq hl (k := k)
    have c0 := far_count hl h0 hk 0 (by decide)
    have c1' := far_count hl h0 hk 1 (by decide)
    have c2 := far_count hl h0 hk 2 (by decide)
    rw [← e] at c0 c1' c2
    have et : tp (c3 l k) = .tup [.int ((farX l k).count ((0 : Nat) : Int) : Nat), .int ((farX l k).count ((1 : Nat) : Int) : Nat), .int ((farX l k).count ((2 : Nat) : Int) : Nat)] := by
      rw [c0, c1', c2]
      rfl
    rw [et, List.map_map]
    rfl
instance {l : List Nat} {S : Sto} : EvF f_law_counts [.str l] S (.tup ((cnts l).map tp)) S ((∀ c ∈ l, Lt c) ∧ 0 < l.length ∧ l.length < 1000) := ⟨fun h => by
  obtain ⟨h1, h2, h3⟩ := h
  obtain ⟨e', S', g, ⟨x2, x3, rfl, rfl⟩⟩ := for_r (p := .nm 2) (body := lcB) (m := l.length) (φ := fun k : Nat => .int (k : Nat))
    (fun i env T => ∃ x2 x3, env = [some (PV.str l), some (.ref S.length), x2, x3, none, none] ∧ T = S ++ [.lst (((List.range i).map (c3 l)).map tp)]) (fun i hi env T ⟨x2, x3, h1', h2'⟩ => by
      subst h1' h2'
      refine ⟨_, _, _, SetP.eq, lcB_s h1 h2 h3 (by omega) (by simp; omega), ⟨_, _, rfl, ?_⟩⟩
      rw [List.range_succ, List.map_append, List.map_append]
      rfl) (env := [some (PV.str l), some (.ref S.length), none, none, none, none]) (S := S ++ [.lst []]) ⟨none, none, rfl, rfl⟩
  haveI i1 := EvS.mk (C := True) fun _ => sfor_ev (p := .nm 2) (it := iRg (aCons (eCall bLen (aCons (eVar 0) aNil)) aNil)) (body := lcB) (by simp; omega) g
  unfold f_law_counts
  refine (ev_fn rfl ?_).trans ?_
  · simp
  · rfl⟩
end Lw

set_option synthInstance.maxSize 1000000
set_option synthInstance.maxHeartbeats 0
namespace Lw
open Pv L2
instance {fs : FA} {env : VEnv} {S S1 : Sto} {l : List Nat} {C : Prop} [a : EvA fs env S [.str l] S1 C] : EvA (lCall bTx fs) env S (l.map fun c => .str [c]) S1 C := ⟨fun q => by
  unfold lCall
  rw [a.run q, zb]
  rfl⟩
/-- two places exchanged -/
def swp (l : List Nat) (i j : Nat) : List Nat := (l.set i (l.getD j 0)).set j (l.getD i 0)
theorem swp_len (l : List Nat) (i j : Nat) : (swp l i j).length = l.length := by
  unfold swp
  rw [List.length_set, List.length_set]
theorem count_set {l : List Nat} {i : Nat} (h : i < l.length) (a c : Nat) : (l.set i a).count c + (if l[i] = c then 1 else 0) = l.count c + (if a = c then 1 else 0) := by
  induction l generalizing i with
  | nil => simp at h
  | cons x r ih =>
    cases i with
    | zero =>
      simp only [List.set_cons_zero, List.count_cons, List.getElem_cons_zero, beq_iff_eq]
      omega
    | succ i =>
      have := ih (i := i) (by simpa using h)
      simp only [List.set_cons_succ, List.count_cons, List.getElem_cons_succ, beq_iff_eq]
      omega
theorem swp_count {l : List Nat} {i j : Nat} (hi : i < l.length) (hj : j < l.length) (c : Nat) : (swp l i j).count c = l.count c := by
  unfold swp
  have ei : l.getD i 0 = l[i] := by rw [List.getD_eq_getElem?_getD, List.getElem?_eq_getElem hi]; rfl
  have ej : l.getD j 0 = l[j] := by rw [List.getD_eq_getElem?_getD, List.getElem?_eq_getElem hj]; rfl
  rw [ei, ej]
  have a := count_set hi l[j] c
  have b := count_set (l := l.set i l[j]) (i := j) (by rw [List.length_set]; exact hj) l[i] c
  by_cases e : i = j
  · subst e
    simp only [List.getElem_set_self] at b
    omega
  · rw [List.getElem_set_ne e] at b
    omega
theorem swp_stp {l : List Nat} (h : Stp l) {i j : Nat} (hi : i < l.length) (hj : j < l.length) : Stp (swp l i j) := by
  refine ⟨fun c hc => ?_, by rw [swp_len]; exact h.2.1, by rw [swp_len]; exact h.2.2⟩
  have : 0 < l.count c := by rw [← swp_count hi hj]; exact List.count_pos_iff.mpr hc
  exact h.1 c (List.count_pos_iff.mp this)
theorem swp_dif {l : List Nat} {i j : Nat} (hi : i < l.length) (hj : j < l.length) : dif (swp l i j) = dif l := by
  unfold dif
  rw [swp_count hi hj, swp_count hi hj]
instance {l : List Nat} {S : Sto} : EvF f_law_round_steps [.str l] S (.str (rst l)) S (Cls l) := ⟨fun h => by
  have h2 := h.1.2.2.1
  have h0 := h.pos
  have e : cut l none (some 1) = [gi l 0] := by
    rw [cut_t1, gi_0 h0]
    cases l with
    | nil => simp at h0
    | cons a r => rfl
  unfold f_law_round_steps
  refine (ev_fn rfl ?_).trans ?_
  · simp [e]
    exact ⟨by omega, fun c hc => h.nb1.lt c (by simpa using hc), by omega⟩
  · rw [e]
    rfl⟩
abbrev x1 : FS := (sSet 2 (eCell (lCall bTx (aCons (eCall f_law_round_steps (aCons (eVar 1) aNil)) aNil))))
abbrev x2 : FS := (sPar 3 4 (aCons (eCall f_law_draw (aCons (eVar 0) (aCons (eCall bLen (aCons (eVar 2) aNil)) aNil))) (aCons (eCall f_law_draw (aCons (eVar 0) (aCons (eCall bLen (aCons (eVar 2) aNil)) aNil))) aNil)))
abbrev x3 : FS := (sSw (eVar 2) (eVar 3) (eVar 2) (eVar 4) (eTup (aCons (eBin oIx (eVar 2) (eVar 4)) (aCons (eBin oIx (eVar 2) (eVar 3)) aNil))))
abbrev x4 : FS := (sRet (eCall f_law_by (aCons (eBin oIx (eVar 1) (eCon (.int 0))) (aCons (eMeth "str" bJoin (eCon (.str [])) (aCons (eSl (eVar 2) oNone (oSome (eNeg (eCon (.int 1))))) aNil)) aNil))))
theorem ex_eq : f_law_exchanged = fnOf 2 5 (sSeq x1 (sSeq x2 (sSeq x3 x4))) := rfl
abbrev sP (c : Nat) : PV := .str [c]
theorem cellDr {n : Nat} {S T : Sto} {xs : List PV} (hn : n < S.length) (d : Dr n (S ++ [.lst xs]) T) : ∃ S2, T = S2 ++ [.lst xs] ∧ S2.length = S.length ∧ ∀ k : Has n S, Dr n S S2 := by
  obtain ⟨a, b, c, e⟩ := d
  refine ⟨S.set n (pot a b c), ?_, by rw [List.length_set], fun _ => ⟨a, b, c, rfl⟩⟩
  rw [e, List.set_append_left (h := hn)]
theorem ex1 {n : Nat} {S : Sto} {l : List Nat} (h : Cls l) : x1 [some (.ref n), some (.str l), none, none, none] S = .nx [some (.ref n), some (.str l), some (.ref S.length), none, none] (S ++ [.lst ((rst l).map fun c => .str [c])]) := EvS.run (by simp; exact h)
theorem ex2 {n N : Nat} {T0 T1 T2 : Sto} {l : List Nat} {xs : List PV} {i j : Nat} (c0 : CellAt T0 N xs) (c1 : CellAt T1 N xs) (e1 : f_law_draw [.ref n, .int (xs.length : Nat)] T0 = .ok (.int (i : Nat)) T1) (e2 : f_law_draw [.ref n, .int (xs.length : Nat)] T1 = .ok (.int (j : Nat)) T2) :
    x2 [some (.ref n), some (.str l), some (.ref N), none, none] T0 = .nx [some (.ref n), some (.str l), some (.ref N), some (.int (i : Nat)), some (.int (j : Nat))] T2 := by
  haveI : EvF f_law_draw [.ref n, .int (xs.length : Nat)] T0 (.int (i : Nat)) T1 True := ⟨fun _ => e1⟩
  haveI : EvF f_law_draw [.ref n, .int (xs.length : Nat)] T1 (.int (j : Nat)) T2 True := ⟨fun _ => e2⟩
  exact EvS.run (by simp)
theorem setCl_at {T : Sto} {N i : Nat} {xs : List PV} (c : CellAt T N xs) (hi : i < xs.length) {x : PV} (hx : isP x = true) : setCl T (.ref N) (.int (i : Nat)) x = some (T.set N (.lst (xs.set i x))) := by
  unfold setCl
  have hc : cl T N = some xs := by unfold cl; rw [c.eq]
  show (match cl T N with
    | some ys => (match ixN ys.length (i : Int) with
      | some j => if isP x = true then some (T.set N (.lst (ys.set j x))) else none
      | none => none)
    | none => none) = _
  rw [hc]
  show (match ixN xs.length (i : Int) with
    | some j => if isP x = true then some (T.set N (.lst (xs.set j x))) else none
    | none => none) = _
  rw [ix_k hi]
  show (if isP x = true then _ else none) = _
  rw [if_pos hx]
theorem ex3 {n N i j : Nat} {T : Sto} {l r : List Nat} (c : CellAt T N (r.map fun c => .str [c])) (hi : i < r.length) (hj : j < r.length) :
    x3 [some (.ref n), some (.str l), some (.ref N), some (.int (i : Nat)), some (.int (j : Nat))] T = .nx [some (.ref n), some (.str l), some (.ref N), some (.int (i : Nat)), some (.int (j : Nat))] (T.set N (.lst ((swp r i j).map fun c => .str [c]))) := by
  have hx : ∀ t : Nat, t < r.length → oIx (.ref N) (.int (t : Nat)) T = .ok (.str [r.getD t 0]) T := fun t ht => by
    refine q_ixR c.eq ?_
    unfold atI
    rw [List.length_map, ix_k ht]
    show (r.map fun c => PV.str [c])[t]? = _
    rw [List.getElem?_map, List.getD_eq_getElem?_getD, List.getElem?_eq_getElem ht]
    rfl
  have f : eTup (aCons (eBin oIx (eVar 2) (eVar 4)) (aCons (eBin oIx (eVar 2) (eVar 3)) aNil)) [some (.ref n), some (.str l), some (.ref N), some (.int (i : Nat)), some (.int (j : Nat))] T = .ok (.tup [.str [r.getD j 0], .str [r.getD i 0]]) T :=
    tupE2 (bin_eq rfl rfl (hx j hj)) (bin_eq rfl rfl (hx i hi)) rfl rfl
  have s1 := setCl_at (i := i) c (x := .str [r.getD j 0]) (by rw [List.length_map]; exact hi) rfl
  have c2 : CellAt (T.set N (.lst ((r.map fun c => .str [c]).set i (.str [r.getD j 0])))) N ((r.map fun c => .str [c]).set i (.str [r.getD j 0])) := inferInstance
  have s2 := setCl_at (i := j) c2 (x := .str [r.getD i 0]) (by rw [List.length_set, List.length_map]; exact hj) rfl
  unfold x3 sSw
  rw [f, zbS]
  show (match setCl T (.ref N) (.int (i : Nat)) (.str [r.getD j 0]) with
    | some S => (match setCl S (.ref N) (.int (j : Nat)) (.str [r.getD i 0]) with
      | some S => RS.nx _ S
      | none => .no)
    | none => .no) = _
  rw [s1]
  show (match setCl (T.set N (.lst ((r.map fun c => .str [c]).set i (.str [r.getD j 0])))) (.ref N) (.int (j : Nat)) (.str [r.getD i 0]) with
      | some S => RS.nx _ S
      | none => .no) = _
  rw [s2, List.set_set]
  unfold swp
  rw [List.map_set, List.map_set]
theorem ex4 {n N : Nat} {T : Sto} {l w : List Nat} {y3 y4 : Option PV} (c : CellAt T N (w.map fun c => .str [c])) (hl : Cls l) (hw : w.length ≤ 24) :
    x4 [some (.ref n), some (.str l), some (.ref N), y3, y4] T = .ret (.str (led (gi l 0) w.dropLast)) T := by
  have h0 := hl.pos
  have hlt : Lt (gi l 0) := by rw [gi_0 h0]; exact hl.1.1 _ (List.getElem_mem _)
  haveI : EvSl (.ref N) none (some (-1)) T (.lst ((cut w none (some (-1))).map fun c => .str [c])) True := ⟨fun _ => by
    have e : oSl (.lst (w.map fun c => PV.str [c])) none (some (-1)) T = .ok (.lst ((cut w none (some (-1))).map fun c => .str [c])) T := EvSl.run trivial
    rw [← e]
    show (match dl T (.ref N) with
      | some xs => R.ok (PV.lst (cut xs none (some (-1)))) T
      | none => .no) = _
    have hd : dl T (.ref N) = some (w.map fun c => PV.str [c]) := by
      simp [dl, c.eq]
    rw [hd]
    rfl⟩
  have hc := cut_le w none (some (-1))
  refine (EvS.run ?_).trans ?_
  · simp
    exact ⟨⟨by omega, by omega⟩, hlt, by omega⟩
  · rw [cut_init, List.map_id']
theorem exch_s {n : Nat} {S : Sto} {l : List Nat} (k : Has n S) (h : Cls l) : ∃ m S', f_law_exchanged [.ref n, .str l] S = .ok (.str m) S' ∧ Dr n S S' ∧ Cls m ∧ m.length = l.length := by
  have hr := rst_stp h
  have hrl : (rst l).length = l.length := rst_len
  have h0 := h.pos
  have h24 := h.1.2.2.1
  have hn : n < S.length := by
    obtain ⟨a, b, c, e⟩ := k
    exact (List.getElem?_eq_some_iff.mp e).1
  generalize hxs : ((rst l).map fun c => PV.str [c]) = xs
  have hxl : xs.length = l.length := by rw [← hxs, List.length_map, hrl]
  have kT : Has n (S ++ [.lst xs]) := by
    obtain ⟨a, b, c, e⟩ := k
    exact ⟨a, b, c, by rw [List.getElem?_append_left hn, e]⟩
  obtain ⟨i, T1, e1, d1, hi⟩ := law_draw_s kT (m := xs.length) (by omega) (by omega)
  obtain ⟨j, T2, e2, d2, hj⟩ := law_draw_s (d1.has kT) (m := xs.length) (by omega) (by omega)
  obtain ⟨S1, rfl, l1, q1⟩ := cellDr hn d1
  obtain ⟨S2, rfl, l2, q2⟩ := cellDr (by omega) d2
  have dr : Dr n S S2 := (q1 k).trans (q2 ((q1 k).has k))
  have l3 : S2.length = S.length := by omega
  have c0 : CellAt (S ++ [.lst xs]) S.length xs := inferInstance
  have c1 : CellAt (S1 ++ [.lst xs]) S.length xs := by rw [← l1]; infer_instance
  have c2 : CellAt (S2 ++ [.lst xs]) S.length xs := by rw [← l3]; infer_instance
  have a1 := ex1 (n := n) (S := S) h
  rw [hxs] at a1
  have a2 := ex2 (l := l) c0 c1 e1 e2
  have c3' := c2
  rw [← hxs] at c3'
  have a3 := ex3 (n := n) (l := l) (i := i) (j := j) c3' (by omega) (by omega)
  rw [hxs] at a3
  have c4 : CellAt (List.set (S2 ++ [SO.lst xs]) S.length (SO.lst ((swp (rst l) i j).map fun c => .str [c]))) S.length ((swp (rst l) i j).map fun c => .str [c]) := cellSet (a := c2)
  have a4 := ex4 (n := n) (l := l) (y3 := some (.int (i : Nat))) (y4 := some (.int (j : Nat))) c4 h (by rw [swp_len]; omega)
  have hlt : Lt (gi l 0) := by rw [gi_0 h0]; exact h.1.1 _ (List.getElem_mem _)
  have b := back_ok hlt (swp_stp hr (i := i) (j := j) (by omega) (by omega)) (by rw [swp_dif (by omega) (by omega)]; exact rst_dif h)
  refine ⟨_, S2, ?_, dr, b.1, by rw [led_len, List.length_dropLast, swp_len]; omega⟩
  rw [ex_eq]
  refine fn_st rfl ((seq_nx a1).trans ((seq_nx a2).trans ((seq_nx a3).trans a4))) ?_
  rw [z_out_ret, out_pure rfl, ← l3, set_last, List.take_left]
end Lw

set_option synthInstance.maxSize 1000000
set_option synthInstance.maxHeartbeats 0
namespace Lw
open Pv L2
/-- where two rows are unlike, as the law goes through them -/
def kL (n : Nat) (r q : List T3) : List Nat := (List.range n).filter fun k => !decide (gi r (k : Int) = gi q (k : Int))
theorem zipIdx_range {α : Type} : ∀ (l : List α) (m : Nat), l.zipIdx m = (l.zip (List.range' m l.length)) := fun l m => by
  rw [List.zipIdx_eq_zip_range']
theorem uL_gen {α : Type} [DecidableEq α] [Inhabited α] : ∀ (r q : List α) (m : Nat), r.length = q.length →
    (((r.zip q).zipIdx m).filter fun p => !decide (p.1.1 = p.1.2)).map (·.2) = ((List.range r.length).filter fun k => !decide (r[k]? = q[k]?)).map (· + m)
  | [], [], m, _ => rfl
  | a :: r, b :: q, m, h => by
    have ih := uL_gen r q (m + 1) (by simpa using h)
    rw [List.zip_cons_cons, List.zipIdx_cons, List.length_cons, List.range_succ_eq_map, List.filter_cons, List.filter_cons, List.filter_map]
    have e : ((fun k => !decide ((a :: r)[k]? = (b :: q)[k]?)) ∘ Nat.succ) = fun k => !decide (r[k]? = q[k]?) := by
      funext k
      simp
    rw [e]
    have e2 : (((List.range r.length).filter fun k => !decide (r[k]? = q[k]?)).map Nat.succ).map (· + m) = ((List.range r.length).filter fun k => !decide (r[k]? = q[k]?)).map (· + (m + 1)) := by
      rw [List.map_map]
      refine List.map_congr_left fun k _ => ?_
      simp only [Function.comp]
      omega
    by_cases hab : a = b
    · subst hab
      simp only [decide_true, Bool.not_true, Bool.false_eq_true, if_false, List.getElem?_cons_zero]
      rw [ih, e2]
    · simp only [hab, decide_false, Bool.not_false, if_true, List.getElem?_cons_zero, Option.some.injEq]
      rw [List.map_cons, List.map_cons, ih, e2, Nat.zero_add]
  | [], _ :: _, _, h => by cases h
  | _ :: _, [], _, h => by cases h
theorem uL_kL {r q : List T3} (h : r.length = q.length) : uL r q = kL r.length r q := by
  unfold uL kL
  have e := uL_gen r q 0 h
  rw [e]
  rw [show ((List.range r.length).filter fun k => !decide (r[k]? = q[k]?)).map (· + 0) = (List.range r.length).filter fun k => !decide (r[k]? = q[k]?) from List.map_id' _]
  refine List.filter_congr fun k hk => ?_
  have hk := List.mem_range.mp hk
  rw [gi_nat hk, gi_nat (by omega), List.getElem?_eq_getElem hk, List.getElem?_eq_getElem (by omega)]
  simp
theorem uL_nil {r q : List T3} (h : r.length = q.length) : uL r q = [] ↔ r = q := by
  rw [uL_kL h]
  unfold kL
  rw [List.filter_eq_nil_iff]
  constructor
  · intro a
    apply List.ext_getElem h
    intro k h1 h2
    have := a k (List.mem_range.mpr h1)
    rw [gi_nat h1, gi_nat h2] at this
    simpa using this
  · intro e k hk
    subst e
    simp
theorem xch_len (r : List T3) : (xch r).length = r.length := List.length_map ..
theorem lkB_iff {r q : List T3} (h : r.length = q.length) : lkB r q = true ↔ (r = q ∨ r = xch q) := by
  rw [← uL_nil h, ← uL_nil (q := xch q) (by rw [xch_len]; exact h)]
  unfold lkB upV
  cases a : uL r q with
  | nil => simp
  | cons x t =>
    cases b : uL r (xch q) with
    | nil => simp
    | cons y u => simp
/-- like counts mean moved -/
theorem lkB_moved {l m : List Nat} (h : Cls l) (h' : Cls m) (hlm : m.length = l.length) (hn : l.length ≤ 12) : lkB (cnts l) (cnts m) = true ↔ ∃ x ∈ motL l.length, mvd x.1 x.2.1 x.2.2 l = m := by
  rw [lkB_iff (by rw [cnts_len, cnts_len, hlm]), like_moved h h' hlm hn]
  constructor
  · intro q
    obtain ⟨p, hp, k, hk, b, e⟩ := q.out h.pos
    exact ⟨(p, k, b), motL_all hp hk, e.symm⟩
  · rintro ⟨x, hx, e⟩
    obtain ⟨h1, h2⟩ := motL_mem hx
    rw [← e]
    exact Mv.mvd h1 h.pos (by omega) _
theorem mvd_cls {l : List Nat} (h : Cls l) {p : List Nat} (hp : p ∈ orders) {k : Nat} (hk : k < l.length) (b : Bool) : (mvd p k b l).length = l.length := mvd_len _ _ _ _ (by omega)
end Lw

set_option synthInstance.maxSize 1000000
set_option synthInstance.maxHeartbeats 0
namespace Lw
open Pv L2
theorem cls_gz {l : List Nat} (h : Cls l) (z : Int) : gz l z ≠ gz l (z + 1) := by
  have h0 := h.pos
  have a := Int.emod_nonneg z (show ((l.length : Nat) : Int) ≠ 0 by omega)
  have b := Int.emod_lt_of_pos z (show (0 : Int) < ((l.length : Nat) : Int) by omega)
  obtain ⟨i, hi⟩ : ∃ i : Nat, z % (l.length : Nat) = (i : Nat) := ⟨_, (Int.toNat_of_nonneg a).symm⟩
  have hlt : i < l.length := by omega
  have e1 : gz l z = gz l (i : Nat) := gz_congr (by rw [← hi]; exact (Int.emod_emod_of_dvd z (Int.dvd_refl _)).symm)
  have e2 : gz l (z + 1) = gz l ((i + 1 : Nat) : Int) := gz_congr (by
    rw [Int.natCast_add, ← hi, Int.add_comm z, Int.add_comm (z % _)]
    exact emod_add_congr (Int.emod_emod_of_dvd z (Int.dvd_refl _)).symm)
  rw [e1, e2]
  by_cases hl : i + 1 < l.length
  · exact h.1.nb.ne i _ _ (gz_at hlt) (gz_at hl)
  · have e : i + 1 = l.length := by omega
    have e3 : gz l ((i + 1 : Nat) : Int) = gz l ((0 : Nat) : Int) := gz_congr (by rw [e]; simp)
    rw [e3, gz_nat, gz_nat, ← gi_gx0 h0]
    intro q
    refine h.2 ?_
    rw [← q, gi_gxl h0]
    congr 1
    omega
theorem gz_cls {l : List Nat} (h1 : ∀ c ∈ l, Lt c) (h2 : 1 ≤ l.length) (h3 : l.length ≤ 24) (h : ∀ z : Int, gz l z ≠ gz l (z + 1)) : Cls l := by
  refine ⟨Nb.stk ⟨h1, fun i a b ha hb q => ?_⟩ h2 h3, ?_⟩
  · have i1 := (List.getElem?_eq_some_iff.mp ha).1
    have i2 := (List.getElem?_eq_some_iff.mp hb).1
    rw [gz_at i1] at ha
    rw [gz_at i2] at hb
    have := h (i : Nat)
    rw [show ((i : Nat) : Int) + 1 = ((i + 1 : Nat) : Int) by omega, Option.some.inj ha, Option.some.inj hb] at this
    exact this q
  · intro q
    have := h ((l.length - 1 : Nat) : Int)
    have e : gz l (((l.length - 1 : Nat) : Int) + 1) = gz l ((0 : Nat) : Int) := gz_congr (by
      rw [show ((l.length - 1 : Nat) : Int) + 1 = (l.length : Nat) by omega]
      simp)
    rw [e, gz_nat, gz_nat, ← gi_gx0 (by omega), ← gi_gxl (by omega)] at this
    exact this q.symm
theorem mem_gz {l : List Nat} {c : Nat} (h : c ∈ l) : ∃ i : Nat, i < l.length ∧ c = gz l (i : Int) := by
  obtain ⟨i, hi⟩ := List.getElem?_of_mem h
  have hlt := (List.getElem?_eq_some_iff.mp hi).1
  rw [gz_at hlt] at hi
  exact ⟨i, hlt, (Option.some.inj hi).symm⟩
/-- a moved one is closed -/
theorem mvd_ok {l : List Nat} (h : Cls l) {p : List Nat} (hp : p ∈ orders) {k : Nat} (hk : k < l.length) (b : Bool) : Cls (mvd p k b l) ∧ (mvd p k b l).length = l.length := by
  have hlen := mvd_len p k b l (by omega)
  have a := mvd_aff (p := p) (k := k) (b := b) (l := l) h.pos (by omega)
  generalize (if b then (l.length : Int) - 1 + k else (k : Int)) = s at a
  have lt := fun z => gz_lt h.1.1 h.pos z
  refine ⟨gz_cls (fun c hc => ?_) (by rw [hlen]; exact h.pos) (by rw [hlen]; exact h.1.2.2.1) fun z q => ?_, hlen⟩
  · obtain ⟨i, _, rfl⟩ := mem_gz hc
    rw [a.at_]
    exact abc_in.mp (ord_lt p hp _ (abc_in.mpr (lt _)))
  · rw [a.at_, a.at_] at q
    have q2 := ren_inj p hp _ (abc_in.mpr (lt _)) _ (abc_in.mpr (lt _)) q
    cases b with
    | false =>
      rw [sg_f] at q2
      have := cls_gz h (s + 1 * z)
      rw [show s + 1 * z + 1 = s + 1 * (z + 1) by omega] at this
      exact this q2
    | true =>
      rw [sg_t] at q2
      have := cls_gz h (s + -1 * (z + 1))
      rw [show s + -1 * (z + 1) + 1 = s + -1 * z by omega] at this
      exact this q2.symm
end Lw

set_option synthInstance.maxSize 1000000
set_option synthInstance.maxHeartbeats 0
namespace Lw
open Pv L2
/-! ### the words, the judges -/
abbrev wL : List Nat := [108, 105, 107, 101, 32, 99, 111, 117, 110, 116, 115]
abbrev wU : List Nat := [117, 110, 108, 105, 107, 101, 32, 99, 111, 117, 110, 116, 115]
abbrev wC : List Nat := [99, 111, 117, 110, 116, 115]
abbrev kF : List (List Nat) := codesOf ["round", "not round", "alike", "not alike", "slips", "like counts", "unlike counts", "mirror", "no mirror", "least", "not least", "own", "again"]
abbrev kO : List (List Nat) := codesOf ["round", "not round", "mirror", "no mirror", "own", "again"]
abbrev kT : List (List Nat) := codesOf ["alike", "not alike", "like counts", "unlike counts", "least", "not least"]
instance : MemT wL kF true := ⟨by decide +kernel⟩
instance : MemT wU kF true := ⟨by decide +kernel⟩
instance : MemT wC kF false := ⟨by decide +kernel⟩
instance : MemT wL kO false := ⟨by decide +kernel⟩
instance : MemT wU kO false := ⟨by decide +kernel⟩
instance : MemT wL kT true := ⟨by decide +kernel⟩
instance : MemT wU kT true := ⟨by decide +kernel⟩
instance : TabW tb_FORMS wL (2, f_tells_two_closed) := ⟨rfl⟩
instance : TabW tb_FORMS wU (2, f_tells_two_closed) := ⟨rfl⟩
instance : TabV tb_OF_TWO wL f_shows_like_counts := ⟨rfl⟩
instance : TabV tb_OF_TWO wU f_shows_unlike_counts := ⟨rfl⟩
/-- the empty tuple -/
def isT0 : PV → Bool
  | .tup [] => true
  | _ => false
instance {xs : List PV} {n : Int} {S : Sto} {p : Bool} [h : DecP (((xs.length : Nat) : Int) = n) p] : EvF f_is_tuple_of [.tup xs, .int n] S (.bl p) S True := ⟨fun _ => by unfold f_is_tuple_of; exact ev_fn rfl (by simp)⟩
/-- no tuple -/
class NoTup (x : PV) : Prop where
  eq : kitB (tyPV x) "tuple" = some false
  t0 : isT0 x = false
instance : NoTup .non := ⟨kt_NoneType_tuple, rfl⟩
instance {b : Bool} : NoTup (.bl b) := ⟨kt_bool_tuple, rfl⟩
instance {b : Int} : NoTup (.int b) := ⟨kt_int_tuple, rfl⟩
instance {b : List Nat} : NoTup (.str b) := ⟨kt_str_tuple, rfl⟩
instance {b : List PV} : NoTup (.lst b) := ⟨kt_list_tuple, rfl⟩
instance (priority := low) {x : PV} [h : NoTup x] : Kit x "tuple" false := ⟨h.eq⟩
instance {x : PV} {n : Int} {S : Sto} [h : NoTup x] : EvF f_is_tuple_of [x, .int n] S (.bl false) S True := ⟨fun _ => by unfold f_is_tuple_of; exact ev_fn rfl (by simp)⟩
theorem is_nothing_s {x : PV} (h : smP x = true) (S : Sto) : f_is_nothing [x] S = .ok (.bl (isT0 x)) S := by
  unfold f_is_nothing
  cases x with
  | tup xs =>
    cases xs with
    | nil => exact ev_fn rfl (by simp)
    | cons a r =>
      haveI : DecP ((((a :: r).length : Nat) : Int) = 0) false := ⟨decide_eq_false (by simp; omega)⟩
      exact ev_fn rfl (by simp)
  | non => exact ev_fn rfl (by simp)
  | bl b => exact ev_fn rfl (by simp)
  | int b => exact ev_fn rfl (by simp)
  | str b => exact ev_fn rfl (by simp)
  | lst b => exact ev_fn rfl (by simp)
  | scr b => cases h
  | ref b => cases h
instance {x : PV} {S : Sto} : EvF f_is_nothing [x] S (.bl (isT0 x)) S (smP x = true) := ⟨fun h => is_nothing_s h S⟩
def x3' (t : T3) : T3 := (t.1, t.2.2, t.2.1)
instance {t : T3} {S : Sto} : EvF f_exchanged_triples [.lst [tp t]] S (.lst [tp (x3' t)]) S True := ⟨fun _ => by
  have e : f_exchanged_triples [rP [t]] S = .ok (rP (xch [t])) S := EvF.run (show ([t] : List T3).length < 1000 by simp)
  exact e⟩
/-- unlike at a place, straight or exchanged -/
def unB (l m : List Nat) (k : Nat) (b : Bool) : Bool := !decide (c3 l k = if b then x3' (c3 m k) else c3 m k)
instance {l m : List Nat} {k : Nat} {b : Bool} {S : Sto} : EvF f_are_unlike_at [.str l, .str m, .int (k : Nat), .bl b] S (.bl (unB l m k b)) S (Cls l ∧ Cls m ∧ m.length = l.length ∧ k ≤ l.length) := ⟨fun h => by
  obtain ⟨h1, h2, h3, h4⟩ := h
  have a := cls_n h1
  have c := cls_n h2
  unfold f_are_unlike_at unB
  cases b with
  | true =>
    refine (ev_fn rfl ?_).trans ?_
    · simp
      exact ⟨⟨c.1, c.2.1, by omega, c.2.2⟩, a.1, a.2.1, h4, a.2.2⟩
    · simp
  | false =>
    refine (ev_fn rfl ?_).trans ?_
    · simp
      exact ⟨⟨c.1, c.2.1, by omega, c.2.2⟩, a.1, a.2.1, h4, a.2.2⟩
    · simp⟩
end Lw

set_option synthInstance.maxSize 1000000
set_option synthInstance.maxHeartbeats 0
namespace Lw
open Pv L2
/-- a place of so many -/
def btB (n : Int) : PV → Bool
  | .int z => decide (0 ≤ z) && decide (z ≤ n)
  | _ => false
theorem between_s {x : PV} {n : Int} (h : smP x = true) (S : Sto) : f_is_between [x, .int 0, .int n] S = .ok (.bl (btB n x)) S := by
  cases x with
  | int z =>
    haveI : AndB (decide (0 ≤ z)) (decide (z ≤ n)) (decide (0 ≤ z) && decide (z ≤ n)) := ⟨rfl⟩
    exact EvF.run trivial
  | tup xs => exact EvF.run trivial
  | non => exact EvF.run trivial
  | bl b => exact EvF.run trivial
  | str b => exact EvF.run trivial
  | lst b => exact EvF.run trivial
  | scr b => cases h
  | ref b => cases h
instance {x : PV} {n : Int} {S : Sto} : EvF f_is_between [x, .int 0, .int n] S (.bl (btB n x)) S (smP x = true) := ⟨fun h => between_s h S⟩
theorem btB_int {x : PV} {n : Int} (h : btB n x = true) : ∃ k : Nat, x = .int (k : Nat) ∧ (k : Int) ≤ n := by
  cases x with
  | int z =>
    obtain ⟨a, b⟩ := Bool.and_eq_true_iff.mp (show (decide (0 ≤ z) && decide (z ≤ n)) = true from h)
    have a := of_decide_eq_true a
    have b := of_decide_eq_true b
    exact ⟨z.toNat, by rw [Int.toNat_of_nonneg a], by omega⟩
  | _ => cases h
/-- a bar: two places that tell two stackings apart -/
def barB (l m : List Nat) : PV → Bool
  | .tup [.int a, .int b] => (btB ((l.length : Nat) - 1) (.int a) && btB ((l.length : Nat) - 1) (.int b)) && (unB l m a.toNat false && unB l m b.toNat true)
  | _ => false
/-- the number that stands there -/
def toN : PV → Nat
  | .int z => z.toNat
  | _ => 0
theorem bar_pair (l m : List Nat) (u v : PV) : barB l m (.tup [u, v]) = ((btB ((l.length : Nat) - 1) u && btB ((l.length : Nat) - 1) v) && (unB l m (toN u) false && unB l m (toN v) true)) := by
  cases u <;> cases v <;> simp [barB, btB, toN]
theorem shows_un_s {l m : List Nat} {x : PV} (h : Cls l ∧ Cls m ∧ m.length = l.length) (hx : smP x = true) (S : Sto) : f_shows_unlike_counts [.str l, .str m, x] S = .ok (.bl (barB l m x)) S := by
  unfold f_shows_unlike_counts
  cases x with
  | tup xs =>
    have hs : smPs xs = true := (Bool.and_eq_true_iff.mp (show (decide (xs.length ≤ 1000000) && smPs xs) = true from hx)).2
    match xs, hs with
    | [], _ =>
      haveI : DecP ((((([] : List PV)).length : Nat) : Int) = 2) false := ⟨rfl⟩
      exact ev_fn rfl (by simp)
    | [u], _ =>
      haveI : DecP (((([u] : List PV).length : Nat) : Int) = 2) false := ⟨rfl⟩
      have e : barB l m (.tup [u]) = false := by
        unfold barB
        split
        · rename_i q
          cases q
        · rfl
      rw [e]
      exact ev_fn rfl (by simp)
    | u :: v :: w :: r, _ =>
      haveI : DecP ((((u :: v :: w :: r).length : Nat) : Int) = 2) false := ⟨decide_eq_false (by simp; omega)⟩
      have e : barB l m (.tup (u :: v :: w :: r)) = false := by
        unfold barB
        split
        · rename_i q
          cases q
        · rfl
      rw [e]
      exact ev_fn rfl (by simp)
    | [u, v], hs =>
      have hu : smP u = true := smPs_all hs u (by simp)
      have hv : smP v = true := smPs_all hs v (by simp)
      haveI : DecP (((([u, v] : List PV).length : Nat) : Int) = 2) true := ⟨rfl⟩
      rw [bar_pair]
      haveI i1 : ∀ S, EvF f_is_between [u, .int 0, .int ((l.length : Nat) - 1)] S (.bl (btB ((l.length : Nat) - 1) u)) S True := fun S => ⟨fun _ => between_s hu S⟩
      haveI i2 : ∀ S, EvF f_is_between [v, .int 0, .int ((l.length : Nat) - 1)] S (.bl (btB ((l.length : Nat) - 1) v)) S True := fun S => ⟨fun _ => between_s hv S⟩
      have hc : eCall bAll (aCons (eFrz (fLc (.nm 3) (iVal (eVar 2)) tYes' (eCall f_is_between (aCons (eVar 3) (aCons (eCon (.int 0)) (aCons (eBin oSub (eCall bLen (aCons (eVar 0) aNil)) (eCon (.int 1))) aNil)))) [3])) aNil) [some (.str l), some (.str m), some (.tup [u, v]), none] S = .ok (.bl (btB ((l.length : Nat) - 1) u && btB ((l.length : Nat) - 1) v)) S := by
        refine (EvE.run ?_).trans ?_
        · simp
          exact ⟨hu, hv⟩
        · simp
      cases hb : btB ((l.length : Nat) - 1) u && btB ((l.length : Nat) - 1) v with
      | false =>
        rw [hb] at hc
        rw [Bool.false_and]
        haveI : EvE (eCall bAll (aCons (eFrz (fLc (.nm 3) (iVal (eVar 2)) tYes' (eCall f_is_between (aCons (eVar 3) (aCons (eCon (.int 0)) (aCons (eBin oSub (eCall bLen (aCons (eVar 0) aNil)) (eCon (.int 1))) aNil)))) [3])) aNil)) [some (.str l), some (.str m), some (.tup [u, v]), none] S (.bl false) S True := ⟨fun _ => hc⟩
        exact ev_fn rfl (by simp)
      | true =>
        rw [hb] at hc
        rw [Bool.true_and]
        haveI : EvE (eCall bAll (aCons (eFrz (fLc (.nm 3) (iVal (eVar 2)) tYes' (eCall f_is_between (aCons (eVar 3) (aCons (eCon (.int 0)) (aCons (eBin oSub (eCall bLen (aCons (eVar 0) aNil)) (eCon (.int 1))) aNil)))) [3])) aNil)) [some (.str l), some (.str m), some (.tup [u, v]), none] S (.bl true) S True := ⟨fun _ => hc⟩
        obtain ⟨b1, b2⟩ := Bool.and_eq_true_iff.mp hb
        obtain ⟨a, rfl, ha⟩ := btB_int b1
        obtain ⟨b, rfl, hb'⟩ := btB_int b2
        have h0 := h.1.pos
        refine (ev_fn rfl ?_).trans ?_
        · simp [h]
          omega
        · rfl
  | non => exact ev_fn rfl (by simp)
  | bl b => exact ev_fn rfl (by simp)
  | int b => exact ev_fn rfl (by simp)
  | str b => exact ev_fn rfl (by simp)
  | lst b => exact ev_fn rfl (by simp)
  | scr b => cases hx
  | ref b => cases hx
instance {l m : List Nat} {x : PV} {S : Sto} : EvF f_shows_unlike_counts [.str l, .str m, x] S (.bl (barB l m x)) S ((Cls l ∧ Cls m ∧ m.length = l.length) ∧ smP x = true) := ⟨fun h => shows_un_s h.1 h.2 S⟩
instance {l m : List Nat} {x : PV} {S : Sto} : EvF f_shows_like_counts [.str l, .str m, x] S (.bl (isT0 x && lkB (cnts l) (cnts m))) S ((Cls l ∧ Cls m) ∧ smP x = true) := ⟨fun h => by
  unfold f_shows_like_counts
  exact ev_fn rfl (by simp [h])⟩
end Lw

set_option synthInstance.maxSize 1000000
set_option synthInstance.maxHeartbeats 0
namespace Lw
open Pv L2
/-- two closed ones of one length -/
def Tw (l m : List Nat) : Prop := Cls l ∧ Cls m ∧ m.length = l.length
instance (l m : List Nat) : Decidable (Tw l m) := by unfold Tw; infer_instance
theorem tells_two_s {l m : List Nat} (hl : l.length < 16777216 ∧ m.length < 16777216) (S : Sto) : f_tells_two_closed [.tup [.str l, .str m]] S = .ok (.bl (decide (Tw l m))) S := by
  unfold f_tells_two_closed
  refine (ev_fn rfl ?_).trans ?_
  · simp [hl]
  · congr 2
    rw [Bool.eq_iff_iff, decide_eq_true_eq]
    simp [Tw]
    constructor
    · rintro ⟨⟨a, b⟩, c⟩
      exact ⟨a, b, by omega⟩
    · rintro ⟨a, b, c⟩
      exact ⟨⟨a, b⟩, by omega⟩
instance {l m : List Nat} {p : Bool} {S : Sto} [h : DecP (Tw l m) p] : EvF f_tells_two_closed [.tup [.str l, .str m]] S (.bl p) S (l.length < 16777216 ∧ m.length < 16777216) := ⟨fun q => by rw [tells_two_s q, h.eq]⟩
instance {l m : List Nat} {p : Bool} {S : Sto} [h : DecP (Tw l m) p] : EvF f_is_claim [.tup [.str wL, .str l, .str m]] S (.bl p) S (l.length < 16777216 ∧ m.length < 16777216) := ⟨fun q => by unfold f_is_claim; exact ev_fn rfl (by simp [q])⟩
instance {l m : List Nat} {p : Bool} {S : Sto} [h : DecP (Tw l m) p] : EvF f_is_claim [.tup [.str wU, .str l, .str m]] S (.bl p) S (l.length < 16777216 ∧ m.length < 16777216) := ⟨fun q => by unfold f_is_claim; exact ev_fn rfl (by simp [q])⟩
theorem acc_l {l m : List Nat} {x : PV} (c : Tw l m) (hx : smP x = true) (S : Sto) : f_accepts [.tup [.str wL, .str l, .str m], x] S = .ok (.bl (isT0 x && lkB (cnts l) (cnts m))) S := by
  haveI : DecP (Tw l m) true := ⟨decide_eq_true c⟩
  unfold f_accepts
  exact ev_fn rfl (by simp [cls_len c.1, cls_len c.2.1, hx, c.1, c.2.1])
theorem acc_u {l m : List Nat} {x : PV} (c : Tw l m) (hx : smP x = true) (S : Sto) : f_accepts [.tup [.str wU, .str l, .str m], x] S = .ok (.bl (barB l m x)) S := by
  haveI : DecP (Tw l m) true := ⟨decide_eq_true c⟩
  unfold f_accepts
  exact ev_fn rfl (by simp [cls_len c.1, cls_len c.2.1, hx, c.1, c.2.1, c.2.2])
instance {l m : List Nat} {x : PV} {S : Sto} : EvF f_accepts [.tup [.str wL, .str l, .str m], x] S (.bl (isT0 x && lkB (cnts l) (cnts m))) S (Tw l m ∧ smP x = true) := ⟨fun h => acc_l h.1 h.2 S⟩
instance {l m : List Nat} {x : PV} {S : Sto} : EvF f_accepts [.tup [.str wU, .str l, .str m], x] S (.bl (barB l m x)) S (Tw l m ∧ smP x = true) := ⟨fun h => acc_u h.1 h.2 S⟩
/-! what is no claim -/
theorem acc_no {x y : PV} (h : ∀ S, f_is_claim [x] S = .ok (.bl false) S) (S : Sto) : f_accepts [x, y] S = .ok (.bl false) S := by
  haveI : ∀ S, EvF f_is_claim [x] S (.bl false) S True := fun S => ⟨fun _ => h S⟩
  unfold f_accepts
  exact ev_fn rfl (by simp)
theorem cl_two {w : List Nat} (hw : w = wL ∨ w = wU) {l m : List Nat} (h : ¬ Tw l m) (hl : l.length < 16777216 ∧ m.length < 16777216) (S : Sto) : f_is_claim [.tup [.str w, .str l, .str m]] S = .ok (.bl false) S := by
  haveI : DecP (Tw l m) false := ⟨decide_eq_false h⟩
  rcases hw with rfl | rfl <;> exact EvF.run hl
theorem cl_2 {w l : List Nat} (hw : w = wL ∨ w = wU) (S : Sto) : f_is_claim [.tup [.str w, .str l]] S = .ok (.bl false) S := by
  unfold f_is_claim
  haveI : ∀ w : List Nat, DecP (((([PV.str w, .str l] : List PV).length : Nat) : Int) = 2 + 1) false := fun w => ⟨rfl⟩
  rcases hw with rfl | rfl <;> exact ev_fn rfl (by simp)
theorem cl_4 {w l m : List Nat} (hw : w = wL ∨ w = wU) (S : Sto) : f_is_claim [.tup [.str w, .str l, .str m, .int 0]] S = .ok (.bl false) S := by
  unfold f_is_claim
  haveI : ∀ w : List Nat, DecP (((([PV.str w, .str l, .str m, .int 0] : List PV).length : Nat) : Int) = 2 + 1) false := fun w => ⟨rfl⟩
  rcases hw with rfl | rfl <;> exact ev_fn rfl (by simp)
theorem cl_lst {xs : List PV} (S : Sto) : f_is_claim [.lst xs] S = .ok (.bl false) S := by
  unfold f_is_claim
  exact ev_fn rfl (by simp)
theorem cl_c {l m : List Nat} (S : Sto) : f_is_claim [.tup [.str wC, .str l, .str m]] S = .ok (.bl false) S := by
  unfold f_is_claim
  exact ev_fn rfl (by simp)
end Lw

set_option synthInstance.maxSize 1000000
set_option synthInstance.maxHeartbeats 0
namespace Lw
open Pv L2
abbrev rT (r : List T3) : PV := .tup (r.map tp)
theorem cnts_at {l : List Nat} {k : Nat} (hk : k < l.length) : gi (cnts l) (k : Int) = c3 l k := by
  rw [gi_nat (by rw [cnts_len]; exact hk)]
  unfold cnts
  simp
theorem xch_at {l : List Nat} {k : Nat} (hk : k < l.length) : gi (xch (cnts l)) (k : Int) = x3' (c3 l k) := by
  rw [gi_nat (by rw [xch_len, cnts_len]; exact hk)]
  unfold xch cnts
  simp
  rfl
abbrev wbC : FE := eCall bAll (aCons (eFrz (fLc (.nm 2) (iVal (eVar 1)) tYes' (eAnd (eCall f_law_is_whole (aCons (eVar 2) aNil)) (eChain oLe oLt (eCon (.int 0)) (eVar 2) (eCall bLen (aCons (eBin oIx (eVar 0) (eCon (.int 0))) aNil)))) [2])) aNil)
theorem wb_one {N : Nat} {S : Sto} {r0 r1 r2 : List T3} (c : CellAt S N [rT r0, rT r1, rT r2]) {x y : PV} (hx : smP x = true) :
    eAnd (eCall f_law_is_whole (aCons (eVar 2) aNil)) (eChain oLe oLt (eCon (.int 0)) (eVar 2) (eCall bLen (aCons (eBin oIx (eVar 0) (eCon (.int 0))) aNil))) [some (.ref N), some y, some x] S = .ok (.bl (btB ((r0.length : Nat) - 1) x)) S := by
  cases x with
  | int z =>
    refine (EvE.run ?_).trans ?_
    · simp
    · congr 2
      unfold btB
      rw [Bool.eq_iff_iff]
      simp
      omega
  | tup xs => exact EvE.run (by simp)
  | non => exact EvE.run (by simp)
  | bl b => exact EvE.run (by simp)
  | str b => exact EvE.run (by simp)
  | lst b => exact EvE.run (by simp)
  | scr b => cases hx
  | ref b => cases hx
theorem is_bar_s {N : Nat} {S : Sto} {l m : List Nat} (h : Tw l m) (c : CellAt S N [rT (cnts l), rT (cnts m), rT (xch (cnts m))]) {x : PV} (hx : smP x = true) : f_law_is_bar [.ref N, x] S = .ok (.bl (barB l m x)) S := by
  have hlm := h.2.2
  have h0 := h.1.pos
  unfold f_law_is_bar
  cases x with
  | tup xs =>
    have hs : smPs xs = true := (Bool.and_eq_true_iff.mp (show (decide (xs.length ≤ 1000000) && smPs xs) = true from hx)).2
    match xs, hs with
    | [], _ =>
      haveI : DecP ((((([] : List PV)).length : Nat) : Int) = 2) false := ⟨rfl⟩
      exact ev_fn rfl (by simp)
    | [u], _ =>
      haveI : DecP (((([u] : List PV).length : Nat) : Int) = 2) false := ⟨rfl⟩
      have e : barB l m (.tup [u]) = false := by
        unfold barB
        split
        · rename_i q
          cases q
        · rfl
      rw [e]
      exact ev_fn rfl (by simp)
    | u :: v :: w :: r, _ =>
      haveI : DecP ((((u :: v :: w :: r).length : Nat) : Int) = 2) false := ⟨decide_eq_false (by simp; omega)⟩
      have e : barB l m (.tup (u :: v :: w :: r)) = false := by
        unfold barB
        split
        · rename_i q
          cases q
        · rfl
      rw [e]
      exact ev_fn rfl (by simp)
    | [u, v], hs =>
      have hu : smP u = true := smPs_all hs u (by simp)
      have hv : smP v = true := smPs_all hs v (by simp)
      haveI : DecP (((([u, v] : List PV).length : Nat) : Int) = 2) true := ⟨rfl⟩
      rw [bar_pair]
      haveI i1 : ∀ x, EvE (eAnd (eCall f_law_is_whole (aCons (eVar 2) aNil)) (eChain oLe oLt (eCon (.int 0)) (eVar 2) (eCall bLen (aCons (eBin oIx (eVar 0) (eCon (.int 0))) aNil)))) [some (.ref N), some (.tup [u, v]), some x] S (.bl (btB ((l.length : Nat) - 1) x)) S (smP x = true) := fun x => ⟨fun hx => by
        have := wb_one c (y := .tup [u, v]) hx
        rw [cnts_len] at this
        exact this⟩
      have hc : wbC [some (.ref N), some (.tup [u, v]), none] S = .ok (.bl (btB ((l.length : Nat) - 1) u && btB ((l.length : Nat) - 1) v)) S := by
        refine (EvE.run ?_).trans ?_
        · simp
          exact ⟨hu, hv⟩
        · simp
      cases hb : btB ((l.length : Nat) - 1) u && btB ((l.length : Nat) - 1) v with
      | false =>
        rw [hb] at hc
        rw [Bool.false_and]
        haveI : EvE wbC [some (.ref N), some (.tup [u, v]), none] S (.bl false) S True := ⟨fun _ => hc⟩
        exact ev_fn rfl (by simp)
      | true =>
        rw [hb] at hc
        rw [Bool.true_and]
        haveI : EvE wbC [some (.ref N), some (.tup [u, v]), none] S (.bl true) S True := ⟨fun _ => hc⟩
        obtain ⟨b1, b2⟩ := Bool.and_eq_true_iff.mp hb
        obtain ⟨a, rfl, ha⟩ := btB_int b1
        obtain ⟨b, rfl, hb'⟩ := btB_int b2
        refine (ev_fn rfl ?_).trans ?_
        · simp [cnts_len, xch_len]
          exact ⟨by omega, fun _ => by omega⟩
        · rw [cnts_at (by omega), cnts_at (by omega), cnts_at (by omega), xch_at (by omega)]
          rfl
  | non => exact ev_fn rfl (by simp)
  | bl b => exact ev_fn rfl (by simp)
  | int b => exact ev_fn rfl (by simp)
  | str b => exact ev_fn rfl (by simp)
  | lst b => exact ev_fn rfl (by simp)
  | scr b => cases hx
  | ref b => cases hx
instance {N : Nat} {S : Sto} {l m : List Nat} {x : PV} [c : CellAt S N [rT (cnts l), rT (cnts m), rT (xch (cnts m))]] : EvF f_law_is_bar [.ref N, x] S (.bl (barB l m x)) S (Tw l m ∧ smP x = true) := ⟨fun h => is_bar_s h.1 c h.2⟩
end Lw

set_option synthInstance.maxSize 1000000
set_option synthInstance.maxHeartbeats 0
namespace Lw
open Pv L2
abbrev y1 : FS := (sSet 3 (eCall bLen (aCons (eVar 1) aNil)))
abbrev y2 : FS := (sSet 4 (eCell (lDisp (aCons (eCall f_law_counts (aCons (eVar 1) aNil)) (aCons (eCall f_law_counts (aCons (eVar 2) aNil)) aNil)))))
abbrev y3 : FS := (sExpr (eMeth "list" bAppend (eVar 4) (aCons (eCall bTupleX (aCons (eFrz (fLc (.tp [(.nm 5), (.nm 6), (.nm 7)]) (iVal (eBin oIx (eVar 4) (eCon (.int 1)))) tYes' (eTup (aCons (eVar 5) (aCons (eVar 7) (aCons (eVar 6) aNil)))) [5, 6, 7])) aNil)) aNil)))
abbrev y4 : FS := (sSet 8 (eBin oIn (eBin oIx (eVar 4) (eCon (.int 0))) (eSl (eVar 4) (oSome (eCon (.int 1))) oNone)))
abbrev y5 : FS := (sSet 9 (eFrz (fLc (.nm 10) (iVal (eSl (eVar 4) (oSome (eCon (.int 1))) oNone)) tYes' (eFrz (fLc (.nm 11) (iRg (aCons (eVar 3) aNil)) (toT (eBin oNe (eBin oIx (eBin oIx (eVar 4) (eCon (.int 0))) (eVar 11)) (eBin oIx (eVar 10) (eVar 11)))) (eVar 11) [11])) [10])))
abbrev y6 : FS := (sSet 12 (eIf (toT (eVar 8)) (eCon .non) (eTup (aCons (eBin oIx (eBin oIx (eVar 9) (eCon (.int 0))) (eCon (.int 0))) (aCons (eBin oIx (eBin oIx (eVar 9) (eCon (.int 1))) (eCon (.int 0))) aNil)))))
abbrev y7 : FS := (sSet 13 (eFrz (lDisp (aCons (eCall f_layer_counts (aCons (eVar 1) aNil)) (aCons (eCall f_like_row (aCons (eVar 1) aNil)) (aCons (eCall f_have_like_counts (aCons (eVar 1) (aCons (eVar 2) aNil))) (aCons (eCallK f_have_like_counts 2 [1, 0] (aCons (eVar 2) (aCons (eVar 1) aNil))) aNil)))))))
abbrev y8 : FS := (sSet 13 (eBin oAdd (eVar 13) (eFrz (lDisp (aCons (eCall f_unlike_places (aCons (eVar 1) (aCons (eVar 2) aNil))) (aCons (eCallK f_unlike_places 2 [1, 0] (aCons (eVar 2) (aCons (eVar 1) aNil))) (aCons (eCall f_letter_counts (aCons (eVar 1) aNil)) aNil)))))))
abbrev y9 : FS := (sSet 14 (eCall bTupleX (aCons (eFrz (fLc (.nm 15) (iVal (eCon (.str [65, 66, 67]))) tYes' (eMeth "str" bCount (eVar 1) (aCons (eVar 15) aNil)) [15])) aNil)))
abbrev y10 : FS := (sIf (tNot' (toT (eCall (f_law_same 8) (aCons (eVar 13) (aCons (eFrz (lDisp (aCons (eBin oIx (eVar 4) (eCon (.int 0))) (aCons (eCall bTupleX (aCons (eFrz (fLc (.nm 16) (iVal (eBin oIx (eVar 4) (eCon (.int 0)))) tYes' (eBin oIx (eVar 16) (eCon (.int 0))) [16])) aNil)) (aCons (eVar 8) (aCons (eVar 8) (aCons (eVar 12) (aCons (eVar 12) (aCons (eVar 14) aNil))))))))) aNil))))) (sRet (eCon (.bl false))) sNil)
abbrev y11 : FS := (sIf (tAnd' (toT (eBin oLt (eVar 3) (eCon (.int 13)))) (toT (eBin oNe (eVar 8) (eBin oIn (eVar 2) (eFrz (fLc (.nm 17) (iVal (eCall f_law_motions (aCons (eVar 3) aNil))) tYes' (eCall f_law_moved (aCons (eVar 1) (aCons (eVar 17) aNil))) [17])))))) (sRet (eCon (.bl false))) sNil)
abbrev y12 : FS := (sSet 18 (eFrz (lDisp (aCons (eTup (aCons (eCon (.str [108, 105, 107, 101, 32, 99, 111, 117, 110, 116, 115])) (aCons (eVar 1) (aCons (eVar 2) aNil)))) (aCons (eTup (aCons (eCon (.str [117, 110, 108, 105, 107, 101, 32, 99, 111, 117, 110, 116, 115])) (aCons (eVar 1) (aCons (eVar 2) aNil)))) aNil)))))
abbrev y13 : FS := (sAsg (.tp [(.nm 19), (.nm 20)]) (eCall f_certify_counts (aCons (eVar 1) (aCons (eVar 2) aNil))))
abbrev y14 : FS := (sIf (tNot' (toT (eCall (f_law_same 8) (aCons (eFrz (lDisp (aCons (eVar 19) (aCons (eCall f_accepts (aCons (eVar 19) (aCons (eVar 20) aNil))) aNil)))) (aCons (eFrz (lDisp (aCons (eIf (toT (eVar 8)) (eBin oIx (eVar 18) (eCon (.int 0))) (eBin oIx (eVar 18) (eCon (.int 1)))) (aCons (eCon (.bl true)) aNil)))) aNil))))) (sRet (eCon (.bl false))) sNil)
abbrev y15 : FS := (sSet 21 (eFrz (lDisp (aCons (eVar 20) (aCons (eVar 12) (aCons (eTup aNil) (aCons (eCon .non) (aCons (eTup (aCons (eCon (.int 0)) (aCons (eCon (.int 0)) aNil))) (aCons (eTup (aCons (eCon (.int 1)) (aCons (eCon (.int 1)) aNil))) (aCons (eTup (aCons (eCon (.int 1)) aNil)) (aCons (eFrz (lDisp (aCons (eCon (.int 1)) (aCons (eCon (.int 1)) aNil)))) (aCons (eTup (aCons (eCon (.int 2)) (aCons (eCon (.int 3)) (aCons (eCon (.int 4)) aNil)))) (aCons (eTup (aCons (eVar 3) (aCons (eCon (.int 1)) aNil))) (aCons (eTup (aCons (eCon (.int 1)) (aCons (eBin oSub (eCon (.int 0)) (eCon (.int 1))) aNil))) (aCons (eTup (aCons (eCon (.bl true)) (aCons (eCon (.int 1)) aNil))) aNil)))))))))))))))
abbrev y16 : FS := (sSet 21 (eBin oAdd (eVar 21) (eFrz (lDisp (aCons (eTup (aCons (eCon (.str [49])) (aCons (eCon (.int 1)) aNil))) (aCons (eCon (.int 1)) (aCons (eCon (.str [])) aNil)))))))
abbrev y17 : FS := (sFor (.nm 16) (iVal (eBin oAdd (eVar 21) (eFrz (fLc (.nm 22) (iRg (aCons (eCon (.int 8)) aNil)) tYes' (eTup (aCons (eCall f_law_draw (aCons (eVar 0) (aCons (eVar 3) aNil))) (aCons (eCall f_law_draw (aCons (eVar 0) (aCons (eVar 3) aNil))) aNil))) [22])))) (sSeq (sSet 23 (eFrz (lDisp (aCons (eAnd (eIsi "tuple" (eVar 16)) (eAnd (eBin oEq (eVar 16) (eTup aNil)) (eVar 8))) (aCons (eCall f_law_is_bar (aCons (eVar 4) (aCons (eVar 16) aNil))) aNil))))) (sSeq (sSet 24 (eFrz (lDisp (aCons (eCall f_accepts (aCons (eBin oIx (eVar 18) (eCon (.int 0))) (aCons (eVar 16) aNil))) (aCons (eCallK f_accepts 2 [1, 0] (aCons (eVar 16) (aCons (eBin oIx (eVar 18) (eCon (.int 1))) aNil))) aNil))))) (sIf (tOr' (tNot' (toT (eCall (f_law_same 8) (aCons (eVar 24) (aCons (eVar 23) aNil))))) (toT (eBin oEq (eVar 23) (eFrz (lDisp (aCons (eCon (.bl true)) (aCons (eCon (.bl true)) aNil))))))) (sRet (eCon (.bl false))) sNil))))
abbrev y18 : FS := (sSet 25 (eFrz (lDisp (aCons (eSl (eVar 19) oNone (oSome (eCon (.int 2)))) (aCons (eBin oAdd (eVar 19) (eTup (aCons (eCon (.int 0)) aNil))) (aCons (eCall bListX (aCons (eVar 19) aNil)) (aCons (eTup (aCons (eBin oIx (eVar 19) (eCon (.int 0))) (aCons (eVar 1) (aCons (eSl (eVar 2) (oSome (eCon (.int 1))) oNone) aNil)))) (aCons (eTup (aCons (eBin oIx (eVar 19) (eCon (.int 0))) (aCons (eVar 1) (aCons (eCon .non) aNil)))) aNil))))))))
abbrev y19 : FS := (sSet 25 (eBin oAdd (eVar 25) (eFrz (lDisp (aCons (eTup (aCons (eBin oIx (eVar 19) (eCon (.int 0))) (aCons (eBin oAdd (eVar 1) (eBin oIx (eVar 1) (eCon (.int 0)))) (aCons (eVar 2) aNil)))) aNil)))))
abbrev y20 : FS := (sSet 25 (eBin oAdd (eVar 25) (eFrz (lDisp (aCons (eTup (aCons (eCon (.str [99, 111, 117, 110, 116, 115])) (aCons (eVar 1) (aCons (eVar 2) aNil)))) (aCons (eTup (aCons (eBin oIx (eVar 19) (eCon (.int 0))) (aCons (eCon (.str [65])) (aCons (eCon (.str [65])) aNil)))) (aCons (eTup (aCons (eBin oIx (eVar 19) (eCon (.int 0))) (aCons (eVar 1) (aCons (eBin oAdd (eSl (eVar 2) oNone (oSome (eNeg (eCon (.int 1))))) (eBin oIx (eVar 2) (eCon (.int 0)))) aNil)))) aNil)))))))
abbrev y21 : FS := (sSet 25 (eBin oAdd (eVar 25) (eFrz (lDisp (aCons (eTup (aCons (eBin oIx (eVar 19) (eCon (.int 0))) (aCons (eCall bTupleX (aCons (eVar 1) aNil)) (aCons (eVar 2) aNil)))) aNil)))))
abbrev y22 : FS := (sRet (eNot (eCall bAny (aCons (eFrz (fLc (.nm 16) (iVal (eVar 25)) tYes' (eOr (eCall f_accepts (aCons (eVar 16) (aCons (eVar 20) aNil))) (eCall f_accepts (aCons (eVar 16) (aCons (eTup aNil) aNil)))) [16])) aNil))))
instance {r : List T3} : MemV (rT r) [] 2 false := ⟨by
  show dpts (r.map tp) + 1 ≤ 2
  have := dpts_map (InjV.dx (φ := tp)) r
  omega, Nat.zero_le _, rfl⟩
abbrev gE (n : Nat) (l m : List Nat) (e3 e4 e5 e6 e7 e8 e9 e10 e11 e12 e13 e14 e15 e16 e17 e18 e19 e20 e21 e22 e23 e24 e25 : Option PV) : VEnv := [some (.ref n), some (.str l), some (.str m), e3, e4, e5, e6, e7, e8, e9, e10, e11, e12, e13, e14, e15, e16, e17, e18, e19, e20, e21, e22, e23, e24, e25]
abbrev rows (l m : List Nat) : List PV := [rT (cnts l), rT (cnts m), rT (xch (cnts m))]
abbrev mny (l : List Nat) : Option PV := some (.int (l.length : Nat))
section
variable {n : Nat} {l m : List Nat} {S T : Sto} {e3 e4 e5 e6 e7 e8 e9 e10 e11 e12 e13 e14 e15 e16 e17 e18 e19 e20 e21 e22 e23 e24 e25 : Option PV}
theorem t1 : y1 (gE n l m e3 e4 e5 e6 e7 e8 e9 e10 e11 e12 e13 e14 e15 e16 e17 e18 e19 e20 e21 e22 e23 e24 e25) S = .nx (gE n l m (mny l) e4 e5 e6 e7 e8 e9 e10 e11 e12 e13 e14 e15 e16 e17 e18 e19 e20 e21 e22 e23 e24 e25) S := EvS.run (by simp)
theorem t2 (h : Tw l m) : y2 (gE n l m e3 e4 e5 e6 e7 e8 e9 e10 e11 e12 e13 e14 e15 e16 e17 e18 e19 e20 e21 e22 e23 e24 e25) S = .nx (gE n l m e3 (some (.ref S.length)) e5 e6 e7 e8 e9 e10 e11 e12 e13 e14 e15 e16 e17 e18 e19 e20 e21 e22 e23 e24 e25) (S ++ [.lst [rT (cnts l), rT (cnts m)]]) := EvS.run (by
  simp
  exact ⟨cls_n h.1, cls_n h.2.1⟩)
theorem t3 (h : Tw l m) : y3 (gE n l m e3 (some (.ref S.length)) none none none e8 e9 e10 e11 e12 e13 e14 e15 e16 e17 e18 e19 e20 e21 e22 e23 e24 e25) (S ++ [.lst [rT (cnts l), rT (cnts m)]]) = .nx (gE n l m e3 (some (.ref S.length)) none none none e8 e9 e10 e11 e12 e13 e14 e15 e16 e17 e18 e19 e20 e21 e22 e23 e24 e25) (S ++ [.lst (rows l m)]) := by
  have h24 := h.2.1.1.2.2.1
  refine (EvS.run ?_).trans ?_
  · simp [cnts_len]
    omega
  · rw [set_last]
    unfold rows xch
    rw [rT, rT, rT, List.map_map]
    rfl
theorem sl_ref {N : Nat} {xs : List PV} (c : CellAt T N xs) : EvSl (.ref N) (some 1) none T (.lst (xs.drop 1)) True := ⟨fun _ => by
  show (match dl T (.ref N) with
    | some xs => R.ok (PV.lst (cut xs (some 1) none)) T
    | none => .no) = _
  have hd : dl T (.ref N) = some xs := by simp [dl, c.eq]
  rw [hd]
  show R.ok (PV.lst (cut xs (some 1) none)) T = _
  rw [cut_1]⟩
theorem t4 {N : Nat} (h : Tw l m) (c : CellAt T N (rows l m)) : y4 (gE n l m e3 (some (.ref N)) e5 e6 e7 e8 e9 e10 e11 e12 e13 e14 e15 e16 e17 e18 e19 e20 e21 e22 e23 e24 e25) T = .nx (gE n l m e3 (some (.ref N)) e5 e6 e7 (some (.bl (lkB (cnts l) (cnts m)))) e9 e10 e11 e12 e13 e14 e15 e16 e17 e18 e19 e20 e21 e22 e23 e24 e25) T := by
  haveI : EvSl (.ref N) (some 1) none T (.lst [rT (cnts m), rT (xch (cnts m))]) True := sl_ref c
  refine (EvS.run ?_).trans ?_
  · simp
  · have e := lkB_iff (r := cnts l) (q := cnts m) (by rw [cnts_len, cnts_len, h.2.2])
    congr 4
    have : lkB (cnts l) (cnts m) = (decide (cnts m = cnts l) || (decide (xch (cnts m) = cnts l) || false)) := by
      rw [Bool.eq_iff_iff, e, Bool.or_eq_true, Bool.or_eq_true, decide_eq_true_eq, decide_eq_true_eq]
      constructor
      · rintro (a | a)
        · exact .inl a.symm
        · exact .inr (.inl a.symm)
      · rintro (a | a | a)
        · exact .inl a.symm
        · exact .inr a.symm
        · cases a
    rw [this]
end
end Lw

set_option synthInstance.maxSize 1000000
set_option synthInstance.maxHeartbeats 0
namespace Lw
open Pv L2
abbrev ksP (ks : List Nat) : PV := .lst (ks.map fun (k : Nat) => PV.int (k : Nat))
section
variable {n N : Nat} {l m : List Nat} {S T : Sto} {e3 e4 e5 e6 e7 e8 e9 e10 e11 e12 e13 e14 e15 e16 e17 e18 e19 e20 e21 e22 e23 e24 e25 : Option PV}
theorem t5 (h : Tw l m) (c : CellAt T N (rows l m)) : y5 (gE n l m (mny l) (some (.ref N)) e5 e6 e7 e8 e9 none none e12 e13 e14 e15 e16 e17 e18 e19 e20 e21 e22 e23 e24 e25) T = .nx (gE n l m (mny l) (some (.ref N)) e5 e6 e7 e8 (some (.lst [ksP (kL l.length (cnts l) (cnts m)), ksP (kL l.length (cnts l) (xch (cnts m)))])) none none e12 e13 e14 e15 e16 e17 e18 e19 e20 e21 e22 e23 e24 e25) T := by
  haveI : EvSl (.ref N) (some 1) none T (.lst [rT (cnts m), rT (xch (cnts m))]) True := sl_ref c
  haveI : Items (.lst [rT (cnts m), rT (xch (cnts m))]) T [cnts m, xch (cnts m)] rT := ⟨rfl⟩
  have a := h.1.1.2.2.1
  have b := h.2.2
  refine (EvS.run ?_).trans ?_
  · simp
    exact ⟨⟨by omega, by omega, fun x hx => by rw [cnts_len, cnts_len]; omega⟩, by omega, by omega, fun x hx => by rw [cnts_len, xch_len, cnts_len]; omega⟩
  · rfl
abbrev brs (l m : List Nat) : Option PV := some (.lst [ksP (kL l.length (cnts l) (cnts m)), ksP (kL l.length (cnts l) (xch (cnts m)))])
theorem kL_uL (h : Tw l m) : kL l.length (cnts l) (cnts m) = uL (cnts l) (cnts m) ∧ kL l.length (cnts l) (xch (cnts m)) = uL (cnts l) (xch (cnts m)) := by
  have a : (cnts l).length = l.length := cnts_len
  have b : (cnts m).length = l.length := by rw [cnts_len, h.2.2]
  constructor
  · rw [uL_kL (by omega), a]
  · rw [uL_kL (by rw [xch_len]; omega), a]
theorem t6 (h : Tw l m) : y6 (gE n l m e3 e4 e5 e6 e7 (some (.bl (lkB (cnts l) (cnts m)))) (brs l m) e10 e11 e12 e13 e14 e15 e16 e17 e18 e19 e20 e21 e22 e23 e24 e25) T = .nx (gE n l m e3 e4 e5 e6 e7 (some (.bl (lkB (cnts l) (cnts m)))) (brs l m) e10 e11 (some (upV (cnts l) (cnts m))) e13 e14 e15 e16 e17 e18 e19 e20 e21 e22 e23 e24 e25) T := by
  obtain ⟨k1, k2⟩ := kL_uL h
  unfold brs
  rw [k1, k2]
  unfold lkB upV
  cases a : uL (cnts l) (cnts m) with
  | nil => exact EvS.run (by simp)
  | cons x t =>
    cases b : uL (cnts l) (xch (cnts m)) with
    | nil => exact EvS.run (by simp)
    | cons y u =>
      show y6 (gE n l m e3 e4 e5 e6 e7 (some (.bl false)) (some (.lst [ksP (x :: t), ksP (y :: u)])) e10 e11 e12 e13 e14 e15 e16 e17 e18 e19 e20 e21 e22 e23 e24 e25) T = .nx (gE n l m e3 e4 e5 e6 e7 (some (.bl false)) (some (.lst [ksP (x :: t), ksP (y :: u)])) e10 e11 (some (.tup [.int (x : Nat), .int (y : Nat)])) e13 e14 e15 e16 e17 e18 e19 e20 e21 e22 e23 e24 e25) T
      refine (EvS.run (by simp; omega)).trans ?_
      rw [gi_0 (by simp), gi_0 (by simp)]
      rfl
abbrev dB (l m : List Nat) : Bool := lkB (cnts l) (cnts m)
abbrev tl7 (l m : List Nat) : List PV := [rT (cnts l), .tup ((cnts l).map fun t => .int (t.1 : Nat)), .bl (dB l m), .bl (dB l m)]
abbrev lt3 (l : List Nat) : PV := .tup [.int (l.count 65 : Nat), .int (l.count 66 : Nat), .int (l.count 67 : Nat)]
theorem upV_pv {r q : List T3} : IsPV (upV r q) True := ⟨fun _ => by
  unfold upV
  split <;> rfl⟩
theorem t7 (h : Tw l m) : y7 (gE n l m e3 e4 e5 e6 e7 e8 e9 e10 e11 e12 e13 e14 e15 e16 e17 e18 e19 e20 e21 e22 e23 e24 e25) T = .nx (gE n l m e3 e4 e5 e6 e7 e8 e9 e10 e11 e12 (some (.lst (tl7 l m))) e14 e15 e16 e17 e18 e19 e20 e21 e22 e23 e24 e25) T := EvS.run (by
  simp [h.1, h.2.1, h.2.2])
theorem t8 (h : Tw l m) : y8 (gE n l m e3 e4 e5 e6 e7 e8 e9 e10 e11 e12 (some (.lst (tl7 l m))) e14 e15 e16 e17 e18 e19 e20 e21 e22 e23 e24 e25) T = .nx (gE n l m e3 e4 e5 e6 e7 e8 e9 e10 e11 e12 (some (.lst (tl7 l m ++ [upV (cnts l) (cnts m), upV (cnts l) (cnts m), lt3 l]))) e14 e15 e16 e17 e18 e19 e20 e21 e22 e23 e24 e25) T := by
  haveI := @upV_pv (cnts l) (cnts m)
  refine EvS.run ?_
  simp [h.1, h.2.1, h.2.2, h.1.1]
theorem t9 : y9 (gE n l m e3 e4 e5 e6 e7 e8 e9 e10 e11 e12 e13 e14 none e16 e17 e18 e19 e20 e21 e22 e23 e24 e25) T = .nx (gE n l m e3 e4 e5 e6 e7 e8 e9 e10 e11 e12 e13 (some (lt3 l)) none e16 e17 e18 e19 e20 e21 e22 e23 e24 e25) T := by
  refine (EvS.run ?_).trans ?_
  · simp
  · rfl
end
end Lw

set_option synthInstance.maxSize 1000000
set_option synthInstance.maxHeartbeats 0
namespace Lw
open Pv L2
instance {t : T3} {S : Sto} : Ev2 oIx (tp t) (.int 0) S (.int (t.1 : Nat)) True := ⟨fun _ => rfl⟩
instance {r q : List T3} : Sm (upV r q) 1 True := ⟨by
  unfold upV
  split
  · exact Nat.le_refl _
  · exact Nat.zero_le _, fun _ => by
  unfold upV
  split <;> rfl⟩
instance {t : T3} : Sm (tp t) 1 True := ⟨Nat.le_refl _, fun _ => rfl⟩
abbrev tl8 (l m : List Nat) : List PV := [rT (cnts l), .tup ((cnts l).map fun t => .int (t.1 : Nat)), .bl (dB l m), .bl (dB l m), upV (cnts l) (cnts m), upV (cnts l) (cnts m), lt3 l]
section
variable {n N : Nat} {l m : List Nat} {S T : Sto} {e3 e4 e5 e6 e7 e8 e9 e10 e11 e12 e13 e14 e15 e16 e17 e18 e19 e20 e21 e22 e23 e24 e25 : Option PV}
theorem t10 (h : Tw l m) (c : CellAt T N (rows l m)) : y10 (gE n l m e3 (some (.ref N)) e5 e6 e7 (some (.bl (dB l m))) e9 e10 e11 (some (upV (cnts l) (cnts m))) (some (.lst (tl8 l m))) (some (lt3 l)) e15 none e17 e18 e19 e20 e21 e22 e23 e24 e25) T = .nx (gE n l m e3 (some (.ref N)) e5 e6 e7 (some (.bl (dB l m))) e9 e10 e11 (some (upV (cnts l) (cnts m))) (some (.lst (tl8 l m))) (some (lt3 l)) e15 none e17 e18 e19 e20 e21 e22 e23 e24 e25) T := by
  haveI := @upV_pv (cnts l) (cnts m)
  refine EvS.run ?_
  simp
  rw [cnts_len]
  have := h.1.1.2.2.1
  omega
theorem t12 : y12 (gE n l m e3 e4 e5 e6 e7 e8 e9 e10 e11 e12 e13 e14 e15 e16 e17 e18 e19 e20 e21 e22 e23 e24 e25) T = .nx (gE n l m e3 e4 e5 e6 e7 e8 e9 e10 e11 e12 e13 e14 e15 e16 e17 (some (.lst [.tup [.str wL, .str l, .str m], .tup [.str wU, .str l, .str m]])) e19 e20 e21 e22 e23 e24 e25) T := EvS.run (by simp)
end
end Lw

set_option synthInstance.maxSize 1000000
set_option synthInstance.maxHeartbeats 0
namespace Lw
open Pv L2
theorem dpts_strs {α : Type} (f : α → List Nat) : ∀ xs : List α, dpts (xs.map fun x => PV.str (f x)) = 0
  | [] => rfl
  | x :: xs => by
    have ih := dpts_strs f xs
    simp only [List.map_cons, dpts, ih]
    rfl
instance {α : Type} {xs : List α} {f : α → List Nat} {a : List Nat} : MemV (.str a) (xs.map fun x => .str (f x)) 0 (xs.any fun x => f x == a) := ⟨Nat.le_refl _, Nat.le_of_eq (dpts_strs f xs), by
  rw [List.any_map]
  rfl⟩
abbrev yM : FE := eBin oIn (eVar 2) (eFrz (fLc (.nm 17) (iVal (eCall f_law_motions (aCons (eVar 3) aNil))) tYes' (eCall f_law_moved (aCons (eVar 1) (aCons (eVar 17) aNil))) [17]))
section
variable {n N : Nat} {l m : List Nat} {S T : Sto} {e3 e4 e5 e6 e7 e8 e9 e10 e11 e12 e13 e14 e15 e16 e17 e18 e19 e20 e21 e22 e23 e24 e25 : Option PV}
theorem mem_s (h : Tw l m) (hl : l.length ≤ 12) : yM (gE n l m (mny l) e4 e5 e6 e7 e8 e9 e10 e11 e12 e13 e14 e15 e16 none e18 e19 e20 e21 e22 e23 e24 e25) T = .ok (.bl (dB l m)) T := by
  have h24 := h.1.1.2.2.1
  refine (EvE.run ?_).trans ?_
  · simp [motL_len]
    have go : ∀ (p : List Nat) (k : Nat) (b : Bool), (p, k, b) ∈ motL l.length → p ∈ orders ∧ (∀ c ∈ l, Lt c) ∧ k ≤ l.length ∧ l.length < 1000 := fun p k b hx => by
      obtain ⟨q1, q2⟩ := motL_mem hx
      exact ⟨q1, h.1.1.1, Nat.le_of_lt q2, by omega⟩
    exact ⟨by omega, by omega, fun p k => ⟨go p k false, go p k true⟩⟩
  · congr 2
    rw [Bool.eq_iff_iff, lkB_moved h.1 h.2.1 h.2.2 hl, List.any_eq_true]
    simp
theorem t11 (h : Tw l m) : y11 (gE n l m (mny l) e4 e5 e6 e7 (some (.bl (dB l m))) e9 e10 e11 e12 e13 e14 e15 e16 none e18 e19 e20 e21 e22 e23 e24 e25) T = .nx (gE n l m (mny l) e4 e5 e6 e7 (some (.bl (dB l m))) e9 e10 e11 e12 e13 e14 e15 e16 none e18 e19 e20 e21 e22 e23 e24 e25) T := by
  by_cases hl : (l.length : Int) < 13
  · haveI : DecP ((l.length : Int) < 13) true := ⟨decide_eq_true hl⟩
    have hm := mem_s (n := n) (T := T) (e4 := e4) (e5 := e5) (e6 := e6) (e7 := e7) (e8 := some (.bl (dB l m))) (e9 := e9) (e10 := e10) (e11 := e11) (e12 := e12) (e13 := e13) (e14 := e14) (e15 := e15) (e16 := e16) (e18 := e18) (e19 := e19) (e20 := e20) (e21 := e21) (e22 := e22) (e23 := e23) (e24 := e24) (e25 := e25) h (by omega)
    generalize dB l m = p at hm ⊢
    haveI : EvE yM (gE n l m (mny l) e4 e5 e6 e7 (some (.bl p)) e9 e10 e11 e12 e13 e14 e15 e16 none e18 e19 e20 e21 e22 e23 e24 e25) T (.bl p) T True := ⟨fun _ => hm⟩
    cases p <;> exact EvS.run (by simp)
  · haveI : DecP ((l.length : Int) < 13) false := ⟨decide_eq_false hl⟩
    exact EvS.run (by simp)
end
end Lw

set_option synthInstance.maxSize 1000000
set_option synthInstance.maxHeartbeats 0
namespace Lw
open Pv L2
abbrev cLk (l m : List Nat) : PV := .tup [.str wL, .str l, .str m]
abbrev cUn (l m : List Nat) : PV := .tup [.str wU, .str l, .str m]
/-- the claim that is so -/
abbrev cX (l m : List Nat) (p : Bool) : PV := if p = true then cLk l m else cUn l m
abbrev pX (p : Bool) (a b : Nat) : PV := if p = true then .tup [] else .tup [.int (a : Nat), .int (b : Nat)]
theorem up_cases (l m : List Nat) (h : Tw l m) : (dB l m = true ∧ upV (cnts l) (cnts m) = .non) ∨ ∃ a b : Nat, dB l m = false ∧ upV (cnts l) (cnts m) = .tup [.int (a : Nat), .int (b : Nat)] ∧ a < l.length ∧ b < l.length ∧ unB l m a false = true ∧ unB l m b true = true := by
  obtain ⟨k1, k2⟩ := kL_uL h
  have hm := h.2.2
  unfold dB lkB upV
  cases a : uL (cnts l) (cnts m) with
  | nil => exact .inl ⟨rfl, rfl⟩
  | cons x t =>
    cases b : uL (cnts l) (xch (cnts m)) with
    | nil => exact .inl ⟨rfl, rfl⟩
    | cons y u =>
      have mx : x ∈ kL l.length (cnts l) (cnts m) := by rw [k1, a]; exact List.mem_cons_self ..
      have my : y ∈ kL l.length (cnts l) (xch (cnts m)) := by rw [k2, b]; exact List.mem_cons_self ..
      obtain ⟨x1, x2⟩ := List.mem_filter.mp mx
      obtain ⟨y1, y2⟩ := List.mem_filter.mp my
      have x1 := List.mem_range.mp x1
      have y1 := List.mem_range.mp y1
      rw [cnts_at x1, cnts_at (by omega)] at x2
      rw [cnts_at y1, xch_at (by omega)] at y2
      exact .inr ⟨x, y, rfl, rfl, x1, y1, x2, y2⟩
section
variable {n N : Nat} {l m : List Nat} {S T : Sto} {e3 e4 e5 e6 e7 e8 e9 e10 e11 e12 e13 e14 e15 e16 e17 e18 e19 e20 e21 e22 e23 e24 e25 : Option PV}
theorem t13 (h : Tw l m) : ∃ p a b, dB l m = p ∧ (p = false → a < l.length ∧ b < l.length ∧ unB l m a false = true ∧ unB l m b true = true) ∧ y13 (gE n l m e3 e4 e5 e6 e7 e8 e9 e10 e11 e12 e13 e14 e15 e16 e17 e18 e19 e20 e21 e22 e23 e24 e25) T = .nx (gE n l m e3 e4 e5 e6 e7 e8 e9 e10 e11 e12 e13 e14 e15 e16 e17 e18 (some (cX l m p)) (some (pX p a b)) e21 e22 e23 e24 e25) T := by
  rcases up_cases l m h with ⟨d, u⟩ | ⟨a, b, d, u, a1, b1, a2, b2⟩
  · refine ⟨true, 0, 0, d, (fun q => absurd q (by decide)), ?_⟩
    haveI : ∀ S, EvF f_unlike_places_by [.str l, .str m] S .non S True := fun S => ⟨fun _ => by rw [← u]; exact EvF.run ⟨h.1, h.2.1⟩⟩
    haveI : EvF f_certify_counts [.str l, .str m] T (.tup [cLk l m, .tup []]) T True := ⟨fun _ => by unfold f_certify_counts; exact ev_fn rfl (by simp [h.1, h.2.1, h.2.2])⟩
    exact EvS.run (by simp)
  · refine ⟨false, a, b, d, fun _ => ⟨a1, b1, a2, b2⟩, ?_⟩
    haveI : ∀ S, EvF f_unlike_places_by [.str l, .str m] S (.tup [.int (a : Nat), .int (b : Nat)]) S True := fun S => ⟨fun _ => by rw [← u]; exact EvF.run ⟨h.1, h.2.1⟩⟩
    haveI : EvF f_certify_counts [.str l, .str m] T (.tup [cUn l m, .tup [.int (a : Nat), .int (b : Nat)]]) T True := ⟨fun _ => by unfold f_certify_counts; exact ev_fn rfl (by simp [h.1, h.2.1, h.2.2])⟩
    exact EvS.run (by simp)
theorem t14 (h : Tw l m) {p : Bool} {a b : Nat} (hp : dB l m = p) (hq : p = false → a < l.length ∧ b < l.length ∧ unB l m a false = true ∧ unB l m b true = true) :
    y14 (gE n l m e3 e4 e5 e6 e7 (some (.bl p)) e9 e10 e11 e12 e13 e14 e15 e16 e17 (some (.lst [cLk l m, cUn l m])) (some (cX l m p)) (some (pX p a b)) e21 e22 e23 e24 e25) T = .nx (gE n l m e3 e4 e5 e6 e7 (some (.bl p)) e9 e10 e11 e12 e13 e14 e15 e16 e17 (some (.lst [cLk l m, cUn l m])) (some (cX l m p)) (some (pX p a b)) e21 e22 e23 e24 e25) T := by
  cases p with
  | true =>
    show y14 (gE n l m e3 e4 e5 e6 e7 (some (.bl true)) e9 e10 e11 e12 e13 e14 e15 e16 e17 (some (.lst [cLk l m, cUn l m])) (some (cLk l m)) (some (.tup [])) e21 e22 e23 e24 e25) T = .nx (gE n l m e3 e4 e5 e6 e7 (some (.bl true)) e9 e10 e11 e12 e13 e14 e15 e16 e17 (some (.lst [cLk l m, cUn l m])) (some (cLk l m)) (some (.tup [])) e21 e22 e23 e24 e25) T
    exact EvS.run (by
      have hp : lkB (cnts l) (cnts m) = true := hp
      simp [h, smP, smPs, isT0, hp])
  | false =>
    obtain ⟨a1, b1, a2, b2⟩ := hq rfl
    show y14 (gE n l m e3 e4 e5 e6 e7 (some (.bl false)) e9 e10 e11 e12 e13 e14 e15 e16 e17 (some (.lst [cLk l m, cUn l m])) (some (cUn l m)) (some (.tup [.int (a : Nat), .int (b : Nat)])) e21 e22 e23 e24 e25) T = .nx (gE n l m e3 e4 e5 e6 e7 (some (.bl false)) e9 e10 e11 e12 e13 e14 e15 e16 e17 (some (.lst [cLk l m, cUn l m])) (some (cUn l m)) (some (.tup [.int (a : Nat), .int (b : Nat)])) e21 e22 e23 e24 e25) T
    exact EvS.run (by
      simp [h, smP, smPs, barB, btB, a2, b2]
      omega)
end
end Lw

set_option synthInstance.maxSize 1000000
set_option synthInstance.maxHeartbeats 0
namespace Lw
open Pv L2
abbrev yI : FI := (iVal (eBin oAdd (eVar 21) (eFrz (fLc (.nm 22) (iRg (aCons (eCon (.int 8)) aNil)) tYes' (eTup (aCons (eCall f_law_draw (aCons (eVar 0) (aCons (eVar 3) aNil))) (aCons (eCall f_law_draw (aCons (eVar 0) (aCons (eVar 3) aNil))) aNil))) [22]))))
abbrev yB : FS := (sSeq (sSet 23 (eFrz (lDisp (aCons (eAnd (eIsi "tuple" (eVar 16)) (eAnd (eBin oEq (eVar 16) (eTup aNil)) (eVar 8))) (aCons (eCall f_law_is_bar (aCons (eVar 4) (aCons (eVar 16) aNil))) aNil))))) (sSeq (sSet 24 (eFrz (lDisp (aCons (eCall f_accepts (aCons (eBin oIx (eVar 18) (eCon (.int 0))) (aCons (eVar 16) aNil))) (aCons (eCallK f_accepts 2 [1, 0] (aCons (eVar 16) (aCons (eBin oIx (eVar 18) (eCon (.int 1))) aNil))) aNil))))) (sIf (tOr' (tNot' (toT (eCall (f_law_same 8) (aCons (eVar 24) (aCons (eVar 23) aNil))))) (toT (eBin oEq (eVar 23) (eFrz (lDisp (aCons (eCon (.bl true)) (aCons (eCon (.bl true)) aNil))))))) (sRet (eCon (.bl false))) sNil)))
section
variable {n N : Nat} {l m : List Nat} {S T : Sto} {e3 e4 e5 e6 e7 e8 e9 e10 e11 e12 e13 e14 e15 e16 e17 e18 e19 e20 e21 e22 e23 e24 e25 : Option PV}
/-- both judged the right way: never both -/
theorem yB_s (h : Tw l m) (c : CellAt T N (rows l m)) {p : Bool} (hp : dB l m = p) {x : PV} (hx : smP x = true) (hd : dpt x ≤ 3) :
    ∃ y23 y24, yB (gE n l m e3 (some (.ref N)) e5 e6 e7 (some (.bl p)) e9 e10 e11 e12 e13 e14 e15 (some x) e17 (some (.lst [cLk l m, cUn l m])) e19 e20 e21 e22 e23 e24 e25) T = .nx (gE n l m e3 (some (.ref N)) e5 e6 e7 (some (.bl p)) e9 e10 e11 e12 e13 e14 e15 (some x) e17 (some (.lst [cLk l m, cUn l m])) e19 e20 e21 e22 y23 y24 e25) T := by
  have hk : lkB (cnts l) (cnts m) = p := hp
  cases x with
  | non => refine ⟨_, _, EvS.run ?_⟩; simp [h, hx, isT0, barB, hk]
  | int z => refine ⟨_, _, EvS.run ?_⟩; simp [h, hx, isT0, barB, hk]
  | bl z => refine ⟨_, _, EvS.run ?_⟩; simp [h, hx, isT0, barB, hk]
  | str z => refine ⟨_, _, EvS.run ?_⟩; simp [h, hx, isT0, barB, hk]
  | lst z => refine ⟨_, _, EvS.run ?_⟩; simp [h, hx, isT0, barB, hk]
  | tup z =>
    cases z with
    | nil => refine ⟨_, _, EvS.run ?_⟩; simp [h, hx, isT0, barB, hk]
    | cons a r =>
      haveI : EqV (.tup (a :: r)) (.tup []) 3 false := ⟨hd, by decide, rfl⟩
      refine ⟨_, _, EvS.run ?_⟩; simp [h, hx, isT0, hk]
  | scr => cases hx
  | ref => cases hx
abbrev pps (l : List Nat) (pp up : PV) : List PV := [pp, up, .tup [], .non, .tup [.int 0, .int 0], .tup [.int 1, .int 1], .tup [.int 1], .lst [.int 1, .int 1], .tup [.int 2, .int 3, .int 4], .tup [.int (l.length : Nat), .int 1], .tup [.int 1, .int (0 - 1)], .tup [.bl true, .int 1], .tup [.str [49], .int 1], .int 1, .str []]
theorem t15 {pp up : PV} (hp : IsPV pp True) (hu : IsPV up True) : (sSeq y15 y16) (gE n l m (mny l) e4 e5 e6 e7 e8 e9 e10 e11 (some up) e13 e14 e15 e16 e17 e18 e19 (some pp) e21 e22 e23 e24 e25) T = .nx (gE n l m (mny l) e4 e5 e6 e7 e8 e9 e10 e11 (some up) e13 e14 e15 e16 e17 e18 e19 (some pp) (some (.lst (pps l pp up))) e22 e23 e24 e25) T := EvS.run (by simp)
end
end Lw

set_option synthInstance.maxSize 1000000
set_option synthInstance.maxHeartbeats 0
namespace Pv
open L2
/-- a comprehension that draws anything -/
theorem lc_drawG {α : Type} {p : Pat} {elt : FE} {env : VEnv} {n : Nat} {φ : α → PV} {E : α → VEnv} {Q : PV → Prop} {n0 : Nat} : ∀ (items : List α) (S : Sto), Lw.Has n S → S.length = n0 → (∀ x, setPat p (φ x) env = some (E x)) →
    (∀ x S, Lw.Has n S → ∃ c S', elt (E x) S = .ok c S' ∧ Lw.Dr n S S' ∧ isP c = true ∧ Q c) → ∃ (cs : List PV) (S' : Sto), lcGo p tYes' elt env n0 (items.map φ) S = .ok cs S' ∧ Lw.Dr n S S' ∧ cs.length = items.length ∧ ∀ c ∈ cs, Q c
  | [], S, k, _, _, _ => ⟨[], S, rfl, Lw.Dr.refl k, rfl, fun _ h => by cases h⟩
  | x :: xs, S, k, hl, hp, he => by
    obtain ⟨c, S1, e1, d1, p1, t1⟩ := he x S k
    have hl1 : S1.length = n0 := d1.len.trans hl
    obtain ⟨cs, S2, e2, d2, l2, t2⟩ := lc_drawG xs S1 (d1.has k) hl1 hp he
    refine ⟨c :: cs, S2, ?_, d1.trans d2, congrArg (· + 1) l2, fun d hd => ?_⟩
    · rw [List.map_cons]
      unfold lcGo
      rw [hp x]
      show (tYes' (E x) S).bind _ = _
      rw [show tYes' (E x) S = .ok true S from rfl, R.bind, z_ok, if_pos rfl, e1, R.bind, z_ok, if_pos p1, List.take_of_length_le (Nat.le_of_eq hl1), e2]
      rfl
    · rcases List.mem_cons.mp hd with rfl | hd
      · exact t1
      · exact t2 d hd
end Pv

set_option synthInstance.maxSize 1000000
set_option synthInstance.maxHeartbeats 0
namespace Lw
open Pv L2
theorem nc_round {l : List Nat} (h : Cls l) : ¬ Cls (l ++ [gi l 0]) := fun q => q.2 (by
  have := h.pos
  rw [gi_last (by simp), gi_0 (by simp), gi_0 this]
  simp [List.getElem_append_left this])
theorem nc_last {l : List Nat} (h : Cls l) : ¬ Cls (cut l none (some (-1)) ++ [gi l 0]) := fun q => q.2 (by
  have := h.two
  rw [cut_init, gi_last (by simp), gi_0 (by simp), gi_0 h.pos]
  have : 0 < l.dropLast.length := by simp; omega
  simp [List.getElem_append_left this])
/-- a closed one, whatever it is -/
def cB : PV → Bool
  | .str l => decide (Cls l)
  | _ => false
def slP : PV → Prop
  | .str l => l.length < 16777216
  | _ => True
theorem closed_any {x : PV} (h : smP x = true ∧ slP x) (S : Sto) : f_is_closed_one [x] S = .ok (.bl (cB x)) S := by
  cases x with
  | str l =>
    haveI : DecP (Cls l) (decide (Cls l)) := ⟨rfl⟩
    exact EvF.run (show l.length < 16777216 from h.2)
  | tup xs => exact EvF.run trivial
  | non => exact EvF.run trivial
  | bl b => exact EvF.run trivial
  | int b => exact EvF.run trivial
  | lst b => exact EvF.run trivial
  | scr b => cases h.1
  | ref b => cases h.1
theorem tells_no {u v : PV} (hu : smP u = true ∧ slP u) (hv : smP v = true ∧ slP v) (h : (cB u && cB v) = false) (S : Sto) : f_tells_two_closed [.tup [u, v]] S = .ok (.bl false) S := by
  haveI : ∀ x S, EvF f_is_closed_one [x] S (.bl (cB x)) S (smP x = true ∧ slP x) := fun x S => ⟨fun q => closed_any q S⟩
  have hc : eCall bAll (aCons (eFrz (fLc (.nm 1) (iVal (eVar 0)) tYes' (eCall f_is_closed_one (aCons (eVar 1) aNil)) [1])) aNil) [some (.tup [u, v]), none] S = .ok (.bl false) S := by
    refine (EvE.run ?_).trans ?_
    · simp
      exact ⟨hu, hv⟩
    · simp [h]
  haveI : EvE (eCall bAll (aCons (eFrz (fLc (.nm 1) (iVal (eVar 0)) tYes' (eCall f_is_closed_one (aCons (eVar 1) aNil)) [1])) aNil)) [some (.tup [u, v]), none] S (.bl false) S True := ⟨fun _ => hc⟩
  unfold f_tells_two_closed
  exact ev_fn rfl (by simp)
theorem cl_ns {w : List Nat} (hw : w = wL ∨ w = wU) {u v : PV} (hu : smP u = true ∧ slP u) (hv : smP v = true ∧ slP v) (pu : isP u = true) (pv : isP v = true) (hd : ∀ w : List Nat, dpt (.tup [.str w, u, v]) ≤ 3) (h : (cB u && cB v) = false) (S : Sto) : f_is_claim [.tup [.str w, u, v]] S = .ok (.bl false) S := by
  haveI : ∀ S, EvF f_tells_two_closed [.tup [u, v]] S (.bl false) S True := fun S => ⟨fun _ => tells_no hu hv h S⟩
  haveI : ∀ w : List Nat, DecP (((([PV.str w, u, v] : List PV).length : Nat) : Int) = 2 + 1) true := fun w => ⟨rfl⟩
  haveI : ∀ w : List Nat, EqV (.tup [.str w, u, v]) (.tup []) 3 false := fun w => ⟨hd w, by decide, rfl⟩
  haveI : IsPV u True := ⟨fun _ => pu⟩
  haveI : IsPV v True := ⟨fun _ => pv⟩
  unfold f_is_claim
  rcases hw with rfl | rfl <;> exact ev_fn rfl (by simp)
end Lw

set_option synthInstance.maxSize 1000000
set_option synthInstance.maxHeartbeats 0
namespace Lw
open Pv L2
abbrev yL : FA := (fLc (.nm 22) (iRg (aCons (eCon (.int 8)) aNil)) tYes' (eTup (aCons (eCall f_law_draw (aCons (eVar 0) (aCons (eVar 3) aNil))) (aCons (eCall f_law_draw (aCons (eVar 0) (aCons (eVar 3) aNil))) aNil))) [22])
section
variable {n : Nat} {l m : List Nat} {T : Sto} {e4 e5 e6 e7 e8 e9 e10 e11 e12 e13 e14 e15 e16 e17 e18 e19 e20 e21 e23 e24 e25 : Option PV}
theorem yL_s (k : Has n T) (h0 : 0 < l.length) (h24 : l.length ≤ 24) : ∃ cs T', yL (gE n l m (mny l) e4 e5 e6 e7 e8 e9 e10 e11 e12 e13 e14 e15 e16 e17 e18 e19 e20 e21 none e23 e24 e25) T = .ok cs T' ∧ Dr n T T' ∧ cs.length = 8 ∧ ∀ c ∈ cs, ∃ a b : Nat, c = .tup [.int (a : Nat), .int (b : Nat)] := by
  obtain ⟨cs, T', q, d, hl, ht⟩ := lc_drawG (p := .nm 22) (elt := eTup (aCons (eCall f_law_draw (aCons (eVar 0) (aCons (eVar 3) aNil))) (aCons (eCall f_law_draw (aCons (eVar 0) (aCons (eVar 3) aNil))) aNil))) (φ := fun k : Nat => .int (k : Nat)) (Q := fun c => ∃ a b : Nat, c = .tup [.int (a : Nat), .int (b : Nat)]) (n := n) (n0 := T.length)
    (env := gE n l m (mny l) e4 e5 e6 e7 e8 e9 e10 e11 e12 e13 e14 e15 e16 e17 e18 e19 e20 e21 none e23 e24 e25) (E := fun k : Nat => gE n l m (mny l) e4 e5 e6 e7 e8 e9 e10 e11 e12 e13 e14 e15 e16 e17 e18 e19 e20 e21 (some (.int (k : Nat))) e23 e24 e25) (List.range 8) T k rfl (fun x => rfl) (fun x U kU => by
      obtain ⟨i, U1, e1, d1, hi⟩ := law_draw_s kU (m := l.length) h0 (by omega)
      obtain ⟨j, U2, e2, d2, hj⟩ := law_draw_s (d1.has kU) (m := l.length) h0 (by omega)
      exact ⟨_, U2, tupE2 (call2 rfl rfl e1) (call2 rfl rfl e2) rfl rfl, d1.trans d2, rfl, ⟨i, j, rfl⟩⟩)
  refine ⟨cs, T', ?_, d, by rw [hl, List.length_range], ht⟩
  have q1 : iRg (aCons (eCon (.int 8)) aNil) (gE n l m (mny l) e4 e5 e6 e7 e8 e9 e10 e11 e12 e13 e14 e15 e16 e17 e18 e19 e20 e21 none e23 e24 e25) T = .ok ((List.range 8).map fun k => .int (k : Nat)) T := EvI.run (by simp)
  unfold yL
  rw [z_lc, q1, zb, if_pos (by decide)]
  exact q
end
end Lw

set_option synthInstance.maxSize 1000000
set_option synthInstance.maxHeartbeats 0
namespace Lw
open Pv L2
section
variable {n N : Nat} {l m : List Nat} {S T : Sto} {e3 e4 e5 e6 e7 e8 e9 e10 e11 e12 e13 e14 e15 e16 e17 e18 e19 e20 e21 e22 e23 e24 e25 : Option PV}
theorem yB_all (h : Tw l m) (c : CellAt T N (rows l m)) {p : Bool} (hp : dB l m = p) (xs : List PV) (hx : ∀ x ∈ xs, smP x = true ∧ dpt x ≤ 3) :
    ∃ y16 y23 y24, forGo (.nm 16) yB (xs.map fun x => x) (gE n l m e3 (some (.ref N)) e5 e6 e7 (some (.bl p)) e9 e10 e11 e12 e13 e14 e15 e16 e17 (some (.lst [cLk l m, cUn l m])) e19 e20 e21 e22 e23 e24 e25) T = .nx (gE n l m e3 (some (.ref N)) e5 e6 e7 (some (.bl p)) e9 e10 e11 e12 e13 e14 e15 y16 e17 (some (.lst [cLk l m, cUn l m])) e19 e20 e21 e22 y23 y24 e25) T := by
  obtain ⟨e', S', g, ⟨y16, y23, y24, rfl, rfl⟩⟩ := for_l (p := .nm 16) (body := yB) (xs := xs) (φ := fun x => x)
    (fun i env U => ∃ y16 y23 y24, env = gE n l m e3 (some (.ref N)) e5 e6 e7 (some (.bl p)) e9 e10 e11 e12 e13 e14 e15 y16 e17 (some (.lst [cLk l m, cUn l m])) e19 e20 e21 e22 y23 y24 e25 ∧ U = T) (fun i hi env U ⟨y16, y23, y24, h1, h2⟩ => by
      subst h1 h2
      obtain ⟨q1, q2⟩ := hx _ (List.getElem_mem hi)
      obtain ⟨y23', y24', e⟩ := yB_s (n := n) (e3 := e3) (e5 := e5) (e6 := e6) (e7 := e7) (e9 := e9) (e10 := e10) (e11 := e11) (e12 := e12) (e13 := e13) (e14 := e14) (e15 := e15) (e17 := e17) (e19 := e19) (e20 := e20) (e21 := e21) (e22 := e22) (e23 := y23) (e24 := y24) (e25 := e25) h c hp q1 q2
      exact ⟨_, _, _, SetP.eq, e, ⟨_, _, _, rfl, rfl⟩⟩) (env := gE n l m e3 (some (.ref N)) e5 e6 e7 (some (.bl p)) e9 e10 e11 e12 e13 e14 e15 e16 e17 (some (.lst [cLk l m, cUn l m])) e19 e20 e21 e22 e23 e24 e25) (S := T) ⟨_, _, _, rfl, rfl⟩
  exact ⟨_, _, _, g⟩
theorem t17 (k : Has n S) (h : Tw l m) {p : Bool} (hp : dB l m = p) {pp up : PV} (hpp : (smP pp = true ∧ dpt pp ≤ 3) ∧ isP pp = true) (hup : (smP up = true ∧ dpt up ≤ 3) ∧ isP up = true) :
    ∃ y16 y23 y24 S', y17 (gE n l m (mny l) (some (.ref S.length)) e5 e6 e7 (some (.bl p)) e9 e10 e11 e12 e13 e14 e15 e16 e17 (some (.lst [cLk l m, cUn l m])) e19 e20 (some (.lst (pps l pp up))) none e23 e24 e25) (S ++ [.lst (rows l m)]) = .nx (gE n l m (mny l) (some (.ref S.length)) e5 e6 e7 (some (.bl p)) e9 e10 e11 e12 e13 e14 e15 y16 e17 (some (.lst [cLk l m, cUn l m])) e19 e20 (some (.lst (pps l pp up))) none y23 y24 e25) (S' ++ [.lst (rows l m)]) ∧ Dr n S S' ∧ S'.length = S.length := by
  have hn : n < S.length := by
    obtain ⟨a, b, c, e⟩ := k
    exact (List.getElem?_eq_some_iff.mp e).1
  have kT : Has n (S ++ [.lst (rows l m)]) := by
    obtain ⟨a, b, c, e⟩ := k
    exact ⟨a, b, c, by rw [List.getElem?_append_left hn, e]⟩
  obtain ⟨cs, T1, e1, d1, hl, hc⟩ := yL_s (n := n) (l := l) (m := m) (T := S ++ [.lst (rows l m)]) (e4 := some (.ref S.length)) (e5 := e5) (e6 := e6) (e7 := e7) (e8 := some (.bl p)) (e9 := e9) (e10 := e10) (e11 := e11) (e12 := e12) (e13 := e13) (e14 := e14) (e15 := e15) (e16 := e16) (e17 := e17) (e18 := some (.lst [cLk l m, cUn l m])) (e19 := e19) (e20 := e20) (e21 := some (.lst (pps l pp up))) (e23 := e23) (e24 := e24) (e25 := e25) kT h.1.pos h.1.1.2.2.1
  obtain ⟨S1, rfl, l1, q1⟩ := cellDr hn d1
  have c1 : CellAt (S1 ++ [.lst (rows l m)]) S.length (rows l m) := by rw [← l1]; infer_instance
  obtain ⟨y16, y23, y24, g⟩ := yB_all (n := n) (e3 := mny l) (e5 := e5) (e6 := e6) (e7 := e7) (e9 := e9) (e10 := e10) (e11 := e11) (e12 := e12) (e13 := e13) (e14 := e14) (e15 := e15) (e16 := e16) (e17 := e17) (e19 := e19) (e20 := e20) (e21 := some (.lst (pps l pp up))) (e22 := none) (e23 := e23) (e24 := e24) (e25 := e25) h c1 hp (pps l pp up ++ cs) (fun x hx => by
    simp only [List.mem_append, List.mem_cons, List.not_mem_nil, or_false] at hx
    rcases hx with (rfl | rfl | rfl | rfl | rfl | rfl | rfl | rfl | rfl | rfl | rfl | rfl | rfl | rfl | rfl) | hx
    · exact hpp.1
    · exact hup.1
    all_goals first | exact ⟨rfl, by simp [dpt, dpts]⟩ | (obtain ⟨a, b, rfl⟩ := hc _ hx; exact ⟨rfl, by simp [dpt, dpts]⟩))
  refine ⟨y16, y23, y24, S1, ?_, q1 k, l1⟩
  haveI : EvA yL (gE n l m (mny l) (some (.ref S.length)) e5 e6 e7 (some (.bl p)) e9 e10 e11 e12 e13 e14 e15 e16 e17 (some (.lst [cLk l m, cUn l m])) e19 e20 (some (.lst (pps l pp up))) none e23 e24 e25) (S ++ [.lst (rows l m)]) cs (S1 ++ [.lst (rows l m)]) True := ⟨fun _ => e1⟩
  haveI : IsPV pp True := ⟨fun _ => hpp.2⟩
  haveI : IsPV up True := ⟨fun _ => hup.2⟩
  exact sfor_ev (p := .nm 16) (by simp [hl]) g
end
end Lw

set_option synthInstance.maxSize 1000000
set_option synthInstance.maxHeartbeats 0
namespace Lw
open Pv L2
/-- what is no claim -/
abbrev oL (l m w : List Nat) : List PV := [.tup [.str w, .str l], .tup [.str w, .str l, .str m, .int 0], .lst [.str w, .str l, .str m], .tup [.str w, .str l, .str (cut m (some 1) none)], .tup [.str w, .str l, .non],
  .tup [.str w, .str (l ++ [gi l 0]), .str m], .tup [.str wC, .str l, .str m], .tup [.str w, .str [65], .str [65]], .tup [.str w, .str l, .str (cut m none (some (-1)) ++ [gi m 0])], .tup [.str w, .tup (l.map fun c => .str [c]), .str m]]
theorem oL_no {l m : List Nat} (h : Tw l m) {w : List Nat} (hw : w = wL ∨ w = wU) : ∀ x ∈ oL l m w, ∀ S, f_is_claim [x] S = .ok (.bl false) S := by
  have h1 := h.1.1.2.2.1
  have h2 := h.2.2
  have h0 := h.2.1.two
  have q1 := cut_le m none (some (-1))
  have q2 := cut_le m (some 1) none
  intro x hx S
  simp only [List.mem_cons, List.not_mem_nil, or_false] at hx
  rcases hx with rfl | rfl | rfl | rfl | rfl | rfl | rfl | rfl | rfl | rfl
  · exact cl_2 hw S
  · exact cl_4 hw S
  · exact cl_lst S
  · exact cl_two hw (fun q => by
      have := q.2.2
      rw [cut_1, List.length_drop] at this
      omega) (by omega) S
  · exact cl_ns (u := .str l) (v := .non) hw ⟨rfl, show l.length < 16777216 by omega⟩ ⟨rfl, trivial⟩ rfl rfl (fun w => by simp [dpt, dpts]) (by simp [cB]) S
  · exact cl_two hw (fun q => nc_round h.1 q.1) (by simp; omega) S
  · exact cl_c S
  · exact cl_two hw (by decide) (by decide) S
  · exact cl_two hw (fun q => nc_last h.2.1 q.2.1) (by simp; omega) S
  · refine cl_ns (u := .tup (l.map fun c => .str [c])) (v := .str m) hw ⟨?_, trivial⟩ ⟨rfl, show m.length < 16777216 by omega⟩ rfl rfl (fun w => ?_) rfl S
    · show (decide ((l.map fun c => PV.str [c]).length ≤ 1000000) && smPs (l.map fun c => PV.str [c])) = true
      rw [decide_eq_true (by rw [List.length_map]; omega), Bool.true_and]
      clear h h1 h2 q1 q2 h0
      induction l with
      | nil => rfl
      | cons a r ih => exact ih
    · have := dpts_strs (fun c : Nat => [c]) l
      simp only [dpt, dpts]
      omega
section
variable {n N : Nat} {l m : List Nat} {S T : Sto} {e3 e4 e5 e6 e7 e8 e9 e10 e11 e12 e13 e14 e15 e16 e17 e18 e19 e20 e21 e22 e23 e24 e25 : Option PV}
theorem t18 (h : Tw l m) (p : Bool) : ∃ w, (w = wL ∨ w = wU) ∧ (sSeq y18 (sSeq y19 (sSeq y20 y21))) (gE n l m e3 e4 e5 e6 e7 e8 e9 e10 e11 e12 e13 e14 e15 e16 e17 e18 (some (cX l m p)) e20 e21 e22 e23 e24 e25) T = .nx (gE n l m e3 e4 e5 e6 e7 e8 e9 e10 e11 e12 e13 e14 e15 e16 e17 e18 (some (cX l m p)) e20 e21 e22 e23 e24 (some (.lst (oL l m w)))) T := by
  have h1 := h.1.1.2.2.1
  have h2 := h.2.2
  have h0 := h.2.1.two
  have q1 := cut_le m none (some (-1))
  have q2 := cut_le m (some 1) none
  cases p with
  | true =>
    refine ⟨wL, .inl rfl, ?_⟩
    show (sSeq y18 (sSeq y19 (sSeq y20 y21))) (gE n l m e3 e4 e5 e6 e7 e8 e9 e10 e11 e12 e13 e14 e15 e16 e17 e18 (some (cLk l m)) e20 e21 e22 e23 e24 e25) T = .nx (gE n l m e3 e4 e5 e6 e7 e8 e9 e10 e11 e12 e13 e14 e15 e16 e17 e18 (some (cLk l m)) e20 e21 e22 e23 e24 (some (.lst (oL l m wL)))) T
    refine EvS.run ?_
    simp
    omega
  | false =>
    refine ⟨wU, .inr rfl, ?_⟩
    show (sSeq y18 (sSeq y19 (sSeq y20 y21))) (gE n l m e3 e4 e5 e6 e7 e8 e9 e10 e11 e12 e13 e14 e15 e16 e17 e18 (some (cUn l m)) e20 e21 e22 e23 e24 e25) T = .nx (gE n l m e3 e4 e5 e6 e7 e8 e9 e10 e11 e12 e13 e14 e15 e16 e17 e18 (some (cUn l m)) e20 e21 e22 e23 e24 (some (.lst (oL l m wU)))) T
    refine EvS.run ?_
    simp
    omega
theorem oa_s {x y : PV} {E : PV → VEnv} {S : Sto} (h : ∀ S, f_is_claim [x] S = .ok (.bl false) S) (h0 : ∀ S, eVar 16 (E x) S = .ok x S) (h1 : ∀ S, eVar 20 (E x) S = .ok y S) : eOr (eCall f_accepts (aCons (eVar 16) (aCons (eVar 20) aNil))) (eCall f_accepts (aCons (eVar 16) (aCons (eTup aNil) aNil))) (E x) S = .ok (.bl false) S := by
  have a1 : eCall f_accepts (aCons (eVar 16) (aCons (eVar 20) aNil)) (E x) S = .ok (.bl false) S := call2 (h0 _) (h1 _) (acc_no h _)
  have a2 : eCall f_accepts (aCons (eVar 16) (aCons (eTup aNil) aNil)) (E x) S = .ok (.bl false) S := call2 (h0 _) (EvE.run (by simp) : eTup aNil (E x) S = .ok (.tup []) S) (acc_no h _)
  rw [z_or, a1, zb]
  exact a2
theorem t22 (h : Tw l m) {w : List Nat} (hw : w = wL ∨ w = wU) {y : PV} : y22 (gE n l m e3 e4 e5 e6 e7 e8 e9 e10 e11 e12 e13 e14 e15 e16 e17 e18 e19 (some y) e21 e22 e23 e24 (some (.lst (oL l m w)))) T = .ret (.bl true) T := by
  haveI : EvA (fLc (.nm 16) (iVal (eVar 25)) tYes' (eOr (eCall f_accepts (aCons (eVar 16) (aCons (eVar 20) aNil))) (eCall f_accepts (aCons (eVar 16) (aCons (eTup aNil) aNil)))) [16]) (gE n l m e3 e4 e5 e6 e7 e8 e9 e10 e11 e12 e13 e14 e15 e16 e17 e18 e19 (some y) e21 e22 e23 e24 (some (.lst (oL l m w)))) T ((oL l m w).map fun _ => .bl false) T True := ⟨fun _ =>
    lc_any (φ := fun x => x) (E := fun x => gE n l m e3 e4 e5 e6 e7 e8 e9 e10 e11 e12 e13 e14 e15 (some x) e17 e18 e19 (some y) e21 e22 e23 e24 (some (.lst (oL l m w)))) (y := fun _ => .bl false) (by simp) fun x hx => ⟨rfl, T, oa_s (E := fun x => gE n l m e3 e4 e5 e6 e7 e8 e9 e10 e11 e12 e13 e14 e15 (some x) e17 e18 e19 (some y) e21 e22 e23 e24 (some (.lst (oL l m w)))) (oL_no h hw x hx) (fun _ => rfl) (fun _ => rfl), List.take_length⟩⟩
  refine (EvS.run ?_).trans ?_ <;> simp
end
theorem pr_eq : f_law_pair_right = fnOf 3 26 (sSeq y1 (sSeq y2 (sSeq y3 (sSeq y4 (sSeq y5 (sSeq y6 (sSeq y7 (sSeq y8 (sSeq y9 (sSeq y10 (sSeq y11 (sSeq y12 (sSeq y13 (sSeq y14 (sSeq y15 (sSeq y16 (sSeq y17 (sSeq y18 (sSeq y19 (sSeq y20 (sSeq y21 y22))))))))))))))))))))) := rfl
theorem seq5 {a b c d e : FS} {env v : VEnv} {S T : Sto} (h : sSeq a (sSeq b (sSeq c d)) env S = .nx v T) : sSeq a (sSeq b (sSeq c (sSeq d e))) env S = e v T := by
  rw [← seq_assoc c d e, ← seq_assoc b _ e, ← seq_assoc a _ e]
  exact seq_nx h
theorem seq2 {a b c : FS} {env v : VEnv} {S T : Sto} (h : sSeq a b env S = .nx v T) : sSeq a (sSeq b c) env S = c v T := by
  rw [← seq_assoc]
  exact seq_nx h
theorem pair_right {n : Nat} {l m : List Nat} {S : Sto} (k : Has n S) (h : Tw l m) : ∃ S', f_law_pair_right [.ref n, .str l, .str m] S = .ok (.bl true) S' ∧ Dr n S S' := by
  have c : CellAt (S ++ [.lst (rows l m)]) S.length (rows l m) := inferInstance
  obtain ⟨p, a, b, hp, hq, e13⟩ := t13 (n := n) (T := S ++ [.lst (rows l m)]) (e3 := mny l) (e4 := some (.ref S.length)) (e5 := none) (e6 := none) (e7 := none) (e8 := some (.bl (dB l m))) (e9 := brs l m) (e10 := none) (e11 := none) (e12 := some (upV (cnts l) (cnts m))) (e13 := some (.lst (tl8 l m))) (e14 := some (lt3 l)) (e15 := none) (e16 := none) (e17 := none) (e18 := some (.lst [cLk l m, cUn l m])) (e19 := none) (e20 := none) (e21 := none) (e22 := none) (e23 := none) (e24 := none) (e25 := none) h
  have e14 := t14 (n := n) (T := S ++ [.lst (rows l m)]) (e3 := mny l) (e4 := some (.ref S.length)) (e5 := none) (e6 := none) (e7 := none) (e9 := brs l m) (e10 := none) (e11 := none) (e12 := some (upV (cnts l) (cnts m))) (e13 := some (.lst (tl8 l m))) (e14 := some (lt3 l)) (e15 := none) (e16 := none) (e17 := none) (e21 := none) (e22 := none) (e23 := none) (e24 := none) (e25 := none) h hp hq
  have hpp : (smP (pX p a b) = true ∧ dpt (pX p a b) ≤ 3) ∧ isP (pX p a b) = true := by
    cases p
    · exact ⟨⟨rfl, show (1 : Nat) ≤ 3 by decide⟩, rfl⟩
    · exact ⟨⟨rfl, show (1 : Nat) ≤ 3 by decide⟩, rfl⟩
  have hup : (smP (upV (cnts l) (cnts m)) = true ∧ dpt (upV (cnts l) (cnts m)) ≤ 3) ∧ isP (upV (cnts l) (cnts m)) = true := by
    unfold upV
    split
    · exact ⟨⟨rfl, show (1 : Nat) ≤ 3 by decide⟩, rfl⟩
    · exact ⟨⟨rfl, show (0 : Nat) ≤ 3 by decide⟩, rfl⟩
  obtain ⟨y16, y23, y24, S1, e17, d, hl⟩ := t17 (n := n) (S := S) (e5 := none) (e6 := none) (e7 := none) (e9 := brs l m) (e10 := none) (e11 := none) (e12 := some (upV (cnts l) (cnts m))) (e13 := some (.lst (tl8 l m))) (e14 := some (lt3 l)) (e15 := none) (e16 := none) (e17 := none) (e19 := some (cX l m p)) (e20 := some (pX p a b)) (e23 := none) (e24 := none) (e25 := none) k h hp hpp hup
  obtain ⟨w, hw, e18⟩ := t18 (n := n) (T := S1 ++ [.lst (rows l m)]) (e3 := mny l) (e4 := some (.ref S.length)) (e5 := none) (e6 := none) (e7 := none) (e8 := some (.bl p)) (e9 := brs l m) (e10 := none) (e11 := none) (e12 := some (upV (cnts l) (cnts m))) (e13 := some (.lst (tl8 l m))) (e14 := some (lt3 l)) (e15 := none) (e16 := y16) (e17 := none) (e18 := some (.lst [cLk l m, cUn l m])) (e20 := some (pX p a b)) (e21 := some (.lst (pps l (pX p a b) (upV (cnts l) (cnts m))))) (e22 := none) (e23 := y23) (e24 := y24) (e25 := none) h p
  haveI i1 : IsPV (pX p a b) True := ⟨fun _ => hpp.2⟩
  haveI i2 : IsPV (upV (cnts l) (cnts m)) True := ⟨fun _ => hup.2⟩
  refine ⟨S1, ?_, d⟩
  rw [pr_eq]
  rw [hp] at e13
  refine fn_st (r := .ret (.bl true) (S1 ++ [.lst (rows l m)])) rfl ((seq_nx t1).trans ((seq_nx (t2 h)).trans ((seq_nx (t3 h)).trans ((seq_nx (t4 h c)).trans ((seq_nx (t5 h c)).trans ((seq_nx (t6 h)).trans ((seq_nx (t7 h)).trans ((seq_nx (t8 h)).trans ((seq_nx t9).trans ((seq_nx (t10 h c)).trans ((seq_nx (t11 h)).trans ((seq_nx t12).trans ?_)))))))))))) ?_
  · show sSeq y13 _ (gE n l m (mny l) (some (.ref S.length)) none none none (some (.bl (lkB (cnts l) (cnts m)))) (brs l m) none none (some (upV (cnts l) (cnts m))) (some (.lst (tl8 l m))) (some (lt3 l)) none none none (some (.lst [cLk l m, cUn l m])) none none none none none none none) _ = _
    rw [show lkB (cnts l) (cnts m) = p from hp]
    exact (seq_nx e13).trans ((seq_nx e14).trans ((seq2 (t15 i1 i2)).trans ((seq_nx e17).trans ((seq5 e18).trans (t22 h hw)))))
  · rw [z_out_ret, z_out_bl, ← hl, List.take_left]
end Lw

set_option synthInstance.maxSize 1000000
set_option synthInstance.maxHeartbeats 0
namespace Lw
open Pv L2
abbrev la1 : FS := (sPar 4 5 (aCons (eCall f_law_closed (aCons (eVar 2) (aCons (eCon (.int 2)) (aCons (eCall f_law_one (aCons (eVar 2) (aCons (eFrz (lDisp (aCons (eCon (.int 4)) (aCons (eCon (.int 9)) (aCons (eCon (.int 12)) (aCons (eCon (.int 24)) aNil)))))) aNil))) aNil)))) (aCons (eCall f_law_draw (aCons (eVar 2) (aCons (eCon (.int 4)) aNil))) aNil)))
abbrev la2 : FS := (sSet 6 (eCall f_law_moved (aCons (eVar 4) (aCons (eCall f_law_one (aCons (eVar 2) (aCons (eCall f_law_motions (aCons (eCall bLen (aCons (eVar 4) aNil)) aNil)) aNil))) aNil))))
abbrev la3 : FS := (sIf (toT (eBin oEq (eVar 5) (eCon (.int 0)))) (sSet 6 (eCall f_law_closed (aCons (eVar 2) (aCons (eCall bLen (aCons (eVar 4) aNil)) (aCons (eCall bLen (aCons (eVar 4) aNil)) aNil))))) sNil)
abbrev la4 : FS := (sIf (toT (eBin oEq (eVar 5) (eCon (.int 1)))) (sSet 6 (eCall f_law_exchanged (aCons (eVar 2) (aCons (eVar 6) aNil)))) sNil)
abbrev la5 : FS := (sIf (tNot' (toT (eCall f_law_pair_right (aCons (eVar 2) (aCons (eVar 4) (aCons (eVar 6) aNil)))))) (sRet (eCon (.bl false))) sNil)
abbrev laB : FS := sSeq la1 (sSeq la2 (sSeq la3 (sSeq la4 la5)))
abbrev laO : FS := sSeq (sSet 2 (eCall f_law_bag (aCons (eVar 0) (aCons (eVar 1) aNil)))) (sFor (.nm 3) (iRg (aCons (eCon (.int 6)) aNil)) laB)
theorem la_eq : f_law = fnOf 1 7 (sSeq (sFor (.nm 1) (iRg (aCons (eCall bMax2 (aCons (eCon (.int 2)) (aCons (eCall bMin2 (aCons (eCall bLen (aCons (eVar 0) aNil)) (aCons (eCon (.int 5)) aNil))) aNil))) aNil)) laO) (sRet (eCon (.bl true)))) := rfl
theorem laB_s {ns : List Int} {x1 x3 x4 x5 x6 : Option PV} {n : Nat} {T : Sto} (k : Has n T) : ∃ y4 y5 y6 T', laB [some (.scr ns), x1, some (.ref n), x3, x4, x5, x6] T = .nx [some (.scr ns), x1, some (.ref n), x3, y4, y5, y6] T' ∧ Dr n T T' := by
  have hz := oi_ok (n := n) (S := T) (l := [4, 9, 12, 24]) ⟨k, by simp, by simp⟩
  have hz' : 4 ≤ oiI n [4, 9, 12, 24] T ∧ oiI n [4, 9, 12, 24] T ≤ 24 := by
    simp at hz
    omega
  have hc := cl_ok (n := n) (a := 2) (b := oiI n [4, 9, 12, 24] T) (S := oiS n [4, 9, 12, 24] T) (by simp [k]; omega)
  have d0 : Dr n T (clS n 2 (oiI n [4, 9, 12, 24] T) (oiS n [4, 9, 12, 24] T)) := clS_dr (oiS_dr (Dr.refl k))
  generalize hl : clL n 2 (oiI n [4, 9, 12, 24] T) (oiS n [4, 9, 12, 24] T) = l at hc
  have e1 : la1 [some (.scr ns), x1, some (.ref n), x3, x4, x5, x6] T = .nx [some (.scr ns), x1, some (.ref n), x3, some (.str l), some (.int ((dI n 4 (clS n 2 (oiI n [4, 9, 12, 24] T) (oiS n [4, 9, 12, 24] T)) : Nat) : Int)), x6] (dS n 4 (clS n 2 (oiI n [4, 9, 12, 24] T) (oiS n [4, 9, 12, 24] T))) := by
    rw [← hl]
    exact EvS.run (by simp [k]; omega)
  have d1 : Dr n T (dS n 4 (clS n 2 (oiI n [4, 9, 12, 24] T) (oiS n [4, 9, 12, 24] T))) := dS_dr d0
  generalize dS n 4 (clS n 2 (oiI n [4, 9, 12, 24] T) (oiS n [4, 9, 12, 24] T)) = T1 at d1 e1
  generalize ((dI n 4 (clS n 2 (oiI n [4, 9, 12, 24] T) (oiS n [4, 9, 12, 24] T)) : Nat) : Int) = z at e1
  clear d0 hl
  have c := hc.1
  have h0 := c.pos
  have h24 := c.1.2.2.1
  have h2 := c.two
  have k1 := d1.has k
  have hml := motL_len l.length
  obtain ⟨x, T2, e2, d2, hx⟩ := law_one_l k1 (l := (motL l.length).map moP) (fun q => by
    have := congrArg List.length q
    rw [List.length_map, hml] at this
    simp at this
    omega) (by rw [List.length_map, hml]; omega) (fun x hx => by obtain ⟨z, _, rfl⟩ := List.mem_map.mp hx; rfl)
  obtain ⟨mo, hmo, rfl⟩ := List.mem_map.mp hx
  obtain ⟨hm1, hm2⟩ := motL_mem hmo
  obtain ⟨c2, cl2⟩ := mvd_ok c hm1 hm2 mo.2.2
  have k2 := d2.has k1
  have e3 : la2 [some (.scr ns), x1, some (.ref n), x3, some (.str l), some (.int z), x6] T1 = .nx [some (.scr ns), x1, some (.ref n), x3, some (.str l), some (.int z), some (.str (mvd mo.1 mo.2.1 mo.2.2 l))] T2 := by
    haveI : EvF f_law_one [.ref n, .lst ((motL l.length).map moP)] T1 (moP mo) T2 True := ⟨fun _ => e2⟩
    refine EvS.run ?_
    simp
    exact ⟨by omega, hm1, c.1.1, by omega, by omega⟩
  generalize mvd mo.1 mo.2.1 mo.2.2 l = m at c2 cl2 e3
  have s4 : ∃ m' T3, la3 [some (.scr ns), x1, some (.ref n), x3, some (.str l), some (.int z), some (.str m)] T2 = .nx [some (.scr ns), x1, some (.ref n), x3, some (.str l), some (.int z), some (.str m')] T3 ∧ Dr n T2 T3 ∧ Cls m' ∧ m'.length = l.length := by
    by_cases hz : z = 0
    · haveI : DecP (z = 0) true := ⟨decide_eq_true hz⟩
      have q := cl_ok (n := n) (a := (l.length : Nat)) (b := (l.length : Nat)) (S := T2) (by simp [k2]; omega)
      refine ⟨_, _, EvS.run ?_, clS_dr (Dr.refl k2), q.1, by omega⟩
      simp [k2]
      omega
    · haveI : DecP (z = 0) false := ⟨decide_eq_false hz⟩
      exact ⟨m, T2, EvS.run (by simp), Dr.refl k2, c2, cl2⟩
  obtain ⟨m3, T3, e4, d3, c3, l3⟩ := s4
  have k3 := d3.has k2
  have s5 : ∃ m' T4, la4 [some (.scr ns), x1, some (.ref n), x3, some (.str l), some (.int z), some (.str m3)] T3 = .nx [some (.scr ns), x1, some (.ref n), x3, some (.str l), some (.int z), some (.str m')] T4 ∧ Dr n T3 T4 ∧ Cls m' ∧ m'.length = l.length := by
    by_cases hz : z = 1
    · haveI : DecP (z = 1) true := ⟨decide_eq_true hz⟩
      obtain ⟨m', T4, q, d, q1, q2⟩ := exch_s k3 c3
      haveI : EvF f_law_exchanged [.ref n, .str m3] T3 (.str m') T4 True := ⟨fun _ => q⟩
      exact ⟨m', T4, EvS.run (by simp), d, q1, by omega⟩
    · haveI : DecP (z = 1) false := ⟨decide_eq_false hz⟩
      exact ⟨m3, T3, EvS.run (by simp), Dr.refl k3, c3, l3⟩
  obtain ⟨m4, T4, e5, d4, c4, l4⟩ := s5
  have k4 := d4.has k3
  obtain ⟨T5, q5, d5⟩ := pair_right k4 (show Tw l m4 from ⟨c, c4, l4⟩)
  haveI : EvF f_law_pair_right [.ref n, .str l, .str m4] T4 (.bl true) T5 True := ⟨fun _ => q5⟩
  have e6 : la5 [some (.scr ns), x1, some (.ref n), x3, some (.str l), some (.int z), some (.str m4)] T4 = .nx [some (.scr ns), x1, some (.ref n), x3, some (.str l), some (.int z), some (.str m4)] T5 := EvS.run (by simp)
  exact ⟨_, _, _, T5, (seq_nx e1).trans ((seq_nx e3).trans ((seq_nx e4).trans ((seq_nx e5).trans e6))), (((d1.trans d2).trans d3).trans d4).trans d5⟩
theorem says (ns : List Int) (hl : ns.length ≤ 63) : ∃ S', f_law [.scr ns] [] = .ok (.bl true) S' := by
  obtain ⟨e1, S1, g1, ⟨x1, x2, x3, x4, x5, x6, rfl⟩⟩ := for_r (p := .nm 1) (body := laO) (m := (if (if 5 < (ns.length : Int) then 5 else (ns.length : Int)) > 2 then if 5 < (ns.length : Int) then 5 else (ns.length : Int) else 2).toNat) (φ := fun k : Nat => .int (k : Nat)) (fun _ env T => ∃ x1 x2 x3 x4 x5 x6, env = [some (PV.scr ns), x1, x2, x3, x4, x5, x6]) (fun i hi env T ⟨x1, x2, x3, x4, x5, x6, h1⟩ => by
    subst h1
    have hi5 : i < 5 := by omega
    have kT := (po_all (ns := ns) (t := (i : Nat)) (S := T) ⟨hl, by omega, by omega⟩).2
    obtain ⟨e3, S3, g3, ⟨y3, y4, y5, y6, rfl, d3⟩⟩ := for_r (p := .nm 3) (body := laB) (m := 6) (φ := fun k : Nat => .int (k : Nat)) (fun _ env U => ∃ x3 x4 x5 x6, env = [some (PV.scr ns), some (.int (i : Nat)), some (.ref T.length), x3, x4, x5, x6] ∧ Dr T.length (T ++ [.lst (poC ns (i : Nat) T)]) U) (fun j hj env U ⟨x3, x4, x5, x6, h1, h2⟩ => by
      subst h1
      obtain ⟨y4, y5, y6, T', e, d⟩ := laB_s (ns := ns) (x1 := some (.int (i : Nat))) (x3 := some (.int (j : Nat))) (x4 := x4) (x5 := x5) (x6 := x6) (h2.has kT)
      exact ⟨_, _, _, SetP.eq, e, ⟨_, _, _, _, rfl, h2.trans d⟩⟩) (env := [some (PV.scr ns), some (.int (i : Nat)), some (.ref T.length), x3, x4, x5, x6]) ⟨_, _, _, _, rfl, Dr.refl kT⟩
    haveI i3 := EvS.mk (C := True) fun _ => sfor_ev (p := .nm 3) (it := iRg (aCons (eCon (.int 6)) aNil)) (body := laB) (by simp) g3
    refine ⟨_, _, S3, SetP.eq, EvS.run ?_, ⟨_, _, _, _, _, _, rfl⟩⟩
    simp [hl]
    omega) (env := [some (PV.scr ns), none, none, none, none, none, none]) (S := []) ⟨_, _, _, _, _, _, rfl⟩
  haveI i1 := EvS.mk (C := True) fun _ => sfor_ev (p := .nm 1) (it := iRg (aCons (eCall bMax2 (aCons (eCon (.int 2)) (aCons (eCall bMin2 (aCons (eCall bLen (aCons (eVar 0) aNil)) (aCons (eCon (.int 5)) aNil))) aNil))) aNil)) (body := laO) (by simp; omega) g1
  rw [la_eq]
  exact ⟨_, fn_top (S1 := S1) rfl (EvS.run (by simp))⟩
end Lw

namespace Hd
open PySem PySem.Spec PyProof.Rows L2 Pv Lw
theorem fx {P : Program} {w w2 : World} {K : PySem.W.Frag} {mg : Str → Option Value} {h h2 base : Heap} (X : K.In h) (G : h.Ns mainGlobals mg) (c : He.SaysX fa fn ts [] ex w h2 K) : Fx P w K mg base where
  d_law_bag := by obtain ⟨fd, F⟩ := c.t.d.def_ 0 (d := dd_law_bag) rfl; exact ⟨_, fd, He.glo_ok X G (c.t.d.fact 0 (f := .glo "_law_bag") rfl), F⟩
  d_law_draw := by obtain ⟨fd, F⟩ := c.t.d.def_ 1 (d := dd_law_draw) rfl; exact ⟨_, fd, He.glo_ok X G (c.t.d.fact 1 (f := .glo "_law_draw") rfl), F⟩
  d_law_one := by obtain ⟨fd, F⟩ := c.t.d.def_ 2 (d := dd_law_one) rfl; exact ⟨_, fd, He.glo_ok X G (c.t.d.fact 2 (f := .glo "_law_one") rfl), F⟩
  d_law_further := by obtain ⟨fd, F⟩ := c.t.d.def_ 3 (d := dd_law_further) rfl; exact ⟨_, fd, He.glo_ok X G (c.t.d.fact 3 (f := .glo "_law_further") rfl), F⟩
  d_law_by := by obtain ⟨fd, F⟩ := c.t.d.def_ 4 (d := dd_law_by) rfl; exact ⟨_, fd, He.glo_ok X G (c.t.d.fact 4 (f := .glo "_law_by") rfl), F⟩
  d_law_stacking := by obtain ⟨fd, F⟩ := c.t.d.def_ 5 (d := dd_law_stacking) rfl; exact ⟨_, fd, He.glo_ok X G (c.t.d.fact 5 (f := .glo "_law_stacking") rfl), F⟩
  d_law_closed := by obtain ⟨fd, F⟩ := c.t.d.def_ 6 (d := dd_law_closed) rfl; exact ⟨_, fd, He.glo_ok X G (c.t.d.fact 6 (f := .glo "_law_closed") rfl), F⟩
  d_law_motions := by obtain ⟨fd, F⟩ := c.t.d.def_ 7 (d := dd_law_motions) rfl; exact ⟨_, fd, He.glo_ok X G (c.t.d.fact 7 (f := .glo "_law_motions") rfl), F⟩
  d_law_moved := by obtain ⟨fd, F⟩ := c.t.d.def_ 8 (d := dd_law_moved) rfl; exact ⟨_, fd, He.glo_ok X G (c.t.d.fact 8 (f := .glo "_law_moved") rfl), F⟩
  d_law_steps := by obtain ⟨fd, F⟩ := c.t.d.def_ 9 (d := dd_law_steps) rfl; exact ⟨_, fd, He.glo_ok X G (c.t.d.fact 9 (f := .glo "_law_steps") rfl), F⟩
  d_law_round_steps := by obtain ⟨fd, F⟩ := c.t.d.def_ 10 (d := dd_law_round_steps) rfl; exact ⟨_, fd, He.glo_ok X G (c.t.d.fact 10 (f := .glo "_law_round_steps") rfl), F⟩
  d_law_exchanged := by obtain ⟨fd, F⟩ := c.t.d.def_ 11 (d := dd_law_exchanged) rfl; exact ⟨_, fd, He.glo_ok X G (c.t.d.fact 11 (f := .glo "_law_exchanged") rfl), F⟩
  d_law_counts := by obtain ⟨fd, F⟩ := c.t.d.def_ 12 (d := dd_law_counts) rfl; exact ⟨_, fd, He.glo_ok X G (c.t.d.fact 12 (f := .glo "_law_counts") rfl), F⟩
  d_is_text_of := by obtain ⟨fd, F⟩ := c.t.d.def_ 13 (d := dd_is_text_of) rfl; exact ⟨_, fd, He.glo_ok X G (c.t.d.fact 13 (f := .glo "is_text_of") rfl), F⟩
  d_is_whole := by obtain ⟨fd, F⟩ := c.t.d.def_ 14 (d := dd_is_whole) rfl; exact ⟨_, fd, He.glo_ok X G (c.t.d.fact 14 (f := .glo "is_whole") rfl), F⟩
  d_is_between := by obtain ⟨fd, F⟩ := c.t.d.def_ 15 (d := dd_is_between) rfl; exact ⟨_, fd, He.glo_ok X G (c.t.d.fact 15 (f := .glo "is_between") rfl), F⟩
  d_is_layer_number := by obtain ⟨fd, F⟩ := c.t.d.def_ 16 (d := dd_is_layer_number) rfl; exact ⟨_, fd, He.glo_ok X G (c.t.d.fact 16 (f := .glo "is_layer_number") rfl), F⟩
  d_is_stacked := by obtain ⟨fd, F⟩ := c.t.d.def_ 17 (d := dd_is_stacked) rfl; exact ⟨_, fd, He.glo_ok X G (c.t.d.fact 17 (f := .glo "is_stacked") rfl), F⟩
  d_is_closed_one := by obtain ⟨fd, F⟩ := c.t.d.def_ 18 (d := dd_is_closed_one) rfl; exact ⟨_, fd, He.glo_ok X G (c.t.d.fact 18 (f := .glo "is_closed_one") rfl), F⟩
  d_check_closed := by obtain ⟨fd, F⟩ := c.t.d.def_ 19 (d := dd_check_closed) rfl; exact ⟨_, fd, He.glo_ok X G (c.t.d.fact 19 (f := .glo "check_closed") rfl), F⟩
  d_number_of := by obtain ⟨fd, F⟩ := c.t.d.def_ 20 (d := dd_number_of) rfl; exact ⟨_, fd, He.glo_ok X G (c.t.d.fact 20 (f := .glo "number_of") rfl), F⟩
  d_count_triple := by obtain ⟨fd, F⟩ := c.t.d.def_ 21 (d := dd_count_triple) rfl; exact ⟨_, fd, He.glo_ok X G (c.t.d.fact 21 (f := .glo "count_triple") rfl), F⟩
  d_layer_counts_by := by obtain ⟨fd, F⟩ := c.t.d.def_ 22 (d := dd_layer_counts_by) rfl; exact ⟨_, fd, He.glo_ok X G (c.t.d.fact 22 (f := .glo "layer_counts_by") rfl), F⟩
  d_layer_counts := by obtain ⟨fd, F⟩ := c.t.d.def_ 23 (d := dd_layer_counts) rfl; exact ⟨_, fd, He.glo_ok X G (c.t.d.fact 23 (f := .glo "layer_counts") rfl), F⟩
  d_like_row := by obtain ⟨fd, F⟩ := c.t.d.def_ 24 (d := dd_like_row) rfl; exact ⟨_, fd, He.glo_ok X G (c.t.d.fact 24 (f := .glo "like_row") rfl), F⟩
  d_check_two_closed := by obtain ⟨fd, F⟩ := c.t.d.def_ 25 (d := dd_check_two_closed) rfl; exact ⟨_, fd, He.glo_ok X G (c.t.d.fact 25 (f := .glo "check_two_closed") rfl), F⟩
  d_first_unlike := by obtain ⟨fd, F⟩ := c.t.d.def_ 26 (d := dd_first_unlike) rfl; exact ⟨_, fd, He.glo_ok X G (c.t.d.fact 26 (f := .glo "first_unlike") rfl), F⟩
  d_exchanged_triples := by obtain ⟨fd, F⟩ := c.t.d.def_ 27 (d := dd_exchanged_triples) rfl; exact ⟨_, fd, He.glo_ok X G (c.t.d.fact 27 (f := .glo "exchanged_triples") rfl), F⟩
  d_unlike_places_by := by obtain ⟨fd, F⟩ := c.t.d.def_ 28 (d := dd_unlike_places_by) rfl; exact ⟨_, fd, He.glo_ok X G (c.t.d.fact 28 (f := .glo "unlike_places_by") rfl), F⟩
  d_have_like_counts_by := by obtain ⟨fd, F⟩ := c.t.d.def_ 29 (d := dd_have_like_counts_by) rfl; exact ⟨_, fd, He.glo_ok X G (c.t.d.fact 29 (f := .glo "have_like_counts_by") rfl), F⟩
  d_have_like_counts := by obtain ⟨fd, F⟩ := c.t.d.def_ 30 (d := dd_have_like_counts) rfl; exact ⟨_, fd, He.glo_ok X G (c.t.d.fact 30 (f := .glo "have_like_counts") rfl), F⟩
  d_unlike_places := by obtain ⟨fd, F⟩ := c.t.d.def_ 31 (d := dd_unlike_places) rfl; exact ⟨_, fd, He.glo_ok X G (c.t.d.fact 31 (f := .glo "unlike_places") rfl), F⟩
  d_check_stacking := by obtain ⟨fd, F⟩ := c.t.d.def_ 32 (d := dd_check_stacking) rfl; exact ⟨_, fd, He.glo_ok X G (c.t.d.fact 32 (f := .glo "check_stacking") rfl), F⟩
  d_letter_counts := by obtain ⟨fd, F⟩ := c.t.d.def_ 33 (d := dd_letter_counts) rfl; exact ⟨_, fd, He.glo_ok X G (c.t.d.fact 33 (f := .glo "letter_counts") rfl), F⟩
  d_law_same := by obtain ⟨fd, F⟩ := c.t.d.def_ 34 (d := dd_law_same) rfl; exact ⟨_, fd, He.glo_ok X G (c.t.d.fact 34 (f := .glo "_law_same") rfl), F⟩
  d_certify_counts := by obtain ⟨fd, F⟩ := c.t.d.def_ 35 (d := dd_certify_counts) rfl; exact ⟨_, fd, He.glo_ok X G (c.t.d.fact 35 (f := .glo "certify_counts") rfl), F⟩
  d_tells_two_closed := by obtain ⟨fd, F⟩ := c.t.d.def_ 36 (d := dd_tells_two_closed) rfl; exact ⟨_, fd, He.glo_ok X G (c.t.d.fact 36 (f := .glo "tells_two_closed") rfl), F⟩
  d_is_claim := by obtain ⟨fd, F⟩ := c.t.d.def_ 37 (d := dd_is_claim) rfl; exact ⟨_, fd, He.glo_ok X G (c.t.d.fact 37 (f := .glo "is_claim") rfl), F⟩
  d_is_tuple_of := by obtain ⟨fd, F⟩ := c.t.d.def_ 38 (d := dd_is_tuple_of) rfl; exact ⟨_, fd, He.glo_ok X G (c.t.d.fact 38 (f := .glo "is_tuple_of") rfl), F⟩
  d_is_nothing := by obtain ⟨fd, F⟩ := c.t.d.def_ 39 (d := dd_is_nothing) rfl; exact ⟨_, fd, He.glo_ok X G (c.t.d.fact 39 (f := .glo "is_nothing") rfl), F⟩
  d_shows_like_counts := by obtain ⟨fd, F⟩ := c.t.d.def_ 40 (d := dd_shows_like_counts) rfl; exact ⟨_, fd, He.glo_ok X G (c.t.d.fact 40 (f := .glo "shows_like_counts") rfl), F⟩
  d_are_unlike_at := by obtain ⟨fd, F⟩ := c.t.d.def_ 41 (d := dd_are_unlike_at) rfl; exact ⟨_, fd, He.glo_ok X G (c.t.d.fact 41 (f := .glo "are_unlike_at") rfl), F⟩
  d_shows_unlike_counts := by obtain ⟨fd, F⟩ := c.t.d.def_ 42 (d := dd_shows_unlike_counts) rfl; exact ⟨_, fd, He.glo_ok X G (c.t.d.fact 42 (f := .glo "shows_unlike_counts") rfl), F⟩
  d_accepts := by obtain ⟨fd, F⟩ := c.t.d.def_ 43 (d := dd_accepts) rfl; exact ⟨_, fd, He.glo_ok X G (c.t.d.fact 43 (f := .glo "accepts") rfl), F⟩
  d_law_is_whole := by obtain ⟨fd, F⟩ := c.t.d.def_ 44 (d := dd_law_is_whole) rfl; exact ⟨_, fd, He.glo_ok X G (c.t.d.fact 44 (f := .glo "_law_is_whole") rfl), F⟩
  d_law_is_bar := by obtain ⟨fd, F⟩ := c.t.d.def_ 45 (d := dd_law_is_bar) rfl; exact ⟨_, fd, He.glo_ok X G (c.t.d.fact 45 (f := .glo "_law_is_bar") rfl), F⟩
  d_law_pair_right := by obtain ⟨fd, F⟩ := c.t.d.def_ 46 (d := dd_law_pair_right) rfl; exact ⟨_, fd, He.glo_ok X G (c.t.d.fact 46 (f := .glo "_law_pair_right") rfl), F⟩
  d_law := by obtain ⟨fd, F⟩ := c.t.d.def_ 47 (d := dd_law) rfl; exact ⟨_, fd, He.glo_ok X G (c.t.d.fact 47 (f := .glo "law") rfl), F⟩
  b_abs := He.free_ok X G (c.t.d.fact 51 (f := .free "abs") rfl)
  b_all := He.free_ok X G (c.t.d.fact 52 (f := .free "all") rfl)
  b_any := He.free_ok X G (c.t.d.fact 53 (f := .free "any") rfl)
  b_bool := He.free_ok X G (c.t.d.fact 54 (f := .free "bool") rfl)
  b_divmod := He.free_ok X G (c.t.d.fact 55 (f := .free "divmod") rfl)
  b_enumerate := He.free_ok X G (c.t.d.fact 56 (f := .free "enumerate") rfl)
  b_int := He.free_ok X G (c.t.d.fact 57 (f := .free "int") rfl)
  b_isinstance := He.free_ok X G (c.t.d.fact 58 (f := .free "isinstance") rfl)
  b_len := He.free_ok X G (c.t.d.fact 59 (f := .free "len") rfl)
  b_list := He.free_ok X G (c.t.d.fact 60 (f := .free "list") rfl)
  b_max := He.free_ok X G (c.t.d.fact 61 (f := .free "max") rfl)
  b_min := He.free_ok X G (c.t.d.fact 62 (f := .free "min") rfl)
  b_range := He.free_ok X G (c.t.d.fact 63 (f := .free "range") rfl)
  b_str := He.free_ok X G (c.t.d.fact 64 (f := .free "str") rfl)
  b_tuple := He.free_ok X G (c.t.d.fact 65 (f := .free "tuple") rfl)
  b_zip := He.free_ok X G (c.t.d.fact 66 (f := .free "zip") rfl)
  t_FORMS := ⟨_, He.glo_ok X G (c.t.d.fact 48 (f := .glo "FORMS") rfl), tab_of (by have e := congrArg (fun z : He.AlT => z.2[0]?) c.t; exact Option.some.inj e), (by obtain ⟨t, h1, h2⟩ := tupIn_ok (Bool.and_eq_true_iff.mp (Bool.and_eq_true_iff.mp (Bool.and_eq_true_iff.mp c.more).1).1).1; exact ⟨t, _, He.glo_ok X G (c.t.d.fact 36 (f := .glo "tells_two_closed") rfl), h1, h2⟩), (by obtain ⟨t, h1, h2⟩ := tupIn_ok (Bool.and_eq_true_iff.mp (Bool.and_eq_true_iff.mp (Bool.and_eq_true_iff.mp c.more).1).1).2; exact ⟨t, _, He.glo_ok X G (c.t.d.fact 36 (f := .glo "tells_two_closed") rfl), h1, h2⟩)⟩
  t_OF_ONE := ⟨_, He.glo_ok X G (c.t.d.fact 49 (f := .glo "OF_ONE") rfl), tab_of (by have e := congrArg (fun z : He.AlT => z.2[1]?) c.t; exact Option.some.inj e)⟩
  t_OF_TWO := ⟨_, He.glo_ok X G (c.t.d.fact 50 (f := .glo "OF_TWO") rfl), tab_of (by have e := congrArg (fun z : He.AlT => z.2[2]?) c.t; exact Option.some.inj e), ⟨_, He.glo_ok X G (c.t.d.fact 40 (f := .glo "shows_like_counts") rfl), He.eqO_ok (Bool.and_eq_true_iff.mp (Bool.and_eq_true_iff.mp c.more).1).2⟩, ⟨_, He.glo_ok X G (c.t.d.fact 42 (f := .glo "shows_unlike_counts") rfl), He.eqO_ok (Bool.and_eq_true_iff.mp c.more).2⟩⟩
  g_LETTERS := He.str_ok X G (c.t.d.fact 67 (f := .str "LETTERS" "ABC") rfl)
  g_MOST_LAYERS := He.int_ok X G (c.t.d.fact 68 (f := .int "MOST_LAYERS" 24) rfl)
end Hd

/-- nothing is kept yet -/
theorem so_start {K : PySem.W.Frag} {H : L2.Hp} : Pv.StOk K [] [] H [] := ⟨rfl, List.nodup_nil, (fun _ h => by cases h), (fun _ h => by cases h), (fun _ _ _ h => by cases h)⟩
open PySem PySem.W PySem.Calls PyProof.Rows
theorem law_holds (says : ∀ ns : List Int, ns.length ≤ 63 → ∃ S', Lw.f_law [.scr ns] [] = .ok (.bl true) S') : PySem.Challenge.rw_layerballs_k93_whole_count_claims.Holds := by
  w_on; o_law
  refine HandSHeadRun.head_imp (r := OpenLaw.row PySem.Challenge.rw_layerballs_k93_whole_count_claims) (q := view (OpenLaw.row PySem.Challenge.rw_layerballs_k93_whole_count_claims).prog [0, 124]) (H := Hd.hk) (ob := Hd.ob) (M := 8000) (loose := Hd.loose) (d := HandSHeadRun.topDef (OpenLaw.row PySem.Challenge.rw_layerballs_k93_whole_count_claims).prog 124) (kwd := []) Hd.ob_eq
    Hd.run (by kernel_rfl) (by kernel_rfl) (by kernel_rfl) (by rfl) (by first | assumption | decide +kernel) (by decide +kernel) ⟨rfl, rfl, rfl, rfl, rfl, by decide +kernel⟩ ?hw ?hc
  case hw => w_witness2
  case hc =>
    refine L2.walk_ofE (l := PySem.Challenge.rw_layerballs_k93_whole_count_claims) (n := 63) (k := 11) (x := "script") (CX := L2.CX0) rfl (by decide) (by kernel_rfl) ⟨rfl, by decide, by decide⟩ ?F (fun _ _ _ _ z => z)
    intro w mg fa h Y G hmg0
    obtain ⟨K, KX, c⟩ := Y
    have hmg : mg ("law" : PySem.Str) = some (.ref fa) := by
      have e : (HandSHeadRun.topDef (OpenLaw.row PySem.Challenge.rw_layerballs_k93_whole_count_claims).prog 124).name = ("law" : PySem.Str) := by kernel_rfl
      rw [← e]
      exact hmg0
    have Z : ∀ base : Heap, Lw.Fx (PySem.Challenge.rw_layerballs_k93_whole_count_claims).prog w K mg base := fun base => Hd.fx (w2 := w) KX G c
    obtain ⟨f, fd, e1, D⟩ := (Z h).d_law
    have ef : fa = f := by rw [hmg] at e1; cases e1; rfl
    subst ef
    refine ⟨K, fd, Pv.spOf K Lw.f_law, KX, fun s u => L2.FunD.bindsA (ps := ["script"]) D (fun _ _ _ _ _ _ us hl => match us, hl with | [_], _ => rfl) s [u] rfl, fun H a ns hl hO hS => ?_, fun base _ _ => ?_⟩
    · obtain ⟨S', e⟩ := says ns hl
      refine ⟨[], [], [], [.scr ns], so_start, .cons (.p (.scr (hS.imp (fun z => ⟨z, fun q => by cases q⟩) fun z => .inr z))) .nil, ?_⟩
      rw [e]
      intro v m' g' H' nx so r
      exact r.bl_inv
    · exact Lw.run_law (Z base) D


theorem PySem.Challenge.cw_layerballs_k93_whole_count_claims_holds : PySem.Challenge.rw_layerballs_k93_whole_count_claims.Holds :=
  law_holds Lw.says
